
import Derived.Test.YtlnenmklgkgaeaaFwC
import Derived.Test.YtlnenmklgkgaeaaFwB
set_option linter.unusedVariables false
set_option linter.unusedSimpArgs false
set_option linter.unusedSectionVars false
set_option linter.unnecessarySimpa false
section
namespace Go.Fw
variable [iT]
theorem qU {w:World}{E E':Env}(hf:∀c o,E.fix c o->E'.fix c o){a:AV}{v:Value}(h:Rep w E a v):(∀b∈a.refs,E'.own b=E.own b)->Rep w E' a v:=by
 induction h with
 |p h=>intro _;exact .p h|str s l h=>intro _;exact .str s l h|nan n hn=>intro _;exact .nan n hn|agg cs vs hl hs _ ih=>intro hr;exact .agg cs vs hl hs (fun i c v hc hv=>ih i c v hc hv (fun b hb=>hr b (gY i c hc hb)))|gW cs vs hl _ ih=>intro hr;exact .gW cs vs hl (fun i c v hc hv=>ih i c v hc hv (fun b hb=>hr b (gY i c hc hb)))|slnil full a=>intro _;exact .slnil full a|sl rows full sz c o cap g hcap hfull hsz hfix hcell iQ _ ih=>
  intro hr;exact .sl rows full sz c o cap g hcap hfull hsz (fun i row j x h1 h2=>hf _ _ (hfix i row j x h1 h2)) hcell iQ (fun i row j x h1 h2=>ih i row j x h1 h2 (fun b hb=>hr b (rH i row h1 (gY j x h2 hb))))
 |vp row off c o g hfix hcell iQ _ ih=>
  intro hr;exact .vp row off c o g (fun j x h=>hf _ _ (hfix j x h)) hcell iQ (fun j x h=>ih j x h (fun b hb=>hr b (gY j x h hb)))
 |kM b sz off a hb=>intro hr;exact .kM b sz off a (by rw [hr b (by simp [AV.refs])];exact hb)|os b sz off len c o cap hb hcap hsize=>intro hr;exact .os b sz off len c o cap (by rw [hr b (by simp [AV.refs])];exact hb) hcap hsize|op b sz row off c o hb=>intro hr;exact .op b sz row off c o (by rw [hr b (by simp [AV.refs])];exact hb)|fn f first captured vs us hl hl' _ _ ih ih'=>
  intro hr;exact .fn f first captured vs us hl hl' (fun i c v hc hv=>ih i c v hc hv (fun b hb=>hr b (by simp only [AV.refs,List.mem_append];exact .inl (gY i c hc hb))))
   (fun i c v hc hv=>ih' i c v hc hv (fun b hb=>hr b (by simp only [AV.refs,List.mem_append];exact .inr (gY i c hc hb))))
 |kY t a v _ ih=>intro hr;exact .kY t a v (ih hr)|mp b c hb=>intro hr;exact .mp b c (by rw [hr b (by simp [AV.refs])];exact hb)
def SB.zx : SB->List Nat
 | .rows _ rs=>BX rs| .fZ _ _=>[]| .xC _ _=>[]| .map es=>zy (es.map (·.1))++zy (es.map (·.2))| .it m _ _=>[m]| .iD _ _ rs=>BX rs| .mQ _ _ _ _ x=>x.zx
def qO.uh : qO->List Nat
 | .rows _ rs=>jo rs| .map es=>jf (es.map (·.1))++jf (es.map (·.2))| .it m _ _=>[m]| .iD _ _ rs=>jo rs
theorem nN.env {base:Nat}{w:World}{E E':Env}{b:Nat}{k:qO}(h:nN base w E b k)(hf:∀c o,E.fix c o->E'.fix c o)(hn:∀c o off,E.own b=.at c o->E'.fix c off->E.fix c off)(hb:E'.own b=E.own b)
  (hr:∀x∈k.uh,E'.own x=E.own x):nN base w E' b k:=by
 cases k with
 |rows sz rs=>
  rcases h with ⟨q1,q2⟩|⟨c,o,arr,ty,q1,q2,q3,q4,q5,q6,q7,q8⟩
  .exact .inl ⟨by rw [hb];exact q1,q2⟩
  .refine .inr ⟨c,o,arr,ty,by rw [hb];exact q1,q2,fun off h0=>q3 off (hn c o off q1 h0),q4,q5,q6,q7,fun i row j x hi hj=>?_⟩;obtain ⟨v,hv,hx⟩:=q8 i row j x hi hj;exact ⟨v,hv,qU hf hx fun y hy=>hr y (rH i row hi (gY j x hj hy))⟩
 |map es=>
  obtain ⟨c,jX,clock,q1,q2,q3,q4,q5,q6,q7⟩:=h;refine ⟨c,jX,clock,by rw [hb];exact q1,q2,fun off h0=>q3 off (hn c 0 off q1 h0),q4,q5,fun i e ce hi hc=>?_,q7⟩;obtain ⟨r1,r2,r3⟩:=q6 i e ce hi hc;refine ⟨qU hf r1 fun y hy=>hr y ?_,qU hf r2 fun y hy=>hr y ?_,r3⟩
  .exact List.mem_append.2 (.inl (gY i e.1 (by simp [hi]) hy))
  .exact List.mem_append.2 (.inr (gY i e.2 (by simp [hi]) hy))
 |it m n k=>
  obtain ⟨c,cm,q1,q2,q3,q4,q5⟩:=h;exact ⟨c,cm,by rw [hb];exact q1,q2,fun off h0=>q3 off (hn c 0 off q1 h0),q4,by rw [hr m (by simp [qO.uh])];exact q5⟩
 |iD ty sz rs=>
  rcases h with ⟨q1,q2⟩|⟨c,o,arr,q1,q2,q3,q4,⟨q5,q6,q7,q8⟩,q9⟩
  .exact .inl ⟨by rw [hb];exact q1,q2⟩
  .refine .inr ⟨c,o,arr,by rw [hb];exact q1,q2,fun off h0=>q3 off (hn c o off q1 h0),q4,⟨q5,q6,q7,fun i row j x hi hj=>?_⟩,q9⟩;obtain ⟨v,hv,hx⟩:=q8 i row j x hi hj;exact ⟨v,hv,qU hf hx fun y hy=>hr y (rH i row hi (gY j x hj hy))⟩
def Env.part (E:Env)(kP:AH):Env:=⟨E.fix,fun b=>if (kP b).isSome then E.own b else .free⟩
section
variable {base : Nat} {w:World} {E:Env} {nZ kP:AH} {F:Nat->Prop} {nx:Nat}
theorem Oy (hh:dM base w E nZ F)(hsub:∀b k,kP b=some k->nZ b=some k)(hlt:∀b k,kP b=some k->b<nx)(hrefs:∀b k,kP b=some k->∀x∈k.uh,(kP x).isSome=true) :
  dM base w (E.part kP) kP (fun b=>nx<=b):=by
 have own:∀b,(kP b).isSome=true->(E.part kP).own b=E.own b:=fun b hb=>by simp [Env.part,hb]
 refine ⟨fun b k hb=>?_,fun b b' k k' c o c' o' hne h1 h2 h3 h4=>?_,fun b hb=>?_,hh.iY,hh.bs,fun b c o h=>?_⟩
 .exact (hh.blk b k (hsub b k hb)).env (fun _ _ h=>h) (fun _ _ _ _ h=>h) (own b (by simp [hb])) fun x hx=>own x (hrefs b k hb x hx)
 .rw [own b (by simp [h1])] at h3;rw [own b' (by simp [h2])] at h4;exact hh.sep b b' k k' c o c' o' hne (hsub _ _ h1) (hsub _ _ h2) h3 h4
 .have:¬(kP b).isSome=true:=fun h=>by
   obtain ⟨k,hk⟩:=Option.isSome_iff_exists.1 h;have:=hlt b k hk;omega
  simp [Env.part,this]
 .by_cases hb:(kP b).isSome=true
  .rw [own b hb] at h;exact hh.je b c o h
  .simp [Env.part,hb] at h
theorem Tt {a:AV}{v:Value}(h:Rep w E a v)(hr:∀x∈a.refs,(kP x).isSome=true):Rep w (E.part kP) a v:=
 qU (E:=E) (E':=E.part kP) (fun _ _ h=>h) h fun b hb=>by simp [Env.part,hr b hb]
def Env.back (E E1:Env)(kP:AH)(nx nx':Nat):Env:=⟨E1.fix,fun b=>if (kP b).isSome=true\/(nx<=b/\b<nx') then E1.own b else E.own b⟩
theorem agY (hh:dM base w E nZ F)(hsub:∀b k,kP b=some k->nZ b=some k)(hlt:∀b k,kP b=some k->b<nx){nx':Nat}(hnx:nx<=nx')(hF:∀b,nx<=b->b<nx'->F b)
  {w':World} {E1:Env} {dV:AH} (hst:Step base w (E.part kP) w' E1) (hh':dM base w' E1 dV (fun b=>nx'<=b))
  (hlt':∀b k,dV b=some k->b<nx'/\((nx<=b/\b<nx')\/(kP b).isSome=true)/\∀x∈k.uh,(nx<=x/\x<nx')\/(kP x).isSome=true) {nR:AH} (hN:∀b,nR b=if nx'<=b then nZ b else dV b) :
  Step base w E w' (E.back E1 kP nx nx')/\dM base w' (E.back E1 kP nx nx') nR (fun b=>F b/\¬(nx<=b/\b<nx'))/\
   ∀a v,Rep w' E1 a v->(∀x∈a.refs,(nx<=x/\x<nx')\/(kP x).isSome=true)->Rep w' (E.back E1 kP nx nx') a v:=by
 have ac0:∀b,(kP b).isSome=true->(E.part kP).own b=E.own b:=fun b hb=>by simp [Env.part,hb]
 have L9:∀b c o,(E.part kP).own b=.at c o->(kP b).isSome=true/\E.own b=.at c o:=fun b c o h=>by
  by_cases hb:(kP b).isSome=true
  .rw [ac0 b hb] at h;exact ⟨hb,h⟩
  .simp [Env.part,hb] at h
 have in1:∀b,((nx<=b/\b<nx')\/(kP b).isSome=true)->(E.back E1 kP nx nx').own b=E1.own b:=fun b hb=>by
  simp only [Env.back];rw [if_pos (hb.symm)]
 have out1:∀b,¬((nx<=b/\b<nx')\/(kP b).isSome=true)->(E.back E1 kP nx nx').own b=E.own b:=fun b hb=>by
  simp only [Env.back];rw [if_neg (fun h=>hb h.symm)]
 have hfree:∀b,nx<=b->b<nx'->E.own b=.free:=fun b h1 h2=>hh.fresh b (hF b h1 h2)
 
 have extra:∀b k c o,nx'<=b->nZ b=some k->E.own b=.at c o->∀b' o',(E.part kP).own b'≠.at c o':=fun b k c o hb hk ho b' o' h=>by
  obtain ⟨h1,h2⟩:=L9 b' c o' h;obtain ⟨k',hk'⟩:=Option.isSome_iff_exists.1 h1;have hb':=hlt b' k' hk';exact hh.sep b' b k' k c o' c o (by omega) (hsub _ _ hk') hk h2 ho rfl
 have hx:Ext w E w' (E.back E1 kP nx nx'):=by
  refine ⟨hst.ext.fix,hst.ext.cell,fun b hb=>?_,hst.ext.arr⟩;by_cases hin:(nx<=b/\b<nx')\/(kP b).isSome=true
  .rw [in1 b hin];rcases hin with ⟨h1,h2⟩|h1
   .exact absurd (hfree b h1 h2) hb
   .have:=hst.ext.own b (by rw [ac0 b h1];exact hb);rw [this,ac0 b h1]
  .exact out1 b hin
 refine ⟨⟨hx,hst.below,hst.wZ,fun c hc hno=>hst.keep c hc fun b o h=>hno b o (L9 b c o h).2,fun b c o h hc=>?_,fun c o h hc=>?_⟩,⟨fun b k hb=>?_,fun b b' k k' c o c' o' hne h1 h2 h3 h4=>?_,fun b hb=>?_,hh'.iY,hh'.bs,fun b c o h=>?_⟩,fun a v hr hrf=>?_⟩
 .by_cases hin:(nx<=b/\b<nx')\/(kP b).isSome=true
  .rw [in1 b hin] at h;obtain ⟨b',o',h'⟩:=hst.CX b c o h hc;exact ⟨b',o',(L9 b' c o' h').2⟩
  .rw [out1 b hin] at h;exact ⟨b,o,h⟩
 .exact (hst.w_ c o h hc).imp id fun ⟨b',o',h'⟩=>⟨b',o',(L9 b' c o' h').2⟩
 .rw [hN b] at hb;split at hb
  .rename_i hle;have hb0:=hh.blk b k hb;refine hb0.keep hx (fun c o ho=>hst.keep c (hb0.lt ho).1 (extra b k c o hle hb ho)) (fun c o off ho h=>?_);rcases hst.w_ c off h (hb0.lt ho).1 with h|⟨b',o',h⟩
   .exact h
   .exact absurd h (extra b k c o hle hb ho b' o')
  .obtain ⟨g1,g2,g3⟩:=hlt' b k hb;exact (hh'.blk b k hb).env (fun _ _ h=>h) (fun _ _ _ _ h=>h) (in1 b g2) fun x hx=>in1 x (g3 x hx)
 .have mix:∀b b' k k' c o c' o',nx'<=b->nZ b=some k->E.own b=.at c o->b' < nx'->dV b'=some k'->E1.own b'=.at c' o'->c≠c':=by
   intro b b' k k' c o c' o' h1 h2 h3 h4 h5 h6 e;subst e;obtain ⟨x,y,hxy⟩:=hst.CX b' c o' h6 ((hh.blk b k h2).lt h3).1;exact extra b k c o h1 h2 h3 x y hxy
  rw [hN b] at h1;rw [hN b'] at h2;have bo:∀b k,nx'<=b->nZ b=some k->(E.back E1 kP nx nx').own b=E.own b:=fun b k hle hk=>out1 b fun h=>by
   rcases h with h|h
   .omega
   .obtain ⟨k0,hk0⟩:=Option.isSome_iff_exists.1 h;have:=hlt b k0 hk0;omega
  split at h1
  .rename_i g1;rw [bo b k g1 h1] at h3;split at h2
   .rename_i g2;rw [bo b' k' g2 h2] at h4;exact hh.sep b b' k k' c o c' o' hne h1 h2 h3 h4
   .rename_i g2;rw [in1 b' (hlt' b' k' h2).2.1] at h4;exact mix b b' k k' c o c' o' g1 h1 h3 (by omega) h2 h4
  .rename_i g1;rw [in1 b (hlt' b k h1).2.1] at h3;split at h2
   .rename_i g2;rw [bo b' k' g2 h2] at h4;exact (mix b' b k' k c' o' c o g2 h2 h4 (by omega) h1 h3).symm
   .rename_i g2;rw [in1 b' (hlt' b' k' h2).2.1] at h4;exact hh'.sep b b' k k' c o c' o' hne h1 h2 h3 h4
 .have h0:=hh.fresh b hb.1;rw [out1 b fun h=>?_]
  .exact h0
  .rcases h with h|h
   .exact hb.2 h
   .obtain ⟨k0,hk0⟩:=Option.isSome_iff_exists.1 h;exact (hh.blk b k0 (hsub _ _ hk0)).own h0
 .by_cases hin:(nx<=b/\b<nx')\/(kP b).isSome=true
  .rw [in1 b hin] at h;exact hh'.je b c o h
  .rw [out1 b hin] at h;have:=hh.je b c o h;exact ⟨this.1,bZ this.2 hst.below.size⟩
 .exact qU (E:=E1) (E':=E.back E1 kP nx nx') (fun _ _ h=>h) hr fun x hx=>in1 x (hrf x hx)
end
def Tr.all {α:Type}:Tr α->(Nat->α->Bool)->Bool
 | .e,_=>true| .n l x r,f=>(match x with|none=>true|some a=>f 0 a)&&(Tr.all l (fun j=>f (2*j+1))&&Tr.all r (fun j=>f (2*j+2)))
theorem Tr.I9 {α:Type}:∀{t:Tr α} {f:Nat->α->Bool},t.all f=true->∀{k:Nat} {a:α},t.get k=some a->f k a=true
 | .e,f,_,k,a,h=>by simp [Tr.get] at h
 | .n l x r,f,hf,k,a,h=>by
  simp only [Tr.all,ak] at hf;simp only [Tr.get] at h;cases h1:Nat.beq k 0
  .simp only [h1,cond_false] at h;have hk:k≠0:=(by intro e;subst e;simp at h1);cases h2:Nat.beq (k % 2) 1
   .simp only [h2,cond_false] at h;have:=Tr.I9 hf.2.2 h;have a1:k % 2≠1:=(by intro e;rw [e] at h2;simp at h2);have e:2*((k-1) / 2)+2=k:=by omega
    rwa [e] at this
   .simp only [h2,cond_true] at h;have:=Tr.I9 hf.2.1 h;have a1:=au h2;have e:2*((k-1) / 2)+1=k:=by omega
    rwa [e] at this
  .simp only [h1,cond_true] at h;have:=au h1;subst this;subst h;exact hf.1
def gq (ρ:List AV)(th:Tr SB):AH:=fun b=>(th.get b).map (SB.den ρ)
theorem xO {ρ:List AV}{th:Tr SB}{b:Nat}{k:qO}(h:gq ρ th b=some k):∃z,th.get b=some z/\z.den ρ=k:=by
 unfold gq at h;simpa only [ay] using h
def azc (th:Tr SB)(b:Nat):Bool:=match th.get b with|some _=>true|none=>false
def btw (nx nx' b:Nat):Bool:=Nat.ble nx b&&Nat.ble (b+1) nx'
theorem amx {nx nx' b:Nat}(h:btw nx nx' b=true):nx<=b/\b<nx':=by
 simp only [btw,ak] at h;exact ⟨aC h.1,aC h.2⟩
def Yq (th:Tr SB)(nx:Nat)(args:List SV):Bool:=th.all (fun b k=>Nat.ble (b+1) nx&&k.zx.all (azc th))&&(zy args).all (azc th)
def Yr (th:Tr SB)(nx nx':Nat)(th':Tr SB)(v:SV):Bool:=
 Nat.ble nx nx'&&(th'.all (fun b k=>Nat.ble (b+1) nx'&&((btw nx nx' b||azc th b)&&k.zx.all (fun x=>btw nx nx' x||azc th x)))&&v.zx.all (fun x=>btw nx nx' x||azc th x))
theorem A8 : ∀{l:List AV},(∀x∈l,x.clean=true)->iO l=true
 |[],_=>rfl|x::r,h=>by simp only [iO,ak];exact ⟨h x (by simp),A8 fun y hy=>h y (by simp [hy])⟩
theorem EU {l:List AV}(h:iO l=true){x:AV}(hx:x∈l):x.clean=true:=by
 obtain ⟨i,hi⟩:=List.getElem?_of_mem hx;exact jS h i x hi
theorem aak {a:Bool}{l:List AV}(h:iO l=true):(lQ a l).clean=true:=by
 cases a with
 |true=>exact h|false=>cases l with
  |nil=>rfl|cons x r=>exact EU (x:=x) h (by simp)
theorem PU {a:Bool}{f:List AV->List AV}(hf:∀row,∀x∈f row,x∈row){l:List (List AV)}(h:fJ l=true):iO (l.map fun row=>lQ a (f row))=true:=by
 refine A8 fun x hx=>?_;obtain ⟨row,hr,rfl⟩:=aU.1 hx;obtain ⟨i,hi⟩:=List.getElem?_of_mem hr;have hrow:=uU h i row hi;exact aak (A8 fun y hy=>EU hrow (hf row y hy))
theorem DK {ρ:List AV}(hρ:fU ρ=true){k:SB}:(k.den ρ).uh=k.zx:=by
 cases k with
 |rows sz rs=>simp only [SB.den,qO.uh,SB.zx,xK hρ]|fZ sz t=>simp only [SB.den,qO.uh,SB.zx,kZ (gQ (Tm.kH hρ t))]|xC m t=>
  have hc:=gQ (Tm.kH hρ t);simp only [SB.den,qO.uh,SB.zx,List.map_map];rw [show ((fun x:AV×AV=>x.1)∘pV m)=fun row=>lQ m.ka (row.take m.kn) from rfl,show ((fun x:AV×AV=>x.2)∘pV m)=fun row=>lQ m.va (row.drop m.kn) from rfl];rw [iM (PU (f:=fun row=>row.take m.kn) (fun row x hx=>bJ hx) hc),iM (PU (f:=fun row=>row.drop m.kn) (fun row x hx=>List.mem_of_mem_drop hx) hc)];rfl
 |map es=>
  simp only [SB.den,qO.uh,SB.zx,List.map_map];have e1:(es.map ((fun x=>x.1)∘fun e=>(SV.den ρ e.1,SV.den ρ e.2)))=dK ρ (es.map (·.1)):=by simp [agl,Function.comp_def]
  have e2:(es.map ((fun x=>x.2)∘fun e=>(SV.den ρ e.1,SV.den ρ e.2)))=dK ρ (es.map (·.2)):=by simp [agl,Function.comp_def]
  rw [e1,e2,oz hρ,oz hρ]
 |it m n k=>rfl|iD ty sz rs=>simp only [SB.den,qO.uh,SB.zx,xK hρ]|mQ sz t i off x=>simp only [SB.den,qO.uh,SB.zx,SN (gQ (Tm.kH hρ t)),qm hρ]
section
variable {ρ : List AV} (hρ:fU ρ=true) {th th':Tr SB} {nx nx':Nat}
 include hρ
theorem L_ {b:Nat}(h:azc th b=true):(gq ρ th b).isSome=true:=by
 unfold azc at h;unfold gq;split at h
 .rename_i k hk;rw [hk];rfl
 .cases h
theorem ajn {b:Nat}(h:(btw nx nx' b||azc th b)=true):(nx<=b/\b<nx')\/(gq ρ th b).isSome=true:=by
 rw [aY] at h;exact h.imp amx (L_ hρ)
theorem ac1 {args:List SV}(h:Yq th nx args=true):(∀b k,gq ρ th b=some k->b<nx)/\(∀b k,gq ρ th b=some k->∀x∈k.uh,(gq ρ th x).isSome=true)/\∀x∈jf (dK ρ args),(gq ρ th x).isSome=true:=by
 unfold Yq at h;simp only [ak] at h;refine ⟨fun b k hk=>?_,fun b k hk x hx=>?_,fun x hx=>?_⟩
 .obtain ⟨z,hz,rfl⟩:=xO hk;have:=Tr.I9 h.1 hz;simp only [ak] at this;exact aC this.1
 .obtain ⟨z,hz,rfl⟩:=xO hk;have:=Tr.I9 h.1 hz;simp only [ak,aF] at this;rw [DK hρ] at hx;exact L_ hρ (this.2 x hx)
 .rw [oz hρ] at hx;exact L_ hρ (aF.1 h.2 x hx)
theorem ac2 {v:SV}(h:Yr th nx nx' th' v=true):nx<=nx'/\(∀b k,gq ρ th' b=some k->b<nx'/\((nx<=b/\b<nx')\/(gq ρ th b).isSome=true)/\∀x∈k.uh,(nx<=x/\x<nx')\/(gq ρ th x).isSome=true)/\
  ∀x∈(v.den ρ).refs,(nx<=x/\x<nx')\/(gq ρ th x).isSome=true:=by
 unfold Yr at h;simp only [ak] at h;refine ⟨aC h.1,fun b k hk=>?_,fun x hx=>?_⟩
 .obtain ⟨z,hz,rfl⟩:=xO hk;have:=Tr.I9 h.2.1 hz;simp only [ak,aF] at this;refine ⟨aC this.1,ajn hρ this.2.1,fun x hx=>?_⟩;rw [DK hρ] at hx;exact ajn hρ (this.2.2 x hx)
 .rw [qm hρ] at hx;exact ajn hρ (aF.1 h.2.2 x hx)
end
end Go.Fw
end
section
namespace Go.Fw
variable [iT]
inductive Lo where
 |mk (pc:Pc) (base m:Nat) (entry:List SV) (outs:List (Tm×Nat×List SV)) (sd:List (Pc×Side)) (aw:List Lo) (ms:List Nat) (bn:List Tm)
def ayH (base:Nat)(ms:List Nat)(k:Nat):Nat:=(bif Nat.ble ms.length 1 then base else base+1)+(ms.take k).sum
def BF (ρ:List AV):List (Tm×Nat×List SV)->Option (Nat×List SV)
 |[]=>none|[o]=>some o.2|o::o'::r=>bif (o.1.den ρ).B then some o.2 else BF ρ (o'::r)
def ac3 (S:List AV->Prop)(outs:List (Tm×Nat×List SV))(ρ0:List AV)(m:Nat):Nat->List AV->Nat->List AV->Prop
 |0,_,_,_=>False|n+1,vs,k,us=>∃cs,vs.length=m/\fU (ρ0++vs++cs)=true/\S (ρ0++vs++cs)/\
  match BF (ρ0++vs++cs) outs with
  |none=>False|some (0,l)=>ac3 S outs ρ0 m n (dK (ρ0++vs++cs) l) k us|some (j+1,l)=>k=j/\us=dK (ρ0++vs++cs) l
def ajo (ρ:List AV)(base:Nat)(ms:List Nat)(k:Nat)(us:List AV):Prop:=
 (1<ms.length->(ρ.getD base eX).D.I=(k:Int))/\∀(i:Nat) (u:AV),us[i]?=some u->ρ.getD (ayH base ms k+i) eX=u
 mutual
def Lo.holds (P:Program):Lo->List AV->Prop
  | .mk pc base m entry outs sd aw ms bn=>fun ρ=>Pc.holds ρ pc->(∀t∈bn,(t.den ρ).R.length<=4294967296)->base<=ρ.length/\∃n k us,ac3 (fun σ=>qR P σ sd/\QD P aw σ) outs (ρ.take base) m n (dK ρ entry) k us/\ajo ρ base ms k us
def QD (P:Program):List Lo->List AV->Prop
  |[]=>fun _=>True
  |x::r=>fun σ=>x.holds P σ/\QD P r σ
end
theorem vY {P:Program}{ρ:List AV}:∀{a b:List Lo},QD P (a++b) ρ↔QD P a ρ/\QD P b ρ
 |[],b=>by simp [QD]
 |x::a,b=>by simp only [bV,QD,vY (a:=a) (b:=b),and_assoc]
inductive Sd where
 |s (x:Side)
 |l (x:Lo)
def Sd.holds (P:Program)(ρ:List AV):Sd->Prop
 | .s x=>x.holds P ρ| .l x=>x.holds P ρ
def kQ (P:Program)(ρ:List AV)(l:List (Pc×Sd)):Prop:=∀x∈l,Pc.holds ρ x.1->x.2.holds P ρ
def Mc (pc:Pc)(l:List Side)(acc:List (Pc×Sd)):List (Pc×Sd):=l.map (fun s=>(pc,.s s))++acc
theorem vZ {P:Program}{ρ:List AV}{pc:Pc}{l:List Side}{acc:List (Pc×Sd)}(h:kQ P ρ (Mc pc l acc)):(pc.holds ρ->∀s∈l,s.holds P ρ)/\kQ P ρ acc:=
 ⟨fun hp s hs=>h (pc,.s s) (by simp [Mc,hs]) hp,fun x hx=>h x (by simp [Mc,hx])⟩
def toX (l:List (Pc×Side)):List (Pc×Sd):=l.map fun x=>(x.1,.s x.2)
theorem apJ {P:Program}{ρ:List AV}{l:List (Pc×Side)}(h:qR P ρ l):kQ P ρ (toX l):=fun x hx hp=>by
 obtain ⟨y,hy,rfl⟩:=aU.1 hx;exact h y hy hp
def exS : List (Pc×Sd)->List (Pc×Side)
 |[]=>[]|(p,.s x)::r=>(p,x)::exS r|(_,.l _)::r=>exS r
def exL : List (Pc×Sd)->List Lo
 |[]=>[]|(_,.s _)::r=>exL r|(_,.l x)::r=>x::exL r
theorem WC {P:Program}{ρ:List AV}:∀{l:List (Pc×Sd)},qR P ρ (exS l)->QD P (exL l) ρ->kQ P ρ l
 |[],_,_,x,hx=>by cases hx
 |(p,.s y)::r,h,k,x,hx=>by
  cases hx with
  |head=>exact fun hp=>h (p,y) (by simp [exS]) hp
  |tail _ hx=>exact WC (l:=r) (fun z hz=>h z (by simp [exS,hz])) k x hx
 |(p,.l y)::r,h,k,x,hx=>by
  cases hx with
  |head=>exact fun _=>k.1
  |tail _ hx=>exact WC (l:=r) h k.2 x hx
def noL (l:List (Pc×Sd)):Bool:=l.all fun x=>match x.2 with | .s _=>true | .l _=>false
theorem aeW : ∀{l:List (Pc×Sd)},noL l=true->toX (exS l)=l
 |[],_=>rfl|(p,.s y)::r,h=>by
  simp only [noL,List.all_cons,Bool.true_and] at h;simp only [exS,toX,aX];rw [show List.map (fun x:Pc×Side=>(x.1,Sd.s x.2)) (exS r)=r from aeW (l:=r) h]
 |(p,.l y)::r,h=>by simp [noL] at h
def Lo.at : Lo->Nat
 | .mk _ base _ _ _ _ _ _ _=>base
def aeX (x:Lo):List Lo->List Lo
 |[]=>[x]|y::r=>bif Nat.ble x.at y.at then x::y::r else y::aeX x r
def Tv : List Lo->List Lo
 |[]=>[]|x::r=>aeX x (Tv r)
theorem aal {P:Program}{ρ:List AV}{x:Lo}:∀{l:List Lo},QD P (aeX x l) ρ->x.holds P ρ/\QD P l ρ
 |[],h=>h|y::r,h=>by
  unfold aeX at h;cases hc:Nat.ble x.at y.at
  .rw [hc] at h;obtain ⟨h1,h2⟩:=h;obtain ⟨h3,h4⟩:=aal h2;exact ⟨h3,h1,h4⟩
  .rw [hc] at h;exact h
theorem aoc {P:Program}{ρ:List AV}:∀{l:List Lo},QD P (Tv l) ρ->QD P l ρ
 |[],h=>h|x::r,h=>by
  obtain ⟨h1,h2⟩:=aal (l:=Tv r) h;exact ⟨h1,aoc h2⟩
end Go.Fw
end
