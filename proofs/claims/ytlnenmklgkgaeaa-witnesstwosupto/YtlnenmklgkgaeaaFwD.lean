/- Machinery of this seat's proofs (Fm, L0): lemmas that the last text uses; no statement of its own. -/
import Derived.Test.YtlnenmklgkgaeaaFwC
import Derived.Test.YtlnenmklgkgaeaaFwB
section
set_option linter.unusedVariables false
set_option linter.unusedSimpArgs false
set_option linter.unusedSectionVars false
namespace Go.Fw
variable [Glob]
set_option linter.unusedSimpArgs false
set_option linter.unusedVariables false
set_option linter.unusedSectionVars false
theorem rep_own {w:World}{E E':Env}(hf:∀c o,E.fix c o→E'.fix c o){a:AV}{v:Value}(h:Rep w E a v):(∀b∈a.refs,E'.own b=E.own b)→Rep w E' a v:=by
 induction h with
 |p h=>intro _;exact .p h
 |str s l h=>intro _;exact .str s l h
 |nan n hn=>intro _;exact .nan n hn
 |agg cs vs hl hs _ ih=>intro hr;exact .agg cs vs hl hs (fun i c v hc hv=>ih i c v hc hv (fun b hb=>hr b (refsL_get i c hc hb)))
 |tup cs vs hl _ ih=>intro hr;exact .tup cs vs hl (fun i c v hc hv=>ih i c v hc hv (fun b hb=>hr b (refsL_get i c hc hb)))
 |slnil full a=>intro _;exact .slnil full a
 |sl rows full sz c o cap g hcap hfull hsz hfix hcell hscal _ ih=>
  intro hr
  exact .sl rows full sz c o cap g hcap hfull hsz (fun i row j x h1 h2=>hf _ _ (hfix i row j x h1 h2)) hcell hscal (fun i row j x h1 h2=>ih i row j x h1 h2 (fun b hb=>hr b (refsLL_get i row h1 (refsL_get j x h2 hb))))
 |vp row off c o g hfix hcell hscal _ ih=>
  intro hr
  exact .vp row off c o g (fun j x h=>hf _ _ (hfix j x h)) hcell hscal (fun j x h=>ih j x h (fun b hb=>hr b (refsL_get j x h hb)))
 |osnil b sz off a hb=>intro hr;exact .osnil b sz off a (by rw [hr b (by simp [AV.refs])];exact hb)
 |os b sz off len c o cap hb hcap hsize=>intro hr;exact .os b sz off len c o cap (by rw [hr b (by simp [AV.refs])];exact hb) hcap hsize
 |op b sz row off c o hb=>intro hr;exact .op b sz row off c o (by rw [hr b (by simp [AV.refs])];exact hb)
 |fn f first captured vs us hl hl' _ _ ih ih'=>
  intro hr
  exact .fn f first captured vs us hl hl' (fun i c v hc hv=>ih i c v hc hv (fun b hb=>hr b (by simp only [AV.refs,List.mem_append];exact .inl (refsL_get i c hc hb))))
   (fun i c v hc hv=>ih' i c v hc hv (fun b hb=>hr b (by simp only [AV.refs,List.mem_append];exact .inr (refsL_get i c hc hb))))
 |ifc t a v _ ih=>intro hr;exact .ifc t a v (ih hr)
 |mp b c hb=>intro hr;exact .mp b c (by rw [hr b (by simp [AV.refs])];exact hb)
def SB.rfs : SB→List Nat
 | .rows _ rs=>rfsLL rs
 | .rowsT _ _=>[]
 | .mapT _ _=>[]
 | .map es=>rfsL (es.map (·.1))++rfsL (es.map (·.2))
 | .it m _ _=>[m]
 | .rowsE _ _ rs=>rfsLL rs
 | .rowsF _ _ _ _ x=>x.rfs
def Blk.refsB : Blk→List Nat
 | .rows _ rs=>refsLL rs
 | .map es=>refsL (es.map (·.1))++refsL (es.map (·.2))
 | .it m _ _=>[m]
 | .rowsE _ _ rs=>refsLL rs
theorem BlkOk.env {base:Nat}{w:World}{E E':Env}{b:Nat}{k:Blk}(h:BlkOk base w E b k)(hf:∀c o,E.fix c o→E'.fix c o)(hn:∀c o off,E.own b=.at c o→E'.fix c off→E.fix c off)(hb:E'.own b=E.own b)
  (hr:∀x∈k.refsB,E'.own x=E.own x):BlkOk base w E' b k:=by
 cases k with
 |rows sz rs=>
  rcases h with ⟨q1,q2⟩|⟨c,o,arr,ty,q1,q2,q3,q4,q5,q6,q7,q8⟩
  ·exact .inl ⟨by rw [hb];exact q1,q2⟩
  ·refine .inr ⟨c,o,arr,ty,by rw [hb];exact q1,q2,fun off h0=>q3 off (hn c o off q1 h0),q4,q5,q6,q7,fun i row j x hi hj=>?_⟩
   obtain ⟨v,hv,hx⟩:=q8 i row j x hi hj
   exact ⟨v,hv,rep_own hf hx fun y hy=>hr y (refsLL_get i row hi (refsL_get j x hj hy))⟩
 |map es=>
  obtain ⟨c,ces,clock,q1,q2,q3,q4,q5,q6,q7⟩:=h
  refine ⟨c,ces,clock,by rw [hb];exact q1,q2,fun off h0=>q3 off (hn c 0 off q1 h0),q4,q5,fun i e ce hi hc=>?_,q7⟩
  obtain ⟨r1,r2,r3⟩:=q6 i e ce hi hc
  refine ⟨rep_own hf r1 fun y hy=>hr y ?_,rep_own hf r2 fun y hy=>hr y ?_,r3⟩
  ·exact List.mem_append.2 (.inl (refsL_get i e.1 (by simp [hi]) hy))
  ·exact List.mem_append.2 (.inr (refsL_get i e.2 (by simp [hi]) hy))
 |it m n k=>
  obtain ⟨c,cm,q1,q2,q3,q4,q5⟩:=h
  exact ⟨c,cm,by rw [hb];exact q1,q2,fun off h0=>q3 off (hn c 0 off q1 h0),q4,by rw [hr m (by simp [Blk.refsB])];exact q5⟩
 |rowsE ty sz rs=>
  rcases h with ⟨q1,q2⟩|⟨c,o,arr,q1,q2,q3,q4,⟨q5,q6,q7,q8⟩,q9⟩
  ·exact .inl ⟨by rw [hb];exact q1,q2⟩
  ·refine .inr ⟨c,o,arr,by rw [hb];exact q1,q2,fun off h0=>q3 off (hn c o off q1 h0),q4,⟨q5,q6,q7,fun i row j x hi hj=>?_⟩,q9⟩
   obtain ⟨v,hv,hx⟩:=q8 i row j x hi hj
   exact ⟨v,hv,rep_own hf hx fun y hy=>hr y (refsLL_get i row hi (refsL_get j x hj hy))⟩
def Env.part (E:Env)(ah0:AH):Env:=⟨E.fix,fun b=>if (ah0 b).isSome then E.own b else .free⟩
section
variable {base : Nat} {w:World} {E:Env} {ahL ah0:AH} {F:Nat→Prop} {nx:Nat}
theorem part_heap (hh:HeapOk base w E ahL F)(hsub:∀b k,ah0 b=some k→ahL b=some k)(hlt:∀b k,ah0 b=some k→b<nx)(hrefs:∀b k,ah0 b=some k→∀x∈k.refsB,(ah0 x).isSome=true) :
  HeapOk base w (E.part ah0) ah0 (fun b=>nx≤b):=by
 have own:∀b,(ah0 b).isSome=true→(E.part ah0).own b=E.own b:=fun b hb=>by simp [Env.part,hb]
 refine ⟨fun b k hb=>?_,fun b b' k k' c o c' o' hne h1 h2 h3 h4=>?_,fun b hb=>?_,hh.fixlt,hh.bs,fun b c o h=>?_⟩
 ·exact (hh.blk b k (hsub b k hb)).env (fun _ _ h=>h) (fun _ _ _ _ h=>h) (own b (by simp [hb])) fun x hx=>own x (hrefs b k hb x hx)
 ·rw [own b (by simp [h1])] at h3
  rw [own b' (by simp [h2])] at h4
  exact hh.sep b b' k k' c o c' o' hne (hsub _ _ h1) (hsub _ _ h2) h3 h4
 ·have:¬(ah0 b).isSome=true:=fun h=>by
   obtain ⟨k,hk⟩:=Option.isSome_iff_exists.1 h
   have:=hlt b k hk;omega
  simp [Env.part,this]
 ·by_cases hb:(ah0 b).isSome=true
  ·rw [own b hb] at h;exact hh.ownlt b c o h
  ·simp [Env.part,hb] at h
theorem part_rep {a:AV}{v:Value}(h:Rep w E a v)(hr:∀x∈a.refs,(ah0 x).isSome=true):Rep w (E.part ah0) a v:=
 rep_own (E:=E) (E':=E.part ah0) (fun _ _ h=>h) h fun b hb=>by simp [Env.part,hr b hb]
def Env.back (E E1:Env)(ah0:AH)(nx nx':Nat):Env:=⟨E1.fix,fun b=>if (ah0 b).isSome=true∨(nx≤b∧b<nx') then E1.own b else E.own b⟩
theorem part_back (hh:HeapOk base w E ahL F)(hsub:∀b k,ah0 b=some k→ahL b=some k)(hlt:∀b k,ah0 b=some k→b<nx){nx':Nat}(hnx:nx≤nx')(hF:∀b,nx≤b→b<nx'→F b)
  {w':World} {E1:Env} {ah':AH} (hst:Step base w (E.part ah0) w' E1) (hh':HeapOk base w' E1 ah' (fun b=>nx'≤b))
  (hlt':∀b k,ah' b=some k→b<nx'∧((nx≤b∧b<nx')∨(ah0 b).isSome=true)∧∀x∈k.refsB,(nx≤x∧x<nx')∨(ah0 x).isSome=true) {ahN:AH} (hN:∀b,ahN b=if nx'≤b then ahL b else ah' b) :
  Step base w E w' (E.back E1 ah0 nx nx')∧HeapOk base w' (E.back E1 ah0 nx nx') ahN (fun b=>F b∧¬(nx≤b∧b<nx'))∧
   ∀a v,Rep w' E1 a v→(∀x∈a.refs,(nx≤x∧x<nx')∨(ah0 x).isSome=true)→Rep w' (E.back E1 ah0 nx nx') a v:=by
 have own0:∀b,(ah0 b).isSome=true→(E.part ah0).own b=E.own b:=fun b hb=>by simp [Env.part,hb]
 have own0':∀b c o,(E.part ah0).own b=.at c o→(ah0 b).isSome=true∧E.own b=.at c o:=fun b c o h=>by
  by_cases hb:(ah0 b).isSome=true
  ·rw [own0 b hb] at h;exact ⟨hb,h⟩
  ·simp [Env.part,hb] at h
 have in1:∀b,((nx≤b∧b<nx')∨(ah0 b).isSome=true)→(E.back E1 ah0 nx nx').own b=E1.own b:=fun b hb=>by
  simp only [Env.back];rw [if_pos (hb.symm)]
 have out1:∀b,¬((nx≤b∧b<nx')∨(ah0 b).isSome=true)→(E.back E1 ah0 nx nx').own b=E.own b:=fun b hb=>by
  simp only [Env.back];rw [if_neg (fun h=>hb h.symm)]
 have hfree:∀b,nx≤b→b<nx'→E.own b=.free:=fun b h1 h2=>hh.fresh b (hF b h1 h2)
 -- a block that the call knows nothing of
 have extra:∀b k c o,nx'≤b→ahL b=some k→E.own b=.at c o→∀b' o',(E.part ah0).own b'≠.at c o':=fun b k c o hb hk ho b' o' h=>by
  obtain ⟨h1,h2⟩:=own0' b' c o' h
  obtain ⟨k',hk'⟩:=Option.isSome_iff_exists.1 h1
  have hb':=hlt b' k' hk'
  exact hh.sep b' b k' k c o' c o (by omega) (hsub _ _ hk') hk h2 ho rfl
 have hx:Ext w E w' (E.back E1 ah0 nx nx'):=by
  refine ⟨hst.ext.fix,hst.ext.cell,fun b hb=>?_,hst.ext.arr⟩
  by_cases hin:(nx≤b∧b<nx')∨(ah0 b).isSome=true
  ·rw [in1 b hin]
   rcases hin with ⟨h1,h2⟩|h1
   ·exact absurd (hfree b h1 h2) hb
   ·have:=hst.ext.own b (by rw [own0 b h1];exact hb)
    rw [this,own0 b h1]
  ·exact out1 b hin
 refine ⟨⟨hx,hst.below,hst.fixold,fun c hc hno=>hst.keep c hc fun b o h=>hno b o (own0' b c o h).2,fun b c o h hc=>?_,fun c o h hc=>?_⟩,⟨fun b k hb=>?_,fun b b' k k' c o c' o' hne h1 h2 h3 h4=>?_,fun b hb=>?_,hh'.fixlt,hh'.bs,fun b c o h=>?_⟩,fun a v hr hrf=>?_⟩
 ·by_cases hin:(nx≤b∧b<nx')∨(ah0 b).isSome=true
  ·rw [in1 b hin] at h
   obtain ⟨b',o',h'⟩:=hst.ownnew b c o h hc
   exact ⟨b',o',(own0' b' c o' h').2⟩
  ·rw [out1 b hin] at h;exact ⟨b,o,h⟩
 ·exact (hst.fixnew c o h hc).imp id fun ⟨b',o',h'⟩=>⟨b',o',(own0' b' c o' h').2⟩
 ·rw [hN b] at hb
  split at hb
  ·rename_i hle
   have hb0:=hh.blk b k hb
   refine hb0.keep hx (fun c o ho=>hst.keep c (hb0.lt ho).1 (extra b k c o hle hb ho)) (fun c o off ho h=>?_)
   rcases hst.fixnew c off h (hb0.lt ho).1 with h|⟨b',o',h⟩
   ·exact h
   ·exact absurd h (extra b k c o hle hb ho b' o')
  ·obtain ⟨g1,g2,g3⟩:=hlt' b k hb
   exact (hh'.blk b k hb).env (fun _ _ h=>h) (fun _ _ _ _ h=>h) (in1 b g2) fun x hx=>in1 x (g3 x hx)
 ·have mix:∀b b' k k' c o c' o',nx'≤b→ahL b=some k→E.own b=.at c o→b' < nx'→ah' b'=some k'→E1.own b'=.at c' o'→c≠c':=by
   intro b b' k k' c o c' o' h1 h2 h3 h4 h5 h6 e
   subst e
   obtain ⟨x,y,hxy⟩:=hst.ownnew b' c o' h6 ((hh.blk b k h2).lt h3).1
   exact extra b k c o h1 h2 h3 x y hxy
  rw [hN b] at h1
  rw [hN b'] at h2
  have bo:∀b k,nx'≤b→ahL b=some k→(E.back E1 ah0 nx nx').own b=E.own b:=fun b k hle hk=>out1 b fun h=>by
   rcases h with h|h
   ·omega
   ·obtain ⟨k0,hk0⟩:=Option.isSome_iff_exists.1 h
    have:=hlt b k0 hk0;omega
  split at h1
  ·rename_i g1
   rw [bo b k g1 h1] at h3
   split at h2
   ·rename_i g2
    rw [bo b' k' g2 h2] at h4
    exact hh.sep b b' k k' c o c' o' hne h1 h2 h3 h4
   ·rename_i g2
    rw [in1 b' (hlt' b' k' h2).2.1] at h4
    exact mix b b' k k' c o c' o' g1 h1 h3 (by omega) h2 h4
  ·rename_i g1
   rw [in1 b (hlt' b k h1).2.1] at h3
   split at h2
   ·rename_i g2
    rw [bo b' k' g2 h2] at h4
    exact (mix b' b k' k c' o' c o g2 h2 h4 (by omega) h1 h3).symm
   ·rename_i g2
    rw [in1 b' (hlt' b' k' h2).2.1] at h4
    exact hh'.sep b b' k k' c o c' o' hne h1 h2 h3 h4
 ·have h0:=hh.fresh b hb.1
  rw [out1 b fun h=>?_]
  ·exact h0
  ·rcases h with h|h
   ·exact hb.2 h
   ·obtain ⟨k0,hk0⟩:=Option.isSome_iff_exists.1 h
    exact (hh.blk b k0 (hsub _ _ hk0)).own h0
 ·by_cases hin:(nx≤b∧b<nx')∨(ah0 b).isSome=true
  ·rw [in1 b hin] at h;exact hh'.ownlt b c o h
  ·rw [out1 b hin] at h
   have:=hh.ownlt b c o h
   exact ⟨this.1,Nat.lt_of_lt_of_le this.2 hst.below.size⟩
 ·exact rep_own (E:=E1) (E':=E.back E1 ah0 nx nx') (fun _ _ h=>h) hr fun x hx=>in1 x (hrf x hx)
end
def Tr.all {α:Type}:Tr α→(Nat→α→Bool)→Bool
 | .e,_=>true
 | .n l x r,f=>(match x with|none=>true|some a=>f 0 a)&&(Tr.all l (fun j=>f (2*j+1))&&Tr.all r (fun j=>f (2*j+2)))
theorem Tr.all_get {α:Type}:∀{t:Tr α} {f:Nat→α→Bool},t.all f=true→∀{k:Nat} {a:α},t.get k=some a→f k a=true
 | .e,f,_,k,a,h=>by simp [Tr.get] at h
 | .n l x r,f,hf,k,a,h=>by
  simp only [Tr.all,Bool.and_eq_true] at hf
  simp only [Tr.get] at h
  cases h1:Nat.beq k 0
  ·simp only [h1,cond_false] at h
   have hk:k≠0:=by intro e;subst e;simp at h1
   cases h2:Nat.beq (k % 2) 1
   ·simp only [h2,cond_false] at h
    have:=Tr.all_get hf.2.2 h
    have a1:k % 2≠1:=by intro e;rw [e] at h2;simp at h2
    have e:2*((k-1) / 2)+2=k:=by omega
    rwa [e] at this
   ·simp only [h2,cond_true] at h
    have:=Tr.all_get hf.2.1 h
    have a1:=Nat.eq_of_beq_eq_true h2
    have e:2*((k-1) / 2)+1=k:=by omega
    rwa [e] at this
  ·simp only [h1,cond_true] at h
   have:=Nat.eq_of_beq_eq_true h1
   subst this;subst h
   exact hf.1
def toAh (ρ:List AV)(th:Tr SB):AH:=fun b=>(th.get b).map (SB.den ρ)
theorem toAh_some {ρ:List AV}{th:Tr SB}{b:Nat}{k:Blk}(h:toAh ρ th b=some k):∃z,th.get b=some z∧z.den ρ=k:=by
 unfold toAh at h
 simpa only [Option.map_eq_some_iff] using h
def isIn (th:Tr SB)(b:Nat):Bool:=match th.get b with|some _=>true|none=>false
def btw (nx nx' b:Nat):Bool:=Nat.ble nx b&&Nat.ble (b+1) nx'
theorem btw_iff {nx nx' b:Nat}(h:btw nx nx' b=true):nx≤b∧b<nx':=by
 simp only [btw,Bool.and_eq_true] at h
 exact ⟨Nat.le_of_ble_eq_true h.1,Nat.le_of_ble_eq_true h.2⟩
def framed0 (th:Tr SB)(nx:Nat)(args:List SV):Bool:=th.all (fun b k=>Nat.ble (b+1) nx&&k.rfs.all (isIn th))&&(rfsL args).all (isIn th)
def framed1 (th:Tr SB)(nx nx':Nat)(th':Tr SB)(v:SV):Bool:=
 Nat.ble nx nx'&&(th'.all (fun b k=>Nat.ble (b+1) nx'&&((btw nx nx' b||isIn th b)&&k.rfs.all (fun x=>btw nx nx' x||isIn th x)))&&v.rfs.all (fun x=>btw nx nx' x||isIn th x))
theorem cleanL_all : ∀{l:List AV},(∀x∈l,x.clean=true)→cleanL l=true
 |[],_=>rfl
 |x::r,h=>by simp only [cleanL,Bool.and_eq_true];exact ⟨h x (by simp),cleanL_all fun y hy=>h y (by simp [hy])⟩
theorem cleanL_mem {l:List AV}(h:cleanL l=true){x:AV}(hx:x∈l):x.clean=true:=by
 obtain ⟨i,hi⟩:=List.getElem?_of_mem hx
 exact cleanL_get h i x hi
theorem packA_clean {a:Bool}{l:List AV}(h:cleanL l=true):(packA a l).clean=true:=by
 cases a with
 |true=>exact h
 |false=>cases l with
  |nil=>rfl
  |cons x r=>exact cleanL_mem (x:=x) h (by simp)
theorem packs_clean {a:Bool}{f:List AV→List AV}(hf:∀row,∀x∈f row,x∈row){l:List (List AV)}(h:cleanLL l=true):cleanL (l.map fun row=>packA a (f row))=true:=by
 refine cleanL_all fun x hx=>?_
 obtain ⟨row,hr,rfl⟩:=List.mem_map.1 hx
 obtain ⟨i,hi⟩:=List.getElem?_of_mem hr
 have hrow:=cleanLL_get h i row hi
 exact packA_clean (cleanL_all fun y hy=>cleanL_mem hrow (hf row y hy))
theorem rfsB_den {ρ:List AV}(hρ:fzL ρ=true){k:SB}:(k.den ρ).refsB=k.rfs:=by
 cases k with
 |rows sz rs=>simp only [SB.den,Blk.refsB,SB.rfs,rfsLL_den hρ]
 |rowsT sz t=>simp only [SB.den,Blk.refsB,SB.rfs,cleanLL_norefs (fzLL_clean (Tm.den_fz hρ t))]
 |mapT m t=>
  have hc:=fzLL_clean (Tm.den_fz hρ t)
  simp only [SB.den,Blk.refsB,SB.rfs,List.map_map]
  rw [show ((fun x:AV×AV=>x.1)∘entOf m)=fun row=>packA m.ka (row.take m.kn) from rfl,show ((fun x:AV×AV=>x.2)∘entOf m)=fun row=>packA m.va (row.drop m.kn) from rfl]
  rw [cleanL_norefs (packs_clean (f:=fun row=>row.take m.kn) (fun row x hx=>List.mem_of_mem_take hx) hc),cleanL_norefs (packs_clean (f:=fun row=>row.drop m.kn) (fun row x hx=>List.mem_of_mem_drop hx) hc)]
  rfl
 |map es=>
  simp only [SB.den,Blk.refsB,SB.rfs,List.map_map]
  have e1:(es.map ((fun x=>x.1)∘fun e=>(SV.den ρ e.1,SV.den ρ e.2)))=denL ρ (es.map (·.1)):=by simp [denL_map,Function.comp_def]
  have e2:(es.map ((fun x=>x.2)∘fun e=>(SV.den ρ e.1,SV.den ρ e.2)))=denL ρ (es.map (·.2)):=by simp [denL_map,Function.comp_def]
  rw [e1,e2,rfsL_den hρ,rfsL_den hρ]
 |it m n k=>rfl
 |rowsE ty sz rs=>simp only [SB.den,Blk.refsB,SB.rfs,rfsLL_den hρ]
 |rowsF sz t i off x=>simp only [SB.den,Blk.refsB,SB.rfs,ovl_refs (fzLL_clean (Tm.den_fz hρ t)),rfs_den hρ]
section
variable {ρ : List AV} (hρ:fzL ρ=true) {th th':Tr SB} {nx nx':Nat}
 include hρ
theorem isIn_ok {b:Nat}(h:isIn th b=true):(toAh ρ th b).isSome=true:=by
 unfold isIn at h
 unfold toAh
 split at h
 ·rename_i k hk;rw [hk];rfl
 ·cases h
theorem in_or {b:Nat}(h:(btw nx nx' b||isIn th b)=true):(nx≤b∧b<nx')∨(toAh ρ th b).isSome=true:=by
 rw [Bool.or_eq_true] at h
 exact h.imp btw_iff (isIn_ok hρ)
theorem framed0_ok {args:List SV}(h:framed0 th nx args=true):(∀b k,toAh ρ th b=some k→b<nx)∧(∀b k,toAh ρ th b=some k→∀x∈k.refsB,(toAh ρ th x).isSome=true)∧∀x∈refsL (denL ρ args),(toAh ρ th x).isSome=true:=by
 unfold framed0 at h
 simp only [Bool.and_eq_true] at h
 refine ⟨fun b k hk=>?_,fun b k hk x hx=>?_,fun x hx=>?_⟩
 ·obtain ⟨z,hz,rfl⟩:=toAh_some hk
  have:=Tr.all_get h.1 hz
  simp only [Bool.and_eq_true] at this
  exact Nat.le_of_ble_eq_true this.1
 ·obtain ⟨z,hz,rfl⟩:=toAh_some hk
  have:=Tr.all_get h.1 hz
  simp only [Bool.and_eq_true,List.all_eq_true] at this
  rw [rfsB_den hρ] at hx
  exact isIn_ok hρ (this.2 x hx)
 ·rw [rfsL_den hρ] at hx
  exact isIn_ok hρ (List.all_eq_true.1 h.2 x hx)
theorem framed1_ok {v:SV}(h:framed1 th nx nx' th' v=true):nx≤nx'∧(∀b k,toAh ρ th' b=some k→b<nx'∧((nx≤b∧b<nx')∨(toAh ρ th b).isSome=true)∧∀x∈k.refsB,(nx≤x∧x<nx')∨(toAh ρ th x).isSome=true)∧
  ∀x∈(v.den ρ).refs,(nx≤x∧x<nx')∨(toAh ρ th x).isSome=true:=by
 unfold framed1 at h
 simp only [Bool.and_eq_true] at h
 refine ⟨Nat.le_of_ble_eq_true h.1,fun b k hk=>?_,fun x hx=>?_⟩
 ·obtain ⟨z,hz,rfl⟩:=toAh_some hk
  have:=Tr.all_get h.2.1 hz
  simp only [Bool.and_eq_true,List.all_eq_true] at this
  refine ⟨Nat.le_of_ble_eq_true this.1,in_or hρ this.2.1,fun x hx=>?_⟩
  rw [rfsB_den hρ] at hx
  exact in_or hρ (this.2.2 x hx)
 ·rw [rfs_den hρ] at hx
  exact in_or hρ (List.all_eq_true.1 h.2.2 x hx)
end
end Go.Fw
end
section
set_option linter.unusedVariables false
set_option linter.unusedSimpArgs false
set_option linter.unusedSectionVars false
namespace Go.Fw
variable [Glob]
set_option linter.unusedSimpArgs false
set_option linter.unusedVariables false
set_option linter.unusedSectionVars false
inductive Lo where
 |mk (pc:Pc) (base m:Nat) (entry:List SV) (outs:List (Tm×Nat×List SV)) (sd:List (Pc×Side)) (aw:List Lo) (ms:List Nat) (bn:List Tm)
def posOf (base:Nat)(ms:List Nat)(k:Nat):Nat:=(bif Nat.ble ms.length 1 then base else base+1)+(ms.take k).sum
def selK (ρ:List AV):List (Tm×Nat×List SV)→Option (Nat×List SV)
 |[]=>none
 |[o]=>some o.2
 |o::o'::r=>bif (o.1.den ρ).B then some o.2 else selK ρ (o'::r)
def RunN (S:List AV→Prop)(outs:List (Tm×Nat×List SV))(ρ0:List AV)(m:Nat):Nat→List AV→Nat→List AV→Prop
 |0,_,_,_=>False
 |n+1,vs,k,us=>∃cs,vs.length=m∧fzL (ρ0++vs++cs)=true∧S (ρ0++vs++cs)∧
  match selK (ρ0++vs++cs) outs with
  |none=>False
  |some (0,l)=>RunN S outs ρ0 m n (denL (ρ0++vs++cs) l) k us
  |some (j+1,l)=>k=j∧us=denL (ρ0++vs++cs) l
def ResK (ρ:List AV)(base:Nat)(ms:List Nat)(k:Nat)(us:List AV):Prop:=
 (1<ms.length→(ρ.getD base undefA).D.I=(k:Int))∧∀(i:Nat) (u:AV),us[i]?=some u→ρ.getD (posOf base ms k+i) undefA=u
 mutual
def Lo.holds (P:Program):Lo→List AV→Prop
  | .mk pc base m entry outs sd aw ms bn=>fun ρ=>Pc.holds ρ pc→(∀t∈bn,(t.den ρ).R.length≤4294967296)→base≤ρ.length∧∃n k us,RunN (fun σ=>SidesOk P σ sd∧LoL P aw σ) outs (ρ.take base) m n (denL ρ entry) k us∧ResK ρ base ms k us
def LoL (P:Program):List Lo→List AV→Prop
  |[]=>fun _=>True
  |x::r=>fun σ=>x.holds P σ∧LoL P r σ
end
theorem LoL_app {P:Program}{ρ:List AV}:∀{a b:List Lo},LoL P (a++b) ρ↔LoL P a ρ∧LoL P b ρ
 |[],b=>by simp [LoL]
 |x::a,b=>by simp only [List.cons_append,LoL,LoL_app (a:=a) (b:=b),and_assoc]
inductive Sd where
 |s (x:Side)
 |l (x:Lo)
def Sd.holds (P:Program)(ρ:List AV):Sd→Prop
 | .s x=>x.holds P ρ
 | .l x=>x.holds P ρ
def SidesX (P:Program)(ρ:List AV)(l:List (Pc×Sd)):Prop:=∀x∈l,Pc.holds ρ x.1→x.2.holds P ρ
def tagX (pc:Pc)(l:List Side)(acc:List (Pc×Sd)):List (Pc×Sd):=l.map (fun s=>(pc,.s s))++acc
theorem tagX_ok {P:Program}{ρ:List AV}{pc:Pc}{l:List Side}{acc:List (Pc×Sd)}(h:SidesX P ρ (tagX pc l acc)):(pc.holds ρ→∀s∈l,s.holds P ρ)∧SidesX P ρ acc:=
 ⟨fun hp s hs=>h (pc,.s s) (by simp [tagX,hs]) hp,fun x hx=>h x (by simp [tagX,hx])⟩
def toX (l:List (Pc×Side)):List (Pc×Sd):=l.map fun x=>(x.1,.s x.2)
theorem toX_of {P:Program}{ρ:List AV}{l:List (Pc×Side)}(h:SidesOk P ρ l):SidesX P ρ (toX l):=fun x hx hp=>by
 obtain ⟨y,hy,rfl⟩:=List.mem_map.1 hx
 exact h y hy hp
def exS : List (Pc×Sd)→List (Pc×Side)
 |[]=>[]
 |(p,.s x)::r=>(p,x)::exS r
 |(_,.l _)::r=>exS r
def exL : List (Pc×Sd)→List Lo
 |[]=>[]
 |(_,.s _)::r=>exL r
 |(_,.l x)::r=>x::exL r
theorem ex_ok {P:Program}{ρ:List AV}:∀{l:List (Pc×Sd)},SidesOk P ρ (exS l)→LoL P (exL l) ρ→SidesX P ρ l
 |[],_,_,x,hx=>by cases hx
 |(p,.s y)::r,h,k,x,hx=>by
  cases hx with
  |head=>exact fun hp=>h (p,y) (by simp [exS]) hp
  |tail _ hx=>exact ex_ok (l:=r) (fun z hz=>h z (by simp [exS,hz])) k x hx
 |(p,.l y)::r,h,k,x,hx=>by
  cases hx with
  |head=>exact fun _=>k.1
  |tail _ hx=>exact ex_ok (l:=r) h k.2 x hx
def noL (l:List (Pc×Sd)):Bool:=l.all fun x=>match x.2 with | .s _=>true | .l _=>false
theorem noL_toX : ∀{l:List (Pc×Sd)},noL l=true→toX (exS l)=l
 |[],_=>rfl
 |(p,.s y)::r,h=>by
  simp only [noL,List.all_cons,Bool.true_and] at h
  simp only [exS,toX,List.map_cons]
  rw [show List.map (fun x:Pc×Side=>(x.1,Sd.s x.2)) (exS r)=r from noL_toX (l:=r) h]
 |(p,.l y)::r,h=>by simp [noL] at h
def Lo.at : Lo→Nat
 | .mk _ base _ _ _ _ _ _ _=>base
def insLo (x:Lo):List Lo→List Lo
 |[]=>[x]
 |y::r=>bif Nat.ble x.at y.at then x::y::r else y::insLo x r
def srtLo : List Lo→List Lo
 |[]=>[]
 |x::r=>insLo x (srtLo r)
theorem insLo_ok {P:Program}{ρ:List AV}{x:Lo}:∀{l:List Lo},LoL P (insLo x l) ρ→x.holds P ρ∧LoL P l ρ
 |[],h=>h
 |y::r,h=>by
  unfold insLo at h
  cases hc:Nat.ble x.at y.at
  ·rw [hc] at h
   obtain ⟨h1,h2⟩:=h
   obtain ⟨h3,h4⟩:=insLo_ok h2
   exact ⟨h3,h1,h4⟩
  ·rw [hc] at h
   exact h
theorem srtLo_ok {P:Program}{ρ:List AV}:∀{l:List Lo},LoL P (srtLo l) ρ→LoL P l ρ
 |[],h=>h
 |x::r,h=>by
  obtain ⟨h1,h2⟩:=insLo_ok (l:=srtLo r) h
  exact ⟨h1,srtLo_ok h2⟩
end Go.Fw
end
