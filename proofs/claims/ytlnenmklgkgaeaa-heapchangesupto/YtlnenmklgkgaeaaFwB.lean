
import Derived.Test.YtlnenmklgkgaeaaFwA
import Derived.ProofKit
import Derived.Deep.LoopGhost
import Derived.Scope
set_option linter.unusedVariables false
set_option linter.unusedSimpArgs false
set_option linter.unusedSectionVars false
set_option linter.unnecessarySimpa false
section
namespace Go.Fw
variable [iT]
section
variable {P : Program} {base:Nat} {w w':World} {E E':Env} {ah:AH} {F:Nat->Prop} {K:mP->Prop} {id:Nat}
theorem ji : ∀{l l':List AV},lI ah l=some l'->l'.length=l.length/\∀(i:Nat) (x':AV),l'[i]?=some x'->∃x,l[i]?=some x/\jE ah x=some x'
 |[],l',h=>by simp [lI] at h;subst h;exact ⟨rfl,fun i x h=>by simp at h⟩
 |a::r,l',h=>by
  simp only [lI,Option.bind_eq_some_iff,Option.map_eq_some_iff] at h;obtain ⟨x,hx,y,hy,rfl⟩:=h;obtain ⟨h1,h2⟩:=ji hy;refine ⟨by simp [h1],fun i x' hi=>?_⟩;cases i with
  |zero=>simp at hi;subst hi;exact ⟨a,rfl,hx⟩|succ i=>simp at hi;simpa using h2 i x' hi
theorem Aq : ∀{l l':List (List AV)},lK ah l=some l'->l'.length=l.length/\∀(i:Nat) (x':List AV),l'[i]?=some x'->∃x,l[i]?=some x/\lI ah x=some x'
 |[],l',h=>by simp [lK] at h;subst h;exact ⟨rfl,fun i x h=>by simp at h⟩
 |a::r,l',h=>by
  simp only [lK,Option.bind_eq_some_iff,Option.map_eq_some_iff] at h;obtain ⟨x,hx,y,hy,rfl⟩:=h;obtain ⟨h1,h2⟩:=Aq hy;refine ⟨by simp [h1],fun i x' hi=>?_⟩;cases i with
  |zero=>simp at hi;subst hi;exact ⟨a,rfl,hx⟩|succ i=>simp at hi;simpa using h2 i x' hi
theorem Ar {a a':AV}(h:jE ah a=some a')(hs:a.iL=true):a'.iL=true:=by
 cases a with
 |p v=>simp [jE] at h;subst h;exact hs|str s=>simp [jE] at h;subst h;rfl|nan=>simp [jE] at h;subst h;rfl|agg cs=>simp [AV.iL] at hs|gW cs=>simp [AV.iL] at hs|sl rows full=>simp only [jE,Option.map_eq_some_iff] at h;obtain ⟨r,-,rfl⟩:=h;rfl
 |vp row off=>simp only [jE,Option.map_eq_some_iff] at h;obtain ⟨r,-,rfl⟩:=h;rfl
 |os b sz off len=>
  simp only [jE] at h;split at h
  .split at h
   .cases h;rfl
   .cases h
  .cases h
 |op b sz i off=>
  simp only [jE] at h;split at h
  .split at h
   .simp only [Option.map_eq_some_iff] at h;obtain ⟨r,-,rfl⟩:=h;rfl
   .cases h
  .cases h
 |fn f x y=>simp only [jE,Option.bind_eq_some_iff,Option.map_eq_some_iff] at h;obtain ⟨r,-,s,-,rfl⟩:=h;rfl
 |kY t v=>simp only [jE,Option.map_eq_some_iff] at h;obtain ⟨r,-,rfl⟩:=h;rfl
 |mp b=>simp [jE] at h
theorem qP {α:Type}{l:List α}{x:α}(h:x∈l):∃i:Nat,l[i]?=some x:=List.mem_iff_getElem?.1 h
theorem jS : ∀{l:List AV},iO l=true->∀(i:Nat) (x:AV),l[i]?=some x->x.clean=true
 |[],_,i,x,h=>by simp at h
 |a::r,hc,i,x,h=>by
  simp only [iO,Bool.and_eq_true] at hc;cases i with
  |zero=>simp at h;subst h;exact hc.1|succ i=>simp at h;exact jS hc.2 i x h
theorem uU : ∀{l:List (List AV)},fJ l=true->∀(i:Nat) (x:List AV),l[i]?=some x->iO x=true
 |[],_,i,x,h=>by simp at h
 |a::r,hc,i,x,h=>by
  simp only [fJ,Bool.and_eq_true] at hc;cases i with
  |zero=>simp at h;subst h;exact hc.1|succ i=>simp at h;exact uU hc.2 i x h
theorem gY : ∀{l:List AV} {b:Nat} (i:Nat) (x:AV),l[i]?=some x->b∈x.refs->b∈jf l
 |[],b,i,x,h,_=>by simp at h
 |a::r,b,i,x,h,hb=>by
  simp only [jf,List.mem_append];cases i with
  |zero=>simp at h;subst h;exact .inl hb|succ i=>simp at h;exact .inr (gY i x h hb)
theorem rH : ∀{l:List (List AV)} {b:Nat} (i:Nat) (x:List AV),l[i]?=some x->b∈jf x->b∈jo l
 |[],b,i,x,h,_=>by simp at h
 |a::r,b,i,x,h,hb=>by
  simp only [jo,List.mem_append];cases i with
  |zero=>simp at h;subst h;exact .inl hb|succ i=>simp at h;exact .inr (rH i x h hb)
theorem af4 {fix:Nat->Nat->Prop}(hf:∀c o,E.fix c o->fix c o){a v}(h:Rep w E a v)(hc:a.clean=true):Rep w (dW fix) a v:=by
 induction h with
 |p h=>exact .p h|str s l h=>exact .str s l h|nan n hn=>exact .nan n hn|agg cs vs hl hs _ ih=>exact .agg cs vs hl hs (fun i c v h1 h2=>ih i c v h1 h2 (jS hc i c h1))|gW cs vs hl _ ih=>exact .gW cs vs hl (fun i c v h1 h2=>ih i c v h1 h2 (jS hc i c h1))|slnil full a=>exact .slnil full a|sl rows full sz c o cap g hcap hfull hsz hfix hcell iQ _ ih=>
  exact .sl rows full sz c o cap g hcap hfull hsz (fun i row j x h1 h2=>hf _ _ (hfix i row j x h1 h2)) hcell iQ
   (fun i row j x h1 h2=>ih i row j x h1 h2 (jS (uU hc i row h1) j x h2))
 |vp row off c o g hfix hcell iQ _ ih=>
  exact .vp row off c o g (fun j x h=>hf _ _ (hfix j x h)) hcell iQ (fun j x h=>ih j x h (jS hc j x h))
 |kM=>simp [AV.clean] at hc|os=>simp [AV.clean] at hc|op=>simp [AV.clean] at hc|fn f first captured vs us hl hl' _ _ ih ih'=>
  simp only [AV.clean,Bool.and_eq_true] at hc;exact .fn f first captured vs us hl hl' (fun i c v h1 h2=>ih i c v h1 h2 (jS hc.1 i c h1)) (fun i c v h1 h2=>ih' i c v h1 h2 (jS hc.2 i c h1))
 |kY t a v _ ih=>exact .kY t a v (ih hc)|mp=>simp [AV.clean] at hc
def Zq (w:World)(E:Env)(fix:Nat->Nat->Prop)(b sz:Nat)(rs:List (List AV)):Prop:=
 ∀c o,E.own b=.at c o->∃(arr:Array Value) (ty:TypeId),w.heap[c]?=some (.cells arr ty (0,0))/\RowsIn w (dW fix) arr o sz rs
theorem Rw {fix:Nat->Nat->Prop}{Q:Nat->Prop}(hB:∀b sz rs,ah b=some (.rows sz rs)->fJ rs=true->Q b->Zq w E fix b sz rs)(hQ:∀b sz rs,ah b=some (.rows sz rs)->Q b->∀c o,E.own b=.at c o->∀off,fix c off)(hf:∀c o,E.fix c o->fix c o){a v}(h:Rep w E a v) :
  ∀{a'},jE ah a=some a'->(∀b∈a.refs,Q b)->Rep w (dW fix) a' v:=by
 induction h with
 |p h=>intro a' e _;simp [jE] at e;subst e;exact .p h|str s l h=>intro a' e _;simp [jE] at e;subst e;exact .str s l h|nan n hn=>intro a' e _;simp [jE] at e;subst e;exact .nan n hn|agg cs vs hl hs _ ih=>
  intro a' e hr;simp only [jE,Option.map_eq_some_iff] at e;obtain ⟨cs',hcs,rfl⟩:=e;obtain ⟨h1,h2⟩:=ji hcs;refine .agg cs' vs (by rw [h1,hl]) (fun c hc=>?_) (fun i c v hc hv=>?_)
  .obtain ⟨i,hi⟩:=qP hc;obtain ⟨x,hx,hfx⟩:=h2 i c hi;exact Ar hfx (hs x (List.mem_of_getElem? hx))
  .obtain ⟨x,hx,hfx⟩:=h2 i c hc;exact ih i x v hx hv hfx (fun b hb=>hr b (gY i x hx hb))
 |gW cs vs hl _ ih=>
  intro a' e hr;simp only [jE,Option.map_eq_some_iff] at e;obtain ⟨cs',hcs,rfl⟩:=e;obtain ⟨h1,h2⟩:=ji hcs;refine .gW cs' vs (by rw [h1,hl]) (fun i c v hc hv=>?_);obtain ⟨x,hx,hfx⟩:=h2 i c hc;exact ih i x v hx hv hfx (fun b hb=>hr b (gY i x hx hb))
 |slnil full a=>intro a' e _;simp [jE,lK] at e;subst e;exact .slnil _ _|sl rows full sz c o cap g hcap hfull hsz hfix hcell iQ _ ih=>
  intro a' e hr;simp only [jE,Option.map_eq_some_iff] at e;obtain ⟨rows',hrows,rfl⟩:=e;obtain ⟨h1,h2⟩:=Aq hrows;have key:∀(i:Nat) (row':List AV) (j:Nat) (x':AV),rows'[i]?=some row'->row'[j]?=some x'->∃row x,rows[i]?=some row/\row[j]?=some x/\jE ah x=some x':=fun i row' j x' hi hj=>by
   obtain ⟨row,hrow,hfr⟩:=h2 i row' hi;obtain ⟨x,hx,hfx⟩:=(ji hfr).2 j x' hj;exact ⟨row,x,hrow,hx,hfx⟩
  have:=Rep.sl (w:=w) (E:=dW fix) rows' false sz c o cap g (by rw [h1];exact hcap) (fun h=>by cases h) (fun i row' hi=>by
    obtain ⟨row,hrow,hfr⟩:=h2 i row' hi;rw [(ji hfr).1];exact hsz i row hrow)
   (fun i row' j x' hi hj=>by obtain ⟨row,x,q1,q2,-⟩:=key i row' j x' hi hj;exact hf _ _ (hfix i row j x q1 q2))
   (fun i row' j x' hi hj=>by obtain ⟨row,x,q1,q2,-⟩:=key i row' j x' hi hj;exact hcell i row j x q1 q2)
   (fun row' hm x' hx=>by
    obtain ⟨i,hi⟩:=qP hm;obtain ⟨j,hj⟩:=qP hx;obtain ⟨row,x,q1,q2,q3⟩:=key i row' j x' hi hj;exact Ar q3 (iQ row (List.mem_of_getElem? q1) x (List.mem_of_getElem? q2)))
   (fun i row' j x' hi hj=>by
    obtain ⟨row,x,q1,q2,q3⟩:=key i row' j x' hi hj;exact ih i row j x q1 q2 q3 (fun b hb=>hr b (rH i row q1 (gY j x q2 hb))))
  rw [h1] at this;exact this
 |vp row off c o g hfix hcell iQ _ ih=>
  intro a' e hr;simp only [jE,Option.map_eq_some_iff] at e;obtain ⟨row',hrow,rfl⟩:=e;obtain ⟨h1,h2⟩:=ji hrow;exact .vp row' off c o g (fun j x' hj=>by obtain ⟨x,q,-⟩:=h2 j x' hj;exact hf _ _ (hfix j x q)) (fun j x' hj=>by obtain ⟨x,q,-⟩:=h2 j x' hj;exact hcell j x q)
   (fun x' hx=>by obtain ⟨j,hj⟩:=qP hx;obtain ⟨x,q,q2⟩:=h2 j x' hj;exact Ar q2 (iQ x (List.mem_of_getElem? q)))
   (fun j x' hj=>by obtain ⟨x,q,q2⟩:=h2 j x' hj;exact ih j x q q2 (fun b hb=>hr b (gY j x q hb)))
 |kM b sz off a hb=>
  intro a' e hr;simp only [jE] at e;split at e
  .split at e
   .cases e;simp;exact .slnil _ _
   .cases e
  .cases e
 |os b sz off len c o cap hb hcap hsize=>
  intro a' e hr;simp only [jE] at e;split at e
  .rename_i sz' rs hab;split at e
   .rename_i hcond;obtain ⟨rfl,hle,hcl⟩:=hcond;cases e;obtain ⟨arr,tt,h4,h5⟩:=hB b _ _ hab hcl (hr b (by simp [AV.refs])) c o hb
    .have hget:∀(i:Nat) (row:List AV),((rs.drop off).take len)[i]?=some row->rs[off+i]?=some row:=fun i row hr=>by
      rw [List.getElem?_take] at hr;split at hr
      .simpa using hr
      .cases hr
     have hlen:((rs.drop off).take len).length=len:=(by simp;omega);have hoff:∀i j:Nat,o+off*sz+i*sz+j=o+(off+i)*sz+j:=fun i j=>by rw [Nat.add_mul];omega
     have:=Rep.sl (w:=w) (E:=dW fix) ((rs.drop off).take len) false sz c (o+off*sz) cap (fun i j=>arr.getD (o+(off+i)*sz+j) undef) (by rw [hlen];exact hcap) (fun h=>by cases h)
      (fun i row hi=>h5.2.1 _ row (hget i row hi)) (fun i row j x hi hj=>hQ b _ _ hab (hr b (by simp [AV.refs])) c o hb _)
      (fun i row j x hi hj=>by
       obtain ⟨v,hv,-⟩:=h5.2.2.2 _ row j x (hget i row hi) hj;rw [hoff,cell_of_row w c _ arr tt _ h4,hv];simp [hv])
      (fun row hm x hx=>h5.2.2.1 row (List.mem_of_mem_drop (List.mem_of_mem_take hm)) x hx)
      (fun i row j x hi hj=>by
       obtain ⟨v,hv,hx⟩:=h5.2.2.2 _ row j x (hget i row hi) hj;have:arr.getD (o+(off+i)*sz+j) undef=v:=(by simp [hv]);rw [this];exact hx)
     rw [hlen] at this;exact this
   .cases e
  .cases e
 |op b sz row off c o hb=>
  intro a' e hr;simp only [jE] at e;split at e
  .rename_i sz' rs hab;split at e
   .rename_i hcond;obtain ⟨rfl,hcl⟩:=hcond;simp only [Option.map_eq_some_iff] at e;obtain ⟨rw_,hrow,rfl⟩:=e;obtain ⟨arr,tt,h4,h5⟩:=hB b _ _ hab hcl (hr b (by simp [AV.refs])) c o hb;refine .vp rw_ off c (o+row*sz) (fun j=>arr.getD (o+row*sz+j) undef) (fun j x h=>hQ b _ _ hab (hr b (by simp [AV.refs])) c o hb _) (fun j x hj=>?_) (fun x hx=>h5.2.2.1 rw_ (List.mem_of_getElem? hrow) x hx) (fun j x hj=>?_)
    .obtain ⟨v,hv,-⟩:=h5.2.2.2 row rw_ j x hrow hj;rw [cell_of_row w c _ arr tt _ h4,hv];simp [hv]
    .obtain ⟨v,hv,hx⟩:=h5.2.2.2 row rw_ j x hrow hj;have:arr.getD (o+row*sz+j) undef=v:=(by simp [hv]);rw [this];exact hx
   .cases e
  .cases e
 |fn f first captured vs us hl hl' _ _ ih ih'=>
  intro a' e hr;simp only [jE,Option.bind_eq_some_iff,Option.map_eq_some_iff] at e;obtain ⟨x,hx,y,hy,rfl⟩:=e;obtain ⟨h1,h2⟩:=ji hx;obtain ⟨h3,h4⟩:=ji hy;refine .fn f x y vs us (by rw [h1,hl]) (by rw [h3,hl']) (fun i c v hc hv=>?_) (fun i c v hc hv=>?_)
  .obtain ⟨z,hz,hfz⟩:=h2 i c hc;exact ih i z v hz hv hfz (fun b hb=>hr b (by simp only [AV.refs,List.mem_append];exact .inl (gY i z hz hb)))
  .obtain ⟨z,hz,hfz⟩:=h4 i c hc;exact ih' i z v hz hv hfz (fun b hb=>hr b (by simp only [AV.refs,List.mem_append];exact .inr (gY i z hz hb)))
 |kY t a v _ ih=>
  intro a' e hr;simp only [jE,Option.map_eq_some_iff] at e;obtain ⟨x,hx,rfl⟩:=e;exact .kY t x v (ih hx hr)
 |mp b c hb=>intro a' e hr;simp [jE] at e
theorem Rx {fix:Nat->Nat->Prop}(hB:∀b sz rs,ah b=some (.rows sz rs)->fJ rs=true->Zq w E fix b sz rs)(hf:∀c o,E.fix c o->fix c o){a v}(h:Rep w E a v)
  {a'} (hz:jE ah a=some a') (hr:∀b∈a.refs,∀c o,E.own b=.at c o->∀off,fix c off):Rep w (dW fix) a' v:=
 Rw (Q:=fun b=>∀c o,E.own b=.at c o->∀off,fix c off) (fun b sz rs h1 h2 _=>hB b sz rs h1 h2) (fun _ _ _ _ h=>h) hf h hz hr
theorem XM (hh:dM base w E ah F){b sz:Nat}{rs:List (List AV)}(hb:ah b=some (.rows sz rs)){c o:Nat}(ho:E.own b=.at c o) :
  ∃(arr:Array Value) (ty:TypeId),w.heap[c]?=some (.cells arr ty (0,0))/\RowsIn w E arr o sz rs:=by
 rcases hh.blk b _ hb with ⟨h0,-⟩|⟨c',o',arr,tt,h1,h2,h3,h4,h5⟩
 .rw [ho] at h0;cases h0
 .rw [ho] at h1;cases h1;exact ⟨arr,tt,h4,h5⟩
theorem yK (hh:dM base w E ah F){fix:Nat->Nat->Prop}(hf:∀c o,E.fix c o->fix c o):∀b sz rs,ah b=some (.rows sz rs)->fJ rs=true->Zq w E fix b sz rs:=by
 intro b sz rs hb hc c o ho;obtain ⟨arr,ty,h1,h2,h3,h4,h5⟩:=XM hh hb ho;refine ⟨arr,ty,h1,h2,h3,h4,fun i row j x hi hj=>?_⟩;obtain ⟨v,hv,hx⟩:=h5 i row j x hi hj;exact ⟨v,hv,af4 hf hx (jS (uU hc i row hi) j x hj)⟩
theorem aey (hh:dM base w E ah F){fix:Nat->Nat->Prop}(hf:∀c o,E.fix c o->fix c o){a v}(h:Rep w E a v) :
  ∀{a'},jE ah a=some a'->(∀b∈a.refs,∀c o,E.own b=.at c o->∀off,fix c off)->Rep w (dW fix) a' v:=
 fun hz hr=>Rx (yK hh hf) hf h hz hr
theorem aez (hh:dM base w E ah F){fix:Nat->Nat->Prop}(hf:∀c o,E.fix c o->fix c o)(hall:∀b c o,E.own b=.at c o->∀off,fix c off):∀n,∀b sz rs,nR ah n b=some (.rows sz rs)->fJ rs=true->Zq w E fix b sz rs
 |0=>yK hh hf|n+1=>by
  intro b sz rs' hb hc c o ho;unfold nR at hb;split at hb
  .rename_i sz0 rs hab;cases hcl:fJ rs
   case true=>
    simp only [hcl,cond_true,Option.some.injEq] at hb;cases hb;exact yK hh hf b _ _ hab hc c o ho
   simp only [hcl,cond_false,Option.map_eq_some_iff] at hb;obtain ⟨Zr,hz,he⟩:=hb;cases he;obtain ⟨arr,ty,h1,h2,h3,h4,h5⟩:=XM hh hab ho;obtain ⟨z1,z2⟩:=Aq hz;have key:∀(i:Nat) (row':List AV) (j:Nat) (x':AV),rs'[i]?=some row'->row'[j]?=some x'->∃row x,rs[i]?=some row/\row[j]?=some x/\jE (nR ah n) x=some x':=fun i row' j x' hi hj=>by
    obtain ⟨row,hrow,hfr⟩:=z2 i row' hi;obtain ⟨x,hx,hfx⟩:=(ji hfr).2 j x' hj;exact ⟨row,x,hrow,hx,hfx⟩
   refine ⟨arr,ty,h1,by rw [z1];exact h2,fun i row' hi=>?_,fun row' hm x' hx=>?_,fun i row' j x' hi hj=>?_⟩
   .obtain ⟨row,hrow,hfr⟩:=z2 i row' hi;rw [(ji hfr).1];exact h3 i row hrow
   .obtain ⟨i,hi⟩:=qP hm;obtain ⟨j,hj⟩:=qP hx;obtain ⟨row,x,q1,q2,q3⟩:=key i row' j x' hi hj;exact Ar q3 (h4 row (List.mem_of_getElem? q1) x (List.mem_of_getElem? q2))
   .obtain ⟨row,x,q1,q2,q3⟩:=key i row' j x' hi hj;obtain ⟨v,hv,hx⟩:=h5 i row j x q1 q2;exact ⟨v,hv,Rx (aez hh hf hall n) hf hx q3 (fun b _=>hall b)⟩
  .rename_i hne;exact absurd hb (hne _ _)
theorem Lp (hh:dM base w E ah F){fix:Nat->Nat->Prop}(hf:∀c o,E.fix c o->fix c o)(hall:∀b c o,E.own b=.at c o->∀off,fix c off)(n:Nat){a a':AV}{v:Value}(h:Rep w E a v)(hz:jE (nR ah n) a=some a'):Rep w (dW fix) a' v:=
 Rx (aez hh hf hall n) hf h hz (fun b _=>hall b)
def QL (ah:AH)(E:Env)(fix:Nat->Nat->Prop):Nat->Nat->Prop
 |0,b=>ah b≠none->∀c o,E.own b=.at c o->∀off,fix c off|n+1,b=>(ah b≠none->∀c o,E.own b=.at c o->∀off,fix c off)/\∀b'∈vM ah b,QL ah E fix n b'
theorem QL.at {fix:Nat->Nat->Prop}:∀{n b:Nat},QL ah E fix n b->ah b≠none->∀c o,E.own b=.at c o->∀off,fix c off
 |0,_,h=>h|_+1,_,h=>h.1
theorem aio {fix:Nat->Nat->Prop}:∀{n:Nat} {l:List Nat},(∀b∈rch ah n l,ah b≠none->∀c o,E.own b=.at c o->∀off,fix c off)->∀b∈l,QL ah E fix n b
 |0,l,h,b,hb=>h b hb|n+1,l,h,b,hb=>by
  refine ⟨h b (List.mem_append_left _ hb),fun b' hb'=>?_⟩;exact aio (n:=n) (l:=l.flatMap (vM ah)) (fun x hx=>h x (List.mem_append_right _ hx)) b' (List.mem_flatMap.2 ⟨b,hb,hb'⟩)
theorem Zt {n b sz:Nat}{rs:List (List AV)}(h:nR ah n b=some (.rows sz rs)):ah b≠none:=by
 cases n with
 |zero=>simp only [nR] at h;rw [h];exact fun e=>by cases e
 |succ n=>
  unfold nR at h;intro e;rw [e] at h;cases h
theorem aeA (hh:dM base w E ah F){fix:Nat->Nat->Prop}(hf:∀c o,E.fix c o->fix c o):∀n,∀b sz rs,nR ah n b=some (.rows sz rs)->fJ rs=true->QL ah E fix n b->Zq w E fix b sz rs
 |0=>fun b sz rs h1 h2 _=>yK hh hf b sz rs h1 h2
 |n+1=>by
  intro b sz rs' hb hc hQ c o ho;unfold nR at hb;split at hb
  .rename_i sz0 rs hab;cases hcl:fJ rs
   case true=>
    simp only [hcl,cond_true,Option.some.injEq] at hb;cases hb;exact yK hh hf b _ _ hab hc c o ho
   simp only [hcl,cond_false,Option.map_eq_some_iff] at hb;obtain ⟨Zr,hz,he⟩:=hb;cases he;obtain ⟨arr,ty,h1,h2,h3,h4,h5⟩:=XM hh hab ho;obtain ⟨z1,z2⟩:=Aq hz;have key:∀(i:Nat) (row':List AV) (j:Nat) (x':AV),rs'[i]?=some row'->row'[j]?=some x'->∃row x,rs[i]?=some row/\row[j]?=some x/\jE (nR ah n) x=some x':=fun i row' j x' hi hj=>by
    obtain ⟨row,hrow,hfr⟩:=z2 i row' hi;obtain ⟨x,hx,hfx⟩:=(ji hfr).2 j x' hj;exact ⟨row,x,hrow,hx,hfx⟩
   refine ⟨arr,ty,h1,by rw [z1];exact h2,fun i row' hi=>?_,fun row' hm x' hx=>?_,fun i row' j x' hi hj=>?_⟩
   .obtain ⟨row,hrow,hfr⟩:=z2 i row' hi;rw [(ji hfr).1];exact h3 i row hrow
   .obtain ⟨i,hi⟩:=qP hm;obtain ⟨j,hj⟩:=qP hx;obtain ⟨row,x,q1,q2,q3⟩:=key i row' j x' hi hj;exact Ar q3 (h4 row (List.mem_of_getElem? q1) x (List.mem_of_getElem? q2))
   .obtain ⟨row,x,q1,q2,q3⟩:=key i row' j x' hi hj;obtain ⟨v,hv,hx⟩:=h5 i row j x q1 q2;refine ⟨v,hv,Rw (aeA hh hf n) (fun b sz rs hb hq=>hq.at (Zt hb)) hf hx q3 (fun b' hb'=>hQ.2 b' ?_)⟩;unfold vM;rw [hab];exact rH i row q1 (gY j x q2 hb')
  .rename_i hne;exact absurd hb (hne _ _)
def ars (E:Env)(ah:AH)(rd:List Nat)(c:Nat):Prop:=∃b∈rd,ah b≠none/\∃o,E.own b=.at c o
def Pq (E:Env)(ah:AH)(rd:List Nat):Env:=⟨fun c o=>E.fix c o\/ars E ah rd c,E.own⟩
theorem J6 {rd:List Nat}:∀{ah:AH} {b:Nat} {k:qO},lZ ah (JE rd) b=some k->b∉rd/\ah b=some k:=by
 induction rd with
 |nil=>intro ah b k h;exact ⟨by simp,h⟩|cons x r ih=>
  intro ah b k h;simp only [JE,List.map_cons,lZ] at h;obtain ⟨h1,h2⟩:=ih h;by_cases e:b=x
  .subst e;simp [upd] at h2
  .simp only [upd,if_neg e] at h2;exact ⟨by simp [e,h1],h2⟩
theorem IQ (hh:dM base w E ah F)(rd:List Nat):Step base w E w (Pq E ah rd):=by
 refine ⟨⟨fun _ _ h=>.inl h,fun _ _ _=>rfl,fun _ _=>rfl,fun _ arr _ fz h=>⟨arr,fz,h,rfl⟩⟩,RowKit.Below.refl _ _,fun c o hc h=>?_,fun _ _ _=>rfl,fun b c o h _=>⟨b,o,h⟩,fun c o h _=>?_⟩
 .rcases h with h|⟨b,-,-,o',h⟩
  .exact h
  .have:=(hh.je b c o' h).1;omega
 .rcases h with h|⟨b,-,-,o',h⟩
  .exact .inl h
  .exact .inr ⟨b,o',h⟩
theorem NS (hh:dM base w E ah F)(rd:List Nat):dM base w (Pq E ah rd) (lZ ah (JE rd)) F:=by
 have hx:=(IQ hh rd).ext;refine ⟨fun b k hb=>?_,fun b b' k k' c o c' o' hne h1 h2 h3 h4=>?_,hh.fresh,fun c o h=>?_,hh.bs,hh.je⟩
 .obtain ⟨h1,h2⟩:=J6 hb;refine (hh.blk b k h2).keep hx (fun c o _=>rfl) (fun c o off ho h=>?_);rcases h with h|⟨b',hb',hne,o',h⟩
  .exact h
  .obtain ⟨k',hk'⟩:=Option.ne_none_iff_exists'.1 hne;have hbb:b≠b':=fun e=>h1 (e▸hb');exact absurd rfl (hh.sep b b' k k' c o c o' hbb h2 hk' ho h)
 .exact hh.sep b b' k k' c o c' o' hne (J6 h1).2 (J6 h2).2 h3 h4
 .rcases h with h|⟨b,-,-,o',h⟩
  .exact hh.iY c o h
  .exact (hh.je b c o' h).2
theorem aip (hh:dM base w E ah F)(n:Nat){a a':AV}{v:Value}{rd:List Nat}(h:Rep w E a v)(hz:jE (nR ah n) a=some a')(hr:∀b∈rch ah n a.refs,b∈rd):Rep w (dW (Pq E ah rd).fix) a' v:=
 Rw (aeA hh (fun _ _ h=>.inl h) n) (fun b sz rs hb hq=>hq.at (Zt hb)) (fun _ _ h=>.inl h) h hz
  (aio (fun b hb hne c o ho off=>.inr ⟨b,hr b hb,hne,o,ho⟩))
theorem Zu : ∀{n:Nat} {l l':List Nat},(∀b∈l,b∈l')->∀b∈rch ah n l,b∈rch ah n l'
 |0,_,_,h,b,hb=>h b hb|n+1,l,l',h,b,hb=>by
  rcases List.mem_append.1 hb with hb|hb
  .exact List.mem_append_left _ (h b hb)
  .refine List.mem_append_right _ (Zu (n:=n) (fun x hx=>?_) b hb);obtain ⟨y,hy,hxy⟩:=List.mem_flatMap.1 hx;exact List.mem_flatMap.2 ⟨y,h y hy,hxy⟩
theorem NT (hh:dM base w E ah F){az as':List AV}{vs:List Value}(h:fG w E az vs)(hz:lI (nR ah ayw) az=some as'):fG w (dW (Pq E ah (rch ah ayw (jf az))).fix) as' vs:=by
 obtain ⟨h1,h2⟩:=ji hz;refine ⟨by rw [h1,h.1],fun i a v ha hv=>?_⟩;obtain ⟨x,hx,hfx⟩:=h2 i a ha;exact aip hh ayw (h.2 i x v hx hv) hfx (Zu fun b hb=>gY i x hx hb)
end
end Go.Fw
end
section
namespace Go.Fw
variable [iT]
section
variable {P : Program} {base:Nat} {w w':World} {E E':Env} {ah:AH} {F:Nat->Prop} {K:mP->Prop} {id:Nat}
theorem xw : ∀{l:List AV},y8 l=true->∀(i:Nat) (x:AV),l[i]?=some x->x.flat=true
 |[],_,i,x,h=>by simp at h
 |a::r,hc,i,x,h=>by
  simp only [y8,Bool.and_eq_true] at hc;cases i with
  |zero=>simp at h;subst h;exact hc.1|succ i=>simp at h;exact xw hc.2 i x h
theorem Au {a v}(h:Rep w E a v)(hc:a.flat=true):Rep w' E' a v:=by
 induction h with
 |p h=>exact .p h|str s l h=>exact .str s l h|nan n hn=>exact .nan n hn|agg cs vs hl hs _ ih=>exact .agg cs vs hl hs (fun i c v h1 h2=>ih i c v h1 h2 (xw hc i c h1))|gW cs vs hl _ ih=>exact .gW cs vs hl (fun i c v h1 h2=>ih i c v h1 h2 (xw hc i c h1))|slnil full a=>exact .slnil full a|sl rows full sz c o cap g hcap hfull hsz hfix hcell iQ _ ih=>
  have:rows=[]:=by simpa [AV.flat] using hc
  subst this;exact .sl [] full sz c o cap g hcap hfull hsz (fun i row j x h=>by simp at h) (fun i row j x h=>by simp at h) iQ (fun i row j x h=>by simp at h)
 |kY t a v _ ih=>exact .kY t a v (ih hc)|_=>simp [AV.flat] at hc
theorem Aw {fix:Nat->Nat->Prop}(hf:∀c o,fix c o->E.fix c o){a v}(h:Rep w (dW fix) a v):Rep w E a v:=by
 generalize he:dW fix=E0 at h;induction h with
 |p h=>exact .p h|str s l h=>exact .str s l h|nan n hn=>exact .nan n hn|agg cs vs hl hs _ ih=>exact .agg cs vs hl hs ih|gW cs vs hl _ ih=>exact .gW cs vs hl ih|slnil full a=>exact .slnil full a|sl rows full sz c o cap g hcap hfull hsz hfix hcell iQ _ ih=>
  subst he;exact .sl rows full sz c o cap g hcap hfull hsz (fun i row j x h1 h2=>hf _ _ (hfix i row j x h1 h2)) hcell iQ ih
 |vp row off c o g hfix hcell iQ _ ih=>
  subst he;exact .vp row off c o g (fun j x h=>hf _ _ (hfix j x h)) hcell iQ ih
 |kM b sz off a hb=>subst he;exact absurd rfl hb|os b sz off len c o cap hb=>subst he;cases hb
 |op b sz row off c o hb=>subst he;cases hb
 |fn f first captured vs us hl hl' _ _ ih ih'=>exact .fn f first captured vs us hl hl' ih ih'
 |kY t a v _ ih=>exact .kY t a v ih|mp b c hb=>subst he;cases hb
 mutual
theorem Ry : ∀{a:AV},a.clean=true->a.refs=[]
  | .p _,_=>rfl| .str _,_=>rfl| .nan,_=>rfl| .agg cs,h=>iM (l:=cs) h| .gW cs,h=>iM (l:=cs) h| .sl rows _,h=>kZ (l:=rows) h| .vp row _,h=>iM (l:=row) h| .fn _ x y,h=>by
   simp only [AV.clean,Bool.and_eq_true] at h;simp only [AV.refs,iM h.1,iM h.2,List.append_nil]
  | .kY _ v,h=>Ry (a:=v) h| .os ..,h=>by simp [AV.clean] at h
  | .op ..,h=>by simp [AV.clean] at h
  | .mp _,h=>by simp [AV.clean] at h
theorem iM : ∀{l:List AV},iO l=true->jf l=[]
  |[],_=>rfl|a::r,h=>by
   simp only [iO,Bool.and_eq_true] at h;simp only [jf,Ry h.1,iM h.2,List.append_nil]
theorem kZ : ∀{l:List (List AV)},fJ l=true->jo l=[]
  |[],_=>rfl|a::r,h=>by
   simp only [fJ,Bool.and_eq_true] at h;simp only [jo,iM h.1,kZ h.2,List.append_nil]
end
theorem Zv (hh:dM base w E ah F){fix:Nat->Nat->Prop}(hf:∀c o,E.fix c o->fix c o){az as':List AV}{vs:List Value}(h:fG w E az vs)(hz:lI ah az=some as')
  (hr:∀b∈jf az,∀c o,E.own b=.at c o->∀off,fix c off):fG w (dW fix) as' vs:=by
 obtain ⟨h1,h2⟩:=ji hz;refine ⟨by rw [h1,h.1],fun i a v ha hv=>?_⟩;obtain ⟨x,hx,hfx⟩:=h2 i a ha;exact aey hh hf (h.2 i x v hx hv) hfx (fun b hb=>hr b (gY i x hx hb))
theorem NU (hh:dM base w E ah F){fix:Nat->Nat->Prop}(hf:∀c o,E.fix c o->fix c o)(hall:∀b c o,E.own b=.at c o->∀off,fix c off)(n:Nat){az as':List AV}{vs:List Value}(h:fG w E az vs)(hz:lI (nR ah n) az=some as'):fG w (dW fix) as' vs:=by
 obtain ⟨h1,h2⟩:=ji hz;refine ⟨by rw [h1,h.1],fun i a v ha hv=>?_⟩;obtain ⟨x,hx,hfx⟩:=h2 i a ha;exact Lp hh hf hall n (h.2 i x v hx hv) hfx
 mutual
theorem Zw {ah dV:AH}:∀{a:AV},a.clean=true->jE dV a=jE ah a
  | .p _,_=>rfl| .str _,_=>rfl| .nan,_=>rfl| .agg cs,h=>by simp only [jE,sK (l:=cs) (ah:=ah) (dV:=dV) h]
  | .gW cs,h=>by simp only [jE,sK (l:=cs) (ah:=ah) (dV:=dV) h]
  | .sl rows _,h=>by simp only [jE,Rz (l:=rows) (ah:=ah) (dV:=dV) h]
  | .vp row _,h=>by simp only [jE,sK (l:=row) (ah:=ah) (dV:=dV) h]
  | .os ..,h=>by simp [AV.clean] at h
  | .op ..,h=>by simp [AV.clean] at h
  | .fn f x y,h=>by
   simp only [AV.clean,Bool.and_eq_true] at h;simp only [jE,sK (l:=x) (ah:=ah) (dV:=dV) h.1,sK (l:=y) (ah:=ah) (dV:=dV) h.2]
  | .kY t v,h=>by simp only [jE,Zw (a:=v) (ah:=ah) (dV:=dV) h]
  | .mp b,h=>by simp [AV.clean] at h
theorem sK {ah dV:AH}:∀{l:List AV},iO l=true->lI dV l=lI ah l
  |[],_=>rfl|a::r,h=>by
   simp only [iO,Bool.and_eq_true] at h;simp only [lI,Zw (a:=a) (ah:=ah) (dV:=dV) h.1,sK (l:=r) (ah:=ah) (dV:=dV) h.2]
theorem Rz {ah dV:AH}:∀{l:List (List AV)},fJ l=true->lK dV l=lK ah l
  |[],_=>rfl|a::r,h=>by
   simp only [fJ,Bool.and_eq_true] at h;simp only [lK,sK (l:=a) (ah:=ah) (dV:=dV) h.1,Rz (l:=r) (ah:=ah) (dV:=dV) h.2]
end
theorem ayv {o:Oper}{a:Act}{next:Act->World->Prop}{Q:Exit->Act->World->Prop}{s:Sem Next}{v:Value}(he:execOp a.eval o=s)(hr:s.run P w=.ok (.value v) w')
  (h:next (a.put o.dst v) w'):o.wp P a w next Q:=by
 unfold Oper.wp;rw [he,hr];exact h
theorem RF (hh:dM base w E ah F)(hG:Zg w E.fix){f:FuncId}{as':List AV}{r:AV}{vs:List Value}{fix:Nat->Nat->Prop}(hfix:∀c o,E.fix c o->fix c o)(NV:∀c o,fix c o->c<w.heap.size)(hrep:fG w (dW fix) as' vs)(hpc:PC P f as' r)
  (hback:(r.flat=true\/∀c o,fix c o->E.fix c o)\/PCa P f as' r) {o:Oper} {a:Act}
  (he:execOp a.eval o=callFunc f vs.toArray) {next:Act->World->Prop} {Q:Exit->Act->World->Prop}
  (hn:∀v w' E',Step base w E w' E'->dM base w' E' ah (fun b=>F b/\b≠id)->Rep w' E' r v->next (a.put o.dst v) w'):o.wp P a w next Q:=by
 have hp:(match P.funcs[f]? with
  |none=>False|some fn=>
   if fn.body.isNone=true then ∃v,(callFunc f vs.toArray).run P w=.ok (.value v) w/\(((r.flat=true\/∀c o,fix c o->E.fix c o)/\Rep w (dW fix) r v)\/Rep w (dW fun _ _=>False) r v)
   else fn.name≠ "runtime.NumGoroutine" /\Calls P f vs.toArray w fun e w'=>∃v kF,e=.returned v/\Step w.heap.size w (dW fix) w' (dW kF)/\
    (∀c o,kF c o->c<w'.heap.size)/\(((r.flat=true\/∀c o,fix c o->E.fix c o)/\Rep w' (dW kF) r v)\/Rep w' (dW fun c o=>kF c o/\w.heap.size<=c) r v)):=by
  rcases hback with hb|hpa
  .have hp:=hpc w fix vs NV (hG.mono hfix (fun _ _ _=>rfl) (fun _ arr _ fz h=>⟨arr,fz,h,rfl⟩)) hrep;split at hp
   .exact hp.elim
   .rename_i fn hfn;rw [hfn];dsimp only;split at hp
    .rename_i hbody;rw [if_pos hbody];obtain ⟨v,h1,h2⟩:=hp;exact ⟨v,h1,.inl ⟨hb,h2⟩⟩
    .rename_i hbody;rw [if_neg hbody];refine ⟨hp.1,hp.2.mono fun e w' hq=>?_⟩;obtain ⟨v,kF,h1,h2,h3,h4⟩:=hq;exact ⟨v,kF,h1,h2,h3,.inl ⟨hb,h4⟩⟩
  .have hp:=hpa w fix vs NV (hG.mono hfix (fun _ _ _=>rfl) (fun _ arr _ fz h=>⟨arr,fz,h,rfl⟩)) hrep;split at hp
   .exact hp.elim
   .rename_i fn hfn;rw [hfn];dsimp only;split at hp
    .rename_i hbody;rw [if_pos hbody];obtain ⟨v,h1,h2⟩:=hp;exact ⟨v,h1,.inr h2⟩
    .rename_i hbody;rw [if_neg hbody];refine ⟨hp.1,hp.2.mono fun e w' hq=>?_⟩;obtain ⟨v,kF,h1,h2,h3,h4⟩:=hq;exact ⟨v,kF,h1,h2,h3,.inr h4⟩
 clear hback;split at hp
 .exact hp.elim
 .rename_i fn hfn;split at hp
  .obtain ⟨v,h1,h2⟩:=hp;refine ayv he h1 (hn v w E (Step.refl _ _ _) (hh.weaken fun b h=>h.1) ?_);rcases h2 with ⟨hb|hb,h2⟩|h2
   .exact Au h2 hb
   .exact Aw hb h2
   .exact Aw (fun _ _ h=>h.elim) h2
  .rename_i hbody;obtain ⟨hname,hp⟩:=hp;unfold Oper.wp;have hcall:(callFunc f vs.toArray).run P w=.ok (.enter f vs.toArray) w:=by
    have:(fn.name == "runtime.NumGoroutine")=false:=by simpa using hname
    simp only [callFunc,Sem.run_bind,run_program,Result.andThen_ok,hfn,this,aP,if_false,hbody,Sem.run_pure]
   rw [he,hcall];refine hp.mono fun e w' hq=>?_;obtain ⟨v,kF,rfl,hst,hlt,hv⟩:=hq;let E':Env:=⟨fun c o=>E.fix c o\/(w.heap.size<=c/\kF c o),E.own⟩;have hblk:∀c,c<w.heap.size->w'.heap[c]?=w.heap[c]?:=hst.below.block;have hx:Ext w E w' E':=by
    refine ⟨fun c o h=>.inl h,fun c o h=>World.cell?_of_block (w:=w) (hblk c (hh.iY c o h)),fun _ _=>rfl,fun c arr ty fz h=>⟨arr,fz,?_,rfl⟩⟩;rw [hblk c (bD.1 h).1];exact h
   refine hn v w' E' ⟨hx,hst.below.mono hh.bs,fun c o hc h=>?_,fun c hc _=>hblk c hc,fun b c o h _=>⟨b,o,h⟩,fun c o h hc=>?_⟩ ?_ ?_
   .rcases h with h|⟨h,-⟩
    .exact h
    .have:=hh.bs;omega
   .rcases h with h|⟨h,-⟩
    .exact .inl h
    .omega
   .refine ⟨fun b k hb=>?_,hh.sep,fun b hb=>hh.fresh b hb.1,fun c o h=>?_,bW hh.bs hst.below.size,fun b c o h=>⟨(hh.je b c o h).1,bZ (hh.je b c o h).2 hst.below.size⟩⟩
    .have hb':=hh.blk b k hb;refine hb'.keep hx (fun c o ho=>hblk c (hb'.lt ho).1) (fun c o off ho h=>?_);rcases h with h|⟨h,-⟩
     .exact h
     .have:=(hb'.lt ho).1;omega
    .rcases h with h|⟨-,h⟩
     .exact bZ (hh.iY c o h) hst.below.size
     .exact hlt c o h
   .rcases hv with ⟨hb|hb,hv⟩|hv
    .exact Au hv hb
    rotate_left
    .exact Aw (E:=E') (fun c o h=>Or.inr ⟨h.2,h.1⟩) hv
    .refine Aw (fun c o h=>?_) hv;rcases Nat.lt_or_ge c w.heap.size with hc|hc
     .exact .inl (hb c o (hst.wZ c o hc h))
     .exact .inr ⟨hc,h⟩
theorem aiq (hh:dM base w E ah F)(hG:Zg w E.fix){f:FuncId}{args:List AV}{vs:List Value}(h:VP P ah f args K)(ha:fG w E args vs){o:Oper}{a:Act}
  (he:execOp a.eval o=callFunc f vs.toArray) {next:Act->World->Prop} {Q:Exit->Act->World->Prop}
  (hn:∀r v w' E',K r->Step base w E w' E'->dM base w' E' (lZ ah r.wr) (fun b=>F b/\b≠id)->Rep w' E' r.v v->next (a.put o.dst v) w'):o.wp P a w next Q:=by
 obtain ⟨az,has,as',r,hwk,hpc,hcl⟩:=dG.1 h;rcases hcl with ⟨hcl,hK⟩|hK
 .obtain ⟨fix,hfix,NV,air,hback⟩:∃fix:Nat->Nat->Prop,(∀c o,E.fix c o->fix c o)/\(∀c o,fix c o->c<w.heap.size)/\fG w (dW fix) az vs/\
    ((r.flat=true\/∀c o,fix c o->E.fix c o)\/PCa P f as' r):=by
   rcases hcl with hcl|hcl|hcl
   .rw [sK hcl (ah:=ah)] at has;refine ⟨E.fix,fun _ _ h=>h,hh.iY,Zv hh (fun _ _ h=>h) ha has (fun b hb=>?_),.inl (.inr (fun _ _ h=>h))⟩;rw [iM hcl] at hb;cases hb
   .exact ⟨fun c o=>c<w.heap.size,hh.iY,fun c o h=>h,NU hh hh.iY (fun b c o h off=>(hh.je b c o h).2) ayw ha has,.inl (.inl hcl)⟩
   .exact ⟨fun c o=>c<w.heap.size,hh.iY,fun c o h=>h,NU hh hh.iY (fun b c o h off=>(hh.je b c o h).2) ayw ha has,.inr hcl⟩
  exact RF hh hG hfix NV (hwk _ _ _ air) hpc hback he (fun v w' E'=>hn _ v w' E' hK)
 .have h1:=NS hh (rch ah ayw (jf args));have hs:=IQ hh (rch ah ayw (jf args));exact RF h1 (hG.mono (fun _ _ h=>.inl h) (fun _ _ _=>rfl) (fun _ arr _ fz h=>⟨arr,fz,h,rfl⟩)) (fun _ _ h=>h) h1.iY (hwk _ _ _ (NT hh ha has)) hpc (.inl (.inr fun _ _ h=>h)) he
   (fun v w' E' s hp hr=>hn _ v w' E' hK (hs.trans s) hp hr)
end
end Go.Fw
end
section
namespace Go.Fw
variable [iT]
section
variable {P : Program} {w:World} {E:Env} {base:Nat} {ah:AH} {F:Nat->Prop} {K:mP->Prop}
theorem Dq {em:Bool}:∀{d:Nat} {t:TypeId} {a:AV} {v:Value},Ap P d t a=true->Rep w E a v->(Instr.checkKey em d t v).run P w=.ok () w:=by
 intro d;induction d with
 |zero=>intro t a v h;simp [Ap] at h|succ d ih=>
  intro t a v h hr;unfold Ap at h;split at h
  .rename_i b hu;obtain rfl:=hr.fO;simp [Instr.checkKey,run_underlying hu]
  .rename_i k n hu;obtain rfl:=hr.fO;simp [Instr.checkKey,run_underlying hu]
  .rename_i s hu;cases hr;simp [Instr.checkKey,run_underlying hu]
  .rename_i fs cs hu;cases hr with|agg _ vs hl hs hrep=>
   have hX:Rep w E (.agg cs) (.agg vs):=.agg _ _ hl hs hrep;simp only [Instr.checkKey,Sem.run_bind,run_underlying hu,Result.andThen_ok];rw [<- Array.forIn_toList];clear hu;revert h;generalize fs.toList=l;induction l with
   |nil=>intro _;simp|cons f l ihl=>
    intro h;simp only [aie,ak] at h;obtain ⟨h1,h2⟩:=h;rw [List.forIn_cons];by_cases hn:f.name≠ "_"
    .rw [if_pos hn] at h1;split at h1
     .rename_i ty hty;split at h1
      .rename_i a ha;obtain ⟨va,ra,hva⟩:=J5 hty ha hX;have:=ih h1 hva;simp only [if_pos hn,Sem.run_bind,ra,Result.andThen_ok,this,Sem.run_pure];exact ihl h2
      .cases h1
     .cases h1
    .simp only [if_neg hn,Sem.run_bind,Sem.run_pure,Result.andThen_ok];exact ihl h2
  .cases h
theorem VZ {t:TypeId}{x y:AV}{b:Bool}{vx vy:Value}(h:aeq P 10000 t x y=some b)(hx:Rep w E x vx)(hy:Rep w E y vy):(Op.equal t vx vy).run P w=.ok b w:=aep h hx hy
def GZ (w:World)(E:Env)(es:List (AV×AV))(jX:List MapEntry):Prop:=
 es.length=jX.length/\∀(i:Nat) (e:AV×AV) (ce:MapEntry),es[i]?=some e->jX[i]?=some ce->Rep w E e.1 ce.key/\Rep w E e.2 ce.val
theorem GZ.tail {e:AV×AV}{es:List (AV×AV)}{ce:MapEntry}{jX:List MapEntry}(h:GZ w E (e::es) (ce::jX)):Rep w E e.1 ce.key/\Rep w E e.2 ce.val/\GZ w E es jX:=
 ⟨(h.2 0 e ce rfl rfl).1,(h.2 0 e ce rfl rfl).2,by simpa using h.1,fun i a b h1 h2=>h.2 (i+1) a b (by simpa using h1) (by simpa using h2)⟩
def ace (w:World)(E:Env)(jX:List MapEntry)(n:Nat):Option (Nat×AV)->Option (Nat×Value)->Prop
 |none,none=>True|some (i,a),some (j,v)=>j=n+i/\Rep w E a v/\∃ce,jX[i]?=some ce/\ce.val=v|_,_=>False
theorem J7 {kt:TypeId}{k:AV}{vk:Value}(hk:Rep w E k vk):∀{es:List (AV×AV)} {jX:List MapEntry} {n:Nat} {r:Option (Nat×AV)},GZ w E es jX->wV P kt k es=some r->
  ∃o,(Instr.findAsking kt vk jX n).run P w=.ok o w/\ace w E jX n r o
 |[],[],n,r,he,h=>by
  simp only [wV,aj] at h;subst h;exact ⟨none,by simp [Instr.findAsking],trivial⟩
 |e::es,ce::jX,n,r,he,h=>by
  obtain ⟨h1,h2,h3⟩:=he.tail;simp only [wV] at h;split at h
  .cases h
  .rename_i hq;simp only [aj] at h;subst h;refine ⟨some (n,ce.val),?_,by simp,h2,ce,rfl,rfl⟩;simp only [Instr.findAsking,Sem.run_bind,VZ hq hk h1,Result.andThen_ok,if_true,Sem.run_pure]
  .rename_i hq;have step:(Instr.findAsking kt vk (ce::jX) n).run P w=(Instr.findAsking kt vk jX (n+1)).run P w:=by
    conv=>lhs;unfold Instr.findAsking
    simp only [Sem.run_bind,VZ hq hk h1,Result.andThen_ok,aP,if_false]
   split at h
   .cases h
   .rename_i hf;simp only [aj] at h;subst h;obtain ⟨o,q1,q2⟩:=J7 (n:=n+1) hk h3 hf;refine ⟨o,by rw [step];exact q1,?_⟩;cases o with
    |none=>trivial|some o=>exact q2.elim
   .rename_i i v hf;simp only [aj] at h;subst h;obtain ⟨o,q1,q2⟩:=J7 (n:=n+1) hk h3 hf;refine ⟨o,by rw [step];exact q1,?_⟩;cases o with
    |none=>exact q2.elim|some o=>
     obtain ⟨j,v'⟩:=o;obtain ⟨e1,e2,c,e3,e4⟩:=q2;exact ⟨by omega,e2,c,by simpa using e3,e4⟩
 |[],_::_,n,r,he,h=>by simp [GZ] at he
 |_::_,[],n,r,he,h=>by simp [GZ] at he
theorem RG {t:TypeId}{d:TypeDesc}(hu:P.underlying t=some d){x y:AV}{vx vy:Value}{b c:Bool}(h:aeq P 10000 t x y=some b)(hx:Rep w E x vx)(hy:Rep w E y vy)(hs:Instr.sameNow d vx vy=some c):c=b:=by
 unfold aeq at h;unfold Instr.sameNow at hs;split at hs
 .rename_i q k a k' a';split at hs
  .rename_i hk;subst hk;simp only [aj] at hs;rw [hu] at h;cases hx with|p _=>
   cases hy with|p _=>
   simp at h;rw [<- hs,h]
  .cases hs
 .rename_i a a';simp only [aj] at hs;rw [hu] at h;cases hx with
  |p hp=>simp [Gy] at hp|str _ l hl=>
   cases hy with
   |p hp=>simp [Gy] at hp|str _ l' hl'=>
    simp at h;subst hl;subst hl';rw [<- hs,<- h];simp only [beq_toListBytes,ByteArray.toList_eq];rw [Bool.eq_iff_iff];simp
 .rename_i a a';simp only [aj] at hs;rw [hu] at h;cases hx with|p _=>
  cases hy with|p _=>
  simp at h;rw [<- hs,h]
 .cases hs
theorem XO {kt:TypeId}{d:TypeDesc}(hu:P.underlying kt=some d){k:AV}{vk:Value}(hk:Rep w E k vk):∀{es:List (AV×AV)} {jX:List MapEntry} {n:Nat} {r:Option (Nat×AV)} {o:Option (Nat×Value)},GZ w E es jX->wV P kt k es=some r->
  Instr.findNow d vk jX n=some o->ace w E jX n r o
 |[],[],n,r,o,he,h,hn=>by
  simp only [wV,aj] at h;subst h;simp only [Instr.findNow,aj] at hn;subst hn;trivial
 |e::es,ce::jX,n,r,o,he,h,hn=>by
  obtain ⟨h1,h2,h3⟩:=he.tail;simp only [wV] at h;simp only [Instr.findNow] at hn;split at hn
  .rename_i hs;simp only [aj] at hn;subst hn;split at h
   .cases h
   .simp only [aj] at h;subst h;exact ⟨by simp,h2,ce,rfl,rfl⟩
   .rename_i hq;exact absurd (RG hu hq hk h1 hs) (by simp)
  .rename_i hs;split at h
   .cases h
   .rename_i hq;exact absurd (RG hu hq hk h1 hs) (by simp)
   .split at h
    .cases h
    .rename_i hf;simp only [aj] at h;subst h;have:=XO hu hk h3 hf hn;cases o with
     |none=>trivial|some o=>exact this.elim
    .rename_i i v hf;simp only [aj] at h;subst h;have:=XO hu hk h3 hf hn;cases o with
     |none=>exact this.elim|some o=>
      obtain ⟨j,v'⟩:=o;obtain ⟨e1,e2,c,e3,e4⟩:=this;exact ⟨by omega,e2,c,by simpa using e3,e4⟩
  .cases hn
 |[],_::_,n,r,o,he,h,hn=>by simp [GZ] at he
 |_::_,[],n,r,o,he,h,hn=>by simp [GZ] at he
theorem Pv {kt:TypeId}{d:TypeDesc}(hu:P.underlying kt=some d){k:AV}{vk:Value}(hk:Rep w E k vk){es:List (AV×AV)}{jX:List MapEntry}{r:Option (Nat×AV)}(he:GZ w E es jX)(h:wV P kt k es=some r) :
  ∃o,(Instr.findKey kt vk jX).run P w=.ok o w/\ace w E jX 0 r o:=by
 unfold Instr.findKey;simp only [Sem.run_bind,run_underlying hu,Result.andThen_ok];cases hn:Instr.findNow d vk jX 0 with
 |some o=>exact ⟨o,by simp,XO hu hk he h hn⟩|none=>exact J7 hk he h
section
variable {base : Nat} {ah:AH} {F:Nat->Prop} {K:mP->Prop} {id:Nat}
theorem Lj.ents {es:List (AV×AV)}{jX:Array MapEntry}{clock:Nat}(h:Lj w E es jX clock):GZ w E es jX.toList:=
 ⟨by simpa using h.1,fun i e ce h1 h2=>by have:=h.2.1 i e ce h1 (by simpa using h2);exact ⟨this.1,this.2.1⟩⟩
theorem acf (a b:ByteArray):(a == b)=true↔a=b:=by
 obtain ⟨x⟩:=a;obtain ⟨y⟩:=b;constructor
 .intro h;have e:x=y:=by simpa using (show (x == y)=true from h)
  rw [e]
 .intro h;cases h;show (x == x)=true;simp
theorem FU {r:Nat}{es:Array MapEntry}{clock:Nat}(o:Obj)(hb:w.heap[r]?=some (.map es clock)):(setObj r o).run P w=.ok () {w with heap:=w.heap.setIfInBounds r o}:=by
 simp [setObj,Sem.run,hb]
theorem Dt {r:Nat}{o o':Obj}(hb:w.heap[r]?=some o):(w.heap.setIfInBounds r o')[r]?=some o'/\∀r',r'≠r->(w.heap.setIfInBounds r o')[r']?=w.heap[r']?:=by
 have hlt:r<w.heap.size:=(bD.1 hb).1;exact ⟨by simp [hlt],fun r' hne=>by simp [Ne.symm hne]⟩
theorem Px (hh:dM base w E ah F)(hid:F id){t:TypeId}{r:Option AV}{vr:Option Value}(h:Dp P t id r K)(hr:NM w E r vr):GR P base w E ah F id (Instr.makeMap t vr) K:=by
 obtain ⟨h0,hK⟩:=h;obtain ⟨h1,h2⟩:=uT hh hid (.map #[] 0) (.map []) (fun w' E' hx hfix ho hn=>
  ⟨w.heap.size,#[],0,ho,hh.bs,fun off hf=>by have:=hh.iY _ _ (hfix _ _ hf);omega,hn,rfl,fun i e ce h=>by simp at h,rfl,fun i a h=>by simp at h⟩)
 refine ⟨_,.map (some w.heap.size),w.alloc (.map #[] 0),_,hK,?_,h1,h2,.mp id w.heap.size (by simp [Env.set])⟩;cases hr with
 |none=>simp [Instr.makeMap,run_newObj]|some hv=>
  split at h0
  .rename_i e;cases e
  .rename_i k n e;simp only [aj] at e;subst e;obtain rfl:=hv.fO;split at h0
   .rename_i x y hu;simp [Instr.makeMap,run_newObj,run_underlying hu,asInt,asIntOf]
   .exact h0.elim
  .exact h0.elim
theorem J8 {t:TypeId}{z:AV}(h:GH P t=some z):∃v,(zeroValue t).run P w=.ok v w/\Rep w E z v:=by
 unfold GH at h;simp only [aQ] at h;obtain ⟨v,⟨i,hi,hv⟩,hz⟩:=h;refine ⟨v,?_,aen hz⟩;simp [zeroValue,typeInfo,hi,hv]
theorem xA {c ok:Bool}{a:AV}{v:Value}(h:Rep w E a v):Rep w E (GI c a ok) (if c=true then .tuple #[v,.bool ok] else v):=by
 cases c with
 |false=>exact h|true=>
  refine .gW _ _ rfl (fun i x y hx hy=>?_);match i with
  |0=>simp at hx hy;subst hx;subst hy;exact h|1=>simp at hx hy;subst hx;subst hy;exact .p rfl|i+2=>simp at hx
theorem RH (hh:dM base w E ah F){t:TypeId}{m k:AV}{vm vk:Value}{c:Bool}(h:BI P ah t m k c K)(hm:Rep w E m vm)(hk:Rep w E k vk):tH P w E (Instr.lookup t vm vk c) K:=by
 unfold BI at h;split at h
 .rename_i kt et hu;obtain ⟨hkey,h⟩:=h;rw [dG] at h;obtain ⟨z,hz,h⟩:=h;unfold al1 at h;obtain ⟨zv,Zo,hzv⟩:=J8 (w:=w) (E:=E) hz;obtain ⟨d,hd⟩:∃d,P.underlying kt=some d:=by
   unfold Ap at hkey;cases e:P.underlying kt with
   |none=>simp [e] at hkey|some d=>exact ⟨d,rfl⟩
  split at h
  .obtain rfl:=hm.fO;refine ⟨_,_,h,rfl,?_,xA hzv⟩;have e:(Instr.findKey kt vk []).run P w=.ok none w:=(by simp [Instr.findKey,run_underlying hd,Instr.findNow]);simp [Instr.lookup,run_underlying hu,Dq hkey hk,e,Zo]
  .rename_i b;split at h
   .rename_i es hb;obtain ⟨r,hr,hK⟩:=dG.1 h;obtain ⟨cc,jX,clock,h1,h2,h3,h4,h5⟩:=hh.blk b _ hb;cases hm with|mp _ c' hc'=>
    rw [h1] at hc';cases hc';obtain ⟨o,ho,hf⟩:=Pv (P:=P) (w:=w) (E:=E) hd hk h5.ents hr;have hget:(getObj cc).run P w=.ok (.map jX clock) w:=(by simp [getObj,Sem.run,h4]);cases r with
    |none=>
     cases o with
     |some o=>exact hf.elim|none=>
      refine ⟨_,_,hK,rfl,?_,xA hzv⟩;simp [Instr.lookup,run_underlying hu,hget,Dq hkey hk,ho,Zo]
    |some q=>
     obtain ⟨i,a⟩:=q;cases o with
     |none=>exact hf.elim|some o=>
      obtain ⟨j,v⟩:=o;refine ⟨_,_,hK,rfl,?_,xA hf.2.1⟩;simp [Instr.lookup,run_underlying hu,hget,Dq hkey hk,ho]
   .exact h.elim
  .exact h.elim
 .exact h.elim
theorem aeB {a:AV}{v u:Value}(h:ab9 a=true)(hv:Rep w E a v)(hu:Rep w E a u):v=u/\∀n,Instr.sameBits n v u=true:=by
 unfold ab9 at h;split at h
 .obtain rfl:=hv.fO;obtain rfl:=hu.fO;exact ⟨rfl,fun n=>by cases n<;>simp [Instr.sameBits]⟩
 .obtain rfl:=hv.fO;obtain rfl:=hu.fO;exact ⟨rfl,fun n=>by cases n<;>simp [Instr.sameBits]⟩
 .cases hv with
  |str s _ h1=>cases hu with
   |str s' _ h2=>
    have e:s=s':=ByteArray.ext (Array.toList_inj.1 (h1.trans h2.symm));subst e;refine ⟨rfl,fun n=>?_⟩;have:(s == s)=true:=(by rw [acf]);cases n<;>simpa [Instr.sameBits] using this
 .cases h
theorem af5 {a:AV}{v u:Value}(h:aif a=true)(hv:Rep w E a v)(hu:Rep w E a u):Instr.sameBits 10000 v u=true:=by
 unfold aif at h;split at h
 .rename_i cs;cases hv with
  |agg _ vs hl _ hr=>cases hu with
   |agg _ us hl' _ hr'=>
    simp only [Instr.sameBits,ak,beq_iff_eq,aF];refine ⟨by omega,fun p hp=>?_⟩;obtain ⟨i,hi⟩:=bF.1 hp;rw [List.getElem?_zip_eq_some] at hi;obtain ⟨hi1,hi2⟩:=hi;have hlt:i<cs.length:=(by have:=(aA.1 hi1).1;simp at this;omega);have hc:cs[i]?=some cs[i]:=(by simp [hlt]);exact (aeB (aF.1 h _ (List.getElem_mem hlt)) (hr i _ _ hc (by simpa using hi1)) (hr' i _ _ hc (by simpa using hi2))).2 _
 .exact (aeB h hv hu).2 _
theorem V3 (hh:dM base w E ah F){b c:Nat}{es es':List (AV×AV)}(hb:ah b=some (.map es))(ho:E.own b=.at c 0){jX af6:Array MapEntry}{clock clock':Nat}
  (hc:w.heap[c]?=some (.map jX clock)) (hm:Lj w E es' af6 clock') :
  Step base w E {w with heap:=w.heap.setIfInBounds c (.map af6 clock')} E/\dM base {w with heap:=w.heap.setIfInBounds c (.map af6 clock')} E (upd ah b (some (.map es'))) F:=by
 obtain ⟨hlt,hbase,hnf⟩:=(hh.blk b _ hb).lt ho;obtain ⟨g1,g2⟩:=Dt (o':=Obj.map af6 clock') hc;have hx:Ext w E {w with heap:=w.heap.setIfInBounds c (.map af6 clock')} E:=by
  refine ⟨fun _ _ h=>h,fun c' off h=>?_,fun _ _=>rfl,fun c' ar t fz h=>?_⟩
  .have:c'≠c:=fun e=>hnf off (e▸h);simp only [World.cell?];rw [g2 c' this]
  .have:c'≠c:=fun e=>by subst e;rw [hc] at h;cases h
   exact ⟨ar,fz,by show (w.heap.setIfInBounds c _)[c']?=_;rw [g2 c' this];exact h,rfl⟩
 refine ⟨⟨hx,⟨rfl,rfl,rfl,by simp,fun j hj=>g2 j (by omega)⟩,fun _ _ _ h=>h,fun c' _ hno=>g2 c' (fun e=>hno b 0 (e▸ho)),fun b c o h _=>⟨b,o,h⟩,fun _ _ h _=>.inl h⟩,?_⟩;refine ⟨fun b' k' hb'=>?_,fun b1 b2 k1 k2 c1 o1 c2 o2 hne h1 h2 h3 h4=>?_,hh.fresh,fun c' off h=>?_,by simpa using hh.bs,fun b c o h=>by simpa using hh.je b c o h⟩
 .by_cases e:b'=b
  .subst e;rw [gX rfl] at hb';cases hb';exact ⟨c,af6,clock',ho,hbase,hnf,g1,hm.mono hx⟩
  .rw [ayp e] at hb';exact (hh.blk b' k' hb').keep hx (fun c' o' ho'=>g2 c' (fun ec=>hh.sep b' b k' _ c' o' c 0 e hb' hb ho' ho ec)) (fun _ _ _ _ h=>h)
 .have q1:∃k,ah b1=some k:=by
   by_cases e:b1=b
   .exact ⟨_,e▸hb⟩
   .rw [ayp e] at h1;exact ⟨k1,h1⟩
  have q2:∃k,ah b2=some k:=by
   by_cases e:b2=b
   .exact ⟨_,e▸hb⟩
   .rw [ayp e] at h2;exact ⟨k2,h2⟩
  obtain ⟨p1,q1⟩:=q1;obtain ⟨p2,q2⟩:=q2;exact hh.sep b1 b2 p1 p2 c1 o1 c2 o2 hne q1 q2 h3 h4
 .have:=hh.iY c' off h;simpa using this
theorem RI (hh:dM base w E ah F){t:TypeId}{m k v:AV}{vm vk vv:Value}(h:BJ P ah t m k v K)(hm:Rep w E m vm)(hk:Rep w E k vk)(hv:Rep w E v vv) :
  ∃r w' E',K r/\(Instr.mapUpdate t vm vk vv).run P w=.ok () w'/\Step base w E w' E'/\dM base w' E' (lZ ah r.wr) (fun b=>F b/\b≠id)/\r.v=.p undef:=by
 unfold BJ at h;split at h
 .rename_i kt et hu;obtain ⟨hkey,hbit,h⟩:=h;obtain ⟨d,hd⟩:∃d,P.underlying kt=some d:=by
   unfold Ap at hkey;cases e:P.underlying kt with
   |none=>simp [e] at hkey|some d=>exact ⟨d,rfl⟩
  unfold ael at h;split at h
  .rename_i b;split at h
   .rename_i es hb;obtain ⟨r,hr,hsame,hK⟩:=dG.1 h;obtain ⟨cc,jX,clock,h1,h2,h3,h4,h5⟩:=hh.blk b _ hb;cases hm with|mp _ c' hc'=>
    rw [h1] at hc';cases hc';obtain ⟨o,ho,hf⟩:=Pv (P:=P) (w:=w) (E:=E) hd hk h5.ents hr;have hget:(getObj cc).run P w=.ok (.map jX clock) w:=(by simp [getObj,Sem.run,h4]);obtain ⟨m1,m2,m3⟩:=h5;cases r with
    |none=>
     cases o with
     |some o=>exact hf.elim|none=>
      have hm':Lj w E (es++[(k,v)]) (jX.push ⟨vk,vv,clock⟩) (clock+1):=by
       refine ⟨by simp [m1],fun i e ce hi hc=>?_,by simp [m3.1],fun i a ha=>?_⟩
       .rw [List.getElem?_append] at hi;rw [Array.getElem?_push] at hc;split at hi
        .rename_i hlt;rw [if_neg (by omega)] at hc;obtain ⟨q1,q2,q3⟩:=m2 i e ce hi hc;exact ⟨q1,q2,by omega⟩
        .rename_i hge;have hlt:=(aA.1 hi).1;simp at hlt;have ei:i=jX.size:=(by omega);rw [if_pos ei] at hc;cases hc;have e0:i-es.length=0:=(by omega);rw [e0] at hi;simp at hi;subst hi;exact ⟨hk,hv,by simp⟩
       .rw [Array.getElem?_push] at ha;split at ha
        .rename_i ei;cases ha;rw [ei];exact m3.1
        .exact m3.2 i a ha
      obtain ⟨s1,s2⟩:=V3 hh hb h1 h4 hm';refine ⟨_,_,E,hK,?_,s1,s2.weaken (fun b h=>h.1),rfl⟩;simp [Instr.mapUpdate,run_underlying hu,hget,Dq hkey hk,ho,FU _ h4]
    |some q=>
     obtain ⟨i,a⟩:=q;cases o with
     |none=>exact hf.elim|some o=>
      obtain ⟨j,u⟩:=o;obtain ⟨e1,e2,ce,e3,e4⟩:=hf;have ej:j=i:=(by omega);subst ej;have hlt:j<jX.size:=(by simpa using (aA.1 e3).1);have e3':jX[j]?=some ce:=(by simpa using e3);have hkk:Rep w E k ce.key:=by
       have:=hsame _ rfl;simp only [ay] at this;obtain ⟨e,g1,g2⟩:=this;have:=(m2 j e ce g1 e3').1
       rwa [g2] at this
      have hsb:Instr.sameBits 10000 ce.key vk=true:=af5 hbit hkk hk;have hm':Lj w E (es.set j (k,v)) (jX.modify j fun e=>{e with key:=vk,val:=vv}) clock:=by
       refine ⟨by simp [m1],fun i e ce hi hc=>?_,by simp [m3.1],fun i a ha=>?_⟩
       .rw [List.getElem?_set] at hi;rw [Array.getElem?_modify] at hc;split at hi
        .rename_i eij;rw [if_pos eij] at hc;subst eij;split at hi
         .cases hi;rw [e3'] at hc;simp at hc;subst hc;exact ⟨hk,hv,(m2 j es[j] _ (by simp [m1,hlt]) e3').2.2⟩
         .cases hi
        .rename_i eij;rw [if_neg eij] at hc;exact m2 i e ce hi hc
       .have born:∀(i:Nat) (a:MapEntry),(jX.modify j fun e=>{e with key:=vk,val:=vv})[i]?=some a->∃a',jX[i]?=some a'/\a'.born=a.born:=by
         intro i a h;rw [Array.getElem?_modify] at h;split at h
         .simp only [ay] at h;obtain ⟨a',g1,g2⟩:=h;exact ⟨a',g1,by rw [<- g2]⟩
         .exact ⟨a,h,rfl⟩
        obtain ⟨a',g1,g2⟩:=born i a ha;rw [<- g2];exact m3.2 i a' g1
      obtain ⟨s1,s2⟩:=V3 hh hb h1 h4 hm';refine ⟨_,_,E,hK,?_,s1,s2.weaken (fun b h=>h.1),rfl⟩;have eg:((jX[j]?).map (·.key)).getD vk=ce.key:=(by rw [e3'];rfl);simp [Instr.mapUpdate,run_underlying hu,hget,Dq hkey hk,ho,FU _ h4,Instr.keyThatStays,eg,hsb]
   .exact h.elim
  .exact h.elim
 .exact h.elim
end
end
end Go.Fw
end
section
namespace Go.Fw
variable [iT]
section
variable {P : Program} {base:Nat} {w w':World} {E E':Env} {ah:AH} {F:Nat->Prop} {K:mP->Prop} {id:Nat}
theorem vN.take {c o n rows}(h:vN w E c o n rows)(m:Nat):vN w E c o n (rows.take m):=fun i row j x hi hj=>by
 rw [bH] at hi;split at hi
 .exact h i row j x hi hj
 .cases hi
theorem Zx (hh:dM base w E ah F){n:Nat}(hn:0<n){y:AV}{vy:Value}{k:List (List AV)->List Nat->Prop}(h:ayB ah n y k)(hy:Rep w E y vy) :
  ∃ys rd,k ys rd/\(Builtin.lenOf vy).run P w=.ok ys.length w/\
   (∀m,m<=ys.length->∃news,(Builtin.firstCells n m vy).run P w=.ok news.toArray w/\fG w E (ys.take m).flatten news)/\
   (∀row∈ys,row.length=n)/\(∀row∈ys,∀x∈row,x.iL=true):=by
 cases y with
 |sl rows full=>
  obtain ⟨hr,hk⟩:=h;cases hy with
  |slnil _ a=>exact ⟨[],[],hk,rfl,fun m hm=>by
    obtain rfl:m=0:=by simpa using hm
    exact ⟨[],by cases a<;>simp [Builtin.firstCells,loadCells,loadCellsFrom],fG.nil⟩,by simp,by simp⟩
  |sl _ _ sz c o cap g hcap hfull hsz hfix hcell iQ hrep=>
   have hsz':∀(i:Nat) (row:List AV),rows[i]?=some row->sz=n:=fun i row hi=>by rw [<- hsz i row hi];exact hr row (aG hi)
   have hC:vN w E c o n rows:=fun i row j x hi hj=>by
    have e:=hsz' i row hi;subst e;exact ⟨g i j,hcell i row j x hi hj,hrep i row j x hi hj⟩
   refine ⟨rows,[],hk,rfl,fun m hm=>?_,hr,iQ⟩;obtain ⟨news,h1,h2⟩:=vN.load (P:=P) (w:=w) (E:=E) (c:=c) (o:=o) hn (fun row hrow=>hr row (bJ hrow)) (hC.take m);have e:(rows.take m).length=m:=(by simp;omega);rw [e] at h1;exact ⟨news,h1,h2⟩
 |os b sz off len=>
  obtain ⟨rfl,h⟩:=h;split at h
  .rename_i sz' rs hab;obtain ⟨rfl,hle,hk⟩:=h;have hlen:((rs.drop off).take len).length=len:=(by simp;omega);cases hy with
   |kM=>
    refine ⟨(rs.drop off).take 0,[b],hk,rfl,fun m hm=>?_,by simp,by simp⟩;obtain rfl:m=0:=by simpa using hm
    refine ⟨[],?_,by simp;exact fG.nil⟩;cases ‹Option Addr› with
    |none=>rfl|some a=>simp [Builtin.firstCells,loadCells,loadCellsFrom]
   |os _ _ _ _ c o cap hb hcap hsize=>
    rcases hh.blk b _ hab with ⟨h0,-⟩|⟨c',o',arr,tt,h1,h2,h3,h4,h5⟩
    .rw [hb] at h0;cases h0
    .rw [hb] at h1;cases h1;have hget:∀(i:Nat) (row:List AV),((rs.drop off).take len)[i]?=some row->rs[off+i]?=some row:=fun i row hr=>by
      rw [bH] at hr;split at hr
      .simpa using hr
      .cases hr
     have hr:∀row∈(rs.drop off).take len,row.length=sz:=fun row hm=>by
      obtain ⟨i,hi⟩:=bF.1 hm;exact h5.2.1 _ row (hget i row hi)
     have hC:vN w E c (o+off*sz) sz ((rs.drop off).take len):=fun i row j x hi hj=>by
      obtain ⟨v,hv,hx⟩:=h5.2.2.2 _ row j x (hget i row hi) hj;refine ⟨v,?_,hx⟩;rw [cell_of_row w c _ arr tt _ h4,<- hv];congr 1;rw [bQ];omega
     refine ⟨(rs.drop off).take len,[b],hk,by rw [hlen];rfl,fun m hm=>?_,hr,fun row hm x hx=>h5.2.2.1 row (List.mem_of_mem_drop (bJ hm)) x hx⟩;obtain ⟨news,g1,g2⟩:=vN.load (P:=P) (w:=w) (E:=E) (c:=c) (o:=o+off*sz) hn (fun row hrow=>hr row (bJ hrow)) (hC.take m);have e:(((rs.drop off).take len).take m).length=m:=(by rw [List.length_take];omega);rw [e] at g1;exact ⟨news,g1,g2⟩
  .exact h.elim
 |str s=>
  obtain ⟨rfl,hk⟩:=h;cases hy with|str b _ hb=>
  subst hb;refine ⟨_,_,hk,by simp [Builtin.lenOf],fun m hm=>?_,by simp,by simp [AV.iL]⟩;refine ⟨(b.data.toList.take m).map fun x=>.int .u8 x.toNat,?_,?_⟩
  .have e:(b.extract 0 m).data.toList=b.data.toList.take m:=(by simp);simp only [Builtin.firstCells,Sem.run_pure];congr 1;apply Array.ext';rw [Array.toList_map,e]
  .have e:∀l:List UInt8,(l.map fun x=>[AV.p (.int .u8 x.toNat)]).flatten=l.map fun x=>AV.p (.int .u8 x.toNat):=by
    intro l;induction l with
    |nil=>rfl|cons x l ih=>simp [ih]
   rw [<- List.map_take,e];refine ⟨by simp,fun i x v hx hv=>?_⟩;simp only [bP,ay] at hx hv;obtain ⟨u,hu,rfl⟩:=hx;obtain ⟨u',hu',rfl⟩:=hv;rw [hu] at hu';cases hu';exact .p rfl
 |_=>exact h.elim
theorem V4 (hh:dM base w E ah F){b sz off len:Nat}{rs ys:List (List AV)}{c o cap:Nat}(hn:0<sz)(hab:ah b=some (.rows sz rs))(hb:E.own b=.at c o)(hle:off+len<=rs.length)
  {m:Nat} (hm:m<=len) (hyl:ys.length=m) {news:List Value} (hr2:fG w E ys.flatten news) (hyr:∀row∈ys,row.length=sz) (hys:∀row∈ys,∀x∈row,x.iL=true) :
  ∃w',(storeCells ⟨c,o+off*sz,none⟩ news 0).run P w=.ok () w'/\Step base w E w' E/\dM base w' E (upd ah b (some (.rows sz (rs.take off++ys++rs.drop (off+m))))) F:=by
 rcases hh.blk b _ hab with ⟨h0,-⟩|⟨c',o',arr,tt,h1,h2,h3,h4,h5⟩
 .rw [hb] at h0;cases h0
 .rw [hb] at h1;cases h1;have hnl:news.length=m*sz:=by rw [<- hr2.1,(nY hn hyr).1,hyl]
  have hm1:(off+m)*sz<=rs.length*sz:=bU _ (by omega);have h51:=h5.1;have Zp:o+off*sz+news.length<=arr.size:=by rw [bQ] at hm1;omega
  have hone:∀u∈news,u.oneCell'=true:=fun u hu=>by
   obtain ⟨j,hj⟩:=bF.1 hu;have hlt:=(aA.1 hj).1;rw [<- hr2.1] at hlt;have hmem:ys.flatten[j]∈ys.flatten:=(by simp);obtain ⟨row,hrow,apl⟩:=List.mem_flatten.1 hmem;exact (hr2.2 j ys.flatten[j] u (by simp [hlt]) hj).one (hys row hrow _ apl)
  have hst:=run_storeCells_at P c (o+off*sz) tt news 0 arr w h4 (by simpa using Zp) hone;simp only [Nat.add_zero] at hst;obtain ⟨Gh,harr⟩:∃Gh,Gh=(arr.toList.take (o+off*sz)++news++arr.toList.drop (o+off*sz+news.length)).toArray:=⟨_,rfl⟩;rw [<- harr] at hst;have hsz:Gh.size=arr.size:=by rw [harr];simp;omega
  have hget:=XL Zp;rw [<- harr] at hget;have hrows:RowsIn w E Gh o sz (rs.take off++ys++rs.drop (off+m)):=by
   have key:∀(i:Nat) (row:List AV),(rs.take off++ys++rs.drop (off+m))[i]?=some row->(off<=i/\i<off+m/\ys[i-off]?=some row)\/((i<off\/off+m<=i)/\rs[i]?=some row):=by
    intro i row h;have e1:(rs.take off).length=off:=(by simp;omega);rw [cZ,List.getElem?_append] at h;split at h
    .rename_i hlt;rw [bH] at h;split at h
     .exact .inr ⟨.inl (by omega),h⟩
     .cases h
    .rename_i hge;rw [e1] at h hge;rw [List.getElem?_append] at h;split at h
     .exact .inl ⟨by omega,by omega,h⟩
     .rw [List.getElem?_drop] at h;refine .inr ⟨.inr (by omega),?_⟩;rw [<- h];congr 1;omega
   refine ⟨?_,fun i row hi=>?_,fun row hr x hx=>?_,fun i row j x hi hj=>?_⟩
   .rw [hsz];have:(rs.take off++ys++rs.drop (off+m)).length=rs.length:=(by simp [hyl];omega);rw [this];exact h51
   .rcases key i row hi with ⟨_,_,h⟩|⟨_,h⟩
    .exact hyr row (aG h)
    .exact h5.2.1 i row h
   .rcases aH.1 hr with hr|hr
    .rcases aH.1 hr with hr|hr
     .exact h5.2.2.1 row (bJ hr) x hx
     .exact hys row hr x hx
    .exact h5.2.2.1 row (List.mem_of_mem_drop hr) x hx
   .rcases key i row hi with ⟨q1,q2,h⟩|⟨q,h⟩
    .have hj':j<sz:=(by have:=(aA.1 hj).1;rw [hyr row (aG h)] at this;exact this);have hjj:(i-off)*sz+j<m*sz:=by
      have:(i-off+1)*sz<=m*sz:=bU _ (by omega);rw [bQ] at this;omega
     have e2:i*sz=off*sz+(i-off)*sz:=(by rw [<- bQ];congr 1;omega);have hfl:ys.flatten[(i-off)*sz+j]?=some x:=by
      obtain ⟨_,g⟩:=nY hn hyr;obtain ⟨row',x',g1,g2,g3⟩:=g ((i-off)*sz+j) (by rw [hyl];exact hjj);have d1:((i-off)*sz+j) / sz=i-off:=(by rw [Nat.mul_comm,Nat.mul_add_div hn,Nat.div_eq_of_lt hj'];omega);have d2:((i-off)*sz+j) % sz=j:=(by rw [Nat.mul_comm,Nat.mul_add_mod,Nat.mod_eq_of_lt hj']);rw [d1,h] at g1;cases g1;rw [d2,hj] at g2;cases g2;exact g3
     have hv:news[(i-off)*sz+j]?=some news[(i-off)*sz+j]!:=by
      have:(i-off)*sz+j<news.length:=(by omega);simp [this]
     refine ⟨news[(i-off)*sz+j]!,?_,hr2.2 _ _ _ hfl hv⟩;rw [hget,if_pos (by omega),<- hv];congr 1;omega
    .obtain ⟨v,hv,hx⟩:=h5.2.2.2 i row j x h hj;refine ⟨v,?_,hx⟩;have hjl:=(aA.1 hj).1;rw [h5.2.1 i row h] at hjl;have:¬(o+off*sz<=o+i*sz+j/\o+i*sz+j<o+off*sz+news.length):=by
      rintro ⟨a1,a2⟩;rcases q with q|q
      .have:(i+1)*sz<=off*sz:=bU _ (by omega);rw [bQ] at this;omega
      .have:(off+m)*sz<=i*sz:=bU _ q;rw [bQ] at this;omega
     rw [hget,if_neg this];exact hv
  exact ⟨w.setRow c Gh,hst,EG hh hab hb h4 hsz,EH hh hab hb h4 hsz hrows⟩
theorem ais (hh:dM base w E ah F){t ty:TypeId}{x y:AV}{vx vy:Value}{ts:Array TypeId}(ht:ts[0]?=some t)(h:VO P ah t x y K)(hx:Rep w E x vx)(hy:Rep w E y vy) :
  GR P base w E ah F id (Builtin.copy_ ts ty #[vx,vy]) K:=by
 obtain ⟨e,he,hne,h⟩:=dG.1 h;obtain ⟨el,inf,hu,hi,rfl⟩:=uJ he;have hn:0<inf.size:=Nat.pos_of_ne_zero hne;obtain ⟨ys,rd,h,gl,gf,gr,gs⟩:=Zx (P:=P) hh hn h hy;have run:∀(a:Option Addr) (dl cap:Nat) (news:List Value) (w1:World),(Builtin.firstCells inf.size (min ys.length dl) vy).run P w=.ok news.toArray w->
   (∀b,a=some b->(storeCells b news 0).run P w=.ok () w1)->(a=none->w1=w)->(Builtin.copy_ ts ty #[.slice a dl cap,vy]).run P w=.ok (.int .i64 (min ys.length dl:Nat)) w1:=by
  intro a dl cap news w1 h1 h2 h3;cases a with
  |none=>
   obtain rfl:=h3 rfl;simp [Builtin.copy_,ht,run_underlying hu,gl,sizeOf,typeInfo,hi,Nat.min_def,goInt] at h1 ⊢;simp [h1]
  |some b=>
   have h2:=h2 b rfl;simp [Builtin.copy_,ht,run_underlying hu,gl,sizeOf,typeInfo,hi,Nat.min_def,goInt] at h1 ⊢;simp [h1,h2]
 cases x with
 |sl rows full=>
  cases rows with
  |cons r l=>exact h.elim|nil=>
   obtain ⟨news,n1,n2⟩:=gf 0 (dB _);have hn0:news=[]:=(by have:=n2.1;simp at this;exact List.eq_nil_of_length_eq_zero this.symm);subst hn0;have gen:∀a cap,vx=.slice a 0 cap->GR P base w E ah F id (Builtin.copy_ ts ty #[vx,vy]) K:=by
    intro a cap e;subst e;refine tH.wr hh ⟨_,.int .i64 0,h,rfl,?_,.p rfl⟩;have:=run a 0 cap [] w (by rw [Nat.min_zero];exact n1) (fun b hb=>by simp [storeCells]) (fun _=>rfl);simpa using this
   cases hx with
   |slnil _ a=>exact gen a 0 rfl|sl _ _ sz c o cap g hcap hfull=>exact gen _ cap rfl
 |os b sz off len=>
  obtain ⟨rfl,h⟩:=h;split at h
  .rename_i sz' rs hab;obtain ⟨rfl,hle,hK⟩:=h;cases hx with
   |kM _ _ _ a hb=>
    obtain ⟨news,n1,n2⟩:=gf 0 (dB _);have hn0:news=[]:=(by have:=n2.1;simp at this;exact List.eq_nil_of_length_eq_zero this.symm);subst hn0;refine ⟨_,.int .i64 0,w,E,hK,?_,Step.refl _ _ _,?_,?_⟩
    .have:=run a 0 0 [] w (by rw [Nat.min_zero];exact n1) (fun b hb=>by simp [storeCells]) (fun _=>rfl);simpa using this
    .have e:(rs.take off++ys.take 0++rs.drop (off+min ys.length 0))=rs:=(by simp);show dM base w E (upd ah b _) _;rw [e];have e2:upd ah b (some (.rows inf.size rs))=ah:=by
      funext j;unfold upd;split
      .rename_i e;rw [e,hab]
      .rfl
     rw [e2];exact hh.weaken fun _ h=>h.1
    .simp;exact .p rfl
   |os _ _ _ _ c o cap hb hcap hsize=>
    obtain ⟨news,n1,n2⟩:=gf (min ys.length len) (Nat.min_le_left _ _);have et:ys.take (min ys.length len)=ys.take len:=by
     rw [List.take_eq_take_iff];omega
    rw [et] at n2;obtain ⟨w1,s1,s2,s3⟩:=V4 (P:=P) (cap:=cap) hh (m:=min ys.length len) hn hab hb hle (Nat.min_le_right _ _) (by simp;omega) n2
     (fun row hr=>gr row (bJ hr)) (fun row hr=>gs row (bJ hr))
    exact ⟨_,_,w1,E,hK,run _ len cap news w1 n1 (fun b' hb'=>by cases hb';exact s1) (fun e=>by cases e),s2,s3.weaken (fun _ h=>h.1),.p rfl⟩
  .exact h.elim
 |_=>exact h.elim
theorem RJ (hh:dM base w E ah F){t x lo hi mx vx vlo vhi NG}(h:BG P ah t x lo hi mx K)(hx:Rep w E x vx)(hlo:NM w E lo vlo)(hhi:NM w E hi vhi)(hmx:NM w E mx NG) :
  tH P w E (Instr.sliceAt t vx vlo vhi NG) K:=by
 cases x with
 |op b sz i off=>
  obtain ⟨e,he,hsz,hoff,hbig,h9⟩:=dG.1 h;clear h;obtain ⟨n,el,ty,hua,hty,rfl⟩:=BK he;obtain ⟨-,hs,-⟩:=yJ hty w;simp only at hsz hbig;subst hoff;revert h9;cases hab:ah b with
  |none=>intro h;exact h.elim|some kk=>
  cases kk with
  |map es=>intro h;exact h.elim|it m n k=>intro h;exact h.elim|iD ty sz rs=>intro h;exact h.elim|rows sz' rs=>
   intro h;obtain ⟨rfl,hle,hb,h⟩:=h;obtain ⟨l,h,hl0,hl⟩:=rE (P:=P) h hlo;obtain ⟨j,h,hj0,hj⟩:=rE (P:=P) h hhi;obtain ⟨m,h,hm0,hm⟩:=rE (P:=P) h hmx;obtain ⟨hlj,hjm,hml,hK⟩:=h;have hbb:NG.isSome=true->vhi.isSome=true:=(by rw [<- hmx.isSome,<- hhi.isSome];exact hb);cases hx with
   |op _ _ _ _ c o Zm=>
    have hs0:=nS (P:=P) (w:=w) (isS:=false) (len:=n) (cap:=n) (l:=l) (h:=j) (m:=m) (lo:=vlo) (hi:=vhi) (mx:=NG) hlj hjm (by omega) hl0 hl hj0 hj hm hbb;have hmn:(if NG.isSome=true then m else n)>=j/\(if NG.isSome=true then m else n)<=n:=by split<;>omega
    generalize hM:(if NG.isSome=true then m else n)=M at hs0 hmn;refine ⟨_,.slice (some (if M=l then (⟨c,o+i*sz+0,none⟩:Addr) else (⟨c,o+i*sz+0,none⟩:Addr).add (l*sz))) (j-l) (M-l),hK,rfl,?_,?_⟩
    .simp only [Instr.sliceAt,Instr.sureAddr,Sem.run_bind,run_underlying hua,Result.andThen_ok,Sem.run_pure,hs0,hs];subst hsz;by_cases e:M=l<;>simp [e]
    .by_cases e:M=l
     .rw [if_pos e];have e1:j-l=0:=(by omega);have e2:M-l=0:=(by omega);rw [e1,e2];exact .kM b sz (i+l) _ (by rw [Zm];simp)
     .rw [if_neg e];rcases hh.blk b _ hab with ⟨h0,-⟩|⟨c',o',arr,tt,q1,q2,q3,q4,q5,q6⟩
      .rw [Zm] at h0;cases h0
      .rw [Zm] at q1;cases q1;have:=Rep.os (w:=w) (E:=E) b sz (i+l) (j-l) c o (M-l) Zm ⟨by omega,by omega⟩ ⟨arr,tt,_,q4,by
        have:(i+l+(M-l))*sz<=rs.length*sz:=bU _ (by omega);omega⟩
       rw [show o+(i+l)*sz=o+i*sz+0+l*sz by rw [bQ];omega] at this;simpa [Addr.add_lit] using this
 |_=>unfold BG at h;exact afW h hx hlo hhi hmx
theorem af7 (hh:dM base w E ah F){t ty:TypeId}{x:AV}{vx:Value}{ts:Array TypeId}(ht:ts[0]?=some t)(h:Ri P ah t x K)(hx:Rep w E x vx) :
  GR P base w E ah F id (Builtin.clear_ ts ty #[vx]) K:=by
 obtain ⟨e,he,hne,h⟩:=dG.1 h;obtain ⟨z,hz0,hzl,h⟩:=dG.1 h;obtain ⟨el,inf,hu,hi,rfl⟩:=uJ he;rw [hu] at hz0;have hz:ays P el=some z:=hz0;have hzl:z.length=inf.size:=hzl;have hn:0<inf.size:=Nat.pos_of_ne_zero hne;obtain ⟨zv,Zo,hzc,hzs⟩:=rF (w:=w) (E:=E) hz;have rt:∀{w' E'},Rep w' E' (.gW []) (.tuple #[]):=.gW [] #[] rfl (fun i c v h=>by simp at h);cases x with
 |os b sz off len=>
  obtain ⟨rfl,h⟩:=h;split at h
  .rename_i sz' rs hab;obtain ⟨rfl,hle,hK⟩:=h;have same:len=0->∀a cap,vx=.slice a 0 cap->GR P base w E ah F id (Builtin.clear_ ts ty #[vx]) K:=by
    intro e a cap ev;subst e;subst ev;refine ⟨_,.tuple #[],w,E,hK,?_,Step.refl _ _ _,?_,rt⟩
    .cases a<;>simp [Builtin.clear_,ht,run_underlying hu]
    .have e:(rs.take off++List.replicate 0 z++rs.drop (off+0))=rs:=(by simp);show dM base w E (upd ah b _) _;rw [e];have e2:upd ah b (some (.rows inf.size rs))=ah:=by
      funext j;unfold upd;split
      .rename_i e;rw [e,hab]
      .rfl
     rw [e2];exact hh.weaken fun _ h=>h.1
   cases hx with
   |kM _ _ _ a hb=>exact same rfl a 0 rfl|os _ _ _ _ c o cap hb hcap hsize=>
    by_cases e0:len=0
    .exact same e0 _ cap (by rw [e0])
    .have EI:=NR hzc len;rw [hzl] at EI;have hzv:zv.cells.size=inf.size:=(by rw [<- hzl,hzc.1];simp);have atP:Builtin.zeroCells zv.cells len=(Array.range (len*inf.size)).map (fun i=>zv.cells[i % zv.cells.size]!):=(by unfold Builtin.zeroCells;rw [hzv]);rw [<- atP] at EI;obtain ⟨w1,s1,s2,s3⟩:=V4 (P:=P) (cap:=cap) hh (m:=len) (ys:=List.replicate len z) hn hab hb hle (dD _) (by simp) EI
      (fun row hr=>by rw [(List.mem_replicate.1 hr).2];exact hzl) (fun row hr=>by rw [(List.mem_replicate.1 hr).2];exact hzs)
     refine ⟨_,.tuple #[],w1,E,hK,?_,s2,s3.weaken (fun _ h=>h.1),rt⟩;cases len with
     |zero=>exact absurd rfl e0|succ n=>simp [Builtin.clear_,ht,run_underlying hu,Zo,s1]
  .exact h.elim
 |_=>exact h.elim
theorem Py {t:TypeId}{x:AV}{vx:Value}(h:GN P t x K)(hx:Rep w E x vx):tH P w E (Instr.makeInterface t vx) K:=by
 obtain ⟨h0,hK⟩:=h;refine ⟨_,.iface t vx,hK,rfl,?_,.kY t x vx hx⟩;split at h0
 .exact h0.elim
 .exact h0.elim
 .rename_i d h1 h2;cases hu:P.underlying t with
  |none=>exact (h2 hu).elim|some d=>
   cases d with
   |interface l=>exact (h1 l hu).elim|_=>simp [Instr.makeInterface,run_underlying hu]
theorem Lr {x:AV}{vx:Value}(h:xq x K)(hx:Rep w E x vx):K (.val x)/\((∃a,vx=.pointer (some a))\/∃f a b,vx=.func (.func f) a b):=by
 unfold xq at h;split at h
 .cases hx;exact ⟨h,.inl ⟨_,rfl⟩⟩
 .cases hx;exact ⟨h,.inl ⟨_,rfl⟩⟩
 .cases hx;exact ⟨h,.inr ⟨_,_,_,rfl⟩⟩
 .exact h.elim
theorem XP {d:TypeDesc}(h:EC d=none):∀l,d≠.interface l:=by
 intro l e;subst e;cases h
theorem XQ {d:TypeDesc}{l:Array (String×TypeId)}(h:EC d=some l):d=.interface l:=by
 cases d<;>simp [EC] at h;subst h;rfl
theorem RN {x:AV}{xt a:TypeId}{c:Bool}{vx:Value}(h:ED P x a c K)(hx:Rep w E x vx):tH P w E (Instr.typeAssert vx xt a c) K:=by
 unfold ED at h;rw [dG] at h;obtain ⟨d,hu,h⟩:=h;unfold aAs at h;split at h
 .rename_i want t v hd;have:=XQ hd;subst this;obtain ⟨i,hi,hm,hK⟩:=dG.1 h;cases hx with|kY _ _ vv hv=>
  refine ⟨_,_,hK,rfl,?_,xA (.kY t v vv hv)⟩;simp [Instr.typeAssert,run_underlying hu,typeInfo,hi,hm]
 .rename_i t v hd;have hd:=XP hd;cases hx with|kY _ _ vv hv=>
  rcases h with ⟨e,h⟩|⟨e,rfl,h⟩
  .refine ⟨_,_,h,rfl,?_,xA hv⟩;cases d with
   |interface l=>exact (hd l rfl).elim|_=>simp [Instr.typeAssert,run_underlying hu,e]
  .obtain ⟨z,hz,hK⟩:=dG.1 h;obtain ⟨zv,Zo,hzv⟩:=J8 (w:=w) (E:=E) hz;refine ⟨_,.tuple #[zv,.bool false],hK,rfl,?_,xA (c:=true) (ok:=false) hzv⟩;cases d with
   |interface l=>exact (hd l rfl).elim|_=>simp [Instr.typeAssert,run_underlying hu,e,Zo]
 .obtain ⟨rfl,h⟩:=h;obtain ⟨z,hz,hK⟩:=dG.1 h;obtain rfl:=hx.fO;obtain ⟨zv,Zo,hzv⟩:=J8 (w:=w) (E:=E) hz;refine ⟨_,.tuple #[zv,.bool false],hK,rfl,?_,xA (c:=true) (ok:=false) hzv⟩;cases d<;>simp [Instr.typeAssert,run_underlying hu,Zo]
 .exact h.elim
theorem af8 {row:List AV}{b:UInt8}(h:ayD row=some b):row=[.p (.int .u8 b.toNat)]:=by
 unfold ayD at h;split at h
 .rename_i n;cases hd:decide (0<=n/\n<256) with
  |false=>simp [hd] at h|true=>
   have hn:=of_decide_eq_true hd;simp [hd] at h;subst h;congr 3;have:n.toNat<256:=(by omega);simp [UInt8.toNat_ofNat',Nat.mod_eq_of_lt this];omega
 .cases h
theorem RP {f:Value->ByteArray->Sem (ForInStep ByteArray)}(hf:∀(b:UInt8) (r:ByteArray),(f (.int .u8 b.toNat) r).run P w=.ok (.yield (r.push b)) w) :
  ∀(l:List UInt8) (vs:List Value) (s:ByteArray),vs=l.map (fun b=>Value.int .u8 b.toNat)->(forIn vs s f).run P w=.ok ⟨(s.data.toList++l).toArray⟩ w
 |[],vs,s,h=>by subst h;simp
 |b::l,vs,s,h=>by
  subst h;rw [aX,List.forIn_cons];simp only [Sem.run_bind,hf,Result.andThen_ok];rw [RP hf l _ (s.push b) rfl];congr 2;apply Array.ext';simp
theorem af9 (hh:dM base w E ah F){s d:TypeId}{x:AV}{vx:Value}(h:ab_ P ah s d x K)(hx:Rep w E x vx):tH P w E (convert s d vx) K:=by
 obtain ⟨hd,hs,hns,h⟩:=h;split at hs
 .rename_i e hsu;have hx0:=hx;obtain ⟨ys,rd,news,h,gl,gf,gr,gxr,gxs⟩:=Ru (P:=P) hh (by decide) h hx;obtain ⟨l,hl,hK⟩:=dG.1 h;have hys:∀(ys:List (List AV)) (l:List UInt8),ys.mapM ayD=some l->ys=l.map fun b=>[AV.p (.int .u8 b.toNat)]:=by
   intro ys;induction ys with
   |nil=>intro l h;simp at h;subst h;rfl|cons y ys ih=>
    intro l h;simp only [List.mapM_cons,Option.pure_def,Option.bind_eq_bind,aQ] at h;obtain ⟨b,hb,r,hr,he⟩:=h;cases he;rw [aX,<- ih r hr,af8 hb]
  have e1:=hys ys l hl;have hfl:∀l:List UInt8,(l.map fun b=>[AV.p (.int .u8 b.toNat)]).flatten=l.map fun b=>AV.p (.int .u8 b.toNat):=by
   intro l;induction l with
   |nil=>rfl|cons x l ih=>simp [ih]
  have e2:news=l.map fun b=>Value.int .u8 b.toNat:=by
   rw [e1,hfl] at gr;apply List.ext_getElem?;intro i;by_cases hi:i<l.length
   .have hlt:i<news.length:=(by have:=gr.1;simp at this;omega);have:=gr.2 i (.p (.int .u8 l[i].toNat)) news[i] (by simp [hi]) (by simp [hlt]);rw [aW hlt,this.fO];simp [hi]
   .have hlt:¬i<news.length:=(by have:=gr.1;simp at this;omega);simp [hi,hlt]
  have hlen:ys.length=l.length:=by rw [e1];simp
  refine ⟨_,.string ⟨l.toArray⟩,hK,rfl,?_,.str _ _ (by simp)⟩;have hsl:∃a n c,vx=.slice a n c:=by
   cases hx0 with
   |slnil f a=>exact ⟨_,_,_,rfl⟩|sl rows full sz c o cap g=>exact ⟨_,_,_,rfl⟩|kM=>exact ⟨_,_,_,rfl⟩|os=>exact ⟨_,_,_,rfl⟩|str=>exact hns.elim|p hp=>cases vx<;>simp [Gy] at hp<;>simp [Builtin.lenOf] at gl
   |_=>simp [Builtin.lenOf] at gl
  obtain ⟨a,n,c,rfl⟩:=hsl;have hn:n=ys.length:=by simpa [Builtin.lenOf] using gl
  subst hn;have hcv:convert s d (.slice a ys.length c)=convert s d (.slice a ys.length c):=rfl;cases a with
  |none=>
   have:l=[]:=by
    simp [Builtin.firstCells] at gf;have e3:news=[]:=gf;rw [e3] at e2;simpa using e2.symm
   subst this;simp [convert,run_underlying hsu,run_underlying hd,run_underlying hs,Conv.bytesToString];rfl
  |some ad=>
   simp only [Builtin.firstCells,Nat.mul_one] at gf;simp [convert,run_underlying hsu,run_underlying hd,run_underlying hs,Conv.bytesToString,gf,Sem.run_bind];rw [RP (P:=P) (w:=w) (fun b r=>by simp) l news .empty e2];simp
 .exact hs.elim
theorem Zy (hh:dM base w E ah F){s d:TypeId}{x:AV}{vx:Value}(h:Pn P ah s d x K)(hx:Rep w E x vx):tH P w E (convert s d vx) K:=by
 unfold Pn at h;split at h
 .exact af9 hh h hx
 .exact (Zl h hx).rd
end
end Go.Fw
end
section
namespace Go.Fw
variable [iT]
section
variable {P : Program} {base:Nat} {w w':World} {E E':Env} {ah:AH} {F:Nat->Prop} {K:mP->Prop} {id:Nat}
theorem af_ (hh:dM base w E ah F){b c:Nat}{k k':qO}(hb:ah b=some k)(ho:E.own b=.at c 0){o0 o1:Obj}(hc:w.heap[c]?=some o0)(hnc:∀arr t f,o0≠.cells arr t f)
  (hk:∀w',Ext w E w' E->w'.heap[c]?=some o1->nN base w' E b k') :
  Step base w E {w with heap:=w.heap.setIfInBounds c o1} E/\dM base {w with heap:=w.heap.setIfInBounds c o1} E (upd ah b (some k')) F:=by
 obtain ⟨hlt,hbase,hnf⟩:=(hh.blk b _ hb).lt ho;obtain ⟨g1,g2⟩:=Dt (o':=o1) hc;have hx:Ext w E {w with heap:=w.heap.setIfInBounds c o1} E:=by
  refine ⟨fun _ _ h=>h,fun c' off h=>?_,fun _ _=>rfl,fun c' ar t fz h=>?_⟩
  .have:c'≠c:=fun e=>hnf off (e▸h);simp only [World.cell?];rw [g2 c' this]
  .have:c'≠c:=fun e=>by subst e;rw [hc] at h;cases h;exact hnc _ _ _ rfl
   exact ⟨ar,fz,by show (w.heap.setIfInBounds c _)[c']?=_;rw [g2 c' this];exact h,rfl⟩
 refine ⟨⟨hx,⟨rfl,rfl,rfl,by simp,fun j hj=>g2 j (by omega)⟩,fun _ _ _ h=>h,fun c' _ hno=>g2 c' (fun e=>hno b 0 (e▸ho)),fun b c o h _=>⟨b,o,h⟩,fun _ _ h _=>.inl h⟩,?_⟩;refine ⟨fun b' k' hb'=>?_,fun b1 b2 k1 k2 c1 o1 c2 o2 hne h1 h2 h3 h4=>?_,hh.fresh,fun c' off h=>?_,by simpa using hh.bs,fun b c o h=>by simpa using hh.je b c o h⟩
 .by_cases e:b'=b
  .subst e;rw [gX rfl] at hb';cases hb';exact hk _ hx g1
  .rw [ayp e] at hb';exact (hh.blk b' k' hb').keep hx (fun c' o' ho'=>g2 c' (fun ec=>hh.sep b' b k' _ c' o' c 0 e hb' hb ho' ho ec)) (fun _ _ _ _ h=>h)
 .have q1:∃k,ah b1=some k:=by
   by_cases e:b1=b
   .exact ⟨_,e▸hb⟩
   .rw [ayp e] at h1;exact ⟨k1,h1⟩
  have q2:∃k,ah b2=some k:=by
   by_cases e:b2=b
   .exact ⟨_,e▸hb⟩
   .rw [ayp e] at h2;exact ⟨k2,h2⟩
  obtain ⟨p1,q1⟩:=q1;obtain ⟨p2,q2⟩:=q2;exact hh.sep b1 b2 p1 p2 c1 o1 c2 o2 hne q1 q2 h3 h4
 .have:=hh.iY c' off h;simpa using this
theorem aga (hh:dM base w E ah F)(hid:F id){t:TypeId}{m:AV}{vm:Value}(h:GK P ah id t m K)(hm:Rep w E m vm):GR P base w E ah F id (Instr.range t vm) K:=by
 unfold GK at h;split at h
 .rename_i kt et hu;split at h
  .rename_i b;split at h
   .rename_i es hb;cases hm with
    |mp _ c ho=>
     obtain ⟨c',jX,clock,g1,g2,g3,g4,g5⟩:=hh.blk b _ hb;rw [ho] at g1;cases g1;have hcl:clock=es.length:=(by rw [g5.2.2.1,g5.1]);subst hcl;have hne:b≠id:=fun e=>by subst e;have:=hh.fresh _ hid;rw [ho] at this;cases this
     obtain ⟨h1,h2⟩:=uT hh hid (.mapIter (some c) es.length #[] es.length) (.it b es.length 0) (fun w' E' hx hfix hoi hn=>
      ⟨w.heap.size,c,hoi,hh.bs,fun off hf=>by have:=hh.iY _ _ (hfix _ _ hf);omega,by rw [hn];rfl,by rw [hx.own b (by rw [ho];simp),ho]⟩)
     refine ⟨_,.pointer (some ⟨w.heap.size,0,none⟩),_,_,h,?_,h1,h2,?_⟩
     .have hg:(getObj c).run P w=.ok (.map jX es.length) w:=(by simp [getObj,Sem.run,g4]);simp [Instr.range,run_underlying hu,hg,run_newObj]
     .simpa using Rep.op (w:=w.alloc (.mapIter (some c) es.length #[] es.length)) (E:=E.set id (.at w.heap.size 0)) id 1 0 0 w.heap.size 0 (by simp [Env.set])
   .exact h.elim
  .exact h.elim
 .exact h.elim
theorem Pz {α:Type}{g:α->Nat}:∀(l:List α) (j k:Nat),(∀i a,l[i]?=some a->g a=j+i)->l.filter (fun a=>decide (k<=g a))=l.drop (k-j)
 |[],j,k,h=>by simp
 |a::r,j,k,h=>by
  have ha:=h 0 a rfl;have ih:=Pz (g:=g) r (j+1) k (fun i b hb=>by have:=h (i+1) b (by simpa using hb);omega);simp only [List.filter_cons];by_cases hk:k<=g a
  .rw [decide_eq_true hk];simp only [if_true];rw [ih];have e1:k-j=0:=(by omega);have e2:k-(j+1)=0:=(by omega);rw [e1,e2];rfl
  .rw [decide_eq_false hk];simp only [aP,if_false];rw [ih];have e1:k-j=(k-(j+1))+1:=(by omega);rw [e1];rfl
theorem azq {jX:Array MapEntry}(hb:∀(i:Nat) (a:MapEntry),jX[i]?=some a->a.born=i)(k:Nat):(jX.filter fun e=>!(Array.range k).contains e.born)=(jX.toList.drop k).toArray:=by
 apply Array.ext';rw [Array.toList_filter];have e:(fun e:MapEntry=>!(Array.range k).contains e.born)=fun e=>decide (k<=e.born):=by
  funext e;by_cases h:k<=e.born
  .simp [h]
  .simp [h];omega
 rw [e,Pz (g:=fun e:MapEntry=>e.born) jX.toList 0 k (fun i a h=>by simpa using hb i a (by simpa using h))];simp
theorem NW {α:Type}{g:α->Nat}:∀(l:List α) (j k:Nat),j<=k->(∀i a,l[i]?=some a->g a=j+i)->l.find? (fun a=>g a == k)=l[k-j]?
 |[],j,k,_,h=>by simp
 |a::r,j,k,hj,h=>by
  have ha:=h 0 a rfl;by_cases hk:g a=k
  .have e1:k-j=0:=(by omega);simp [List.find?_cons,hk,e1]
  .have ih:=NW (g:=g) r (j+1) k (by omega) (fun i b hb=>by have:=h (i+1) b (by simpa using hb);omega);have e1:k-j=(k-(j+1))+1:=(by omega);have e2:(g a == k)=false:=(by simpa using hk);rw [List.find?_cons,e2,e1];simpa using ih
theorem agb (hh:dM base w E ah F){it:AV}{vi:Value}(h:JX ah it K)(hi:Rep w E it vi):tH P w E (Instr.entry vi) K:=by
 unfold JX at h;split at h
 .rename_i q sz;split at h
  .rename_i b n k hq;unfold Ez at h;split at h
   .rename_i es hb;obtain ⟨hn,h⟩:=h;obtain ⟨e,he,hK⟩:=dG.1 h;obtain ⟨c,cm,g1,g2,g3,g4,g5⟩:=hh.blk q _ hq;obtain ⟨c',jX,clock,f1,f2,f3,f4,f5⟩:=hh.blk b _ hb;rw [g5] at f1;cases f1;obtain ⟨c0,o0,rfl,ho⟩:=hi.XJ;rw [g1] at ho;cases ho;obtain ⟨m1,m2,m3,m4⟩:=f5;have hcl:clock=n:=(by omega);subst hcl;have hgi:(getObj c).run P w=.ok (.mapIter (some cm) clock (Array.range (k+1)) clock) w:=(by simp [getObj,Sem.run,g4]);have hgm:(getObj cm).run P w=.ok (.map jX clock) w:=(by simp [getObj,Sem.run,f4]);have hlt:k<jX.size:=(by have:=(aA.1 he).1;omega);obtain ⟨ce,hce⟩:∃ce,jX[k]?=some ce:=⟨jX[k],by simp [hlt]⟩;obtain ⟨r1,r2,r3⟩:=m2 k e ce he hce;have hf:jX.find? (fun e=>e.born == k)=some ce:=by
     rw [<- Array.find?_toList,NW (g:=fun e:MapEntry=>e.born) jX.toList 0 k (dB _) (fun i a h=>by simpa using m4 i a (by simpa using h))];simpa using hce
    have hbk:(Array.range (k+1)).back?=some k:=(by simp [Array.back?]);refine ⟨_,.tuple #[ce.key,ce.val],hK,rfl,?_,?_⟩
    .simp only [Instr.entry,Nat.zero_mul,Nat.add_zero,Sem.run_bind,hgi,hgm,hbk,Result.andThen_ok];simp [hf,hgm,Result.andThen]
    .exact .gW _ _ rfl (fun i x y h1 h2=>by
      match i,h1,h2 with
      |0,h1,h2=>cases h1;cases h2;exact r1
      |1,h1,h2=>cases h1;cases h2;exact r2)
   .exact h.elim
  .exact h.elim
 .exact h.elim
theorem ait (hh:dM base w E ah F)(hid:F id){it:AV}{str:Bool}{vi:Value}{ty:TypeId}(h:Rh ah it str K)(hi:Rep w E it vi):GR P base w E ah F id (Instr.next vi str ty) K:=by
 unfold Rh at h;split at h
 .split at h
  .rename_i q sz;split at h
   .rename_i b n k hq;unfold GL at h;split at h
    .rename_i es hb;obtain ⟨hn,h⟩:=h;obtain ⟨c,cm,g1,g2,g3,g4,g5⟩:=hh.blk q _ hq;obtain ⟨c',jX,clock,f1,f2,f3,f4,f5⟩:=hh.blk b _ hb;rw [g5] at f1;cases f1;obtain ⟨c0,o0,rfl,ho⟩:=hi.XJ;rw [g1] at ho;cases ho;obtain ⟨m1,m2,m3,m4⟩:=f5;have hcl:clock=n:=(by omega);subst hcl;have hgi:(getObj c).run P w=.ok (.mapIter (some cm) clock (Array.range k) clock) w:=(by simp [getObj,Sem.run,g4]);have hgm:(getObj cm).run P w=.ok (.map jX clock) w:=(by simp [getObj,Sem.run,f4]);have hle:=azq m4 k;have hcond:(!(Array.range k).isEmpty&&!jX.isEmpty&&jX.all (·.born>=clock))=false:=by
      cases he:jX.isEmpty
      .have h0:0<jX.size:=by
        rcases Nat.eq_zero_or_pos jX.size with e|e
        .have:jX=#[]:=Array.eq_empty_of_size_eq_zero e;subst this;simp at he
        .exact e
       have:jX.all (·.born>=clock)=false:=by
        rw [Array.all_eq_false];refine ⟨0,h0,?_⟩;have:=m4 0 jX[0] (by simp [h0]);simp [this];omega
       rw [this];simp
      .simp
     split at h
     .rename_i hk;have hk:=au hk;refine ⟨_,.tuple #[.bool false],w,E,h,?_,Step.refl _ _ _,hh.weaken fun b h=>h.1,?_⟩
      .have hd:jX.toList.drop k=[]:=(by rw [List.drop_eq_nil_iff];simp;omega);rw [hd] at hle;simp only [Instr.next,Nat.zero_mul,Nat.add_zero,Sem.run_bind,hgi,hgm,Result.andThen_ok];simp only [hcond,hle,aP,if_false,Sem.run_pure,Result.andThen_ok];simp [Question.forced]
      .exact .gW _ _ rfl (fun i x y h1 h2=>by
        match i,h1,h2 with
        |0,h1,h2=>cases h1;cases h2;exact .p rfl)
     .rename_i hk;obtain ⟨hk1,h⟩:=h;obtain ⟨e,he,hK⟩:=dG.1 h;have hlt:k<jX.size:=(by omega);obtain ⟨ce,hce⟩:∃ce,jX[k]?=some ce:=⟨jX[k],by simp [hlt]⟩;have hborn:=m4 k ce hce;obtain ⟨r1,r2,r3⟩:=m2 k e ce he hce;have hd:jX.toList.drop k=[ce]:=by
       have aru:jX.toList[k]?=some ce:=(by simpa using hce);have hlt':k<jX.toList.length:=(by simpa using hlt);rw [List.drop_eq_getElem_cons hlt',List.drop_eq_nil_iff.2 (by simp;omega)];congr;rw [aW hlt'] at aru;exact Option.some.inj aru
      obtain ⟨s1,s2⟩:=af_ (F:=F) (k':=.it b clock (k+1)) (o1:=.mapIter (some cm) clock (Array.range (k+1)) clock) hh hq g1 g4 (fun _ _ _ h=>by cases h) (fun w' hx hw=>
       ⟨c,cm,g1,g2,g3,hw,g5⟩)
      refine ⟨_,.tuple #[.bool true,ce.key,ce.val],_,E,hK,?_,s1,s2.weaken fun b h=>h.1,?_⟩
      .rw [hd] at hle;have hset:∀o,(setObj c o).run P w=.ok () {w with heap:=w.heap.setIfInBounds c o}:=fun o=>by simp [setObj,Sem.run,g4]
       simp only [Instr.next,Nat.zero_mul,Nat.add_zero,Sem.run_bind,hgi,hgm,Result.andThen_ok];simp only [hcond,hle,aP,if_false,Sem.run_pure,Result.andThen_ok];have hf1:List.filter (fun x:MapEntry=>decide (x.born<clock)) [ce]=[ce]:=(by rw [List.filter_cons,if_pos (by simpa using r3)];rfl);have hf2:List.filter (fun x:MapEntry=>decide (clock<=x.born)) [ce]=[]:=(by rw [List.filter_cons,if_neg (by simp;omega)];rfl);have hck:¬clock<=k:=(by omega);simp [Question.forced,hf1,hf2,hck,hset,Array.range_succ,hborn,Result.andThen]
      .exact .gW _ _ rfl (fun i x y h1 h2=>by
        match i,h1,h2 with
        |0,h1,h2=>cases h1;cases h2;exact .p rfl
        |1,h1,h2=>cases h1;cases h2;exact r1.mono s1.ext
        |2,h1,h2=>cases h1;cases h2;exact r2.mono s1.ext)
    .exact h.elim
   .exact h.elim
  .exact h.elim
 .exact h.elim
end
end Go.Fw
end
section
namespace Go.Fw
variable [iT]
section
variable {P : Program} {base:Nat} {w w':World} {E E':Env} {ah:AH} {F:Nat->Prop} {K:mP->Prop} {id:Nat}
abbrev aiu (base:Nat)(w:World)(E:Env)(ah:AH)(F:Nat->Prop)(id:Nat)(K:mP->Prop)(o:Oper)(a:Act)(next:Act->World->Prop):Prop:=
 ∀r v w' E',K r->Step base w E w' E'->dM base w' E' (lZ ah r.wr) (fun b=>F b/\b≠id)->Rep w' E' r.v v->next (a.put o.dst v) w'
theorem lg {o:Oper}{a:Act}{next:Act->World->Prop}{Q:Exit->Act->World->Prop}{s:Sem Value}(hn:aiu base w E ah F id K o a next)(h:GR P base w E ah F id s K)
  (he:execOp a.eval o=(do pure (.value (<- s)))):o.wp P a w next Q:=by
 obtain ⟨r,v,w',E',h1,h2,h3,h4,h5⟩:=h;exact ayv (s:=do pure (.value (<- s))) (v:=v) (w':=w') he (by simp [h2]) (hn r v w' E' h1 h3 h4 h5)
theorem IU {fr:jB}{a:Act}(hfr:tY w E fr a.tmps){x:Option Operand}{l:List (Unit×AV)}(h:Q8 fr (x.toList.map (((),·)))=some l) :
  NM w E (l.head?.map (·.2)) (x.map a.eval):=by
 cases x with
 |none=>simp [Q8] at h;subst h;exact .none|some x=>
  simp only [Option.toList_some,aX,List.map_nil,Q8,aQ,ay] at h;obtain ⟨y,hy,r,hr,rfl⟩:=h;exact .some (eu hfr hy)
theorem aiv (x y t:Nat):aph ((Question.nanBits .f64 x y).cut t):=by
 intro m;have hw:∃s k,FloatKind.f64.format.read ((Question.nanBits .f64 x y).cut t)=.nan s k:=by
  have hd:(t / 2) % (2 ^ 52-1)<2 ^ 52-1:=Nat.mod_lt _ (by decide);have h2:t % 2<2:=Nat.mod_lt _ (by decide);show ∃s k,Ieee.Format.read Ieee.double ((t % 2)*2 ^ 63+0x7ff0000000000000+1+(t / 2) % (2 ^ 52-1))=.nan s k;generalize (t / 2) % (2 ^ 52-1)=d at hd;generalize t % 2=e at h2;unfold Ieee.Format.read;have e1:Ieee.double.signWeight=9223372036854775808:=by decide
  have e2:Ieee.double.infRung=9218868437227405312:=by decide
  have e3:Ieee.double.binade=4503599627370496:=by decide
  have hm:(e*2 ^ 63+0x7ff0000000000000+1+d) % 9223372036854775808=0x7ff0000000000001+d:=by omega
  simp only [e1,e2,e3,hm];rw [if_neg (by omega),if_neg (by omega),if_neg (by omega)];exact ⟨_,_,rfl⟩
 obtain ⟨s,k,e⟩:=hw;constructor<;>simp only [Ieee.Format.order,e]<;>first|rfl|(cases FloatKind.f64.format.read m<;>rfl)
theorem al4 {op t x y vx vy}{K:mP->Prop}(ox oy:Operand)(hh:dM base w E ah F)(h:afV op x y K)(hx:Rep w E x vx)(hy:Rep w E y vy) :
  GR P base w E ah F id (do eqGuard op t ox oy vx vy;binOp op t vx vy) K:=by
 rcases h with ⟨rfl,rfl,rfl,hK⟩|⟨b,h1,h2,h3,h4,hK⟩
 .obtain rfl:=hx.fO;obtain rfl:=hy.fO;have e0:FloatKind.f64.format.div 0 0=none:=by decide +kernel
  have hd:=Qw hh (w.drawn+1);refine ⟨_,.float .f64 ((Question.nanBits .f64 0 0).cut (w.tape w.drawn (.nanBits .f64 0 0))),{w with drawn:=w.drawn+1},E,hK,?_,hd.1,?_,.nan _ (aiv _ _ _)⟩
  .simp [eqGuard,binOp,Op.floatArith,e0,choose,Sem.run,Question.forced]
  .exact hd.2.weaken (fun b h=>h.1)
 .exact (aeu ox oy h1 h2 h3 h4 hK hx hy).wr hh
theorem J9 (hh:dM base w E ah F)(hid:F id){fr:jB}{a:Act}(hfr:tY w E fr a.tmps){o:Oper}(h:Qi P id fr ah o.op K){next:Act->World->Prop}{Q:Exit->Act->World->Prop}
  (hn:aiu base w E ah F id K o a next):o.wp P a w next Q:=by
 unfold Qi at h;dsimp only at h;split at h
 .rename_i x hop;obtain ⟨y,hy,hK⟩:=dG.1 h;exact lg hn (s:=pure (a.eval x)) (tH.wr hh ⟨_,_,hK,rfl,rfl,eu hfr hy⟩) (by simp [execOp,hop])
 .rename_i x hop;obtain ⟨y,hy,hK⟩:=dG.1 h;exact lg hn (s:=pure (a.eval x)) (tH.wr hh ⟨_,_,hK,rfl,rfl,eu hfr hy⟩) (by simp [execOp,hop])
 .rename_i c x y hop;obtain ⟨cv,hc,h⟩:=dG.1 h;split at h
  .rename_i t;have hcv:=(eu hfr hc).fO;refine lg hn (s:=pure (if t=true then a.eval x else a.eval y)) (tH.wr hh ?_) (by simp [execOp,hop,hcv,asBool]);rw [uy] at h;split at h
   .rename_i ht;obtain ⟨z,hz,hK⟩:=dG.1 h;exact ⟨_,_,hK,rfl,by simp [ht],eu hfr hz⟩
   .rename_i ht;obtain ⟨z,hz,hK⟩:=dG.1 h;exact ⟨_,_,hK,rfl,by simp [ht],eu hfr hz⟩
  .exact h.elim
 .rename_i t x hop;obtain ⟨y,hy,h⟩:=dG.1 h;exact lg hn ((Rk hh h (eu hfr hy)).wr hh) (by simp [execOp,hop])
 .rename_i t x y hop;obtain ⟨x',hx,h⟩:=dG.1 h;obtain ⟨y',hy,h⟩:=dG.1 h;obtain ⟨r,w',E',h1,h2,h3,h4,h5⟩:=af0 (P:=P) (id:=id) hh h (eu hfr hx) (eu hfr hy);have:=hn r undef w' E' h1 h3 h4 (by rw [h5];exact .p rfl);unfold Oper.wp;have e:(execOp a.eval o).run P w=.ok .skip w':=by simp [execOp,hop,h2]
  rw [e];exact this
 .rename_i s x k hop;obtain ⟨y,hy,h⟩:=dG.1 h;exact lg hn ((JF h (eu hfr hy)).wr hh) (by simp [execOp,hop])
 .rename_i s x k hop;obtain ⟨y,hy,h⟩:=dG.1 h;exact lg hn ((VR h (eu hfr hy)).wr hh) (by simp [execOp,hop])
 .rename_i t x i hop;obtain ⟨x',hx,h⟩:=dG.1 h;obtain ⟨i',hi,h⟩:=dG.1 h;exact lg hn ((JG h (eu hfr hx) (eu hfr hi)).wr hh) (by simp [execOp,hop])
 .rename_i t x i hop;obtain ⟨x',hx,h⟩:=dG.1 h;obtain ⟨i',hi,h⟩:=dG.1 h;exact lg hn ((VT h (eu hfr hx) (eu hfr hi)).wr hh) (by simp [execOp,hop])
 .rename_i x k hop;obtain ⟨x',hx,h⟩:=dG.1 h;exact lg hn ((Po h (eu hfr hx)).wr hh) (by simp [execOp,hop])
 .rename_i op t x y t2 hop;obtain ⟨x',hx,h⟩:=dG.1 h;obtain ⟨y',hy,h⟩:=dG.1 h;rcases h with h|h
  .exact lg hn ((aev x y h (eu hfr hx) (eu hfr hy)).rd.wr hh) (by simp [execOp,hop])
  .exact lg hn (al4 (t:=t) x y hh h (eu hfr hx) (eu hfr hy)) (by simp [execOp,hop])
 .rename_i op t x hop;obtain ⟨x',hx,h⟩:=dG.1 h;exact lg hn ((aij (P:=P) h (eu hfr hx)).rd.wr hh) (by simp [execOp,hop])
 .rename_i s d x hop;obtain ⟨x',hx,h⟩:=dG.1 h;exact lg hn ((Zy hh h (eu hfr hx)).wr hh) (by simp [execOp,hop])
 .rename_i t hop;exact lg hn (Px hh hid h .none) (by simp [execOp,hop])
 .rename_i t r hop;obtain ⟨r',hr,h⟩:=dG.1 h;exact lg hn (Px hh hid h (.some (eu hfr hr))) (by simp [execOp,hop])
 .rename_i t m k c hop;obtain ⟨m',hm,h⟩:=dG.1 h;obtain ⟨k',hk,h⟩:=dG.1 h;exact lg hn ((RH hh h (eu hfr hm) (eu hfr hk)).wr hh) (by simp [execOp,hop])
 .rename_i t m k v hop;obtain ⟨m',hm,h⟩:=dG.1 h;obtain ⟨k',hk,h⟩:=dG.1 h;obtain ⟨v',hv,h⟩:=dG.1 h;obtain ⟨r,w',E',h1,h2,h3,h4,h5⟩:=RI (P:=P) (id:=id) hh h (eu hfr hm) (eu hfr hk) (eu hfr hv);have:=hn r undef w' E' h1 h3 h4 (by rw [h5];exact .p rfl);unfold Oper.wp;have e:(execOp a.eval o).run P w=.ok .skip w':=by simp [execOp,hop,h2]
  rw [e];exact this
 .rename_i t m k v hop;obtain ⟨m',hm,h⟩:=dG.1 h;obtain ⟨k',hk,h⟩:=dG.1 h;obtain ⟨v',hv,h⟩:=dG.1 h;obtain ⟨r,w',E',h1,h2,h3,h4,h5⟩:=RI (P:=P) (id:=id) hh h (eu hfr hm) (eu hfr hk) (eu hfr hv);have:=hn r undef w' E' h1 h3 h4 (by rw [h5];exact .p rfl);unfold Oper.wp;have e:(execOp a.eval o).run P w=.ok .skip w':=by simp [execOp,hop,h2]
  rw [e];exact this
 .rename_i t x hop;obtain ⟨x',hx,h⟩:=dG.1 h;exact lg hn (aga hh hid h (eu hfr hx)) (by simp [execOp,hop])
 .rename_i x str hop;obtain ⟨x',hx,h⟩:=dG.1 h;exact lg hn (ait (ty:=o.type) hh hid h (eu hfr hx)) (by simp [execOp,hop])
 .rename_i x hop;obtain ⟨x',hx,h⟩:=dG.1 h;exact lg hn ((agb (P:=P) hh h (eu hfr hx)).wr hh) (by simp [execOp,hop])
 .rename_i t x hop;obtain ⟨x',hx,h⟩:=dG.1 h;exact lg hn ((Py h (eu hfr hx)).wr hh) (by simp [execOp,hop])
 .rename_i x xt t c hop;obtain ⟨x',hx,h⟩:=dG.1 h;exact lg hn ((RN (xt:=xt) h (eu hfr hx)).wr hh) (by simp [execOp,hop])
 .rename_i x hop;obtain ⟨x',hx,h⟩:=dG.1 h;have hr:=eu hfr hx;obtain ⟨hK,hv⟩:=Lr h hr;refine lg hn (s:=pure (a.eval x)) (tH.wr hh ⟨_,_,hK,rfl,rfl,hr⟩) ?_;rcases hv with ⟨p,e⟩|⟨f,u,v,e⟩
  .simp [execOp,hop,e]
  .simp [execOp,hop,e]
 .rename_i t x lo hi mx hop;obtain ⟨x',hx,h⟩:=dG.1 h;obtain ⟨l,hl,h⟩:=dG.1 h;obtain ⟨j,hj,h⟩:=dG.1 h;obtain ⟨m,hm,h⟩:=dG.1 h;exact lg hn ((RJ hh h (eu hfr hx) (IU hfr hl) (IU hfr hj) (IU hfr hm)).wr hh) (by simp [execOp,hop])
 .rename_i t parts hop;obtain ⟨ps,hps,h⟩:=dG.1 h;obtain ⟨h1,h2⟩:=Qv hfr hps;refine lg hn ((VW (qK:=parts.toList.map fun q=>(q.1,a.eval q.2)) h (by simpa using h1) (fun i p q hp hq=>?_)).wr hh) ?_
  .simp only [bP,ay] at hq;obtain ⟨q',hq',rfl⟩:=hq;exact h2 i p q' hp hq'
  .simp only [execOp,hop];congr 2
   .congr 1;apply Array.ext';simp
 .rename_i t len parts hop;obtain ⟨ps,hps,h⟩:=dG.1 h;obtain ⟨h1,h2⟩:=Qv hfr hps;refine lg hn (Ro (qK:=parts.toList.map fun q=>(q.1,a.eval q.2)) hh hid h (by simpa using h1) (fun i p q hp hq=>?_)) ?_
  .simp only [bP,ay] at hq;obtain ⟨q',hq',rfl⟩:=hq;exact h2 i p q' hp hq'
  .simp only [execOp,hop];congr 2
   .congr 1;apply Array.ext';simp
 .rename_i t x hop;obtain ⟨y,hy,h⟩:=dG.1 h;exact lg hn (al3 hh hid t h (eu hfr hy)) (by simp [execOp,hop])
 .rename_i t hop;exact lg hn (afY hh hid h) (by simp [execOp,hop])
 .rename_i t l c hop;obtain ⟨l',hl,h⟩:=dG.1 h;obtain ⟨c',hc,h⟩:=dG.1 h;exact lg hn (Vq hh hid h (eu hfr hl) (eu hfr hc)) (by simp [execOp,hop])
 .rename_i fn first captured hop
  obtain ⟨x,hx,h⟩:=dG.1 h;obtain ⟨y,hy,hK⟩:=dG.1 h;have rx:=pF hfr hx;have ry:=pF hfr hy;refine lg hn (s:=pure (.func fn (first.map a.eval) (captured.map a.eval))) (tH.wr hh ⟨_,_,hK,rfl,rfl,?_⟩) (by simp [execOp,hop,Instr.makeFunc]);exact .fn fn x y _ _ (by simpa using rx.1) (by simpa using ry.1) (fun i c v h1 h2=>rx.2 i c v h1 (by simpa using h2)) (fun i c v h1 h2=>ry.2 i c v h1 (by simpa using h2))
 .rename_i args ts hop;obtain ⟨l,hl,h⟩:=dG.1 h;have rl:=pF hfr hl;split at h
  .rename_i x;obtain ⟨t,ht,h⟩:=dG.1 h;obtain ⟨v0,hv0⟩:∃v0,args.toList.map a.eval=[v0]:=by
    have:=rl.1;simp at this;match hm:args.toList.map a.eval,(show (args.toList.map a.eval).length=1 by simp [<- this]) with
    |[v0],_=>exact ⟨v0,rfl⟩
   have e:args.map a.eval=#[v0]:=(by apply Array.ext';simpa using hv0);rw [hv0] at rl;have hr:=rl.2 0 x v0 rfl rfl;refine lg hn (s:=Builtin.len_ ts o.type #[v0]) (tH.wr hh ?_) (by simp [execOp,hop,resolve,invoke,builtin,e]);obtain ⟨r,v,q1,q2,q3,q4⟩:=aew (ty:=o.type) hh h hr;refine ⟨r,v,q1,q2,?_,q4⟩;rw [<- q3];simp [Builtin.len_,ht]
  .exact h.elim
 .rename_i args ts hop;obtain ⟨l,hl,h⟩:=dG.1 h;have rl:=pF hfr hl;split at h
  .rename_i x y;obtain ⟨t,ht,h⟩:=dG.1 h;obtain ⟨t2,ht2,h⟩:=dG.1 h;obtain ⟨v0,v1,hv0⟩:∃v0 v1,args.toList.map a.eval=[v0,v1]:=by
    have:=rl.1;simp at this;match hm:args.toList.map a.eval,(show (args.toList.map a.eval).length=2 by simp [<- this]) with
    |[v0,v1],_=>exact ⟨v0,v1,rfl⟩
   have e:args.map a.eval=#[v0,v1]:=(by apply Array.ext';simpa using hv0);rw [hv0] at rl;have hr:=rl.2 0 x v0 rfl rfl;have hr1:=rl.2 1 y v1 rfl rfl;refine lg hn (s:=Builtin.append_ ts o.type #[v0,v1]) ?_ (by simp [execOp,hop,resolve,invoke,builtin,e]);obtain ⟨r,v,w',E',q1,q2,q3⟩:=ain (ty:=o.type) hh hid h hr hr1;refine ⟨r,v,w',E',q1,?_,q3⟩;rw [<- q2];simp [Builtin.append_,ht,ht2]
  .exact h.elim
 .rename_i args ts hop;obtain ⟨l,hl,h⟩:=dG.1 h;have rl:=pF hfr hl;split at h
  .rename_i x y;obtain ⟨t,ht,h⟩:=dG.1 h;obtain ⟨v0,v1,hv0⟩:∃v0 v1,args.toList.map a.eval=[v0,v1]:=by
    have:=rl.1;simp at this;match hm:args.toList.map a.eval,(show (args.toList.map a.eval).length=2 by simp [<- this]) with
    |[v0,v1],_=>exact ⟨v0,v1,rfl⟩
   have e:args.map a.eval=#[v0,v1]:=(by apply Array.ext';simpa using hv0);rw [hv0] at rl;exact lg hn (s:=Builtin.copy_ ts o.type #[v0,v1]) (ais hh ht h (rl.2 0 x v0 rfl rfl) (rl.2 1 y v1 rfl rfl)) (by simp [execOp,hop,resolve,invoke,builtin,e])
  .exact h.elim
 .rename_i args ts hop;obtain ⟨l,hl,h⟩:=dG.1 h;have rl:=pF hfr hl;split at h
  .rename_i x;obtain ⟨t,ht,h⟩:=dG.1 h;obtain ⟨v0,hv0⟩:∃v0,args.toList.map a.eval=[v0]:=by
    have:=rl.1;simp at this;match hm:args.toList.map a.eval,(show (args.toList.map a.eval).length=1 by simp [<- this]) with
    |[v0],_=>exact ⟨v0,rfl⟩
   have e:args.map a.eval=#[v0]:=(by apply Array.ext';simpa using hv0);rw [hv0] at rl;exact lg hn (s:=Builtin.clear_ ts o.type #[v0]) (af7 hh ht h (rl.2 0 x v0 rfl rfl)) (by simp [execOp,hop,resolve,invoke,builtin,e])
  .exact h.elim
 .rename_i args ts hop;obtain ⟨l,hl,h⟩:=dG.1 h;refine lg hn (s:=Builtin.min_ ts o.type (args.toList.map a.eval).toArray) ((Rn (P:=P) (ts:=ts) (ty:=o.type) h (pF hfr hl)).rd.wr hh) ?_;have e:args.map a.eval=(args.toList.map a.eval).toArray:=by apply Array.ext';simp
  simp [execOp,hop,resolve,invoke,builtin,e]
 .rename_i args ts hop;obtain ⟨l,hl,h⟩:=dG.1 h;refine lg hn (s:=Builtin.max_ ts o.type (args.toList.map a.eval).toArray) ((Rn (P:=P) (ts:=ts) (ty:=o.type) h (pF hfr hl)).rd.wr hh) ?_;have e:args.map a.eval=(args.toList.map a.eval).toArray:=by apply Array.ext';simp
  simp [execOp,hop,resolve,invoke,builtin,e]
 .rename_i f args ts hop;obtain ⟨l,hl,h⟩:=dG.1 h;refine aiq hh hfr.Gg h (pF hfr hl) ?_ hn;have e:args.map a.eval=(args.toList.map a.eval).toArray:=by apply Array.ext';simp
  simp [execOp,hop,resolve,invoke,Deferred.ofValue,Act.eval,e]
 .exact h.elim
end
end Go.Fw
end
section
namespace Go.Fw
variable [iT]
def zk : Op->Bool
 | .move _ | .assign _ | .load _ _ | .fieldAddr _ _ _ | .field _ _ _ | .indexAddr _ _ _ | .index _ _ _ | .extract _ _ | .unOp _ _ _ | .nilCheck _ | .pick _ _ _ | .convert _ _ _ | .lookup _ _ _ _ | .makeInterface _ _ | .typeAssert _ _ _ _ | .slice _ _ _ _ _ | .build _ _ | .makeFunc _ _ _ | .call ⟨.builtin .len,_,_⟩=>true| .binOp o _ _ _ _=>!decide (o=.quo)|_=>false
section
variable {P : Program} {base:Nat} {w:World} {E:Env} {ah:AH} {F:Nat->Prop} {K:mP->Prop} {id:Nat}
theorem tZ {o:Oper}{a:Act}{next:Act->World->Prop}{Q:Exit->Act->World->Prop}{s:Sem Value}(hn:∀r v,K r->r.wr=[]->Rep w E r.v v->next (a.put o.dst v) w)(h:tH P w E s K)
  (he:execOp a.eval o=(do pure (.value (<- s)))):o.wp P a w next Q:=by
 obtain ⟨r,v,h1,h2,h3,h4⟩:=h;exact ayv (s:=do pure (.value (<- s))) (v:=v) (w':=w) he (by simp [h3]) (hn r v h1 h2 h4)
theorem aiw (hh:dM base w E ah F){fr:jB}{a:Act}(hfr:tY w E fr a.tmps){o:Oper}(hpu:zk o.op=true)(h:Qi P id fr ah o.op K){next:Act->World->Prop}{Q:Exit->Act->World->Prop}
  (hn:∀r v,K r->r.wr=[]->Rep w E r.v v->next (a.put o.dst v) w):o.wp P a w next Q:=by
 unfold Qi at h;dsimp only at h;split at h
 .rename_i x hop;obtain ⟨y,hy,hK⟩:=dG.1 h;exact tZ hn (s:=pure (a.eval x)) (show tH P w E _ K from ⟨_,_,hK,rfl,rfl,eu hfr hy⟩) (by simp [execOp,hop])
 .rename_i x hop;obtain ⟨y,hy,hK⟩:=dG.1 h;exact tZ hn (s:=pure (a.eval x)) (show tH P w E _ K from ⟨_,_,hK,rfl,rfl,eu hfr hy⟩) (by simp [execOp,hop])
 .rename_i c x y hop;obtain ⟨cv,hc,h⟩:=dG.1 h;split at h
  .rename_i t;have hcv:=(eu hfr hc).fO;refine tZ hn (s:=pure (if t=true then a.eval x else a.eval y)) ?_ (by simp [execOp,hop,hcv,asBool]);rw [uy] at h;split at h
   .rename_i ht;obtain ⟨z,hz,hK⟩:=dG.1 h;exact ⟨_,_,hK,rfl,by simp [ht],eu hfr hz⟩
   .rename_i ht;obtain ⟨z,hz,hK⟩:=dG.1 h;exact ⟨_,_,hK,rfl,by simp [ht],eu hfr hz⟩
  .exact h.elim
 .rename_i t x hop;obtain ⟨y,hy,h⟩:=dG.1 h;exact tZ hn ((Rk hh h (eu hfr hy))) (by simp [execOp,hop])
 .rename_i hop;rw [hop] at hpu;cases hpu
 .rename_i s x k hop;obtain ⟨y,hy,h⟩:=dG.1 h;exact tZ hn ((JF h (eu hfr hy))) (by simp [execOp,hop])
 .rename_i s x k hop;obtain ⟨y,hy,h⟩:=dG.1 h;exact tZ hn ((VR h (eu hfr hy))) (by simp [execOp,hop])
 .rename_i t x i hop;obtain ⟨x',hx,h⟩:=dG.1 h;obtain ⟨i',hi,h⟩:=dG.1 h;exact tZ hn ((JG h (eu hfr hx) (eu hfr hi))) (by simp [execOp,hop])
 .rename_i t x i hop;obtain ⟨x',hx,h⟩:=dG.1 h;obtain ⟨i',hi,h⟩:=dG.1 h;exact tZ hn ((VT h (eu hfr hx) (eu hfr hi))) (by simp [execOp,hop])
 .rename_i x k hop;obtain ⟨x',hx,h⟩:=dG.1 h;exact tZ hn ((Po h (eu hfr hx))) (by simp [execOp,hop])
 .rename_i op t x y t2 hop;obtain ⟨x',hx,h⟩:=dG.1 h;obtain ⟨y',hy,h⟩:=dG.1 h;rcases h with h|h
  .exact tZ hn ((aev x y h (eu hfr hx) (eu hfr hy)).rd) (by simp [execOp,hop])
  .exact tZ hn (al2 (t:=t) x y h (by rw [hop] at hpu;simpa [zk] using hpu) (eu hfr hx) (eu hfr hy)) (by simp [execOp,hop])
 .rename_i op t x hop;obtain ⟨x',hx,h⟩:=dG.1 h;exact tZ hn ((aij (P:=P) h (eu hfr hx)).rd) (by simp [execOp,hop])
 .rename_i s d x hop;obtain ⟨x',hx,h⟩:=dG.1 h;exact tZ hn ((Zy hh h (eu hfr hx))) (by simp [execOp,hop])
 .rename_i hop;rw [hop] at hpu;cases hpu
 .rename_i hop;rw [hop] at hpu;cases hpu
 .rename_i t m k c hop;obtain ⟨m',hm,h⟩:=dG.1 h;obtain ⟨k',hk,h⟩:=dG.1 h;exact tZ hn ((RH hh h (eu hfr hm) (eu hfr hk))) (by simp [execOp,hop])
 .rename_i hop;rw [hop] at hpu;cases hpu
 .rename_i hop;rw [hop] at hpu;cases hpu
 .rename_i hop;rw [hop] at hpu;cases hpu
 .rename_i hop;rw [hop] at hpu;cases hpu
 .rename_i hop;rw [hop] at hpu;cases hpu
 .rename_i t x hop;obtain ⟨x',hx,h⟩:=dG.1 h;exact tZ hn ((Py h (eu hfr hx))) (by simp [execOp,hop])
 .rename_i x xt t c hop;obtain ⟨x',hx,h⟩:=dG.1 h;exact tZ hn ((RN (xt:=xt) h (eu hfr hx))) (by simp [execOp,hop])
 .rename_i x hop;obtain ⟨x',hx,h⟩:=dG.1 h;have hr:=eu hfr hx;obtain ⟨hK,hv⟩:=Lr h hr;refine tZ hn (s:=pure (a.eval x)) (show tH P w E _ K from ⟨_,_,hK,rfl,rfl,hr⟩) ?_;rcases hv with ⟨p,e⟩|⟨f,u,v,e⟩
  .simp [execOp,hop,e]
  .simp [execOp,hop,e]
 .rename_i t x lo hi mx hop;obtain ⟨x',hx,h⟩:=dG.1 h;obtain ⟨l,hl,h⟩:=dG.1 h;obtain ⟨j,hj,h⟩:=dG.1 h;obtain ⟨m,hm,h⟩:=dG.1 h;exact tZ hn ((RJ hh h (eu hfr hx) (IU hfr hl) (IU hfr hj) (IU hfr hm))) (by simp [execOp,hop])
 .rename_i t parts hop;obtain ⟨ps,hps,h⟩:=dG.1 h;obtain ⟨h1,h2⟩:=Qv hfr hps;refine tZ hn ((VW (qK:=parts.toList.map fun q=>(q.1,a.eval q.2)) h (by simpa using h1) (fun i p q hp hq=>?_))) ?_
  .simp only [bP,ay] at hq;obtain ⟨q',hq',rfl⟩:=hq;exact h2 i p q' hp hq'
  .simp only [execOp,hop];congr 2
   .congr 1;apply Array.ext';simp
 .rename_i hop;rw [hop] at hpu;cases hpu
 .rename_i hop;rw [hop] at hpu;cases hpu
 .rename_i hop;rw [hop] at hpu;cases hpu
 .rename_i hop;rw [hop] at hpu;cases hpu
 .rename_i fn first captured hop
  obtain ⟨x,hx,h⟩:=dG.1 h;obtain ⟨y,hy,hK⟩:=dG.1 h;have rx:=pF hfr hx;have ry:=pF hfr hy;refine tZ hn (s:=pure (.func fn (first.map a.eval) (captured.map a.eval))) (show tH P w E _ K from ⟨_,_,hK,rfl,rfl,?_⟩) (by simp [execOp,hop,Instr.makeFunc]);exact .fn fn x y _ _ (by simpa using rx.1) (by simpa using ry.1) (fun i c v h1 h2=>rx.2 i c v h1 (by simpa using h2)) (fun i c v h1 h2=>ry.2 i c v h1 (by simpa using h2))
 .rename_i args ts hop;obtain ⟨l,hl,h⟩:=dG.1 h;have rl:=pF hfr hl;split at h
  .rename_i x;obtain ⟨t,ht,h⟩:=dG.1 h;obtain ⟨v0,hv0⟩:∃v0,args.toList.map a.eval=[v0]:=by
    have:=rl.1;simp at this;match hm:args.toList.map a.eval,(show (args.toList.map a.eval).length=1 by simp [<- this]) with
    |[v0],_=>exact ⟨v0,rfl⟩
   have e:args.map a.eval=#[v0]:=(by apply Array.ext';simpa using hv0);rw [hv0] at rl;have hr:=rl.2 0 x v0 rfl rfl;refine tZ hn (s:=Builtin.len_ ts o.type #[v0]) ?_ (by simp [execOp,hop,resolve,invoke,builtin,e]);obtain ⟨r,v,q1,q2,q3,q4⟩:=aew (ty:=o.type) hh h hr;refine ⟨r,v,q1,q2,?_,q4⟩;rw [<- q3];simp [Builtin.len_,ht]
  .exact h.elim
 .rename_i hop;rw [hop] at hpu;cases hpu
 .rename_i hop;rw [hop] at hpu;cases hpu
 .rename_i hop;rw [hop] at hpu;cases hpu
 .rename_i hop;rw [hop] at hpu;cases hpu
 .rename_i hop;rw [hop] at hpu;cases hpu
 .rename_i hop;rw [hop] at hpu;cases hpu
 .exact h.elim
end
end Go.Fw
end
section
namespace Go.Fw
variable [iT]
section
variable {P : Program} {ah:AH} {K:mP->Prop} {id:Nat}
theorem zY {ty row off}{k:AV->Prop}(h:apart ty row off k):∃x,k x/\apart ty row off (fun y=>y=x):=by
 unfold apart at h ⊢;split at h
 .rename_i hb;simp only [if_pos hb];exact ⟨_,h.2,h.1,rfl⟩
 .rename_i hb;simp only [if_neg hb];obtain ⟨x,hx,hk⟩:=dG.1 h;exact ⟨x,hk,dG.2 ⟨x,hx,rfl⟩⟩
theorem agc {t a}(h:Q5 P ah t a K):∃r,K r/\∀dV:AH,(∀b∈r.rd,dV b=ah b)->Q5 P dV t a (fun r'=>r'=r):=by
 obtain ⟨ty,hty,h⟩:=dG.1 h;cases a with
 |vp row off=>
  obtain ⟨x,hK,hx⟩:=zY h;refine ⟨_,hK,fun dV _=>dG.2 ⟨ty,hty,?_⟩⟩;obtain ⟨y,rfl,hy⟩:=zY hx;exact (show apart ty row off _ from by
   unfold apart at hy ⊢;split at hy
   .rename_i hb;rw [if_pos hb];exact ⟨hy.1,by rw [hy.2]⟩
   .rename_i hb;rw [if_neg hb];obtain ⟨z,hz,e⟩:=dG.1 hy;exact dG.2 ⟨z,hz,by rw [e]⟩)
 |op b sz i off=>
  dsimp only at h;split at h
  .rename_i sz' rs hab;obtain ⟨rfl,h⟩:=h;obtain ⟨row,hrow,h⟩:=dG.1 h;obtain ⟨x,hK,hx⟩:=zY h;refine ⟨_,hK,fun dV hag=>dG.2 ⟨ty,hty,?_⟩⟩;dsimp only;rw [hag b (by simp),hab];refine ⟨rfl,dG.2 ⟨row,hrow,?_⟩⟩;unfold apart at hx ⊢;split at hx
   .rename_i hb;rw [if_pos hb];exact ⟨hx.1,by rw [hx.2]⟩
   .rename_i hb;rw [if_neg hb];obtain ⟨z,hz,e⟩:=dG.1 hx;exact dG.2 ⟨z,hz,by rw [e]⟩
  .rename_i te sz' rs hab;obtain ⟨rfl,h⟩:=h;obtain ⟨row,hrow,h⟩:=dG.1 h;obtain ⟨x,hK,hx⟩:=zY h;refine ⟨_,hK,fun dV hag=>dG.2 ⟨ty,hty,?_⟩⟩;dsimp only;rw [hag b (by simp),hab];refine ⟨rfl,dG.2 ⟨row,hrow,?_⟩⟩;unfold apart at hx ⊢;split at hx
   .rename_i hb;rw [if_pos hb];exact ⟨hx.1,by rw [hx.2]⟩
   .rename_i hb;rw [if_neg hb];obtain ⟨z,hz,e⟩:=dG.1 hx;exact dG.2 ⟨z,hz,by rw [e]⟩
  .exact h.elim
 |_=>exact h.elim
theorem zZ {ty row off}{k k':AV->Prop}(hk:∀x,k x->k' x)(h:apart ty row off k):apart ty row off k':=by
 unfold apart at h ⊢;split at h
 .rename_i hb;rw [if_pos hb];exact ⟨h.1,hk _ h.2⟩
 .rename_i hb;rw [if_neg hb];obtain ⟨z,hz,e⟩:=dG.1 h;exact dG.2 ⟨z,hz,hk _ e⟩
theorem acg {t a v}(h:Ew P ah t a v K):∃r,K r/\∀dV:AH,(∀b∈r.rd,dV b=ah b)->Ew P dV t a v (fun r'=>r'=r):=by
 obtain ⟨ty,hty,h⟩:=dG.1 h;cases a with
 |op b sz i off=>
  dsimp only at h;split at h
  .rename_i sz' rs hab;obtain ⟨rfl,hb,hl,h⟩:=h;obtain ⟨row,hrow,hle,hK⟩:=dG.1 h;refine ⟨_,hK,fun dV hag=>dG.2 ⟨ty,hty,?_⟩⟩;dsimp only;rw [hag b (by simp),hab];exact ⟨rfl,hb,hl,dG.2 ⟨row,hrow,hle,rfl⟩⟩
  .rename_i te sz' rs hab;obtain ⟨rfl,hb,hl,h⟩:=h;obtain ⟨row,hrow,hle,hK⟩:=dG.1 h;refine ⟨_,hK,fun dV hag=>dG.2 ⟨ty,hty,?_⟩⟩;dsimp only;rw [hag b (by simp),hab];exact ⟨rfl,hb,hl,dG.2 ⟨row,hrow,hle,rfl⟩⟩
  .exact h.elim
 |_=>exact h.elim
theorem RS {s a k}(h:Ak P s a k K):∃r,K r/\r.rd=[]/\Ak P s a k (fun r'=>r'=r):=by
 obtain ⟨f,hf,h0,h⟩:=dG.1 h;cases a<;>first|exact h.elim|exact ⟨_,h,rfl,dG.2 ⟨f,hf,h0,rfl⟩⟩
theorem ach {s a k}(h:Q7 P s a k K):∃r,K r/\r.rd=[]/\Q7 P s a k (fun r'=>r'=r):=by
 obtain ⟨f,hf,h⟩:=dG.1 h;cases a with
 |agg cs=>
  obtain ⟨x,hK,hx⟩:=zY h;exact ⟨_,hK,rfl,dG.2 ⟨f,hf,zZ (fun y e=>by rw [e]) hx⟩⟩
 |_=>exact h.elim
theorem RU {t x i}(h:rD P t x i K):∃r,K r/\r.rd=[]/\rD P t x i (fun r'=>r'=r):=by
 unfold rD at h ⊢;split at h
 .split at h
  .obtain ⟨e,he,h0,h⟩:=dG.1 h;obtain ⟨row,hrow,hl,hK⟩:=dG.1 h;exact ⟨_,hK,rfl,dG.2 ⟨e,he,h0,dG.2 ⟨row,hrow,hl,rfl⟩⟩⟩
  .obtain ⟨e,he,h0,h1,h2,hK⟩:=dG.1 h;exact ⟨_,hK,rfl,dG.2 ⟨e,he,h0,h1,h2,rfl⟩⟩
  .obtain ⟨e,he,h0,h1,hK⟩:=dG.1 h;exact ⟨_,hK,rfl,dG.2 ⟨e,he,h0,h1,rfl⟩⟩
  .rename_i b sz j off;obtain ⟨e,he,h0,h1,hK⟩:=dG.1 h;exact ⟨_,hK,rfl,dG.2 ⟨e,he,h0,h1,rfl⟩⟩
  .exact h.elim
 .exact h.elim
theorem aci {t x i}(h:JV P t x i K):∃r,K r/\r.rd=[]/\JV P t x i (fun r'=>r'=r):=by
 unfold JV at h ⊢;split at h
 .split at h
  .obtain ⟨hu,h0,h⟩:=h;obtain ⟨b,hb,hK⟩:=dG.1 h;exact ⟨_,hK,rfl,hu,h0,dG.2 ⟨b,hb,rfl⟩⟩
  .obtain ⟨e,he,h0,h1,h⟩:=dG.1 h;obtain ⟨x,hK,hx⟩:=zY h;exact ⟨_,hK,rfl,dG.2 ⟨e,he,h0,h1,zZ (fun y e=>by rw [e]) hx⟩⟩
  .exact h.elim
 .exact h.elim
theorem XR {x k}(h:Am x k K):∃r,K r/\r.rd=[]/\Am x k (fun r'=>r'=r):=by
 unfold Am at h ⊢;split at h
 .obtain ⟨a,ha,hK⟩:=dG.1 h;exact ⟨_,hK,rfl,dG.2 ⟨a,ha,rfl⟩⟩
 .exact h.elim
theorem aix {op t c x y}{K:AV->Prop}(h:Gf P op t c x y K):∃a,K a/\∀K':AV->Prop,K' a->Gf P op t c x y K':=by
 unfold Gf at h ⊢;split at h
 .exact ⟨_,h.2,fun K' hK'=>⟨h.1,hK'⟩⟩
 .exact ⟨_,h.2,fun K' hK'=>⟨h.1,hK'⟩⟩
 .obtain ⟨rfl,h⟩:=h;split at h<;>first|exact h.elim|exact ⟨_,h,fun K' hK'=>⟨rfl,hK'⟩⟩|exact ⟨_,h.2,fun K' hK'=>⟨rfl,h.1,hK'⟩⟩
 .obtain ⟨rfl,h⟩:=h;split at h<;>first|exact h.elim|exact ⟨_,h,fun K' hK'=>⟨rfl,hK'⟩⟩|(obtain ⟨r,hr,hk⟩:=dG.1 h;exact ⟨_,hk,fun K' hK'=>⟨rfl,dG.2 ⟨r,hr,hK'⟩⟩⟩)
 .split at h<;>first|exact h.elim|exact ⟨_,h,fun K' hK'=>hK'⟩|exact ⟨_,h.2,fun K' hK'=>⟨h.1,hK'⟩⟩
 .obtain ⟨h0,h⟩:=h;obtain ⟨r,hr,hk⟩:=dG.1 h;exact ⟨_,hk,fun K' hK'=>⟨h0,dG.2 ⟨r,hr,hK'⟩⟩⟩
 .obtain ⟨h0,h⟩:=h;obtain ⟨r,hr,hk⟩:=dG.1 h;exact ⟨_,hk,fun K' hK'=>⟨h0,dG.2 ⟨r,hr,hK'⟩⟩⟩
 .exact h.elim
theorem aiy {op x y}{K:mP->Prop}(h:afV op x y K):∃r,K r/\afV op x y (fun r'=>r'=r):=by
 rcases h with ⟨h1,h3,h4,hK⟩|⟨b,h1,h2,h3,h4,hK⟩
 .exact ⟨_,hK,.inl ⟨h1,h3,h4,rfl⟩⟩
 .exact ⟨_,hK,.inr ⟨b,h1,h2,h3,h4,rfl⟩⟩
theorem al5 {op x}{K:AV->Prop}(h:aUn op x K):∃a,K a/\∀K':AV->Prop,K' a->aUn op x K':=by
 unfold aUn at h ⊢;split at h<;>first|exact h.elim|exact ⟨_,h,fun K' hK'=>hK'⟩
theorem XT {s d x}{K:AV->Prop}(h:Dn P s d x K):∃a,K a/\∀K':AV->Prop,K' a->Dn P s d x K':=by
 unfold Dn at h ⊢;obtain ⟨h0,h⟩:=h;split at h
 .exact ⟨_,h,fun K' hK'=>⟨h0,hK'⟩⟩
 .exact ⟨_,h,fun K' hK'=>⟨h0,hK'⟩⟩
 .obtain ⟨r,hr,h1,h2,hk⟩:=dG.1 h;exact ⟨_,hk,fun K' hK'=>⟨h0,dG.2 ⟨r,hr,h1,h2,hK'⟩⟩⟩
 .exact ⟨_,h,fun K' hK'=>⟨h0,hK'⟩⟩
 .exact ⟨_,h.2.2,fun K' hK'=>⟨h0,h.1,h.2.1,hK'⟩⟩
 .exact h.elim
theorem rJ {o d}{k:Nat->Prop}(h:Ey o d k):∃n,k n/\∀k':Nat->Prop,k' n->Ey o d k':=by
 unfold Ey at h ⊢;split at h
 .exact ⟨_,h,fun k' h=>h⟩
 .exact ⟨_,h.2,fun k' h'=>⟨h.1,h'⟩⟩
 .exact h.elim
theorem acj {t x lo hi mx}(h:xk P t x lo hi mx K):∃r,K r/\r.rd=[]/\xk P t x lo hi mx (fun r'=>r'=r):=by
 unfold xk at h ⊢;split at h
 .obtain ⟨hu,hm,h⟩:=h;obtain ⟨l,h,hl⟩:=rJ h;obtain ⟨j,h,hj⟩:=rJ h;obtain ⟨h1,h2,hK⟩:=h;exact ⟨_,hK,rfl,hu,hm,hl _ (hj _ ⟨h1,h2,rfl⟩)⟩
 .obtain ⟨e,he,hr,hb,h⟩:=dG.1 h;obtain ⟨l,h,hl⟩:=rJ h;obtain ⟨j,h,hj⟩:=rJ h;obtain ⟨m,h,hm⟩:=rJ h;obtain ⟨h1,h2,h3,hK⟩:=h;exact ⟨_,hK,rfl,dG.2 ⟨e,he,hr,hb,hl _ (hj _ (hm _ ⟨h1,h2,h3,rfl⟩))⟩⟩
 .obtain ⟨e,he,hr,hb,h⟩:=dG.1 h;obtain ⟨l,h,hl⟩:=rJ h;obtain ⟨j,h,hj⟩:=rJ h;obtain ⟨m,h,hm⟩:=rJ h;obtain ⟨h1,h2,h3,hK⟩:=h;exact ⟨_,hK,rfl,dG.2 ⟨e,he,hr,hb,hl _ (hj _ (hm _ ⟨h1,h2,h3,rfl⟩))⟩⟩
 .exact h.elim
theorem acn {t parts}(h:Q_ P t parts K):∃r,K r/\r.rd=[]/\Q_ P t parts (fun r'=>r'=r):=by
 obtain ⟨z,hz,h⟩:=dG.1 h;obtain ⟨pl,hpl,h⟩:=dG.1 h;obtain ⟨cs,hcs,hK⟩:=dG.1 h;exact ⟨_,hK,rfl,dG.2 ⟨z,hz,dG.2 ⟨pl,hpl,dG.2 ⟨cs,hcs,rfl⟩⟩⟩⟩
theorem Qj {t len parts}(h:jD P t id len parts K):∃r,K r/\r.rd=[]/\jD P t id len parts (fun r'=>r'=r):=by
 unfold jD at h ⊢;split at h
 .obtain ⟨i,hi,h⟩:=dG.1 h;obtain ⟨z,hz,h1,h2,h⟩:=dG.1 h;obtain ⟨cs,hcs,hK⟩:=dG.1 h;exact ⟨_,hK,rfl,dG.2 ⟨i,hi,dG.2 ⟨z,hz,h1,h2,dG.2 ⟨cs,hcs,rfl⟩⟩⟩⟩
 .exact h.elim
theorem aco {t}(h:Rf P t id K):∃r,K r/\r.rd=[]/\Rf P t id (fun r'=>r'=r):=by
 rcases h with h|h;rotate_left
 .obtain ⟨z,hz,ha,hK⟩:=dG.1 h;exact ⟨_,hK,rfl,.inr (dG.2 ⟨z,hz,ha,rfl⟩)⟩
 suffices h':∃r,K r/\r.rd=[]/\XH P t id (fun r'=>r'=r) from let ⟨r,h1,h2,h3⟩:=h';⟨r,h1,h2,.inl h3⟩
 obtain ⟨z,hz,hK⟩:=dG.1 h;unfold XH;cases ha:azj P t with
 |true=>rw [ha] at hK;exact ⟨_,hK,rfl,dG.2 ⟨z,hz,rfl⟩⟩|false=>rw [ha] at hK;exact ⟨_,hK,rfl,dG.2 ⟨z,hz,rfl⟩⟩
theorem RX {t l c}(h:qh P t id l c K):∃r,K r/\r.rd=[]/\qh P t id l c (fun r'=>r'=r):=by
 unfold qh at h ⊢;split at h
 .obtain ⟨i,hi,h⟩:=dG.1 h;obtain ⟨z,hz,h1,h2,h3,h4,h5,hK⟩:=dG.1 h;exact ⟨_,hK,rfl,dG.2 ⟨i,hi,dG.2 ⟨z,hz,h1,h2,h3,h4,h5,rfl⟩⟩⟩
 .exact h.elim
theorem J_ {n y}{k:List (List AV)->List Nat->Prop}(h:ayB ah n y k):∃ys rd,k ys rd/\∀dV:AH,(∀b∈rd,dV b=ah b)->∀k':List (List AV)->List Nat->Prop,k' ys rd->ayB dV n y k':=by
 unfold ayB at h ⊢;split at h
 .exact ⟨_,_,h.2,fun dV _ k' hk=>⟨h.1,hk⟩⟩
 .rename_i b sz off len;obtain ⟨h0,h⟩:=h;split at h
  .rename_i sz' rs hab;obtain ⟨h1,h2,h⟩:=h;exact ⟨_,_,h,fun dV hag k' hk=>⟨h0,by rw [hag b (by simp),hab];exact ⟨h1,h2,hk⟩⟩⟩
  .exact h.elim
 .exact ⟨_,_,h.2,fun dV _ k' hk=>⟨h.1,hk⟩⟩
 .exact h.elim
theorem G5 {t t2 x y}(h:vK P id ah t t2 x y K):∃r,K r/\∀dV:AH,(∀b∈r.rd,dV b=ah b)->vK P id dV t t2 x y (fun r'=>r'=r):=by
 obtain ⟨e,he,h1,h2,h3,h4,h⟩:=dG.1 h;obtain ⟨ys,rd,h,hy⟩:=J_ h;cases x with
 |sl rows full=>
  obtain ⟨g1,g2,g3,g4,hK⟩:=h;exact ⟨_,hK,fun dV hag=>dG.2 ⟨e,he,h1,h2,h3,h4,hy dV hag _ ⟨g1,g2,g3,g4,rfl⟩⟩⟩
 |os b sz off len=>
  obtain ⟨g0,h⟩:=h;split at h
  .rename_i sz' rs hab;obtain ⟨g1,g2,g3,hK⟩:=h;refine ⟨_,hK,fun dV hag=>dG.2 ⟨e,he,h1,h2,h3,h4,hy dV (fun b' hb'=>hag b' (by simp [hb'])) _ ⟨g0,?_⟩⟩⟩;rw [hag b (by simp),hab];exact ⟨g1,g2,g3,rfl⟩
  .exact h.elim
 |_=>exact h.elim
theorem agd {t t2 x y}(h:Zi P id ah t t2 x y K):∃r,K r/\∀dV:AH,(∀b∈r.rd,dV b=ah b)->Zi P id dV t t2 x y (fun r'=>r'=r):=by
 obtain ⟨el,m,rd,hu,h⟩:=h;split at h
 .obtain ⟨h1,hK⟩:=h;obtain ⟨r0,rfl,h2⟩:=G5 h1;exact ⟨_,hK,fun dV hag=>⟨el,m,rd,hu,h2 dV hag,rfl⟩⟩
 .rename_i b sz off len;split at h
  .rename_i ty sz' rs hab;obtain ⟨h0,hof,hb,h1,hK⟩:=h;obtain ⟨r0,rfl,h2⟩:=G5 h1;refine ⟨_,hK,fun dV hag=>⟨el,m,rd,hu,?_⟩⟩;show (match dV b with|some (.iD ty sz' rs)=>_|_=>False);rw [hag b hb,hab];refine ⟨h0,hof,hb,h2 _ fun b2 hb2=>?_,rfl⟩;by_cases e:b2=b
   .rw [gX e,gX e]
   .rw [ayp e,ayp e];exact hag b2 hb2
  .exact h.elim
 .exact h.elim
theorem agf {t t2 x y}(h:Zj P id ah t t2 x y K):∃r,K r/\∀dV:AH,(∀b∈r.rd,dV b=ah b)->Zj P id dV t t2 x y (fun r'=>r'=r):=by
 rcases h with h|h
 .obtain ⟨r,h1,h2⟩:=G5 h;exact ⟨r,h1,fun dV hag=>.inl (h2 dV hag)⟩
 .obtain ⟨r,h1,h2⟩:=agd h;exact ⟨r,h1,fun dV hag=>.inr (h2 dV hag)⟩
theorem aiz {t x}(h:Ll P ah t x K):∃r,K r/\∀dV:AH,(∀b∈r.rd,dV b=ah b)->Ll P dV t x (fun r'=>r'=r):=by
 unfold Ll at h ⊢;split at h
 .exact ⟨_,h,fun _ _=>rfl⟩
 .exact ⟨_,h,fun _ _=>rfl⟩
 .exact ⟨_,h,fun _ _=>rfl⟩
 .exact ⟨_,h,fun _ _=>rfl⟩
 .rename_i b hu;split at h
  .rename_i es hab;exact ⟨_,h,fun dV hag=>by rw [hag b (by simp),hab]⟩
  .exact h.elim
 .exact h.elim
theorem PD {mx l}{K:AV->Prop}(h:BH mx l K):∃a,K a/\∀K':AV->Prop,K' a->BH mx l K':=by
 unfold BH at h ⊢;split at h
 .exact ⟨_,h.2,fun K' hK=>⟨h.1,hK⟩⟩
 .exact h.elim
 mutual
theorem IV {ah dV:AH}:∀{a:AV},(∀b∈a.refs,dV b=ah b)->jE dV a=jE ah a
  | .p _,_=>rfl| .str _,_=>rfl| .agg cs,h=>by simp only [jE,qj (l:=cs) h]
  | .gW cs,h=>by simp only [jE,qj (l:=cs) h]
  | .sl rows _,h=>by simp only [jE,G6 (l:=rows) h]
  | .vp row _,h=>by simp only [jE,qj (l:=row) h]
  | .os b sz off len,h=>by simp only [jE,h b (by simp [AV.refs])]
  | .op b sz row off,h=>by simp only [jE,h b (by simp [AV.refs])]
  | .fn f x y,h=>by
   simp only [AV.refs,aH] at h;simp only [jE,qj (l:=x) (fun b hb=>h b (.inl hb)),qj (l:=y) (fun b hb=>h b (.inr hb))]
  | .kY t v,h=>by simp only [jE,IV (a:=v) h]
  | .mp b,_=>rfl| .nan,_=>rfl
theorem qj {ah dV:AH}:∀{l:List AV},(∀b∈jf l,dV b=ah b)->lI dV l=lI ah l
  |[],_=>rfl|a::r,h=>by
   simp only [jf,aH] at h;simp only [lI,IV (a:=a) (fun b hb=>h b (.inl hb)),qj (l:=r) (fun b hb=>h b (.inr hb))]
theorem G6 {ah dV:AH}:∀{l:List (List AV)},(∀b∈jo l,dV b=ah b)->lK dV l=lK ah l
  |[],_=>rfl|a::r,h=>by
   simp only [jo,aH] at h;simp only [lK,qj (l:=a) (fun b hb=>h b (.inl hb)),G6 (l:=r) (fun b hb=>h b (.inr hb))]
end
theorem NY {ah dV:AH}:∀(n:Nat) {l:List Nat},(∀b∈rch ah n l,dV b=ah b)->∀b∈l,nR dV n b=nR ah n b
 |0,l,h,b,hb=>h b hb|n+1,l,h,b,hb=>by
  simp only [rch,aH] at h;have ih:=NY n (l:=l.flatMap (vM ah)) (fun b hb=>h b (.inr hb));simp only [nR,h b (.inl hb)];cases hk:ah b with
  |none=>rfl|some k=>
   cases k with
   |rows sz rs=>
    simp only;rw [G6 (l:=rs) (ah:=nR ah n) (dV:=nR dV n) (fun c hc=>ih c (List.mem_flatMap.2 ⟨b,hb,by simp only [vM,hk];exact hc⟩))]
   |map es=>rfl|it m n k=>rfl|iD ty sz rs=>rfl
theorem IW {ah:AH}{b sz:Nat}{rs:List (List AV)}(h:ah b=some (.rows sz rs))(hc:fJ rs=true):∀n,nR ah n b=some (.rows sz rs)
 |0=>h|n+1=>by simp only [nR,h,hc,cond_true]
theorem Ls {α β:Type}{f g:α->List β}:∀{l:List α},(∀b∈l,f b=g b)->l.flatMap f=l.flatMap g
 |[],_=>rfl|a::r,h=>by rw [List.flatMap_cons,List.flatMap_cons,h a aZ,Ls fun b hb=>h b (aN _ hb)]
theorem NZ {ah dV:AH}:∀(n:Nat) {l:List Nat},(∀b∈rch ah n l,dV b=ah b)->rch dV n l=rch ah n l
 |0,l,h=>rfl|n+1,l,h=>by
  simp only [rch,aH] at h;have e:l.flatMap (vM dV)=l.flatMap (vM ah):=Ls fun b hb=>by simp only [vM,h b (.inl hb)]
  simp only [rch,e];rw [NZ n (fun b hb=>h b (.inr hb))]
theorem EK {ah:AH}{b sz len:Nat}{rs:List (List AV)}(h:ah b=some (.rows sz rs))(hc:fJ rs=true)(hl:rs.length=len):jE (nR ah ayw) (.os b sz 0 len)=some (.sl rs false):=by
 subst hl;simp [jE,IW h hc ayw,hc]
theorem agh {f args}(h:VP P ah f args K):∃r,K r/\∀dV:AH,(∀b∈r.rd,dV b=ah b)->VP P dV f args (fun r'=>r'=r):=by
 obtain ⟨az,has,as',r,hwk,hpc,hcl⟩:=dG.1 h;rcases hcl with ⟨hcl,hK⟩|hK
 .exact ⟨_,hK,fun dV hag=>dG.2 ⟨az,by rw [qj (NY ayw hag)];exact has,as',r,hwk,hpc,.inl ⟨hcl,by rw [NZ ayw hag]⟩⟩⟩
 .exact ⟨_,hK,fun dV hag=>dG.2 ⟨az,by rw [qj (NY ayw hag)];exact has,as',r,hwk,hpc,.inr (by rw [NZ ayw hag])⟩⟩
theorem Lu {t r}(h:Dp P t id r K):∃x,K x/\x.rd=[]/\Dp P t id r (fun r'=>r'=x):=⟨_,h.2,rfl,h.1,rfl⟩
theorem Zz {t m k c}(h:BI P ah t m k c K):∃r,K r/\∀dV:AH,(∀b∈r.rd,dV b=ah b)->BI P dV t m k c (fun r'=>r'=r):=by
 unfold BI at h ⊢;split at h
 .rename_i kt et hu;obtain ⟨h1,h⟩:=h;rw [dG] at h;obtain ⟨z,hz,h⟩:=h;unfold al1 at h;split at h
  .exact ⟨_,h,fun dV _=>⟨h1,dG.2 ⟨z,hz,rfl⟩⟩⟩
  .rename_i b;split at h
   .rename_i es hb;obtain ⟨r,hr,hK⟩:=dG.1 h;refine ⟨_,hK,fun dV hag=>⟨h1,dG.2 ⟨z,hz,?_⟩⟩⟩;unfold al1;dsimp only;rw [hag b (by simp),hb];exact dG.2 ⟨r,hr,rfl⟩
   .exact h.elim
  .exact h.elim
 .exact h.elim
theorem acp {t m}(h:GK P ah id t m K):∃r,K r/\∀dV:AH,(∀b∈r.rd,dV b=ah b)->GK P dV id t m (fun r'=>r'=r):=by
 unfold GK at h ⊢;split at h
 .split at h
  .rename_i b;split at h
   .rename_i es hb;refine ⟨_,h,fun dV hag=>?_⟩;dsimp only;rw [hag b (by simp),hb]
   .exact h.elim
  .exact h.elim
 .exact h.elim
theorem acr {it}(h:JX ah it K):∃r,K r/\∀dV:AH,(∀b∈r.rd,dV b=ah b)->JX dV it (fun r'=>r'=r):=by
 unfold JX at h ⊢;split at h
 .rename_i q sz;split at h
  .rename_i b n k hq;unfold Ez at h;split at h
   .rename_i es hb;obtain ⟨hn,h⟩:=h;obtain ⟨e,he,hK⟩:=dG.1 h;refine ⟨_,hK,fun dV hag=>?_⟩;rw [hag q (by simp),hq];dsimp only;unfold Ez;rw [hag b (by simp),hb];exact ⟨hn,dG.2 ⟨e,he,rfl⟩⟩
   .exact h.elim
  .exact h.elim
 .exact h.elim
theorem agi {it str}(h:Rh ah it str K):∃r,K r/\∀dV:AH,(∀b∈r.rd,dV b=ah b)->Rh dV it str (fun r'=>r'=r):=by
 unfold Rh at h ⊢;split at h
 .split at h
  .rename_i q sz;split at h
   .rename_i b n k hq;unfold GL at h;split at h
    .rename_i es hb;obtain ⟨hn,h⟩:=h;split at h
     .rename_i hk;refine ⟨_,h,fun dV hag=>?_⟩;rw [hag q (by simp),hq];dsimp only;unfold GL;rw [hag b (by simp),hb];exact ⟨hn,by rw [hk]⟩
     .rename_i hk;obtain ⟨hk1,h⟩:=h;obtain ⟨e,he,hK⟩:=dG.1 h;refine ⟨_,hK,fun dV hag=>?_⟩;rw [hag q (by simp),hq];dsimp only;unfold GL;rw [hag b (by simp),hb];exact ⟨hn,by rw [hk];exact ⟨hk1,dG.2 ⟨e,he,rfl⟩⟩⟩
    .exact h.elim
   .exact h.elim
  .exact h.elim
 .exact h.elim
theorem PE {t m k v}(h:BJ P ah t m k v K):∃r,K r/\∀dV:AH,(∀b∈r.rd,dV b=ah b)->BJ P dV t m k v (fun r'=>r'=r):=by
 unfold BJ at h ⊢;split at h
 .rename_i kt et hu;obtain ⟨h1,h2,h⟩:=h;unfold ael at h;split at h
  .rename_i b;split at h
   .rename_i es hb;obtain ⟨r,hr,hs,hK⟩:=dG.1 h;refine ⟨_,hK,fun dV hag=>⟨h1,h2,?_⟩⟩;unfold ael;dsimp only;rw [hag b (by simp),hb];exact dG.2 ⟨r,hr,hs,rfl⟩
   .exact h.elim
  .exact h.elim
 .exact h.elim
theorem agj {t x y}(h:VO P ah t x y K):∃r,K r/\∀dV:AH,(∀b∈r.rd,dV b=ah b)->VO P dV t x y (fun r'=>r'=r):=by
 unfold VO at h;rw [dG] at h;obtain ⟨e,he,h1,h⟩:=h;have h':=J_ h;clear h;obtain ⟨ys,rd,h,hy⟩:=h';split at h
 .exact ⟨_,h,fun dV hag=>dG.2 ⟨e,he,h1,hy dV hag _ rfl⟩⟩
 .rename_i b sz off len;obtain ⟨h2,h⟩:=h;split at h
  .rename_i sz' rs hab;obtain ⟨h3,h4,hK⟩:=h;refine ⟨_,hK,fun dV hag=>dG.2 ⟨e,he,h1,hy dV (fun b' hb'=>hag b' (by simp [hb'])) _ ⟨h2,?_⟩⟩⟩;rw [hag b (by simp),hab];exact ⟨h3,h4,rfl⟩
  .exact h.elim
 .exact h.elim
theorem ZA {t x lo hi mx}(h:BG P ah t x lo hi mx K):∃r,K r/\∀dV:AH,(∀b∈r.rd,dV b=ah b)->BG P dV t x lo hi mx (fun r'=>r'=r):=by
 cases x with
 |op b sz i off=>
  obtain ⟨e,he,hsz,hoff,hbig,h9⟩:=dG.1 h;clear h;revert h9;cases hb:ah b with
  |none=>intro h;exact h.elim|some kk=>
  cases kk with
  |map es=>intro h;exact h.elim|it m n k=>intro h;exact h.elim|iD ty sz rs=>intro h;exact h.elim|rows sz' rs=>
   intro h;obtain ⟨h1,h2,h3,h⟩:=h;obtain ⟨l,h,hl⟩:=rJ h;obtain ⟨j,h,hj⟩:=rJ h;obtain ⟨m,h,hm⟩:=rJ h;obtain ⟨a1,a2,a3,hK⟩:=h;exact ⟨_,hK,fun dV hag=>dG.2 ⟨e,he,hsz,hoff,hbig,by rw [hag b (by simp),hb];exact ⟨h1,h2,h3,hl _ (hj _ (hm _ ⟨a1,a2,a3,rfl⟩))⟩⟩⟩
 |_=>
  unfold BG at h;obtain ⟨r,hK,-,hr⟩:=acj h;exact ⟨r,hK,fun dV _=>by unfold BG;exact hr⟩
theorem acs {t x}(h:Ri P ah t x K):∃r,K r/\∀dV:AH,(∀b∈r.rd,dV b=ah b)->Ri P dV t x (fun r'=>r'=r):=by
 obtain ⟨e,he,hne,h⟩:=dG.1 h;obtain ⟨z,hz,hzl,h⟩:=dG.1 h;cases x with
 |os b sz off len=>
  obtain ⟨rfl,h⟩:=h;split at h
  .rename_i sz' rs hb;obtain ⟨h1,h2,hK⟩:=h;exact ⟨_,hK,fun dV hag=>dG.2 ⟨e,he,hne,dG.2 ⟨z,hz,hzl,rfl,by rw [hag b (by simp),hb];exact ⟨h1,h2,rfl⟩⟩⟩⟩
  .exact h.elim
 |_=>exact h.elim
theorem agk {s d x}(h:Pn P ah s d x K):∃r,K r/\∀dV:AH,(∀b∈r.rd,dV b=ah b)->Pn P dV s d x (fun r'=>r'=r):=by
 unfold Pn at h ⊢;split at h
 .obtain ⟨h1,h2,h3,h⟩:=h;obtain ⟨ys,rd,h,hy⟩:=J_ h;obtain ⟨l,hl,hK⟩:=dG.1 h;exact ⟨_,hK,fun dV hag=>⟨h1,h2,h3,hy dV hag _ (dG.2 ⟨l,hl,rfl⟩)⟩⟩
 .obtain ⟨r,hK,hl⟩:=XT h;exact ⟨_,hK,fun dV _=>hl _ rfl⟩
theorem XU {t x}(h:GN P t x K):∃r,K r/\GN P t x (fun r'=>r'=r):=⟨_,h.2,h.1,rfl⟩
theorem Vr {x}(h:xq x K):∃r,K r/\xq x (fun r'=>r'=r):=by
 unfold xq at h ⊢;split at h
 .exact ⟨_,h,rfl⟩
 .exact ⟨_,h,rfl⟩
 .exact ⟨_,h,rfl⟩
 .exact h.elim
theorem ZB {x a c}(h:ED P x a c K):∃r,K r/\ED P x a c (fun r'=>r'=r):=by
 unfold ED at h ⊢;rw [dG] at h;obtain ⟨d,hd,h⟩:=h;unfold aAs at h;split at h
 .rename_i hq;obtain ⟨i,hi,hm,hK⟩:=dG.1 h;exact ⟨_,hK,dG.2 ⟨d,hd,by unfold aAs;rw [hq];exact dG.2 ⟨i,hi,hm,rfl⟩⟩⟩
 .rename_i hq;rcases h with ⟨e,hK⟩|⟨e,e2,h⟩
  .exact ⟨_,hK,dG.2 ⟨d,hd,by unfold aAs;rw [hq];exact .inl ⟨e,rfl⟩⟩⟩
  .obtain ⟨z,hz,hK⟩:=dG.1 h;exact ⟨_,hK,dG.2 ⟨d,hd,by unfold aAs;rw [hq];exact .inr ⟨e,e2,dG.2 ⟨z,hz,rfl⟩⟩⟩⟩
 .obtain ⟨e2,h⟩:=h;obtain ⟨z,hz,hK⟩:=dG.1 h;refine ⟨_,hK,dG.2 ⟨d,hd,?_⟩⟩;unfold aAs;cases EC d<;>exact ⟨e2,dG.2 ⟨z,hz,rfl⟩⟩
 .exact h.elim
def ay6 (fr fr':jB)(xs:List Operand):Prop:=∀t,Operand.tmp t∈xs->fV fr' t=fV fr t
theorem eY {fr fr':jB}{x:Operand}{xs:List Operand}(h:ay6 fr fr' xs)(hx:x∈xs):ev fr' x=ev fr x:=by
 cases x with
 |tmp t=>exact h t hx|_=>rfl
theorem nT {fr fr':jB}:∀{l xs:List Operand},ay6 fr fr' xs->(∀x∈l,x∈xs)->Q9 fr' l=Q9 fr l
 |[],xs,_,_=>rfl|x::r,xs,h,hm=>by
  have e:=nT (l:=r) h (fun y hy=>hm y (aN _ hy));simp only [Q9,eY h (hm x (by simp)),e]
theorem z_ {α:Type}{fr fr':jB}:∀{l:List (α×Operand)} {xs:List Operand},ay6 fr fr' xs->(∀x∈l,x.2∈xs)->Q8 fr' l=Q8 fr l
 |[],xs,_,_=>rfl|(i,x)::r,xs,h,hm=>by
  have e:=z_ (l:=r) h (fun y hy=>hm y (aN _ hy));simp only [Q8,eY h (hm (i,x) (by simp)),e]
theorem aeD {fr:jB}{op:Op}(h:Qi P id fr ah op K):∃r,K r/\∀(fr':jB) (dV:AH),ay6 fr fr' op.operands.toList->(∀b∈r.rd,dV b=ah b)->Qi P id fr' dV op (fun r'=>r'=r):=by
 unfold Qi at h;dsimp only at h;split at h
 .obtain ⟨y,hy,hK⟩:=dG.1 h;exact ⟨_,hK,fun fr' dV hf _=>dG.2 ⟨y,by rw [eY hf (by simp [Op.operands])];exact hy,rfl⟩⟩
 .obtain ⟨y,hy,hK⟩:=dG.1 h;exact ⟨_,hK,fun fr' dV hf _=>dG.2 ⟨y,by rw [eY hf (by simp [Op.operands])];exact hy,rfl⟩⟩
 .rename_i c x y;obtain ⟨cv,hc,h⟩:=dG.1 h;split at h
  .rename_i t;rw [uy] at h;split at h
   .rename_i ht;obtain ⟨z,hz,hK⟩:=dG.1 h;refine ⟨_,hK,fun fr' dV hf _=>dG.2 ⟨_,by rw [eY hf (by simp [Op.operands])];exact hc,?_⟩⟩;dsimp only;rw [uy,if_pos ht];exact dG.2 ⟨z,by rw [eY hf (by simp [Op.operands])];exact hz,rfl⟩
   .rename_i ht;obtain ⟨z,hz,hK⟩:=dG.1 h;refine ⟨_,hK,fun fr' dV hf _=>dG.2 ⟨_,by rw [eY hf (by simp [Op.operands])];exact hc,?_⟩⟩;dsimp only;rw [uy,if_neg ht];exact dG.2 ⟨z,by rw [eY hf (by simp [Op.operands])];exact hz,rfl⟩
  .exact h.elim
 .obtain ⟨y,hy,h⟩:=dG.1 h;obtain ⟨r,hK,hl⟩:=agc h;exact ⟨r,hK,fun fr' dV hf ha=>dG.2 ⟨y,by rw [eY hf (by simp [Op.operands])];exact hy,hl dV ha⟩⟩
 .obtain ⟨x',hx,h⟩:=dG.1 h;obtain ⟨y',hy,h⟩:=dG.1 h;obtain ⟨r,hK,hl⟩:=acg h;exact ⟨r,hK,fun fr' dV hf ha=>dG.2 ⟨x',by rw [eY hf (by simp [Op.operands])];exact hx,dG.2 ⟨y',by rw [eY hf (by simp [Op.operands])];exact hy,hl dV ha⟩⟩⟩
 .obtain ⟨y,hy,h⟩:=dG.1 h;obtain ⟨r,hK,-,hl⟩:=RS h;exact ⟨r,hK,fun fr' dV hf ha=>dG.2 ⟨y,by rw [eY hf (by simp [Op.operands])];exact hy,hl⟩⟩
 .obtain ⟨y,hy,h⟩:=dG.1 h;obtain ⟨r,hK,-,hl⟩:=ach h;exact ⟨r,hK,fun fr' dV hf ha=>dG.2 ⟨y,by rw [eY hf (by simp [Op.operands])];exact hy,hl⟩⟩
 .obtain ⟨x',hx,h⟩:=dG.1 h;obtain ⟨y',hy,h⟩:=dG.1 h;obtain ⟨r,hK,-,hl⟩:=RU h;exact ⟨r,hK,fun fr' dV hf ha=>dG.2 ⟨x',by rw [eY hf (by simp [Op.operands])];exact hx,dG.2 ⟨y',by rw [eY hf (by simp [Op.operands])];exact hy,hl⟩⟩⟩
 .obtain ⟨x',hx,h⟩:=dG.1 h;obtain ⟨y',hy,h⟩:=dG.1 h;obtain ⟨r,hK,-,hl⟩:=aci h;exact ⟨r,hK,fun fr' dV hf ha=>dG.2 ⟨x',by rw [eY hf (by simp [Op.operands])];exact hx,dG.2 ⟨y',by rw [eY hf (by simp [Op.operands])];exact hy,hl⟩⟩⟩
 .obtain ⟨y,hy,h⟩:=dG.1 h;obtain ⟨r,hK,-,hl⟩:=XR h;exact ⟨r,hK,fun fr' dV hf ha=>dG.2 ⟨y,by rw [eY hf (by simp [Op.operands])];exact hy,hl⟩⟩
 .obtain ⟨x',hx,h⟩:=dG.1 h;obtain ⟨y',hy,h⟩:=dG.1 h;rcases h with h|h
  .obtain ⟨r,hK,hl⟩:=aix h;exact ⟨_,hK,fun fr' dV hf ha=>dG.2 ⟨x',by rw [eY hf (by simp [Op.operands])];exact hx,dG.2 ⟨y',by rw [eY hf (by simp [Op.operands])];exact hy,.inl (hl _ rfl)⟩⟩⟩
  .obtain ⟨r,hK,hl⟩:=aiy h;exact ⟨r,hK,fun fr' dV hf ha=>dG.2 ⟨x',by rw [eY hf (by simp [Op.operands])];exact hx,dG.2 ⟨y',by rw [eY hf (by simp [Op.operands])];exact hy,.inr hl⟩⟩⟩
 .obtain ⟨y,hy,h⟩:=dG.1 h;obtain ⟨r,hK,hl⟩:=al5 h;exact ⟨_,hK,fun fr' dV hf ha=>dG.2 ⟨y,by rw [eY hf (by simp [Op.operands])];exact hy,hl _ rfl⟩⟩
 .obtain ⟨y,hy,h⟩:=dG.1 h;obtain ⟨r,hK,hl⟩:=agk h;exact ⟨_,hK,fun fr' dV hf ha=>dG.2 ⟨y,by rw [eY hf (by simp [Op.operands])];exact hy,hl dV ha⟩⟩
 .obtain ⟨r,hK,-,hl⟩:=Lu h;exact ⟨r,hK,fun fr' dV hf ha=>hl⟩
 .obtain ⟨y,hy,h⟩:=dG.1 h;obtain ⟨r,hK,-,hl⟩:=Lu h;exact ⟨r,hK,fun fr' dV hf ha=>dG.2 ⟨y,by rw [eY hf (by simp [Op.operands])];exact hy,hl⟩⟩
 .obtain ⟨x',hx,h⟩:=dG.1 h;obtain ⟨y',hy,h⟩:=dG.1 h;obtain ⟨r,hK,hl⟩:=Zz h;exact ⟨r,hK,fun fr' dV hf ha=>dG.2 ⟨x',by rw [eY hf (by simp [Op.operands])];exact hx,dG.2 ⟨y',by rw [eY hf (by simp [Op.operands])];exact hy,hl dV ha⟩⟩⟩
 .obtain ⟨x',hx,h⟩:=dG.1 h;obtain ⟨y',hy,h⟩:=dG.1 h;obtain ⟨z',hz,h⟩:=dG.1 h;obtain ⟨r,hK,hl⟩:=PE h;exact ⟨r,hK,fun fr' dV hf ha=>dG.2 ⟨x',by rw [eY hf (by simp [Op.operands])];exact hx,dG.2 ⟨y',by rw [eY hf (by simp [Op.operands])];exact hy,dG.2 ⟨z',by rw [eY hf (by simp [Op.operands])];exact hz,hl dV ha⟩⟩⟩⟩
 .obtain ⟨x',hx,h⟩:=dG.1 h;obtain ⟨y',hy,h⟩:=dG.1 h;obtain ⟨z',hz,h⟩:=dG.1 h;obtain ⟨r,hK,hl⟩:=PE h;exact ⟨r,hK,fun fr' dV hf ha=>dG.2 ⟨x',by rw [eY hf (by simp [Op.operands])];exact hx,dG.2 ⟨y',by rw [eY hf (by simp [Op.operands])];exact hy,dG.2 ⟨z',by rw [eY hf (by simp [Op.operands])];exact hz,hl dV ha⟩⟩⟩⟩
 .obtain ⟨y,hy,h⟩:=dG.1 h;obtain ⟨r,hK,hl⟩:=acp h;exact ⟨_,hK,fun fr' dV hf ha=>dG.2 ⟨y,by rw [eY hf (by simp [Op.operands])];exact hy,hl dV ha⟩⟩
 .obtain ⟨y,hy,h⟩:=dG.1 h;obtain ⟨r,hK,hl⟩:=agi h;exact ⟨_,hK,fun fr' dV hf ha=>dG.2 ⟨y,by rw [eY hf (by simp [Op.operands])];exact hy,hl dV ha⟩⟩
 .obtain ⟨y,hy,h⟩:=dG.1 h;obtain ⟨r,hK,hl⟩:=acr h;exact ⟨_,hK,fun fr' dV hf ha=>dG.2 ⟨y,by rw [eY hf (by simp [Op.operands])];exact hy,hl dV ha⟩⟩
 .obtain ⟨y,hy,h⟩:=dG.1 h;obtain ⟨r,hK,hl⟩:=XU h;exact ⟨_,hK,fun fr' dV hf ha=>dG.2 ⟨y,by rw [eY hf (by simp [Op.operands])];exact hy,hl⟩⟩
 .obtain ⟨y,hy,h⟩:=dG.1 h;obtain ⟨r,hK,hl⟩:=ZB h;exact ⟨_,hK,fun fr' dV hf ha=>dG.2 ⟨y,by rw [eY hf (by simp [Op.operands])];exact hy,hl⟩⟩
 .obtain ⟨y,hy,h⟩:=dG.1 h;obtain ⟨r,hK,hl⟩:=Vr h;exact ⟨_,hK,fun fr' dV hf ha=>dG.2 ⟨y,by rw [eY hf (by simp [Op.operands])];exact hy,hl⟩⟩
 .rename_i t x lo hi mx;obtain ⟨x',hx,h⟩:=dG.1 h;obtain ⟨l,hl,h⟩:=dG.1 h;obtain ⟨j,hj,h⟩:=dG.1 h;obtain ⟨m,hm,h⟩:=dG.1 h;obtain ⟨r,hK,hr⟩:=ZA h;refine ⟨r,hK,fun fr' dV hf ha=>dG.2 ⟨x',by rw [eY hf (by simp [Op.operands])];exact hx,dG.2 ⟨l,?_,dG.2 ⟨j,?_,dG.2 ⟨m,?_,hr dV ha⟩⟩⟩⟩⟩
  .rw [z_ hf (fun y hy=>by cases lo<;>simp at hy;subst hy;simp [Op.operands])];exact hl
  .rw [z_ hf (fun y hy=>by cases hi<;>simp at hy;subst hy;simp [Op.operands])];exact hj
  .rw [z_ hf (fun y hy=>by cases mx<;>simp at hy;subst hy;simp [Op.operands])];exact hm
 .rename_i t parts;obtain ⟨ps,hps,h⟩:=dG.1 h;obtain ⟨r,hK,-,hl⟩:=acn h;refine ⟨r,hK,fun fr' dV hf ha=>dG.2 ⟨ps,?_,hl⟩⟩;rw [z_ hf (fun y hy=>by simp [Op.operands];exact ⟨y.1,by simpa using hy⟩)];exact hps
 .rename_i t len parts;obtain ⟨ps,hps,h⟩:=dG.1 h;obtain ⟨r,hK,-,hl⟩:=Qj h;refine ⟨r,hK,fun fr' dV hf ha=>dG.2 ⟨ps,?_,hl⟩⟩;rw [z_ hf (fun y hy=>by simp [Op.operands];exact ⟨y.1,by simpa using hy⟩)];exact hps
 .obtain ⟨y,hy,h⟩:=dG.1 h;exact ⟨_,h.2,fun fr' dV hf ha=>dG.2 ⟨y,by rw [eY hf (by simp [Op.operands])];exact hy,h.1,rfl⟩⟩
 .obtain ⟨r,hK,-,hl⟩:=aco h;exact ⟨r,hK,fun fr' dV hf ha=>hl⟩
 .obtain ⟨x',hx,h⟩:=dG.1 h;obtain ⟨y',hy,h⟩:=dG.1 h;obtain ⟨r,hK,-,hl⟩:=RX h;exact ⟨r,hK,fun fr' dV hf ha=>dG.2 ⟨x',by rw [eY hf (by simp [Op.operands])];exact hx,dG.2 ⟨y',by rw [eY hf (by simp [Op.operands])];exact hy,hl⟩⟩⟩
 .obtain ⟨x',hx,h⟩:=dG.1 h;obtain ⟨y',hy,hK⟩:=dG.1 h;exact ⟨_,hK,fun fr' dV hf ha=>dG.2 ⟨x',by rw [nT hf (by simp [Op.operands];intro x hx;exact .inl hx)];exact hx,dG.2 ⟨y',by rw [nT hf (by simp [Op.operands];intro x hx;exact .inr hx)];exact hy,rfl⟩⟩⟩
 .obtain ⟨l,hl,h⟩:=dG.1 h;split at h
  .rename_i x;obtain ⟨t,ht,h⟩:=dG.1 h;obtain ⟨r,hK,hr⟩:=aiz h;exact ⟨r,hK,fun fr' dV hf ha=>dG.2 ⟨[x],by rw [nT hf (by simp [Op.operands,Call.operands])];exact hl,dG.2 ⟨t,ht,hr dV ha⟩⟩⟩
  .exact h.elim
 .obtain ⟨l,hl,h⟩:=dG.1 h;split at h
  .rename_i x y;obtain ⟨t,ht,h⟩:=dG.1 h;obtain ⟨t2,ht2,h⟩:=dG.1 h;obtain ⟨r,hK,hr⟩:=agf h;exact ⟨r,hK,fun fr' dV hf ha=>dG.2 ⟨[x,y],by rw [nT hf (by simp [Op.operands,Call.operands])];exact hl,dG.2 ⟨t,ht,dG.2 ⟨t2,ht2,hr dV ha⟩⟩⟩⟩
  .exact h.elim
 .obtain ⟨l,hl,h⟩:=dG.1 h;split at h
  .rename_i x y;obtain ⟨t,ht,h⟩:=dG.1 h;obtain ⟨r,hK,hr⟩:=agj h;exact ⟨r,hK,fun fr' dV hf ha=>dG.2 ⟨[x,y],by rw [nT hf (by simp [Op.operands,Call.operands])];exact hl,dG.2 ⟨t,ht,hr dV ha⟩⟩⟩
  .exact h.elim
 .obtain ⟨l,hl,h⟩:=dG.1 h;split at h
  .rename_i x;obtain ⟨t,ht,h⟩:=dG.1 h;obtain ⟨r,hK,hr⟩:=acs h;exact ⟨r,hK,fun fr' dV hf ha=>dG.2 ⟨[x],by rw [nT hf (by simp [Op.operands,Call.operands])];exact hl,dG.2 ⟨t,ht,hr dV ha⟩⟩⟩
  .exact h.elim
 .obtain ⟨l,hl,h⟩:=dG.1 h;obtain ⟨r,hK,hr⟩:=PD h;exact ⟨_,hK,fun fr' dV hf ha=>dG.2 ⟨l,by rw [nT hf (by simp [Op.operands,Call.operands])];exact hl,hr _ rfl⟩⟩
 .obtain ⟨l,hl,h⟩:=dG.1 h;obtain ⟨r,hK,hr⟩:=PD h;exact ⟨_,hK,fun fr' dV hf ha=>dG.2 ⟨l,by rw [nT hf (by simp [Op.operands,Call.operands])];exact hl,hr _ rfl⟩⟩
 .obtain ⟨l,hl,h⟩:=dG.1 h;obtain ⟨r,hK,hr⟩:=agh h;exact ⟨r,hK,fun fr' dV hf ha=>dG.2 ⟨l,by rw [nT hf (by simp [Op.operands,Call.operands];intro x hx;exact .inr hx)];exact hl,hr dV ha⟩⟩
 .exact h.elim
end
 mutual
def AV.Gi : AV->Bool
  | .p _ | .str _ | .nan=>true| .agg cs=>PG cs| .gW cs=>PG cs| .sl rows _=>rows.isEmpty| .kY _ v=>v.Gi| .os .. | .mp _=>true|_=>false
def PG : List AV->Bool
  |[]=>true|a::r=>a.Gi&&PG r
end
def qO.FV : qO->Bool
 | .rows _ rs=>rs.all y8| .map _=>false| .it _ _ _=>false| .iD _ _ _=>false
theorem N7 : ∀{l:List AV},PG l=true->∀(i:Nat) (a:AV),l[i]?=some a->a.Gi=true
 |[],_,i,a,hi=>by simp at hi
 |x::r,h,0,a,hi=>by
  simp only [PG,ak] at h;simp at hi;subst hi;exact h.1
 |x::r,h,i+1,a,hi=>by
  simp only [PG,ak] at h;exact N7 h.2 i a (by simpa using hi)
theorem aiA {w:World}{E E':Env}(ho:E'.own=E.own){a:AV}{v:Value}(h:Rep w E a v):a.Gi=true->Rep w E' a v:=by
 induction h with
 |p h=>intro _;exact .p h|str s l h=>intro _;exact .str s l h|agg cs vs hl hs _ ih=>intro hc;exact .agg cs vs hl hs (fun i c v h1 h2=>ih i c v h1 h2 (N7 (by simpa [AV.Gi] using hc) i c h1))|gW cs vs hl _ ih=>intro hc;exact .gW cs vs hl (fun i c v h1 h2=>ih i c v h1 h2 (N7 (by simpa [AV.Gi] using hc) i c h1))|slnil full a=>intro _;exact .slnil full a|sl rows full sz c o cap g hcap hfull hsz hfix hcell iQ hrep ih=>
  intro hc;simp only [AV.Gi,List.isEmpty_iff] at hc;subst hc;exact .sl [] full sz c o cap g hcap hfull hsz (fun i row j x h1=>by simp at h1) (fun i row j x h1=>by simp at h1) iQ (fun i row j x h1=>by simp at h1)
 |vp=>intro hc;simp [AV.Gi] at hc|kM b sz off a hb=>intro _;exact .kM b sz off a (by rw [ho];exact hb)|os b sz off len c o cap hb hcap hsize=>intro _;exact .os b sz off len c o cap (by rw [ho];exact hb) hcap hsize|op=>intro hc;simp [AV.Gi] at hc|fn=>intro hc;simp [AV.Gi] at hc|kY t a v _ ih=>intro hc;exact .kY t a v (ih (by simpa [AV.Gi] using hc))|mp b c hb=>intro _;exact .mp b c (by rw [ho];exact hb)|nan n hn=>intro _;exact .nan n hn
 mutual
theorem Ko : ∀{a:AV},a.flat=true->a.clean=true
  | .p _,_=>rfl| .str _,_=>rfl| .nan,_=>rfl| .agg cs,h=>BL (l:=cs) h| .gW cs,h=>BL (l:=cs) h| .sl rows _,h=>by
   have:rows=[]:=(by simpa [AV.flat] using h);subst this;rfl
  | .kY _ v,h=>Ko (a:=v) h| .vp ..,h=>by simp [AV.flat] at h
  | .os ..,h=>by simp [AV.flat] at h
  | .op ..,h=>by simp [AV.flat] at h
  | .mp _,h=>by simp [AV.flat] at h
  | .fn ..,h=>by simp [AV.flat] at h
theorem BL : ∀{l:List AV},y8 l=true->iO l=true
  |[],_=>rfl|a::r,h=>by
   simp only [y8,ak] at h;simp only [iO,Ko h.1,BL h.2,Bool.and_self]
end
theorem LC : ∀{l:List (List AV)},(∀x∈l,y8 x=true)->fJ l=true
 |[],_=>rfl|a::r,h=>by
  simp only [fJ,BL (h a aZ),LC (fun x hx=>h x (aN _ hx)),Bool.and_self]
theorem V5 {base:Nat}{w:World}{E:Env}{ah:AH}{F:Nat->Prop}(hh:dM base w E ah F){a a':AV}{v:Value}(h:Rep w E a v)(hn:a.Gi=true)(hb:∀b∈a.refs,∀k,ah b=some k->k.FV=true)(hz:jE (nR ah ayw) a=some a'){fix:Nat->Nat->Prop}
  (hf:∀b∈a.refs,∀c o,E.own b=.at c o->∀off,fix c off):Rep w (dW fix) a' v:=by
 classical
 have hz:jE ah a=some a':=by
  rw [<- hz];refine (IV fun b hm=>?_).symm;cases hk:ah b with
  |none=>simp only [ayw,nR,hk]|some k=>
   cases k with
   |rows sz rs=>
    refine IW hk ?_ ayw;have:=hb b hm _ hk;simp only [qO.FV,aF] at this;exact LC this
   |map es=>simp only [ayw,nR,hk]|it m n k=>simp only [ayw,nR,hk]|iD ty sz rs=>simp only [ayw,nR,hk]
 let E':Env:=⟨fun _ _=>False,E.own⟩;let kP:AH:=fun b=>if b∈a.refs then ah b else none
 have hfz:jE kP a=some a':=by rw [<- hz];exact IV fun b hb=>by simp [kP,hb]
 have hh':dM base w E' kP F:=by
  refine ⟨fun b k hk=>?_,fun b b' k k' c o c' o' hne h1 h2=>?_,hh.fresh,fun c o h=>h.elim,hh.bs,hh.je⟩
  .simp only [kP] at hk;split at hk
   .rename_i hm;have h1:=hh.blk b k hk;have h2:=hb b hm k hk;cases k with
    |map es=>simp [qO.FV] at h2|it m n k=>simp [qO.FV] at h2|iD ty sz rs=>simp [qO.FV] at h2|rows sz rs=>
     rcases h1 with ⟨q1,q2⟩|⟨c,o,arr,ty,q1,q2,q3,q4,q5,q6,q7,q8⟩
     .exact .inl ⟨q1,q2⟩
     .refine .inr ⟨c,o,arr,ty,q1,q2,fun off h=>h.elim,q4,q5,q6,q7,fun i row j x hi hj=>?_⟩;obtain ⟨u,hu,hr⟩:=q8 i row j x hi hj;simp only [qO.FV,aF] at h2;exact ⟨u,hu,Au hr (xw (h2 row (aG hi)) j x hj)⟩
   .cases hk
  .simp only [kP] at h1 h2;split at h1
   .split at h2
    .exact hh.sep b b' k k' c o c' o' hne h1 h2
    .cases h2
   .cases h1
 exact aey hh' (fun _ _ h=>h.elim) (aiA (E:=E) (E':=E') rfl h hn) hfz hf
end Go.Fw
end
section
namespace Go.Fw
variable [iT]
def jc (ops:Array Oper)(fr:jB)(o:Oper)(k:Bool->Prop):Prop:=
 match o.guard with
 |none=>k true|some (j,want)=>fD ((ops[j]?).bind (·.dst)) fun d=>fD (fV fr d) fun a=>
  match a with
  | .p (.bool t)=>k (t == want)| .p _=>k false|_=>False
structure zl where
 i:Nat
 rd:List Nat
 wr:List Nat
def Kq (M:List Nat)(i:Nat)(rd wr:List Nat)(f:zl):Prop:=
 (M.getD i 0).testBit f.i=true\/((∀b∈f.wr,b∉rd/\b∉wr)/\∀b∈f.rd,b∉wr)
def ayG (M:Option (List Nat))(fs:List zl)(i:Nat)(rd wr:List Nat):Prop:=
 match M with
 |none=>True|some M=>∀f∈fs,Kq M i rd wr f
def LD (M:Option (List Nat))(fs:List zl)(i:Nat)(rd wr:List Nat):List zl:=
 match M with
 |none=>fs|some _=>if (rd.isEmpty&&wr.isEmpty)=true then fs else ⟨i,rd,wr⟩::fs
def BD (P:Program)(ops:Array Oper)(M:Option (List Nat))(t_:Nat):Nat->List Oper->jB->AH->List zl->(jB->AH->Prop)->Prop
 |_,[],fr,ah,_,k=>k fr ah|i,o::rest,fr,ah,fs,k=>jc ops fr o fun wt=>
  VN wt (Qi P (t_+i) fr ah o.op fun r=>ayG M fs i r.rd (r.wr.map (·.1))/\
   BD P ops M t_ (i+1) rest (lH fr o.dst r.v) (lZ ah r.wr) (LD M fs i r.rd (r.wr.map (·.1))) k)
  (BD P ops M t_ (i+1) rest (lH fr o.dst (.p undef)) ah fs k)
section
variable {P : Program} {ops:Array Oper}
theorem jU {w E fr}{a:Act}(hfr:tY w E fr a.tmps){o:Oper}{k:Bool->Prop}(h:jc ops fr o k):∃wt,k wt/\Region.wanted o (yielded ops a.tmps)=wt:=by
 unfold jc at h;unfold Region.wanted;split at h
 .rename_i hg;rw [hg];exact ⟨true,h,rfl⟩
 .rename_i j want hg;obtain ⟨d,hd,h⟩:=dG.1 h;obtain ⟨x,hx,h⟩:=dG.1 h;obtain ⟨v,hv,hr⟩:=hfr.get d x hx;rw [hg];dsimp only;unfold yielded;rw [hd];simp only [Option.bind_some,hv];split at h
  .rename_i t;obtain rfl:=hr.fO;refine ⟨_,h,?_⟩;cases t<;>cases want<;>rfl
  .rename_i u hu;obtain rfl:=hr.fO;refine ⟨_,h,?_⟩;cases v<;>first|rfl|exact absurd rfl (hu _)
  .exact h.elim
def aeE (base:Nat)(w:World)(E:Env)(a:Act)(n:Nat)(k:jB->AH->Prop)(a':Act)(w':World):Prop:=
 ∃E' fr' dV,k fr' dV/\Step base w E w' E'/\dM base w' E' dV (fun b=>n<=b)/\tY w' E' fr' a'.tmps/\a'.defers=a.defers
theorem ayq (a:Act)(d:Option Tmp)(v:Value):(a.put d v).defers=a.defers:=by cases d<;>rfl
theorem RY {Q:Exit->Act->World->Prop}{base t_:Nat}{k:jB->AH->Prop}:∀(l:List Oper) (i:Nat) (fr:jB) (ah:AH) (w:World) (E:Env) (a:Act),
  BD P ops none t_ i l fr ah [] k->(∀j:Nat,l[j]?=ops[i+j]?)->dM base w E ah (fun b=>t_+i<=b)->tY w E fr a.tmps->
  (∀a' w',aeE base w E a (t_+i+l.length) k a' w'->Q .normal a' w')->wpOps P ops Q (List.range' i l.length) a w
 |[],i,fr,ah,w,E,a,h,hl,hh,hfr,hQ=>by
  simp only [List.length_nil,List.range'_zero,wpOps];exact hQ a w ⟨E,fr,ah,h,Step.refl _ _ _,by simpa using hh,hfr,rfl⟩
 |o::rest,i,fr,ah,w,E,a,h,hl,hh,hfr,hQ=>by
  have ho:ops[i]?=some o:=by simpa using (hl 0).symm
  simp only [dw,List.range'_succ];rw [wpOps_cons];unfold wpOp;rw [ho];dsimp only;obtain ⟨wt,hk,hw⟩:=jU hfr h;have hl':∀j:Nat,rest[j]?=ops[i+1+j]?:=fun j=>by have:=hl (j+1);simp at this;rw [this];congr 1;omega
  cases wt with
  |true=>
   rw [uy,if_pos rfl] at hk;rw [if_pos hw];refine .inl (J9 hh (dD _) hfr hk (fun r v w' E' hr hst hh' hv=>?_));refine RY rest (i+1) _ _ w' E' (a.put o.dst v) hr.2 hl' (hh'.weaken fun b hb=>⟨by omega,by omega⟩) ((hfr.mono hst.ext).put o.dst hv) (fun a' w'' hp=>hQ a' w'' ?_);obtain ⟨E2,fr2,ah2,q1,q2,q3,q4,q5⟩:=hp;exact ⟨E2,fr2,ah2,q1,hst.trans q2,q3.weaken fun b hb=>by simp at hb;omega,q4,by rw [q5,ayq]⟩
  |false=>
   rw [uy,if_neg (by simp)] at hk;rw [if_neg (by rw [hw];simp)];refine RY rest (i+1) _ _ w E (a.put o.dst undef) hk hl' (hh.weaken fun b hb=>by omega) (hfr.put o.dst (.p rfl)) (fun a' w'' hp=>hQ a' w'' ?_);obtain ⟨E2,fr2,ah2,q1,q2,q3,q4,q5⟩:=hp;exact ⟨E2,fr2,ah2,q1,q2,q3.weaken fun b hb=>by simp at hb;omega,q4,by rw [q5,ayq]⟩
def C9 (acc:List Nat)(o:Oper):Nat:=o.after.toList.foldl (fun s e=>if Region.binds .any e=true then s |||2 ^ e.on |||acc.getD e.on 0 else s) 0
def ayu : List Oper->List Nat->List Nat
 |[],acc=>acc|o::r,acc=>ayu r (acc++[C9 acc o])
theorem acu {acc:List Nat}{o:Oper}{i:Nat}(h:(C9 acc o).testBit i=true) :
  ∃e∈o.after.toList,Region.binds .any e=true/\(e.on=i\/(acc.getD e.on 0).testBit i=true):=by
 unfold C9 at h;have key:∀(l:List Edge) (s:Nat),(l.foldl (fun s e=>if Region.binds .any e=true then s |||2 ^ e.on |||acc.getD e.on 0 else s) s).testBit i=true->
   s.testBit i=true\/∃e∈l,Region.binds .any e=true/\(e.on=i\/(acc.getD e.on 0).testBit i=true):=by
  intro l;induction l with
  |nil=>intro s h;exact .inl h|cons e l ih=>
   intro s h;simp only [List.foldl_cons] at h;rcases ih _ h with h|⟨e',he',h⟩
   .split at h
    .rename_i hb;simp only [Nat.testBit_or,aY,Nat.testBit_two_pow,decide_eq_true_eq] at h;rcases h with (h|h)|h
     .exact .inl h
     .exact .inr ⟨e,by simp,hb,.inl h⟩
     .exact .inr ⟨e,by simp,hb,.inr h⟩
    .exact .inl h
   .exact .inr ⟨e',by simp [he'],h⟩
 rcases key _ _ h with h|h
 .simp at h
 .exact h
theorem N8 : ∀(l:List Oper) (acc:List Nat) (j:Nat) (o:Oper),l[j]?=some o->(ayu l acc).length=acc.length+l.length/\(∀i,i<acc.length->(ayu l acc)[i]?=acc[i]?)/\
  (ayu l acc)[acc.length+j]?=some (C9 ((ayu l acc).take (acc.length+j)) o)
 |[],acc,j,o,h=>by simp at h
 |o'::r,acc,j,o,h=>by
  have pre:∀(l:List Oper) (acc:List Nat),(ayu l acc).length=acc.length+l.length/\∀i,i<acc.length->(ayu l acc)[i]?=acc[i]?:=by
   intro l;induction l with
   |nil=>intro acc;exact ⟨by simp [ayu],fun i _=>rfl⟩|cons o r ih=>
    intro acc;obtain ⟨h1,h2⟩:=ih (acc++[C9 acc o]);refine ⟨by simp [ayu,h1];omega,fun i hi=>?_⟩;simp only [ayu];rw [h2 i (by simp;omega),bf hi]
  obtain ⟨p1,p2⟩:=pre (o'::r) acc;refine ⟨p1,p2,?_⟩;cases j with
  |zero=>
   simp at h;subst h;simp only [ayu,Nat.add_zero];obtain ⟨q1,q2⟩:=pre r (acc++[C9 acc o']);rw [q2 acc.length (by simp)];have:(ayu r (acc++[C9 acc o'])).take acc.length=acc:=by
    apply List.ext_getElem?;intro i;rw [bH];split
    .rename_i hi;rw [q2 i (by simp;omega),bf hi]
    .rename_i hi;rw [bK (by omega)]
   rw [this];simp
  |succ j=>
   simp at h;obtain ⟨-,-,h3⟩:=N8 r (acc++[C9 acc o']) j o h;simp only [ayu];rw [bG] at h3;rw [show acc.length+(j+1)=acc.length+[C9 acc o'].length+j by simp;omega];exact h3
def uz (ops:Array Oper):Bool:=ops.toList.zipIdx.all fun (o,i)=>o.after.toList.all fun e=>!Region.binds .any e||decide (e.on<i)
def vO (ops:Array Oper)(M:List Nat):Bool:=
 (List.range ops.size).all fun j=>(List.range j).all fun i=>(M.getD j 0).testBit i||(match ops[i]?,ops[j]? with|some x,some y=>x.apart ops y|_,_=>true)
theorem EL (h:uz ops=true){i:Nat}{o:Oper}(ho:ops[i]?=some o){e:Edge}(he:e∈o.after.toList)(hb:Region.binds .any e=true):e.on<i:=by
 unfold uz at h;rw [aF] at h;have hm:(o,i)∈ops.toList.zipIdx:=by
  rw [bF];exact ⟨i,by simp [List.getElem?_zipIdx,ho]⟩
 have h1:=h (o,i) hm;rw [aF] at h1;have h2:=h1 e he;simpa [hb] using h2
theorem zn {M}(h:vO ops M=true){i j:Nat}{x y:Oper}(hx:ops[i]?=some x)(hy:ops[j]?=some y)(hij:i<j):(M.getD j 0).testBit i=true\/x.apart ops y=true:=by
 unfold vO at h;rw [aF] at h;have hj:j<ops.size:=(bD.1 hy).1;have h1:=h j (by simpa using hj);rw [aF] at h1;have h2:=h1 i (by simpa using hij);rw [hx,hy] at h2;simpa using h2
end
end Go.Fw
end
section
namespace Go.Fw
variable [iT]
section
variable {P : Program} {ops:Array Oper} {t_:Nat} {M:List Nat}
def G7 (fr fr':jB)(ts:List Tmp):Prop:=∀t∈ts,fV fr' t=fV fr t
def acv (P:Program)(ops:Array Oper)(t_ j:Nat)(o:Oper)(fr:jB)(ah:AH)(r:mP):Prop:=
 ∀(fr':jB) (dV:AH),G7 fr fr' (o.looksAt ops)->(∀b∈r.rd,dV b=ah b)->
  jc ops fr' o fun wt=>if wt=true then Qi P (t_+j) fr' dV o.op (fun r'=>r'=r) else r=⟨.p undef,[],[]⟩
theorem uV {fr:jB}{o:Oper}{k:Bool->Prop}(h:jc ops fr o k):∃wt,k wt/\∀fr':jB,G7 fr fr' (o.looksAt ops)->∀k':Bool->Prop,k' wt->jc ops fr' o k':=by
 unfold jc at h ⊢;split at h
 .rename_i hg;exact ⟨true,h,fun fr' _ k' hk=>hk⟩
 .rename_i j want hg;obtain ⟨d,hd,h⟩:=dG.1 h;obtain ⟨x,hx,h⟩:=dG.1 h;have hag:∀fr':jB,G7 fr fr' (o.looksAt ops)->fV fr' d=some x:=fun fr' hag=>by
   rw [hag d (by unfold Oper.looksAt;rw [hg];dsimp only;rw [hd];simp),hx]
  split at h
  .exact ⟨_,h,fun fr' ha k' hk=>dG.2 ⟨d,hd,dG.2 ⟨_,hag fr' ha,hk⟩⟩⟩
  .rename_i u hu;refine ⟨_,h,fun fr' ha k' hk=>?_⟩;refine dG.2 ⟨d,hd,dG.2 ⟨_,hag fr' ha,?_⟩⟩;split
   .rename_i t e;cases e;exact absurd rfl (hu t)
   .exact hk
   .rename_i h1 h2;exact absurd rfl (h2 u)
  .exact h.elim
theorem yL {fr fr':jB}{o:Oper}(h:G7 fr fr' (o.looksAt ops)):ay6 fr fr' o.op.operands.toList:=by
 intro t ht;refine h t ?_;unfold Oper.looksAt;simp only [aH,List.mem_filterMap];exact .inl ⟨_,ht,rfl⟩
def ids (r:mP):List Nat:=r.wr.map (·.1)
theorem ZC {k:jB->AH->Prop}:∀(l:List Oper) (i:Nat) (fr:jB) (ah:AH) (fs:List zl),BD P ops (some M) t_ i l fr ah fs k->
  ∃(FR:Nat->jB) (ru:Nat->AH) (R:Nat->mP),FR i=fr/\ru i=ah/\k (FR (i+l.length)) (ru (i+l.length))/\
   (∀(j:Nat) (o:Oper),l[j]?=some o->acv P ops t_ (i+j) o (FR (i+j)) (ru (i+j)) (R (i+j))/\FR (i+j+1)=lH (FR (i+j)) o.dst (R (i+j)).v/\ru (i+j+1)=lZ (ru (i+j)) (R (i+j)).wr/\
    (∀f∈fs,Kq M (i+j) (R (i+j)).rd (ids (R (i+j))) f)/\
    (∀j' < j,Kq M (i+j) (R (i+j)).rd (ids (R (i+j))) ⟨i+j',(R (i+j')).rd,ids (R (i+j'))⟩))
 |[],i,fr,ah,fs,h=>⟨fun _=>fr,fun _=>ah,fun _=>⟨.p undef,[],[]⟩,rfl,rfl,h,fun j o h=>by simp at h⟩|o::l,i,fr,ah,fs,h=>by
  obtain ⟨wt,hk,hloc⟩:=uV h
  
  have main:∃(r:mP) (fs':List zl),acv P ops t_ i o fr ah r/\(∀f∈fs,Kq M i r.rd (ids r) f)/\(∀f∈fs,f∈fs')/\
    ((r.rd=[]/\ids r=[])\/(⟨i,r.rd,ids r⟩:zl)∈fs')/\BD P ops (some M) t_ (i+1) l (lH fr o.dst r.v) (lZ ah r.wr) fs' k:=by
   cases wt with
   |true=>
    rw [uy,if_pos rfl] at hk;obtain ⟨r,⟨hc,hrest⟩,hop⟩:=aeD hk;refine ⟨r,_,fun fr' dV ha hb=>hloc fr' ha _ (by rw [if_pos rfl];exact hop fr' dV (yL ha) hb),hc,fun f hf=>?_,?_,hrest⟩
    .unfold LD;dsimp only;split
     .exact hf
     .exact aN _ hf
    .unfold LD;dsimp only;split
     .rename_i he;simp only [ak,List.isEmpty_iff] at he;exact .inl he
     .exact .inr (by simp [ids])
   |false=>
    rw [uy,if_neg (by simp)] at hk;refine ⟨⟨.p undef,[],[]⟩,fs,fun fr' dV ha hb=>hloc fr' ha _ (by rw [if_neg (by simp)]),fun f _=>.inr ⟨fun b _=>⟨by simp,by simp [ids]⟩,fun b _=>by simp [ids]⟩,fun f hf=>hf,.inl ⟨rfl,rfl⟩,hk⟩
  obtain ⟨r,fs',hst,hcf,hsub,hin,hrest⟩:=main;obtain ⟨FR,ru,R,h1,h2,h3,h4⟩:=ZC l (i+1) _ _ fs' hrest;refine ⟨fun m=>if m=i then fr else FR m,fun m=>if m=i then ah else ru m,fun m=>if m=i then r else R m,by simp,by simp,?_,fun j o' hj=>?_⟩
  .have e:i+(o::l).length=i+1+l.length:=(by simp;omega);have ne:¬(i+1+l.length=i):=(by omega);rw [e];simp only [if_neg ne];exact h3
  .cases j with
   |zero=>
    simp at hj;subst hj;have ne:¬(i+1=i):=(by omega);simp only [Nat.add_zero,if_true];rw [if_neg ne,if_neg ne];exact ⟨hst,h1,h2,hcf,fun j' hj'=>by omega⟩
   |succ j=>
    simp at hj;have e1:i+(j+1)=i+1+j:=(by omega);have ne1:¬(i+1+j=i):=(by omega);have ne2:¬(i+1+j+1=i):=(by omega);obtain ⟨q1,q2,q3,q4,q5⟩:=h4 j o' hj;rw [e1];simp only [if_neg ne1,if_neg ne2];refine ⟨q1,q2,q3,fun f hf=>q4 f (hsub f hf),fun j' hj'=>?_⟩;cases j' with
    |zero=>
     simp only [Nat.add_zero,if_true];rcases hin with ⟨g1,g2⟩|hin
     .exact .inr ⟨fun b hb=>by simp [g2] at hb,fun b hb=>by simp [g1] at hb⟩
     .exact q4 _ hin
    |succ j'=>
     have e2:i+(j'+1)=i+1+j':=(by omega);have ne3:¬(i+1+j'=i):=(by omega);rw [e2];simp only [if_neg ne3];exact q5 j' (by omega)
def ayx (q:Nat->Bool):Nat->Nat
 |0=>0|n+1=>if q n=true then n+1 else ayx q n
theorem Kr (q:Nat->Bool):∀n,ayx q n<=n/\(∀i,ayx q n<=i->i<n->q i=false)/\(0<ayx q n->q (ayx q n-1)=true)
 |0=>⟨dD _,fun i h1 h2=>by omega,fun h=>by simp [ayx] at h⟩|n+1=>by
  obtain ⟨h1,h2,h3⟩:=Kr q n;simp only [ayx];split
  .rename_i hq;exact ⟨dD _,fun i a b=>by omega,fun _=>hq⟩
  .rename_i hq;refine ⟨by omega,fun i a b=>?_,h3⟩;by_cases e:i=n
   .subst e;simpa using hq
   .exact h2 i a (by omega)
theorem agm {α:Type}{val:Nat->α}{wr:Nat->Bool}{n:Nat}(hs:∀i<n,wr i=false->val (i+1)=val i){m m':Nat}(hm:m<=m')(hn:m'<=n)(hw:∀i,m<=i->i<m'->wr i=false):val m'=val m:=by
 induction m' with
 |zero=>
  have:m=0:=by omega
  subst this;rfl
 |succ m' ih=>
  by_cases e:m=m'+1
  .subst e;rfl
  .rw [hs m' (by omega) (hw m' (by omega) (by omega))];exact ih (by omega) (by omega) (fun i a b=>hw i a (by omega))
theorem nU {α:Type}{val:Nat->α}{wr L:Nat->Bool}{n j:Nat}(hs:∀i<n,wr i=false->val (i+1)=val i)(hj:j<=n)
  (h1:∀i<n,L i=true->wr i=true->i<j) (h2:∀i<j,wr i=true->L i=true):val (ayx (fun i=>L i&&wr i) n)=val j:=by
 obtain ⟨a,b,c⟩:=Kr (fun i=>L i&&wr i) n;have hle:ayx (fun i=>L i&&wr i) n<=j:=by
  rcases Nat.eq_zero_or_pos (ayx (fun i=>L i&&wr i) n) with e|e
  .omega
  .have:=c e;simp only [ak] at this;have:=h1 _ (by omega) this.1 this.2;omega
 refine (agm hs hle hj (fun i q1 q2=>?_)).symm;have hb:=b i q1 (by omega);cases hw:wr i with
 |false=>rfl|true=>simp [hw,h2 i q2 hw] at hb
theorem BM {q q':Nat->Bool}{n:Nat}(h:∀i<n,q i=q' i):ayx q n=ayx q' n:=by
 induction n with
 |zero=>rfl|succ n ih=>simp only [ayx,h n (by omega),ih (fun i hi=>h i (by omega))]
theorem LG {q:Nat->Bool}{n j:Nat}(hj:j<n)(hq:q j=true)(hn:∀i,j<i->i<n->q i=false):ayx q n=j+1:=by
 obtain ⟨a,b,c⟩:=Kr q n;rcases Nat.lt_trichotomy (ayx q n) (j+1) with h|h|h
 .have:=b j (by omega) hj;rw [hq] at this;cases this
 .exact h
 .have h1:=c (by omega);have h2:=hn (ayx q n-1) (by omega) (by omega);rw [h1] at h2;cases h2
theorem Az {ah:AH}:∀{l:List (Nat×Option qO)} {b:Nat},b∉l.map (·.1)->lZ ah l b=ah b
 |[],b,_=>rfl|(c,k)::r,b,h=>by
  simp at h;simp only [lZ];rw [Az (by simpa using h.2),ayp h.1]
theorem XV : ∀{l:List (Nat×Option qO)} {ah dV:AH} {b:Nat},b∈l.map (·.1)->lZ ah l b=lZ dV l b
 |[],ah,dV,b,h=>by simp at h
 |(c,k)::r,ah,dV,b,h=>by
  simp only [lZ];by_cases hb:b∈r.map (·.1)
  .exact XV hb
  .rw [Az hb,Az hb];simp at h hb;rcases h with h|h
   .rw [gX h,gX h]
   .exact absurd h.choose_spec (hb _)
end
end Go.Fw
end
section
namespace Go.Fw
variable [iT]
section
variable {P : Program} {ops:Array Oper} {t_:Nat}
def lN (listed:Array Bool)(i:Nat):Bool:=listed.getD i false
def NH (ops:Array Oper)(t:Tmp)(i:Nat):Bool:=match ops[i]? with|some o=>decide (o.dst=some t)|none=>false
def wrA (R:Nat->mP)(b:Nat)(i:Nat):Bool:=decide (b∈ids (R i))
structure RZ (P:Program)(ops:Array Oper)(t_:Nat)(M:List Nat)(FR:Nat->jB)(ru:Nat->AH)(R:Nat->mP):Prop where
 step:∀(j:Nat) (o:Oper),ops[j]?=some o->acv P ops t_ j o (FR j) (ru j) (R j)
 fr:∀(j:Nat) (o:Oper),ops[j]?=some o->FR (j+1)=lH (FR j) o.dst (R j).v
 ah:∀(j:Nat) (o:Oper),ops[j]?=some o->ru (j+1)=lZ (ru j) (R j).wr
 foot:∀(j:Nat) (o:Oper),ops[j]?=some o->∀j' < j,Kq M j (R j).rd (ids (R j)) ⟨j',(R j').rd,ids (R j')⟩
def Pre (ops:Array Oper)(listed:Array Bool)(j:Nat):Prop:=∀o,ops[j]?=some o->∀e∈o.after.toList,Region.binds .any e=true->lN listed e.on=true
theorem BN {listed:Array Bool}(Du:uz ops=true)(hcl:∀j,lN listed j=true->Pre ops listed j){i:Nat}:∀j,Pre ops listed j->((ayu ops.toList []).getD j 0).testBit i=true->lN listed i=true:=by
 intro j;induction j using Nat.strongRecOn with
 |_ j ih=>
  intro hp hb;cases ho:ops[j]? with
  |none=>
   have:(ayu ops.toList []).getD j 0=0:=by
    have hlen:(ayu ops.toList []).length<=ops.size:=by
     cases hs:ops.toList with
     |nil=>simp [ayu]|cons o r=>
      have:=(N8 (o::r) [] 0 o rfl).1;rw [this,<- hs];simp
    have hj:ops.size<=j:=(by simpa using ho);simp [List.getD,bK (show (ayu ops.toList []).length<=j by omega)]
   rw [this] at hb;simp at hb
  |some o=>
   obtain ⟨h1,-,h3⟩:=N8 ops.toList [] j o (by simpa using ho);simp only [List.length_nil,Nat.zero_add] at h3;have e:(ayu ops.toList []).getD j 0=C9 ((ayu ops.toList []).take j) o:=(by simp [List.getD,h3]);rw [e] at hb;obtain ⟨ed,hed,hbd,hor⟩:=acu hb;have hl:=hp o ho ed hed hbd;rcases hor with rfl|hor
   .exact hl
   .have hlt:=EL Du ho hed hbd;refine ih ed.on hlt (hcl ed.on hl) ?_;have:((ayu ops.toList []).take j).getD ed.on 0=(ayu ops.toList []).getD ed.on 0:=by
     simp [List.getD,bH,hlt]
    rwa [this] at hor
structure Inv (P:Program)(ops:Array Oper)(t_ base:Nat)(FR:Nat->jB)(ru:Nat->AH)(R:Nat->mP)(w0:World)(E0:Env)(a0:Act)(listed:Array Bool)(a:Act)(w:World):Prop where
 size:listed.size=ops.size
 closed:∀j,lN listed j=true->Pre ops listed j
 body:∃E AA nZ,Step base w0 E0 w E/\dM base w E nZ (fun b=>t_<=b/\∀i,lN listed i=true->b≠t_+i)/\tY w E AA a.tmps/\AA.length=(FR 0).length/\
  (∀t,fV AA t=fV (FR (ayx (fun i=>lN listed i&&NH ops t i) ops.size)) t)/\
  (∀b,nZ b=ru (ayx (fun i=>lN listed i&&wrA R b i) ops.size) b)/\a.defers=a0.defers
theorem N9 {M FR ru R}(h:RZ P ops t_ M FR ru R)(t:Tmp):∀i<ops.size,NH ops t i=false->fV (FR (i+1)) t=fV (FR i) t:=by
 intro i hi hw;have ho:ops[i]?=some ops[i]:=by simp [hi]
 rw [h.fr i _ ho];unfold NH at hw;rw [ho] at hw;cases hd:ops[i].dst with
 |none=>rfl|some d=>
  have:t≠d:=fun e=>by dsimp only at hw;rw [hd,e] at hw;simp at hw
  simp [lH,lM,this]
theorem XW {M FR ru R}(h:RZ P ops t_ M FR ru R)(b:Nat):∀i<ops.size,wrA R b i=false->ru (i+1) b=ru i b:=by
 intro i hi hw;have ho:ops[i]?=some ops[i]:=by simp [hi]
 rw [h.ah i _ ho];exact Az (show b∉ids (R i) from by simpa [wrA] using hw)
theorem Dv {M FR ru R}(h:RZ P ops t_ M FR ru R):∀m,m<=ops.size->(FR m).length=(FR 0).length
 |0,_=>rfl|m+1,hm=>by
  have ho:ops[m]?=some ops[m]:=by simp [show m<ops.size by omega]
  rw [h.fr m _ ho,<- Dv h m (by omega)];cases ops[m].dst<;>simp [lH,fB]
theorem BO {listed:Array Bool}{i j:Nat}(hj:j<listed.size):lN (listed.setIfInBounds j true) i=(lN listed i||decide (i=j)):=by
 unfold lN;simp only [Array.getD_eq_getD_getElem?,Array.getElem?_setIfInBounds];by_cases e:j=i
 .subst e;simp [hj]
 .have:¬i=j:=fun h=>e h.symm;simp [e,this]
theorem aiB (Du:uz ops=true)(LJ:vO ops (ayu ops.toList [])=true){base:Nat}{FR:Nat->jB}{ru:Nat->AH}{R:Nat->mP}(hL:RZ P ops t_ (ayu ops.toList []) FR ru R)
  {w0:World} {E0:Env} {a0:Act} {listed:Array Bool} {a:Act} {w:World} (inv:Inv P ops t_ base FR ru R w0 E0 a0 listed a w) {j:Nat} (hj:j∈Region.ready .any ops listed) {Q:Exit->Act->World->Prop} {K:Act->World->Prop}
  (hK:∀a' w',Inv P ops t_ base FR ru R w0 E0 a0 (listed.setIfInBounds j true) a' w'->K a' w'):wpOp P ops Q j K a w:=by
 obtain ⟨hun,o,ho,hall⟩:=mem_ready.1 hj;have hjn:j<ops.size:=(bD.1 ho).1;have hjl:j<listed.size:=by rw [inv.size];exact hjn
 have hnl:lN listed j=false:=by unfold lN;simpa [Array.getD_eq_getD_getElem?,hjl] using hun
 have hpre:Pre ops listed j:=fun o' ho' e he hb=>by
  rw [ho] at ho';cases ho';have:=hall e (by simpa using he) hb;unfold lN;exact this
 obtain ⟨E,AA,nZ,hst,hh,hfr,hlen,aiC,aiD,hdef⟩:=inv.body;have hM:∀i,((ayu ops.toList []).getD j 0).testBit i=true->lN listed i=true:=fun i=>BN Du inv.closed j hpre;have hM':∀i,lN listed i=true->((ayu ops.toList []).getD i 0).testBit j=true->False:=fun i hi hb=>by
  have:=BN Du inv.closed i (inv.closed i hi) hb;rw [hnl] at this;cases this
 have hne:∀i,lN listed i=true->i≠j:=fun i hi e=>by rw [e,hnl] at hi;cases hi
 have hLn:∀i,lN listed i=true->i<ops.size:=fun i hi=>by
  rcases Nat.lt_or_ge i ops.size with h|h
  .exact h
  .unfold lN at hi;simp [Array.getD_eq_getD_getElem?,Array.getElem?_eq_none (show listed.size<=i by rw [inv.size];exact h)] at hi
 
 have LK:∀t,(t∈o.looksAt ops\/o.dst=some t)->(∀i<ops.size,lN listed i=true->NH ops t i=true->i<j)/\(∀i<j,NH ops t i=true->lN listed i=true):=by
  intro t ht;have ZE:∀i,NH ops t i=true->∃oi,ops[i]?=some oi/\oi.dst=some t:=fun i hi=>by
   unfold NH at hi;split at hi
   .rename_i oi hoi;exact ⟨oi,hoi,by simpa using hi⟩
   .cases hi
  refine ⟨fun i hi hl hw=>?_,fun i hi hw=>?_⟩
  .obtain ⟨oi,hoi,hd⟩:=ZE i hw;rcases Nat.lt_trichotomy i j with h|h|h
   .exact h
   .exact absurd h (hne i hl)
   .rcases zn LJ ho hoi h with hb|hap
    .exact (hM' i hl hb).elim
    .obtain ⟨q1,q2,q3⟩:=Oper.apart_spec hap;rcases ht with ht|ht
     .exact absurd ht (q3 t hd)
     .exact absurd hd (q2 t ht)
  .obtain ⟨oi,hoi,hd⟩:=ZE i hw;rcases zn LJ hoi ho hi with hb|hap
   .exact hM i hb
   .obtain ⟨q1,q2,q3⟩:=Oper.apart_spec hap;rcases ht with ht|ht
    .exact absurd ht (q1 t hd)
    .exact absurd ht (q2 t hd)
 have ZF:∀b,(b∈(R j).rd\/b∈ids (R j))->(∀i<ops.size,lN listed i=true->wrA R b i=true->i<j)/\(∀i<j,wrA R b i=true->lN listed i=true):=by
  intro b hb;refine ⟨fun i hi hl hw=>?_,fun i hi hw=>?_⟩
  .have hw':b∈ids (R i):=(by simpa [wrA] using hw);rcases Nat.lt_trichotomy i j with h|h|h
   .exact h
   .exact absurd h (hne i hl)
   .have hoi:ops[i]?=some ops[i]:=(by simp [hi]);rcases hL.foot i _ hoi j h with hbit|⟨q1,q2⟩
    .exact (hM' i hl hbit).elim
    .rcases hb with hb|hb
     .exact absurd hw' (q2 b hb)
     .exact absurd hw' (q1 b hb).2
  .have hw':b∈ids (R i):=(by simpa [wrA] using hw);rcases hL.foot j o ho i hi with hbit|⟨q1,q2⟩
   .exact hM i hbit
   .rcases hb with hb|hb
    .exact absurd hb (q1 b hw').1
    .exact absurd hb (q1 b hw').2
 have hag:G7 (FR j) AA (o.looksAt ops):=fun t ht=>by
  obtain ⟨q1,q2⟩:=LK t (.inl ht);rw [aiC t];exact nU (val:=fun m=>fV (FR m) t) (N9 hL t) (by omega) q1 q2
 have apn:∀b∈(R j).rd,nZ b=ru j b:=fun b hb=>by
  obtain ⟨q1,q2⟩:=ZF b (.inl hb);rw [aiD b];exact nU (val:=fun m=>ru m b) (XW hL b) (by omega) q1 q2
 
 have hset:∀i,lN (listed.setIfInBounds j true) i=(lN listed i||decide (i=j)):=fun i=>BO hjl;have finish:∀(E':Env) (v:Value) (w':World),Step base w E w' E'->dM base w' E' (lZ nZ (R j).wr) (fun b=>(t_<=b/\∀i,lN listed i=true->b≠t_+i)/\b≠t_+j)->Rep w' E' (R j).v v->
   K (a.put o.dst v) w':=by
  intro E' v w' hs' hh' hv;refine hK _ _ ⟨by simpa using inv.size,fun i hi=>?_,E',lH AA o.dst (R j).v,lZ nZ (R j).wr,hst.trans hs',hh'.weaken (fun b hb=>⟨⟨hb.1,fun i hi=>hb.2 i (by rw [hset,hi];rfl)⟩,hb.2 j (by rw [hset];simp)⟩),(hfr.mono hs'.ext).put o.dst hv,?_,fun t=>?_,fun b=>?_,by rw [ayq];exact hdef⟩
  .intro o' ho' e he hb;rw [hset];rw [hset] at hi;simp only [aY,decide_eq_true_eq] at hi;rcases hi with hi|rfl
   .rw [inv.closed i hi o' ho' e he hb];rfl
   .rw [hpre o' ho' e he hb];rfl
  .rw [<- hlen];cases o.dst<;>simp [lH,fB]
  .by_cases e:o.dst=some t
   .obtain ⟨q1,q2⟩:=LK t (.inr e);have hlast:ayx (fun i=>lN (listed.setIfInBounds j true) i&&NH ops t i) ops.size=j+1:=by
     refine LG hjn ?_ (fun i h1 h2=>?_)
     .rw [hset];simp [NH,ho,e]
     .rw [hset];cases hw:NH ops t i with
      |false=>simp|true=>
       cases hl:lN listed i with
       |false=>simp;omega|true=>have:=q1 i h2 hl hw;omega
    rw [hlast,hL.fr j o ho,e];simp only [lH,lM];rw [hlen,Dv hL j (by omega)];split
    .rfl
    .rename_i hc;have:¬(t<(FR 0).length):=fun h=>hc (by simp [h]);have g1:fV AA t=none:=by cases hg:fV AA t with|none=>rfl|some x=>have:=yC hg;omega
     have g2:fV (FR j) t=none:=by cases hg:fV (FR j) t with|none=>rfl|some x=>have:=yC hg;rw [Dv hL j (by omega)] at this;omega
     rw [g1,g2]
   .have hwj:NH ops t j=false:=(by simp [NH,ho,e]);rw [BM (q':=fun i=>lN listed i&&NH ops t i) (fun i hi=>by
     rw [hset];by_cases ei:i=j
     .subst ei;simp [hwj]
     .simp [ei])]
    rw [<- aiC t];cases hd:o.dst with
    |none=>rfl|some d=>
     have:t≠d:=fun h=>e (by rw [hd,h]);simp [lH,lM,this]
  .by_cases e:b∈ids (R j)
   .obtain ⟨q1,q2⟩:=ZF b (.inr e);have hlast:ayx (fun i=>lN (listed.setIfInBounds j true) i&&wrA R b i) ops.size=j+1:=by
     refine LG hjn ?_ (fun i h1 h2=>?_)
     .rw [hset];simp [wrA,e]
     .rw [hset];cases hw:wrA R b i with
      |false=>simp|true=>
       cases hl:lN listed i with
       |false=>simp;omega|true=>have:=q1 i h2 hl hw;omega
    rw [hlast,hL.ah j o ho];exact XV e
   .have hwj:wrA R b j=false:=(by simp [wrA,e]);rw [BM (q':=fun i=>lN listed i&&wrA R b i) (fun i hi=>by
     rw [hset];by_cases ei:i=j
     .subst ei;simp [hwj]
     .simp [ei])]
    rw [Az e];exact aiD b
 have hs:=hL.step j o ho AA nZ hag apn;obtain ⟨wt,hk,hw⟩:=jU hfr hs;unfold wpOp;rw [ho];dsimp only;cases wt with
 |true=>
  rw [if_pos rfl] at hk;rw [if_pos hw];refine .inl (J9 hh ⟨by omega,fun i hi e=>hne i hi (by omega)⟩ hfr hk (fun r v w' E' hr hs' hh' hv=>?_));subst hr;exact finish E' v w' hs' hh' hv
 |false=>
  rw [if_neg (by simp)] at hk;rw [if_neg (by rw [hw];simp)];refine finish E undef w (Step.refl _ _ _) ?_ (by rw [hk];exact .p rfl);rw [hk];exact hh.weaken fun b hb=>hb.1
theorem agn (Du:uz ops=true)(LJ:vO ops (ayu ops.toList [])=true){base:Nat}{k:jB->AH->Prop}{fr:jB}{ah:AH}(h:BD P ops (some (ayu ops.toList [])) t_ 0 ops.toList fr ah [] k)
  {w:World} {E:Env} {a:Act} (hh:dM base w E ah (fun b=>t_<=b)) (hfr:tY w E fr a.tmps) {Q:Exit->Act->World->Prop}
  (hQ:∀a' w',aeE base w E a (t_+ops.size) k a' w'->Q .normal a' w'):wpAny P .any ops Q ops.size (Array.replicate ops.size false) a w:=by
 obtain ⟨FR,ru,R,h1,h2,h3,h4⟩:=ZC ops.toList 0 fr ah [] h;simp only [Nat.zero_add] at h3 h4;have hL:RZ P ops t_ (ayu ops.toList []) FR ru R:=
  ⟨fun j o ho=>(h4 j o (by simpa using ho)).1,fun j o ho=>(h4 j o (by simpa using ho)).2.1,fun j o ho=>(h4 j o (by simpa using ho)).2.2.1,fun j o ho=>(h4 j o (by simpa using ho)).2.2.2.2⟩
 have hlen:ops.toList.length=ops.size:=by simp
 rw [hlen] at h3;have main:∀(fuel:Nat) (listed:Array Bool) (a':Act) (w':World),Inv P ops t_ base FR ru R w E a listed a' w'->(List.range ops.size).countP (fun i=>!lN listed i)<=fuel->wpAny P .any ops Q fuel listed a' w':=by
  intro fuel;induction fuel with
  |zero=>
   intro listed a' w' inv hc;have hall:∀i,i<ops.size->lN listed i=true:=fun i hi=>by
    have:=List.countP_eq_zero.1 (Nat.le_zero.1 hc) i (by simpa using hi);simpa using this
   have hr:Region.ready .any ops listed=[]:=by
    cases hr:Region.ready .any ops listed with
    |nil=>rfl|cons x xs=>
     have hx:x∈Region.ready .any ops listed:=(by rw [hr];simp);obtain ⟨hun,o,ho,-⟩:=mem_ready.1 hx;have hxn:=(bD.1 ho).1;have:=hall x hxn;unfold lN at this;have hxl:x<listed.size:=(by rw [inv.size];exact hxn);simp [Array.getD_eq_getD_getElem?,hxl] at this hun;rw [this] at hun;cases hun
   refine ⟨hr,hQ a' w' ?_⟩;obtain ⟨E',AA,nZ,q1,q2,q3,q4,q5,q6,q7⟩:=inv.body;have e1:∀t,fV AA t=fV (FR ops.size) t:=fun t=>by
    rw [q5 t];exact nU (val:=fun m=>fV (FR m) t) (N9 hL t) (dD _) (fun i hi _ _=>hi) (fun i hi _=>hall i hi)
   have e2:nZ=ru ops.size:=by
    funext b;rw [q6 b];exact nU (val:=fun m=>ru m b) (XW hL b) (dD _) (fun i hi _ _=>hi) (fun i hi _=>hall i hi)
   refine ⟨E',FR ops.size,ru ops.size,h3,q1,?_,⟨by rw [Dv hL _ (dD _),<- q4];exact q3.size,fun i x hx=>q3.get i x (by rw [e1];exact hx),q3.Gg⟩,q7⟩;rw [<- e2];exact q2.weaken fun b hb=>⟨by omega,fun i hi=>by
    have:i<ops.size:=by
     rcases Nat.lt_or_ge i ops.size with h|h
     .exact h
     .unfold lN at hi;simp [Array.getD_eq_getD_getElem?,Array.getElem?_eq_none (show listed.size<=i by rw [inv.size];exact h)] at hi
    omega⟩
  |succ fuel ih=>
   intro listed a' w' inv hc;refine ⟨fun hr=>?_,fun j hj=>?_⟩
   ·
    have hall:∀i,i<ops.size->lN listed i=true:=by
     intro i;induction i using Nat.strongRecOn with
     |_ i ihi=>
      intro hi;cases hl:lN listed i with
      |true=>rfl|false=>
       have ho:ops[i]?=some ops[i]:=(by simp [hi]);have hil:i<listed.size:=(by rw [inv.size];exact hi);have:i∈Region.ready .any ops listed:=mem_ready.2 ⟨by unfold lN at hl;simpa [Array.getD_eq_getD_getElem?,hil] using hl,ops[i],ho,fun e he hb=>by
        have hlt:=EL Du ho (by simpa using he) hb;exact ihi e.on hlt (by omega)⟩
       rw [hr] at this;cases this
    have hz:(List.range ops.size).countP (fun i=>!lN listed i)<=0:=by
     rw [Nat.le_zero,List.countP_eq_zero];intro i hi;simp [hall i (by simpa using hi)]
    
    have:=hQ a' w' ?_
    .exact this
    .obtain ⟨E',AA,nZ,q1,q2,q3,q4,q5,q6,q7⟩:=inv.body;have e1:∀t,fV AA t=fV (FR ops.size) t:=fun t=>by
      rw [q5 t];exact nU (val:=fun m=>fV (FR m) t) (N9 hL t) (dD _) (fun i hi _ _=>hi) (fun i hi _=>hall i hi)
     have e2:nZ=ru ops.size:=by
      funext b;rw [q6 b];exact nU (val:=fun m=>ru m b) (XW hL b) (dD _) (fun i hi _ _=>hi) (fun i hi _=>hall i hi)
     refine ⟨E',FR ops.size,ru ops.size,h3,q1,?_,⟨by rw [Dv hL _ (dD _),<- q4];exact q3.size,fun i x hx=>q3.get i x (by rw [e1];exact hx),q3.Gg⟩,q7⟩;rw [<- e2];exact q2.weaken fun b hb=>⟨by omega,fun i hi=>by
      have:i<ops.size:=by
       rcases Nat.lt_or_ge i ops.size with h|h
       .exact h
       .unfold lN at hi;simp [Array.getD_eq_getD_getElem?,Array.getElem?_eq_none (show listed.size<=i by rw [inv.size];exact h)] at hi
      omega⟩
   .refine aiB Du LJ hL inv hj (fun a2 w2 inv2=>ih _ a2 w2 inv2 ?_);obtain ⟨hun,o,ho,-⟩:=mem_ready.1 hj;have hjn:=(bD.1 ho).1;have hjl:j<listed.size:=(by rw [inv.size];exact hjn);have hnl:lN listed j=false:=(by unfold lN;simpa [Array.getD_eq_getD_getElem?,hjl] using hun);have:(List.range ops.size).countP (fun i=>!lN (listed.setIfInBounds j true) i)<(List.range ops.size).countP (fun i=>!lN listed i):=by
     have hsub:∀l:List Nat,l.Nodup->l.countP (fun i=>!lN (listed.setIfInBounds j true) i)+(if j∈l then 1 else 0)=l.countP (fun i=>!lN listed i):=by
      intro l;induction l with
      |nil=>intro _;simp|cons x l ihl=>
       intro hnd;obtain ⟨hx,hnd⟩:=List.nodup_cons.1 hnd;have:=ihl hnd;simp only [List.countP_cons,BO hjl];by_cases e:x=j
       .subst e;rw [if_neg hx] at this;have h':l.countP (fun i=>!(lN listed i||decide (i=x)))=l.countP (fun i=>!lN listed i):=by
         simp only [BO hjl] at this;simpa using this
        rw [h'];simp [hnl]
       .have ej:(j∈x::l)↔j∈l:=(by simp;intro h;exact absurd h.symm e);simp only [BO hjl] at this;have aiE:(lN listed x||decide (x=j))=lN listed x:=(by simp [e]);rw [aiE];by_cases hm:j∈l
        .rw [if_pos hm] at this;rw [if_pos (ej.2 hm)];omega
        .rw [if_neg hm] at this;rw [if_neg (fun h=>hm (ej.1 h))];omega
     have:=hsub (List.range ops.size) List.nodup_range;rw [if_pos (by simpa using hjn)] at this;omega
    omega
 refine main ops.size _ a w ⟨by simp,fun j hj=>?_,E,fr,ah,Step.refl _ _ _,hh.weaken (fun b hb=>hb.1),hfr,by rw [h1],fun t=>?_,fun b=>?_,rfl⟩ ?_
 .unfold lN at hj;simp [Array.getD_eq_getD_getElem?,Array.getElem?_replicate] at hj;split at hj<;>simp at hj
 .have:ayx (fun i=>lN (Array.replicate ops.size false) i&&NH ops t i) ops.size=0:=by
   have h0:∀n,ayx (fun i=>lN (Array.replicate ops.size false) i&&NH ops t i) n=0:=by
    intro n;induction n with
    |zero=>rfl|succ n ih=>
     simp only [ayx];rw [if_neg,ih];unfold lN;simp [Array.getD_eq_getD_getElem?,Array.getElem?_replicate];split<;>simp
   exact h0 _
  rw [this,h1]
 .have:ayx (fun i=>lN (Array.replicate ops.size false) i&&wrA R b i) ops.size=0:=by
   have h0:∀n,ayx (fun i=>lN (Array.replicate ops.size false) i&&wrA R b i) n=0:=by
    intro n;induction n with
    |zero=>rfl|succ n ih=>
     simp only [ayx];rw [if_neg,ih];unfold lN;simp [Array.getD_eq_getD_getElem?,Array.getElem?_replicate];split<;>simp
   exact h0 _
  rw [this,h2]
 .exact bW List.countP_le_length (by simp)
end
end Go.Fw
end
section
namespace Go.Fw
variable [iT]
section
variable {P : Program} {ops:Array Oper}
structure agp (P:Program)(ops:Array Oper)(base:Nat)(M:List Nat)(F0:Nat->Prop)(FR:Nat->jB)(ru:Nat->AH)(RV:Nat->AV)(WR RD:Nat->Nat->Bool)(NEW XY:Nat->Nat->Prop):Prop where
 step:∀(j:Nat) (o:Oper),ops[j]?=some o->∀(AA:jB) (nZ:AH) (w:World) (E:Env) (a:Act) (F:Nat->Prop),G7 (FR j) AA (o.looksAt ops)->(∀b,RD j b=true->nZ b=ru j b)->
  dM base w E nZ F->(∀b,XY j b->F b)->tY w E AA a.tmps->∀(Q:Exit->Act->World->Prop) (K:Act->World->Prop),
   (∀v w' E' nR,(∀b,nR b=if WR j b=true then ru (j+1) b else nZ b)->Step base w E w' E'->dM base w' E' nR (fun b=>F b/\¬NEW j b)->Rep w' E' (RV j) v->K (a.put o.dst v) w')->wpOp P ops Q j K a w
 fr:∀(j:Nat) (o:Oper),ops[j]?=some o->FR (j+1)=lH (FR j) o.dst (RV j)
 ah:∀(j:Nat) (b:Nat),j<ops.size->WR j b=false->ru (j+1) b=ru j b
 foot:∀(j:Nat),j<ops.size->∀j' < j,(M.getD j 0).testBit j'=true\/((∀b,WR j' b=true->RD j b=false/\WR j b=false)/\∀b,RD j' b=true->WR j b=false)
 new:∀j b,j<ops.size->XY j b->F0 b
 atQ:∀i j,i<ops.size->j<ops.size->i≠j->(M.getD i 0).testBit j=true\/∀b,XY j b->¬NEW i b
structure apq (P:Program)(ops:Array Oper)(base:Nat)(F0:Nat->Prop)(FR:Nat->jB)(ru:Nat->AH)(WR:Nat->Nat->Bool)(NEW:Nat->Nat->Prop)(w0:World)(E0:Env)(a0:Act)(listed:Array Bool)(a:Act)(w:World):Prop where
 size:listed.size=ops.size
 closed:∀j,lN listed j=true->Pre ops listed j
 body:∃E AA nZ,Step base w0 E0 w E/\dM base w E nZ (fun b=>F0 b/\∀i,lN listed i=true->¬NEW i b)/\tY w E AA a.tmps/\AA.length=(FR 0).length/\
  (∀t,fV AA t=fV (FR (ayx (fun i=>lN listed i&&NH ops t i) ops.size)) t)/\
  (∀b,nZ b=ru (ayx (fun i=>lN listed i&&WR i b) ops.size) b)/\a.defers=a0.defers
variable {base : Nat} {M:List Nat} {F0:Nat->Prop} {FR:Nat->jB} {ru:Nat->AH} {RV:Nat->AV} {WR RD:Nat->Nat->Bool} {NEW XY:Nat->Nat->Prop}
theorem Kt (h:agp P ops base M F0 FR ru RV WR RD NEW XY)(t:Tmp):∀i<ops.size,NH ops t i=false->fV (FR (i+1)) t=fV (FR i) t:=by
 intro i hi hw;have ho:ops[i]?=some ops[i]:=by simp [hi]
 rw [h.fr i _ ho];unfold NH at hw;rw [ho] at hw;cases hd:ops[i].dst with
 |none=>rfl|some d=>
  have:t≠d:=fun e=>by dsimp only at hw;rw [hd,e] at hw;simp at hw
  simp [lH,lM,this]
theorem R_ (h:agp P ops base M F0 FR ru RV WR RD NEW XY)(b:Nat):∀i<ops.size,WR i b=false->ru (i+1) b=ru i b:=fun i hi hw=>h.ah i b hi hw
theorem AB (h:agp P ops base M F0 FR ru RV WR RD NEW XY):∀m,m<=ops.size->(FR m).length=(FR 0).length
 |0,_=>rfl|m+1,hm=>by
  have ho:ops[m]?=some ops[m]:=by simp [show m<ops.size by omega]
  rw [h.fr m _ ho,<- AB h m (by omega)];cases ops[m].dst<;>simp [lH,fB]
theorem agq (Du:uz ops=true)(LJ:vO ops (ayu ops.toList [])=true)(hL:agp P ops base (ayu ops.toList []) F0 FR ru RV WR RD NEW XY)
  {w0:World} {E0:Env} {a0:Act} {listed:Array Bool} {a:Act} {w:World} (inv:apq P ops base F0 FR ru WR NEW w0 E0 a0 listed a w) {j:Nat} (hj:j∈Region.ready .any ops listed) {Q:Exit->Act->World->Prop} {K:Act->World->Prop}
  (hK:∀a' w',apq P ops base F0 FR ru WR NEW w0 E0 a0 (listed.setIfInBounds j true) a' w'->K a' w'):wpOp P ops Q j K a w:=by
 obtain ⟨hun,o,ho,hall⟩:=mem_ready.1 hj;have hjn:j<ops.size:=(bD.1 ho).1;have hjl:j<listed.size:=by rw [inv.size];exact hjn
 have hnl:lN listed j=false:=by unfold lN;simpa [Array.getD_eq_getD_getElem?,hjl] using hun
 have hpre:Pre ops listed j:=fun o' ho' e he hb=>by
  rw [ho] at ho';cases ho';have:=hall e (by simpa using he) hb;unfold lN;exact this
 obtain ⟨E,AA,nZ,hst,hh,hfr,hlen,aiC,aiD,hdef⟩:=inv.body;have hM:∀i,((ayu ops.toList []).getD j 0).testBit i=true->lN listed i=true:=fun i=>BN Du inv.closed j hpre;have hM':∀i,lN listed i=true->((ayu ops.toList []).getD i 0).testBit j=true->False:=fun i hi hb=>by
  have:=BN Du inv.closed i (inv.closed i hi) hb;rw [hnl] at this;cases this
 have hne:∀i,lN listed i=true->i≠j:=fun i hi e=>by rw [e,hnl] at hi;cases hi
 have hLn:∀i,lN listed i=true->i<ops.size:=fun i hi=>by
  rcases Nat.lt_or_ge i ops.size with h|h
  .exact h
  .unfold lN at hi;simp [Array.getD_eq_getD_getElem?,Array.getElem?_eq_none (show listed.size<=i by rw [inv.size];exact h)] at hi
 
 have LK:∀t,(t∈o.looksAt ops\/o.dst=some t)->(∀i<ops.size,lN listed i=true->NH ops t i=true->i<j)/\(∀i<j,NH ops t i=true->lN listed i=true):=by
  intro t ht;have ZE:∀i,NH ops t i=true->∃oi,ops[i]?=some oi/\oi.dst=some t:=fun i hi=>by
   unfold NH at hi;split at hi
   .rename_i oi hoi;exact ⟨oi,hoi,by simpa using hi⟩
   .cases hi
  refine ⟨fun i hi hl hw=>?_,fun i hi hw=>?_⟩
  .obtain ⟨oi,hoi,hd⟩:=ZE i hw;rcases Nat.lt_trichotomy i j with h|h|h
   .exact h
   .exact absurd h (hne i hl)
   .rcases zn LJ ho hoi h with hb|hap
    .exact (hM' i hl hb).elim
    .obtain ⟨q1,q2,q3⟩:=Oper.apart_spec hap;rcases ht with ht|ht
     .exact absurd ht (q3 t hd)
     .exact absurd hd (q2 t ht)
  .obtain ⟨oi,hoi,hd⟩:=ZE i hw;rcases zn LJ hoi ho hi with hb|hap
   .exact hM i hb
   .obtain ⟨q1,q2,q3⟩:=Oper.apart_spec hap;rcases ht with ht|ht
    .exact absurd ht (q1 t hd)
    .exact absurd ht (q2 t hd)
 have ZF:∀b,(RD j b=true\/WR j b=true)->(∀i<ops.size,lN listed i=true->WR i b=true->i<j)/\(∀i<j,WR i b=true->lN listed i=true):=by
  intro b hb;refine ⟨fun i hi hl hw=>?_,fun i hi hw=>?_⟩
  .rcases Nat.lt_trichotomy i j with h|h|h
   .exact h
   .exact absurd h (hne i hl)
   .rcases hL.foot i hi j h with hbit|⟨q1,q2⟩
    .exact (hM' i hl hbit).elim
    .rcases hb with hb|hb
     .rw [q2 b hb] at hw;cases hw
     .rw [(q1 b hb).2] at hw;cases hw
  .rcases hL.foot j hjn i hi with hbit|⟨q1,q2⟩
   .exact hM i hbit
   .rcases hb with hb|hb
    .rw [(q1 b hw).1] at hb;cases hb
    .rw [(q1 b hw).2] at hb;cases hb
 have hag:G7 (FR j) AA (o.looksAt ops):=fun t ht=>by
  obtain ⟨q1,q2⟩:=LK t (.inl ht);rw [aiC t];exact nU (val:=fun m=>fV (FR m) t) (Kt hL t) (by omega) q1 q2
 have apn:∀b,RD j b=true->nZ b=ru j b:=fun b hb=>by
  obtain ⟨q1,q2⟩:=ZF b (.inl hb);rw [aiD b];exact nU (val:=fun m=>ru m b) (R_ hL b) (by omega) q1 q2
 
 have hset:∀i,lN (listed.setIfInBounds j true) i=(lN listed i||decide (i=j)):=fun i=>BO hjl;have finish:∀(v:Value) (w':World) (E':Env) (nR:AH),(∀b,nR b=if WR j b=true then ru (j+1) b else nZ b)->Step base w E w' E'->dM base w' E' nR (fun b=>(F0 b/\∀i,lN listed i=true->¬NEW i b)/\¬NEW j b)->Rep w' E' (RV j) v->
   K (a.put o.dst v) w':=by
  intro v w' E' nR hN hs' hh' hv;refine hK _ _ ⟨by simpa using inv.size,fun i hi=>?_,E',lH AA o.dst (RV j),nR,hst.trans hs',hh'.weaken (fun b hb=>⟨⟨hb.1,fun i hi=>hb.2 i (by rw [hset,hi];rfl)⟩,hb.2 j (by rw [hset];simp)⟩),(hfr.mono hs'.ext).put o.dst hv,?_,fun t=>?_,fun b=>?_,by rw [ayq];exact hdef⟩
  .intro o' ho' e he hb;rw [hset];rw [hset] at hi;simp only [aY,decide_eq_true_eq] at hi;rcases hi with hi|rfl
   .rw [inv.closed i hi o' ho' e he hb];rfl
   .rw [hpre o' ho' e he hb];rfl
  .rw [<- hlen];cases o.dst<;>simp [lH,fB]
  .by_cases e:o.dst=some t
   .obtain ⟨q1,q2⟩:=LK t (.inr e);have hlast:ayx (fun i=>lN (listed.setIfInBounds j true) i&&NH ops t i) ops.size=j+1:=by
     refine LG hjn ?_ (fun i h1 h2=>?_)
     .rw [hset];simp [NH,ho,e]
     .rw [hset];cases hw:NH ops t i with
      |false=>simp|true=>
       cases hl:lN listed i with
       |false=>simp;omega|true=>have:=q1 i h2 hl hw;omega
    rw [hlast,hL.fr j o ho,e];simp only [lH,lM];rw [hlen,AB hL j (by omega)];split
    .rfl
    .rename_i hc;have:¬(t<(FR 0).length):=fun h=>hc (by simp [h]);have g1:fV AA t=none:=by cases hg:fV AA t with|none=>rfl|some x=>have:=yC hg;omega
     have g2:fV (FR j) t=none:=by cases hg:fV (FR j) t with|none=>rfl|some x=>have:=yC hg;rw [AB hL j (by omega)] at this;omega
     rw [g1,g2]
   .have hwj:NH ops t j=false:=(by simp [NH,ho,e]);rw [BM (q':=fun i=>lN listed i&&NH ops t i) (fun i hi=>by
     rw [hset];by_cases ei:i=j
     .subst ei;simp [hwj]
     .simp [ei])]
    rw [<- aiC t];cases hd:o.dst with
    |none=>rfl|some d=>
     have:t≠d:=fun h=>e (by rw [hd,h]);simp [lH,lM,this]
  .by_cases e:WR j b=true
   .obtain ⟨q1,q2⟩:=ZF b (.inr e);have hlast:ayx (fun i=>lN (listed.setIfInBounds j true) i&&WR i b) ops.size=j+1:=by
     refine LG hjn ?_ (fun i h1 h2=>?_)
     .rw [hset];simp [e]
     .rw [hset];cases hw:WR i b with
      |false=>simp|true=>
       cases hl:lN listed i with
       |false=>simp;omega|true=>have:=q1 i h2 hl hw;omega
    rw [hlast,hN b,if_pos e]
   .have hwj:WR j b=false:=(by simpa using e);rw [BM (q':=fun i=>lN listed i&&WR i b) (fun i hi=>by
     rw [hset];by_cases ei:i=j
     .subst ei;simp [hwj]
     .simp [ei])]
    rw [hN b,if_neg e];exact aiD b
 exact hL.step j o ho AA nZ w E a _ hag apn hh (fun b hb=>⟨hL.new j b hjn hb,fun i hi hb'=>(hL.atQ i j (hLn i hi) hjn (hne i hi)).elim (fun h=>hM' i hi h) (fun h=>h b hb hb')⟩) hfr Q K finish
theorem agr (Du:uz ops=true)(LJ:vO ops (ayu ops.toList [])=true)(hL:agp P ops base (ayu ops.toList []) F0 FR ru RV WR RD NEW XY)
  {w:World} {E:Env} {a:Act} (hh:dM base w E (ru 0) F0) (hfr:tY w E (FR 0) a.tmps) {Q:Exit->Act->World->Prop}
  (hQ:∀a' w',(∃E',Step base w E w' E'/\dM base w' E' (ru ops.size) (fun b=>F0 b/\∀i,i<ops.size->¬NEW i b)/\tY w' E' (FR ops.size) a'.tmps/\a'.defers=a.defers)->Q .normal a' w') :
  wpAny P .any ops Q ops.size (Array.replicate ops.size false) a w:=by
 have main:∀(fuel:Nat) (listed:Array Bool) (a':Act) (w':World),apq P ops base F0 FR ru WR NEW w E a listed a' w'->(List.range ops.size).countP (fun i=>!lN listed i)<=fuel->wpAny P .any ops Q fuel listed a' w':=by
  intro fuel;induction fuel with
  |zero=>
   intro listed a' w' inv hc;have hall:∀i,i<ops.size->lN listed i=true:=fun i hi=>by
    have:=List.countP_eq_zero.1 (Nat.le_zero.1 hc) i (by simpa using hi);simpa using this
   have hr:Region.ready .any ops listed=[]:=by
    cases hr:Region.ready .any ops listed with
    |nil=>rfl|cons x xs=>
     have hx:x∈Region.ready .any ops listed:=(by rw [hr];simp);obtain ⟨hun,o,ho,-⟩:=mem_ready.1 hx;have hxn:=(bD.1 ho).1;have:=hall x hxn;unfold lN at this;have hxl:x<listed.size:=(by rw [inv.size];exact hxn);simp [Array.getD_eq_getD_getElem?,hxl] at this hun;rw [this] at hun;cases hun
   refine ⟨hr,hQ a' w' ?_⟩;obtain ⟨E',AA,nZ,q1,q2,q3,q4,q5,q6,q7⟩:=inv.body;have e1:∀t,fV AA t=fV (FR ops.size) t:=fun t=>by
    rw [q5 t];exact nU (val:=fun m=>fV (FR m) t) (Kt hL t) (dD _) (fun i hi _ _=>hi) (fun i hi _=>hall i hi)
   have e2:nZ=ru ops.size:=by
    funext b;rw [q6 b];exact nU (val:=fun m=>ru m b) (R_ hL b) (dD _) (fun i hi _ _=>hi) (fun i hi _=>hall i hi)
   refine ⟨E',q1,?_,⟨by rw [AB hL _ (dD _),<- q4];exact q3.size,fun i x hx=>q3.get i x (by rw [e1];exact hx),q3.Gg⟩,q7⟩;rw [<- e2];exact q2.weaken fun b hb=>⟨hb.1,fun i hi=>by
    have:i<ops.size:=by
     rcases Nat.lt_or_ge i ops.size with h|h
     .exact h
     .unfold lN at hi;simp [Array.getD_eq_getD_getElem?,Array.getElem?_eq_none (show listed.size<=i by rw [inv.size];exact h)] at hi
    exact hb.2 i this⟩
  |succ fuel ih=>
   intro listed a' w' inv hc;refine ⟨fun hr=>?_,fun j hj=>?_⟩
   ·
    have hall:∀i,i<ops.size->lN listed i=true:=by
     intro i;induction i using Nat.strongRecOn with
     |_ i ihi=>
      intro hi;cases hl:lN listed i with
      |true=>rfl|false=>
       have ho:ops[i]?=some ops[i]:=(by simp [hi]);have hil:i<listed.size:=(by rw [inv.size];exact hi);have:i∈Region.ready .any ops listed:=mem_ready.2 ⟨by unfold lN at hl;simpa [Array.getD_eq_getD_getElem?,hil] using hl,ops[i],ho,fun e he hb=>by
        have hlt:=EL Du ho (by simpa using he) hb;exact ihi e.on hlt (by omega)⟩
       rw [hr] at this;cases this
    have hz:(List.range ops.size).countP (fun i=>!lN listed i)<=0:=by
     rw [Nat.le_zero,List.countP_eq_zero];intro i hi;simp [hall i (by simpa using hi)]
    
    have:=hQ a' w' ?_
    .exact this
    .obtain ⟨E',AA,nZ,q1,q2,q3,q4,q5,q6,q7⟩:=inv.body;have e1:∀t,fV AA t=fV (FR ops.size) t:=fun t=>by
      rw [q5 t];exact nU (val:=fun m=>fV (FR m) t) (Kt hL t) (dD _) (fun i hi _ _=>hi) (fun i hi _=>hall i hi)
     have e2:nZ=ru ops.size:=by
      funext b;rw [q6 b];exact nU (val:=fun m=>ru m b) (R_ hL b) (dD _) (fun i hi _ _=>hi) (fun i hi _=>hall i hi)
     refine ⟨E',q1,?_,⟨by rw [AB hL _ (dD _),<- q4];exact q3.size,fun i x hx=>q3.get i x (by rw [e1];exact hx),q3.Gg⟩,q7⟩;rw [<- e2];exact q2.weaken fun b hb=>⟨hb.1,fun i hi=>by
      have:i<ops.size:=by
       rcases Nat.lt_or_ge i ops.size with h|h
       .exact h
       .unfold lN at hi;simp [Array.getD_eq_getD_getElem?,Array.getElem?_eq_none (show listed.size<=i by rw [inv.size];exact h)] at hi
      exact hb.2 i this⟩
   .refine agq Du LJ hL inv hj (fun a2 w2 inv2=>ih _ a2 w2 inv2 ?_);obtain ⟨hun,o,ho,-⟩:=mem_ready.1 hj;have hjn:=(bD.1 ho).1;have hjl:j<listed.size:=(by rw [inv.size];exact hjn);have hnl:lN listed j=false:=(by unfold lN;simpa [Array.getD_eq_getD_getElem?,hjl] using hun);have:(List.range ops.size).countP (fun i=>!lN (listed.setIfInBounds j true) i)<(List.range ops.size).countP (fun i=>!lN listed i):=by
     have hsub:∀l:List Nat,l.Nodup->l.countP (fun i=>!lN (listed.setIfInBounds j true) i)+(if j∈l then 1 else 0)=l.countP (fun i=>!lN listed i):=by
      intro l;induction l with
      |nil=>intro _;simp|cons x l ihl=>
       intro hnd;obtain ⟨hx,hnd⟩:=List.nodup_cons.1 hnd;have:=ihl hnd;simp only [List.countP_cons,BO hjl];by_cases e:x=j
       .subst e;rw [if_neg hx] at this;have h':l.countP (fun i=>!(lN listed i||decide (i=x)))=l.countP (fun i=>!lN listed i):=by
         simp only [BO hjl] at this;simpa using this
        rw [h'];simp [hnl]
       .have ej:(j∈x::l)↔j∈l:=(by simp;intro h;exact absurd h.symm e);simp only [BO hjl] at this;have aiE:(lN listed x||decide (x=j))=lN listed x:=(by simp [e]);rw [aiE];by_cases hm:j∈l
        .rw [if_pos hm] at this;rw [if_pos (ej.2 hm)];omega
        .rw [if_neg hm] at this;rw [if_neg (fun h=>hm (ej.1 h))];omega
     have:=hsub (List.range ops.size) List.nodup_range;rw [if_pos (by simpa using hjn)] at this;omega
    omega
 have hz:∀(q:Nat->Bool) n,ayx (fun i=>lN (Array.replicate ops.size false) i&&q i) n=0:=by
  intro q n;induction n with
  |zero=>rfl|succ n ih=>
   simp only [ayx];rw [if_neg,ih];unfold lN;simp [Array.getD_eq_getD_getElem?,Array.getElem?_replicate];split<;>simp
 refine main ops.size _ a w ⟨by simp,fun j hj=>?_,E,FR 0,ru 0,Step.refl _ _ _,hh.weaken (fun b hb=>hb.1),hfr,rfl,fun t=>by rw [hz],fun b=>by rw [hz],rfl⟩ ?_
 .unfold lN at hj;simp [Array.getD_eq_getD_getElem?,Array.getElem?_replicate] at hj;split at hj<;>simp at hj
 .exact bW List.countP_le_length (by simp)
end
end Go.Fw
end
section
namespace Go.Fw
variable [iT]
abbrev AQ :=Exit->jB->AH->Nat->Prop
structure Le (base:Nat)(w:World)(E:Env)(fr:jB)(ah:AH)(nx:Nat)(a:Act):Prop where
 heap:dM base w E ah (fun b=>nx<=b)
 fr:tY w E fr a.tmps
 defers:a.defers=[]
def y9 (base:Nat)(w:World)(E:Env)(Q:AQ)(e:Exit)(a':Act)(w':World):Prop:=
 ∃E' fr' dV nx',Q e fr' dV nx'/\Le base w' E' fr' dV nx' a'/\Step base w E w' E'
def AW (P:Program)(c:Code)(fr:jB)(ah:AH)(nx:Nat)(Q:AQ):Prop:=
 ∀base w E a,Le base w E fr ah nx a->c.wp P (y9 base w E Q) a w
def Si (K:jB->AH->Nat->Prop)(Q:AQ):AQ
 | .normal,fr,ah,nx=>K fr ah nx|e,fr,ah,nx=>Q e fr ah nx
def AIn (id:Nat)(Q:AQ):AQ
 | .exit id',fr,ah,nx=>if id'=id then Q .normal fr ah nx else Q (.exit id') fr ah nx
 |e,fr,ah,nx=>Q e fr ah nx
section
variable {P : Program} {fr:jB} {ah:AH} {nx:Nat} {Q:AQ}
theorem y9.mono {base w E w1 E1}{Q Q':AQ}{e a' w'}(hs:Step base w E w1 E1)(hq:∀fr ah nx,Q e fr ah nx->Q' e fr ah nx)(h:y9 base w1 E1 Q e a' w'):y9 base w E Q' e a' w':=by
 obtain ⟨E',fr',dV,nx',h1,h2,h3⟩:=h;exact ⟨E',fr',dV,nx',hq _ _ _ h1,h2,hs.trans h3⟩
theorem AW.mono {c:Code}{Q':AQ}(h:AW P c fr ah nx Q)(hq:∀e fr ah nx,Q e fr ah nx->Q' e fr ah nx):AW P c fr ah nx Q':=
 fun base w E a hs=>wp_mono (h base w E a hs) fun e a' w' hp=>hp.mono (Step.refl _ _ _) (hq e)
theorem LM (h:Q .normal fr ah nx):AW P .skip fr ah nx Q:=fun base w E a hs=>wp_skip ⟨E,fr,ah,nx,h,hs,Step.refl _ _ _⟩
theorem aeF {id:Nat}(h:Q (.exit id) fr ah nx):AW P (.exit id) fr ah nx Q:=fun base w E a hs=>wp_exit ⟨E,fr,ah,nx,h,hs,Step.refl _ _ _⟩
theorem G8 (h:Q .ret fr ah nx):AW P .ret fr ah nx Q:=fun base w E a hs=>wp_ret ⟨E,fr,ah,nx,h,hs,Step.refl _ _ _⟩
theorem aiF {l:Nat}(h:Q .normal fr ah nx):AW P (.label l) fr ah nx Q:=
 fun _ _ E _ hs=>wp_label ⟨E,fr,ah,nx,h,hs,Step.refl _ _ _⟩
theorem al8 {l:Nat}(h:Q (.goto l) fr ah nx):AW P (.goto l) fr ah nx Q:=
 fun _ _ E _ hs=>wp_goto ⟨E,fr,ah,nx,h,hs,Step.refl _ _ _⟩
def AO (P:Program)(c rest:Code)(fr:jB)(ah:AH)(nx:Nat)(Q:AQ):Prop:=
 ∀base w E a,Le base w E fr ah nx a->∀(b:Frame) (k:List Item) (cs:List Frame),∃e a' w',y9 base w E Q e a' w'/\Arrives P (lone (b.at a (.code rest::.inScope c::k)) cs w) b k cs e a' w'
def ags (P:Program)(c:Code)(Q:AQ):AQ
 | .goto l,fr,ah,nx=>(match findLabel c l with|some r=>AO P c r fr ah nx Q|none=>Q (.goto l) fr ah nx)|e,fr,ah,nx=>Q e fr ah nx
theorem AO.mono {c rest:Code}{Q':AQ}(h:AO P c rest fr ah nx Q)(hq:∀e fr ah nx,Q e fr ah nx->Q' e fr ah nx):AO P c rest fr ah nx Q':=
 fun base w E a hs b k cs=>let ⟨e,a',w',h1,h2⟩:=h base w E a hs b k cs;⟨e,a',w',y9.mono (Step.refl _ _ _) (hq e) h1,h2⟩
theorem PI {c rest:Code}(h:AW P rest fr ah nx (ags P c Q)):AO P c rest fr ah nx Q:=by
 intro base w E a hs b k cs;obtain ⟨e,a1,w1,hq,harr⟩:=h base w E a hs b (.inScope c::k) cs;obtain ⟨E',fr',dV,nx',q,hs',hst⟩:=hq;cases e with
 |normal=>exact ⟨.normal,a1,w1,⟨E',fr',dV,nx',q,hs',hst⟩,Steps.trans harr (.one step_inScope)⟩|exit id=>exact ⟨.exit id,a1,w1,⟨E',fr',dV,nx',q,hs',hst⟩,fun k' hk=>harr k' (by simp [exitTo,hk])⟩|goto l=>
  simp only [ags] at q;split at q
  .rename_i r hf;have hg:gotoIn l (.inScope c::k)=some (.code r::.inScope c::k):=(by simp [gotoIn,hf]);obtain ⟨e2,a2,w2,q2,arv⟩:=q base w1 E' a1 hs' b k cs;exact ⟨e2,a2,w2,y9.mono hst (fun _ _ _ h=>h) q2,.of_steps (harr _ hg) arv⟩
  .rename_i hf;exact ⟨.goto l,a1,w1,⟨E',fr',dV,nx',q,hs',hst⟩,fun k' hk=>harr k' (by simp [gotoIn,hf,hk])⟩
 |ret=>exact ⟨.ret,a1,w1,⟨E',fr',dV,nx',q,hs',hst⟩,harr⟩|panic ch=>exact ⟨.panic ch,a1,w1,⟨E',fr',dV,nx',q,hs',hst⟩,harr⟩|outgrown=>exact ⟨.outgrown,a1,w1,⟨E',fr',dV,nx',q,hs',hst⟩,harr⟩
theorem aiG {c:Code}(h:AO P c c fr ah nx Q):AW P (.scope c) fr ah nx Q:=by
 intro base w E a hs b k cs;obtain ⟨e,a',w',h1,h2⟩:=h base w E a hs b k cs;exact ⟨e,a',w',h1,.of_steps (.one step_scope) h2⟩
theorem apr {x y:Code}(h:∀K:jB->AH->Nat->Prop,(∀fr ah nx,AW P y fr ah nx Q->K fr ah nx)->AW P x fr ah nx (Si K Q)):AW P (.seq x y) fr ah nx Q:=by
 have h':=h (fun fr ah nx=>AW P y fr ah nx Q) (fun _ _ _ h=>h);intro base w E a hs;refine wp_seq (wp_mono (h' base w E a hs) fun e a' w' hp=>?_);cases e with
 |normal=>
  obtain ⟨E',fr',dV,nx',h1,h2,h3⟩:=hp;exact wp_mono (h1 base w' E' a' h2) fun e a2 w2 hp2=>hp2.mono h3 (fun _ _ _ h=>h)
 |_=>exact hp.mono (Step.refl _ _ _) (fun _ _ _ h=>h)
theorem n_ {x y:Code}(h:AW P x fr ah nx (Si (fun fr ah nx=>AW P y fr ah nx Q) Q)):AW P (.seq x y) fr ah nx Q:=
 apr fun _ hk=>h.mono fun e fr ah nx hq=>by cases e<;>first|exact hk _ _ _ hq|exact hq
theorem LP {c:Operand}{x y:Code}(t:Bool)(hc:ev fr c=some (.p (.bool t)))(h:if t=true then AW P x fr ah nx Q else AW P y fr ah nx Q):AW P (.cond c x y) fr ah nx Q:=by
 intro base w E a hs;have hv:=(eu hs.fr hc).fO;refine wp_cond hv ?_;cases t with
 |true=>exact h base w E a hs|false=>exact h base w E a hs
theorem Sj {id:Nat}{c:Code}(h:AW P c fr ah nx (AIn id Q)):AW P (.block id c) fr ah nx Q:=by
 intro base w E a hs;refine wp_block (wp_mono (h base w E a hs) fun e a' w' hp=>?_);cases e with
 |exit id'=>
  obtain ⟨E',fr',dV,nx',h1,h2,h3⟩:=hp;simp only [AIn] at h1;simp only [Exit.inBlock];split
  .rename_i e;rw [if_pos e] at h1;exact ⟨E',fr',dV,nx',h1,h2,h3⟩
  .rename_i e;rw [if_neg e] at h1;exact ⟨E',fr',dV,nx',h1,h2,h3⟩
 |_=>exact hp.mono (Step.refl _ _ _) (fun _ _ _ h=>h)
theorem N_ {id:Nat}{ops:Array Oper}(h:BD P ops none nx 0 ops.toList fr ah [] (fun fr' dV=>Q .normal fr' dV (nx+ops.size))):AW P (.region id ops false) fr ah nx Q:=by
 intro base w E a hs;refine wp_region ?_;have:=RY (Q:=y9 base w E Q) (base:=base) (t_:=nx) ops.toList 0 fr ah w E a h (by simp) (hs.heap.weaken fun b hb=>by simpa using hb) hs.fr (fun a' w' hp=>?_)
 .simpa [List.range_eq_range'] using this
 .obtain ⟨E',fr',dV,h1,h2,h3,h4,h5⟩:=hp;exact ⟨E',fr',dV,nx+ops.size,h1,⟨h3.weaken fun b hb=>by simpa using hb,h4,by rw [h5];exact hs.defers⟩,h2⟩
theorem al9 {id:Nat}{ops:Array Oper}(hm:P.follows .mixedOrders=true)(M:List Nat)(hM:ayu ops.toList []=M)(he:uz ops=true)(hsl:vO ops M=true)
  (h:BD P ops (some M) nx 0 ops.toList fr ah [] (fun fr' dV=>Q .normal fr' dV (nx+ops.size))):AW P (.region id ops true) fr ah nx Q:=by
 subst hM;intro base w E a hs;refine wp_region_any hm ?_;obtain ⟨d1,d2⟩:=Qw hs.heap (w.drawn+1);refine agn he hsl h d2 (hs.fr.mono d1.ext) (fun a' w' hp=>?_);obtain ⟨E',fr',dV,h1,h2,h3,h4,h5⟩:=hp;exact ⟨E',fr',dV,nx+ops.size,h1,⟨h3,h4,by rw [h5];exact hs.defers⟩,d1.trans h2⟩
def C_ : jB->jB->Prop
 |_,[]=>True|[],_::_=>False|_::xs,none::ys=>C_ xs ys|x::xs,some a::ys=>x=some a/\C_ xs ys
theorem C_.length : ∀{fr Et:jB},C_ fr Et->Et.length<=fr.length
 |_,[],_=>by simp
 |[],_::_,h=>h.elim|_::xs,none::ys,h=>by have:=C_.length (fr:=xs) (Et:=ys) h;simp;omega
 |x::xs,some a::ys,h=>by have:=C_.length (fr:=xs) (Et:=ys) h.2;simp;omega
theorem C_.get : ∀{fr Et:jB} {i:Nat} {a:AV},C_ fr Et->fV Et i=some a->fV fr i=some a
 |_,[],i,a,_,h=>by simp [fV] at h
 |[],_::_,_,_,h,_=>h.elim|_::xs,none::ys,0,a,h,hg=>by simp [fV] at hg
 |_::xs,none::ys,i+1,a,h,hg=>C_.get (fr:=xs) (Et:=ys) h hg|x::xs,some b::ys,0,a,h,hg=>by simp [fV] at hg ⊢;rw [h.1,hg]
 |x::xs,some b::ys,i+1,a,h,hg=>C_.get (fr:=xs) (Et:=ys) h.2 hg
theorem Le.le {base w E a}{Et:jB}(h:Le base w E fr ah nx a)(hle:C_ fr Et):Le base w E Et ah nx a:=
 ⟨h.heap,⟨bW hle.length h.fr.size,fun i x hx=>h.fr.get i x (hle.get hx),h.fr.Gg⟩,h.defers⟩
theorem al_ {c:Code}{kP:AH}{nx0:Nat}(hah:∀b k,kP b=some k->ah b=some k)(hnx:nx<=nx0)(h:AW P c fr kP nx0 Q):AW P c fr ah nx Q:=by
 intro base w E a hs;refine h base w E a ⟨⟨fun b k hb=>hs.heap.blk b k (hah b k hb),fun b b' k k' c o c' o' hne h1 h2=>hs.heap.sep b b' k k' c o c' o' hne (hah _ _ h1) (hah _ _ h2),fun b hb=>hs.heap.fresh b (bW hnx hb),hs.heap.iY,hs.heap.bs,hs.heap.je⟩,hs.fr,hs.defers⟩
def azA (J:Nat->jB->AH->Nat->Prop)(n:Nat)(fr:jB)(ah:AH)(nx:Nat):Prop:=∃m<n,∃Et,C_ fr Et/\J m Et ah nx
theorem aeG {c:Code}(I:Nat->jB->AH->Nat->Prop)(n0:Nat)(Et:jB)(hle:C_ fr Et)(h0:I n0 Et ah nx)
  (round:∀n fr ah nx,I n fr ah nx->∀K:jB->AH->Nat->Prop,(∀fr ah nx,azA I n fr ah nx->K fr ah nx)->AW P c fr ah nx (Si K Q)):AW P (.loop c) fr ah nx Q:=by
 intro base w E a hs;refine wp_loop_ghost (fun n a' w'=>∃E' fr' dV nx',I n fr' dV nx'/\Le base w' E' fr' dV nx' a'/\Step base w E w' E') n0 ⟨E,Et,ah,nx,h0,hs.le hle,Step.refl _ _ _⟩ ?_;intro n a' w' hI;obtain ⟨E',fr',dV,nx',h1,h2,h3⟩:=hI;refine wp_mono (round n fr' dV nx' h1 (azA I n) (fun _ _ _ h=>h) base w' E' a' h2) fun e a2 w2 hp=>?_;cases e with
 |normal=>
  obtain ⟨E2,fr2,ah2,nx2,⟨m,hm,fr3,hle,hJ⟩,q2,q3⟩:=hp;exact ⟨m,hm,E2,fr3,ah2,nx2,hJ,q2.le hle,h3.trans q3⟩
 |_=>exact hp.mono h3 (fun _ _ _ h=>h)
def yM (P:Program)(fr:jB)(ah:AH):List ResultVar->(List AV->Prop)->Prop
 |[],k=>k []| .tmp t::r,k=>fD (fV fr t) fun a=>yM P fr ah r fun l=>k (a::l)
 | .cell t ty::r,k=>fD (fV fr t) fun p=>Q5 P ah ty p fun x=>yM P fr ah r fun l=>k (x.v::l)
def one (l:List AV):AV:=match l with | [a]=>a|l=>.gW l
def LQ (tmps:Array Value):ResultVar->Sem Value
 | .tmp t=>pure (tmps.getD t undef)| .cell p t=>do loadVar t (<- asAddr (tmps.getD p undef))
theorem og {base w E ah nx}{a:Act}(hs:Le base w E fr ah nx a):∀{l:List ResultVar} {k:List AV->Prop},yM P fr ah l k->
  ∃az vs,k az/\(l.mapM (LQ a.tmps)).run P w=.ok vs w/\fG w E az vs
 |[],k,h=>⟨[],[],h,rfl,fG.nil⟩| .tmp t::r,k,h=>by
  obtain ⟨x,hx,h⟩:=dG.1 h;obtain ⟨az,vs,h1,h2,h3⟩:=og hs h;obtain ⟨v,hv,hr⟩:=hs.fr.get t x hx;refine ⟨x::az,v::vs,h1,?_,fG.cons hr h3⟩;have e:(LQ a.tmps (.tmp t)).run P w=.ok v w:=by simp [LQ,hv]
  rw [List.mapM_cons];simp only [Sem.run_bind,e,Sem.run_pure,Result.andThen_ok,h2]
 | .cell p t::r,k,h=>by
  obtain ⟨x,hx,h⟩:=dG.1 h;obtain ⟨v,hv,hr⟩:=hs.fr.get p x hx;obtain ⟨rs,u,⟨az,vs,h1,h2,h3⟩,h5,h6,h7⟩:=Rk (P:=P) (K:=fun x=>∃az vs,k (x.v::az)/\(r.mapM (LQ a.tmps)).run P w=.ok vs w/\fG w E az vs) hs.heap
   (by
    unfold Q5 at h ⊢;obtain ⟨ty,hty,h⟩:=dG.1 h;refine dG.2 ⟨ty,hty,?_⟩;cases x with
    |vp row off=>exact zZ (fun y hy=>og hs hy) h|op b sz i off=>
     dsimp only at h ⊢;split at h
     .obtain ⟨q1,q2⟩:=h;obtain ⟨row,q3,q4⟩:=dG.1 q2;exact ⟨q1,dG.2 ⟨row,q3,zZ (fun y hy=>og hs hy) q4⟩⟩
     .obtain ⟨q1,q2⟩:=h;obtain ⟨row,q3,q4⟩:=dG.1 q2;exact ⟨q1,dG.2 ⟨row,q3,zZ (fun y hy=>og hs hy) q4⟩⟩
     .exact h.elim
    |_=>exact h.elim) hr
  refine ⟨rs.v::az,u::vs,h1,?_,fG.cons h7 h3⟩;have hp:a.tmps.getD p undef=v:=by simp [hv]
  have hload:(LQ a.tmps (.cell p t)).run P w=.ok u w:=by
   show (do loadVar t (<- asAddr (a.tmps.getD p undef)):Sem Value).run P w=_;rw [hp];cases v with
   |pointer q=>
    cases q with
    |some q=>simpa [Instr.loadAt,Instr.sureAddr,asAddr] using h6|none=>simp [Instr.loadAt,Instr.sureAddr] at h6
   |_=>simp [Instr.loadAt,Instr.sureAddr] at h6
  rw [List.mapM_cons];simp only [Sem.run_bind,hload,h2,Result.andThen_ok,Sem.run_pure]
theorem Qx {w E az vs}(h:fG w E az vs):Rep w E (one az) (if h:vs.toArray.size=1 then vs.toArray[0] else .tuple vs.toArray):=by
 match az,vs,h with
 |[],[],h=>exact .gW [] #[] rfl (fun i c v h=>by simp at h)|[a],[v],h=>exact h.2 0 a v rfl rfl|a::b::az,v::u::vs,h=>
  have e:¬((v::u::vs).toArray.size=1):=by simp
  rw [dif_neg e];exact .gW _ _ (by simpa using h.1) (fun i c v hc hv=>h.2 i c v hc (by simpa using hv))
 |[],_::_,h=>exact absurd h.1 (by simp)|_::_,[],h=>exact absurd h.1 (by simp)|[a],_::_::_,h=>exact absurd h.1 (by simp)|_::_::_,[_],h=>exact absurd h.1 (by simp)
def arw (P:Program)(fn:Func)(r:AV):AQ:=fun e fr ah _=>(e=.normal\/e=.ret)/\yM P fr ah fn.results.toList fun l=>jE (nR ah ayw) (one l)=some r
theorem ZG {f:FuncId}{fn:Func}{c:Code}{args:List AV}{r:AV}(hf:P.funcs[f]?=some fn)(hb:fn.body=some c)(hname:fn.name≠ "runtime.NumGoroutine")
  (hn:args.length<=fn.ntmps) (h:AW P c (args.map some++List.replicate (fn.ntmps-args.length) none) (fun _=>none) 0 (arw P fn r)):PC P f args r:=by
 intro w fix vs hfix hG hargs;rw [hf];dsimp only;rw [if_neg (by rw [hb];simp)];refine ⟨hname,calls_of_wp hf hb ?_⟩;have iE:Le w.heap.size w (dW fix) (args.map some++List.replicate (fn.ntmps-args.length) none) (fun _=>none) 0
   {tmps:=vs.toArray++Array.replicate (fn.ntmps-vs.toArray.size) undef,defers:=[]}:=by
  refine ⟨⟨fun b k hb=>(by cases hb),fun b b' k k' c o c' o' _ hb=>(by cases hb),fun _ _=>rfl,hfix,dD _,fun b c o hb=>(by cases hb)⟩,⟨?_,fun i x hx=>?_,hG⟩,rfl⟩
  .simp [hargs.1]
  .have hlt:i<args.length/\args[i]?=some x:=by
    have key:∀(l:List AV) (m i:Nat) (x:AV),fV (l.map some++List.replicate m none) i=some x->i<l.length/\l[i]?=some x:=by
     intro l;induction l with
     |nil=>
      intro m;induction m with
      |zero=>intro i x h;simp [fV] at h|succ m ih=>
       intro i x h;simp only [List.map_nil,List.nil_append,List.replicate_succ] at h ih;cases i with
       |zero=>simp [fV] at h|succ i=>have:=(ih i x h).1;simp at this
     |cons y l ih=>
      intro m i x h;cases i with
      |zero=>simp [fV] at h;exact ⟨by simp,by simp [h]⟩|succ i=>
       simp only [aX,bV,fV] at h;obtain ⟨h1,h2⟩:=ih m i x h;exact ⟨by simp;omega,by simpa using h2⟩
    exact key args _ i x hx
   have hvl:i<vs.length:=(by rw [<- hargs.1];exact hlt.1);refine ⟨vs[i],?_,hargs.2 i x _ hlt.2 (by simp [hvl])⟩;rw [Array.getElem?_append_left (by simpa using hvl)];simp [hvl]
 refine wp_mono (h _ w (dW fix) _ iE) fun e a' w' hp=>?_;obtain ⟨E',fr',dV,nx',⟨he,hres⟩,hs',hst⟩:=hp;obtain ⟨az,vs',hz,hrun,hrep⟩:=og hs' hres;have hres':(results fn a'.tmps).run P w'=.ok (if h:vs'.toArray.size=1 then vs'.toArray[0] else .tuple vs'.toArray) w':=by
  have e:results fn a'.tmps=(do
    let vs <- fn.results.mapM (LQ a'.tmps)
    pure (if h:vs.size=1 then vs[0] else .tuple vs)):=by
   unfold results;congr 1
  rw [e,Array.mapM_eq_mapM_toList,Sem.run_bind,Sem.run_map,hrun];rfl
 have hv:=Qx hrep;let kF:Nat->Nat->Prop:=fun c o=>E'.fix c o\/(w.heap.size<=c/\c<w'.heap.size);have hfr:=Lp hs'.heap (fix:=kF) (fun c o h=>.inl h) (fun b c o ho off=>.inr (hs'.heap.je b c o ho)) ayw hv hz;have Ku:∃v kF,Ending.returned (if h:vs'.toArray.size=1 then vs'.toArray[0] else .tuple vs'.toArray)=.returned v/\Step w.heap.size w (dW fix) w' (dW kF)/\
    (∀c o,kF c o->c<w'.heap.size)/\Rep w' (dW kF) r v:=by
  refine ⟨_,kF,rfl,⟨⟨fun c o h=>.inl (hst.ext.fix c o h),hst.ext.cell,fun b hb=>absurd rfl hb,hst.ext.arr⟩,hst.below,fun c o hc h=>?_,fun c hc _=>hst.below.block c hc,fun b c o h _=>(by cases h),fun c o h hc=>?_⟩,fun c o h=>?_,hfr⟩
  .rcases h with h|⟨h,-⟩
   .exact hst.wZ c o hc h
   .omega
  .rcases h with h|⟨h,-⟩
   .exact hst.w_ c o h hc |>.imp id (fun ⟨b,o',h⟩=>by cases h)
   .omega
  .rcases h with h|⟨-,h⟩
   .exact hs'.heap.iY c o h
   .exact h
 rcases he with rfl|rfl
 .exact ⟨hs'.defers,_,hres',Ku⟩
 .exact ⟨hs'.defers,_,hres',Ku⟩
def arx (P:Program)(fn:Func)(r:AV):AQ:=fun e fr ah _=>(e=.normal\/e=.ret)/\yM P fr ah fn.results.toList fun l=>jE (nR ah ayw) (one l)=some r/\(one l).Gi=true/\∀b∈(one l).refs,∀k,ah b=some k->k.FV=true
theorem agt {f:FuncId}{fn:Func}{c:Code}{args:List AV}{r:AV}(hf:P.funcs[f]?=some fn)(hb:fn.body=some c)(hname:fn.name≠ "runtime.NumGoroutine")
  (hn:args.length<=fn.ntmps) (h:AW P c (args.map some++List.replicate (fn.ntmps-args.length) none) (fun _=>none) 0 (arx P fn r)):PCa P f args r:=by
 intro w fix vs hfix hG hargs;rw [hf];dsimp only;rw [if_neg (by rw [hb];simp)];refine ⟨hname,calls_of_wp hf hb ?_⟩;have iE:Le w.heap.size w (dW fix) (args.map some++List.replicate (fn.ntmps-args.length) none) (fun _=>none) 0
   {tmps:=vs.toArray++Array.replicate (fn.ntmps-vs.toArray.size) undef,defers:=[]}:=by
  refine ⟨⟨fun b k hb=>(by cases hb),fun b b' k k' c o c' o' _ hb=>(by cases hb),fun _ _=>rfl,hfix,dD _,fun b c o hb=>(by cases hb)⟩,⟨?_,fun i x hx=>?_,hG⟩,rfl⟩
  .simp [hargs.1]
  .have hlt:i<args.length/\args[i]?=some x:=by
    have key:∀(l:List AV) (m i:Nat) (x:AV),fV (l.map some++List.replicate m none) i=some x->i<l.length/\l[i]?=some x:=by
     intro l;induction l with
     |nil=>
      intro m;induction m with
      |zero=>intro i x h;simp [fV] at h|succ m ih=>
       intro i x h;simp only [List.map_nil,List.nil_append,List.replicate_succ] at h ih;cases i with
       |zero=>simp [fV] at h|succ i=>have:=(ih i x h).1;simp at this
     |cons y l ih=>
      intro m i x h;cases i with
      |zero=>simp [fV] at h;exact ⟨by simp,by simp [h]⟩|succ i=>
       simp only [aX,bV,fV] at h;obtain ⟨h1,h2⟩:=ih m i x h;exact ⟨by simp;omega,by simpa using h2⟩
    exact key args _ i x hx
   have hvl:i<vs.length:=(by rw [<- hargs.1];exact hlt.1);refine ⟨vs[i],?_,hargs.2 i x _ hlt.2 (by simp [hvl])⟩;rw [Array.getElem?_append_left (by simpa using hvl)];simp [hvl]
 refine wp_mono (h _ w (dW fix) _ iE) fun e a' w' hp=>?_;obtain ⟨E',fr',dV,nx',⟨he,hres⟩,hs',hst⟩:=hp;obtain ⟨az,vs',⟨hz,hnx,hfb⟩,hrun,hrep⟩:=og hs' hres;have hres':(results fn a'.tmps).run P w'=.ok (if h:vs'.toArray.size=1 then vs'.toArray[0] else .tuple vs'.toArray) w':=by
  have e:results fn a'.tmps=(do
    let vs <- fn.results.mapM (LQ a'.tmps)
    pure (if h:vs.size=1 then vs[0] else .tuple vs)):=by
   unfold results;congr 1
  rw [e,Array.mapM_eq_mapM_toList,Sem.run_bind,Sem.run_map,hrun];rfl
 have hv:=Qx hrep;let kF:Nat->Nat->Prop:=fun c o=>E'.fix c o\/(w.heap.size<=c/\c<w'.heap.size);have hfr:=V5 hs'.heap hv hnx hfb hz (fix:=fun c o=>kF c o/\w.heap.size<=c) (fun b _ c o ho off=>⟨.inr (hs'.heap.je b c o ho),(hs'.heap.je b c o ho).1⟩);have Ku:∃v kF,Ending.returned (if h:vs'.toArray.size=1 then vs'.toArray[0] else .tuple vs'.toArray)=.returned v/\Step w.heap.size w (dW fix) w' (dW kF)/\
    (∀c o,kF c o->c<w'.heap.size)/\Rep w' (dW fun c o=>kF c o/\w.heap.size<=c) r v:=by
  refine ⟨_,kF,rfl,⟨⟨fun c o h=>.inl (hst.ext.fix c o h),hst.ext.cell,fun b hb=>absurd rfl hb,hst.ext.arr⟩,hst.below,fun c o hc h=>?_,fun c hc _=>hst.below.block c hc,fun b c o h _=>(by cases h),fun c o h hc=>?_⟩,fun c o h=>?_,hfr⟩
  .rcases h with h|⟨h,-⟩
   .exact hst.wZ c o hc h
   .omega
  .rcases h with h|⟨h,-⟩
   .exact hst.w_ c o h hc |>.imp id (fun ⟨b,o',h⟩=>by cases h)
   .omega
  .rcases h with h|⟨-,h⟩
   .exact hs'.heap.iY c o h
   .exact h
 rcases he with rfl|rfl
 .exact ⟨hs'.defers,_,hres',Ku⟩
 .exact ⟨hs'.defers,_,hres',Ku⟩
end
end Go.Fw
end
section
namespace Go.Fw
variable [iT]
def fK (k:IntKind)(a b:Int):Int:=k.wrap (a+b)
def mD (k:IntKind)(a b:Int):Int:=k.wrap (a-b)
def agu (k:IntKind)(a b:Int):Int:=k.wrap (a*b)
def LU (k:IntKind)(a b:Int):Int:=k.wrap (a.tdiv b)
def LV (_:IntKind)(a b:Int):Int:=a.tmod b
def jl (k:IntKind)(a b:Int):Int:=k.wrap (BitVec.ofInt k.bits a&&&BitVec.ofInt k.bits b).toNat
def ZH (k:IntKind)(a b:Int):Int:=k.wrap (BitVec.ofInt k.bits a |||BitVec.ofInt k.bits b).toNat
def atU (k:IntKind)(a b:Int):Int:=k.wrap (BitVec.ofInt k.bits a ^^^ BitVec.ofInt k.bits b).toNat
def nK (k:IntKind)(a b:Int):Int:=k.wrap (BitVec.ofInt k.bits a&&&~~~ BitVec.ofInt k.bits b).toNat
def atV (k:IntKind)(a b:Int):Int:=k.wrap (a*2 ^ (min b.toNat k.bits))
def m_ (k:IntKind)(a b:Int):Int:=a.fdiv (2 ^ (min b.toNat k.bits))
def EM (k:IntKind)(n:Int):Int:=k.wrap (BitVec.ofInt k.bits (if k.signed then -1 else k.max) ^^^ BitVec.ofInt k.bits n).toNat
def dU (a b:Int):Bool:=a == b
def jk (a b:Int):Bool:=a != b
def Qy (a b:Bool):Bool:=a == b
def bNe (a b:Bool):Bool:=!(a == b)
def Dw (a b:List UInt8):Bool:=decide (a=b)
def sNe (a b:List UInt8):Bool:=!decide (a=b)
def fEq (m n:Nat):Bool:=FloatKind.f64.format.order m n == some .eq
def Kv (m n:Nat):Bool:=FloatKind.f64.format.order m n != some .eq
def fLt (m n:Nat):Bool:=FloatKind.f64.format.order m n == some .lt
def XZ (m n:Nat):Bool:=FloatKind.f64.format.order m n == some .lt||FloatKind.f64.format.order m n == some .eq
def fGt (m n:Nat):Bool:=FloatKind.f64.format.order m n == some .gt
def ZI (m n:Nat):Bool:=FloatKind.f64.format.order m n == some .gt||FloatKind.f64.format.order m n == some .eq
def sLen (s:List UInt8):Int:=s.length
def nM {α:Type}(s:List α):Int:=s.length
end Go.Fw
end
