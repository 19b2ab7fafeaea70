
import Derived.Test.YtfccnpibdkkboaaGreatFwA
import Derived.ProofKit
import Derived.Deep.LoopGhost
import Derived.Scope
set_option linter.unusedVariables false
set_option linter.unusedSimpArgs false
set_option linter.unusedSectionVars false
set_option linter.unnecessarySimpa false
section
namespace Go.Fw
variable [iZ]
section
variable {P : Program} {base:Nat} {w w':World} {E E':Env} {ah:AH} {F:Nat->Prop} {K:nT->Prop} {id:Nat}
theorem mW : ∀{l l':List AV},kN ah l=some l'->l'.length=l.length/\∀(i:Nat) (x':AV),l'[i]?=some x'->∃x,l[i]?=some x/\ny ah x=some x'
 |[],l',h=>by simp [kN] at h;subst h;exact ⟨rfl,fun i x h=>by simp at h⟩
 |a::r,l',h=>by
  simp only [kN,Option.bind_eq_some_iff,Option.map_eq_some_iff] at h
  obtain ⟨x,hx,y,hy,rfl⟩:=h
  obtain ⟨h1,h2⟩:=mW hy
  refine ⟨by simp [h1],fun i x' hi=>?_⟩
  cases i with
  |zero=>simp at hi;subst hi;exact ⟨a,rfl,hx⟩
  |succ i=>simp at hi;simpa using h2 i x' hi
theorem CG : ∀{l l':List (List AV)},uX ah l=some l'->l'.length=l.length/\∀(i:Nat) (x':List AV),l'[i]?=some x'->∃x,l[i]?=some x/\kN ah x=some x'
 |[],l',h=>by simp [uX] at h;subst h;exact ⟨rfl,fun i x h=>by simp at h⟩
 |a::r,l',h=>by
  simp only [uX,Option.bind_eq_some_iff,Option.map_eq_some_iff] at h
  obtain ⟨x,hx,y,hy,rfl⟩:=h
  obtain ⟨h1,h2⟩:=CG hy
  refine ⟨by simp [h1],fun i x' hi=>?_⟩
  cases i with
  |zero=>simp at hi;subst hi;exact ⟨a,rfl,hx⟩
  |succ i=>simp at hi;simpa using h2 i x' hi
theorem Ew {a a':AV}(h:ny ah a=some a')(hs:a.mP=true):a'.mP=true:=by
 cases a with
 |p v=>simp [ny] at h;subst h;exact hs
 |str s=>simp [ny] at h;subst h;rfl
 |nan=>simp [ny] at h;subst h;rfl
 |agg cs=>simp [AV.mP] at hs
 |kS cs=>simp [AV.mP] at hs
 |sl rows full=>simp only [ny,Option.map_eq_some_iff] at h;obtain ⟨r,-,rfl⟩:=h;rfl
 |vp row off=>simp only [ny,Option.map_eq_some_iff] at h;obtain ⟨r,-,rfl⟩:=h;rfl
 |os b sz off len=>
  simp only [ny] at h
  split at h
  .split at h
   .cases h;rfl
   .cases h
  .cases h
 |op b sz i off=>
  simp only [ny] at h
  split at h
  .split at h
   .simp only [Option.map_eq_some_iff] at h;obtain ⟨r,-,rfl⟩:=h;rfl
   .cases h
  .cases h
 |fn f x y=>simp only [ny,Option.bind_eq_some_iff,Option.map_eq_some_iff] at h;obtain ⟨r,-,s,-,rfl⟩:=h;rfl
 |wI t v=>simp only [ny,Option.map_eq_some_iff] at h;obtain ⟨r,-,rfl⟩:=h;rfl
 |mp b=>simp [ny] at h
theorem zM {α:Type}{l:List α}{x:α}(h:x∈l):∃i:Nat,l[i]?=some x:=List.mem_iff_getElem?.1 h
theorem kF : ∀{l:List AV},jY l=true->∀(i:Nat) (x:AV),l[i]?=some x->x.clean=true
 |[],_,i,x,h=>by simp at h
 |a::r,hc,i,x,h=>by
  simp only [jY,Bool.and_eq_true] at hc
  cases i with
  |zero=>simp at h;subst h;exact hc.1
  |succ i=>simp at h;exact kF hc.2 i x h
theorem zN : ∀{l:List (List AV)},iM l=true->∀(i:Nat) (x:List AV),l[i]?=some x->jY x=true
 |[],_,i,x,h=>by simp at h
 |a::r,hc,i,x,h=>by
  simp only [iM,Bool.and_eq_true] at hc
  cases i with
  |zero=>simp at h;subst h;exact hc.1
  |succ i=>simp at h;exact zN hc.2 i x h
theorem jG : ∀{l:List AV} {b:Nat} (i:Nat) (x:AV),l[i]?=some x->b∈x.refs->b∈jR l
 |[],b,i,x,h,_=>by simp at h
 |a::r,b,i,x,h,hb=>by
  simp only [jR,List.mem_append]
  cases i with
  |zero=>simp at h;subst h;exact .inl hb
  |succ i=>simp at h;exact .inr (jG i x h hb)
theorem uI : ∀{l:List (List AV)} {b:Nat} (i:Nat) (x:List AV),l[i]?=some x->b∈jR x->b∈jI l
 |[],b,i,x,h,_=>by simp at h
 |a::r,b,i,x,h,hb=>by
  simp only [jI,List.mem_append]
  cases i with
  |zero=>simp at h;subst h;exact .inl hb
  |succ i=>simp at h;exact .inr (uI i x h hb)
theorem ZY {fix:Nat->Nat->Prop}(hf:∀c o,E.fix c o->fix c o){a v}(h:Rep w E a v)(hc:a.clean=true):Rep w (iq fix) a v:=by
 induction h with
 |p h=>exact .p h
 |str s l h=>exact .str s l h
 |nan n hn=>exact .nan n hn
 |agg cs vs hl hs _ ih=>exact .agg cs vs hl hs (fun i c v h1 h2=>ih i c v h1 h2 (kF hc i c h1))
 |kS cs vs hl _ ih=>exact .kS cs vs hl (fun i c v h1 h2=>ih i c v h1 h2 (kF hc i c h1))
 |slnil full a=>exact .slnil full a
 |sl rows full sz c o cap g hcap hfull hsz hfix hcell kE _ ih=>
  exact .sl rows full sz c o cap g hcap hfull hsz (fun i row j x h1 h2=>hf _ _ (hfix i row j x h1 h2)) hcell kE
   (fun i row j x h1 h2=>ih i row j x h1 h2 (kF (zN hc i row h1) j x h2))
 |vp row off c o g hfix hcell kE _ ih=>
  exact .vp row off c o g (fun j x h=>hf _ _ (hfix j x h)) hcell kE (fun j x h=>ih j x h (kF hc j x h))
 |lg=>simp [AV.clean] at hc
 |os=>simp [AV.clean] at hc
 |op=>simp [AV.clean] at hc
 |fn f first captured vs us hl hl' _ _ ih ih'=>
  simp only [AV.clean,Bool.and_eq_true] at hc
  exact .fn f first captured vs us hl hl' (fun i c v h1 h2=>ih i c v h1 h2 (kF hc.1 i c h1)) (fun i c v h1 h2=>ih' i c v h1 h2 (kF hc.2 i c h1))
 |wI t a v _ ih=>exact .wI t a v (ih hc)
 |mp=>simp [AV.clean] at hc
def UD (w:World)(E:Env)(fix:Nat->Nat->Prop)(b sz:Nat)(rs:List (List AV)):Prop:=
 ∀c o,E.own b=.at c o->∃(arr:Array Value) (ty:TypeId),w.heap[c]?=some (.cells arr ty (0,0))/\RowsIn w (iq fix) arr o sz rs
theorem MI {fix:Nat->Nat->Prop}{Q:Nat->Prop}(hB:∀b sz rs,ah b=some (.rows sz rs)->iM rs=true->Q b->UD w E fix b sz rs)(hQ:∀b sz rs,ah b=some (.rows sz rs)->Q b->∀c o,E.own b=.at c o->∀off,fix c off)(hf:∀c o,E.fix c o->fix c o){a v}(h:Rep w E a v) :
  ∀{a'},ny ah a=some a'->(∀b∈a.refs,Q b)->Rep w (iq fix) a' v:=by
 induction h with
 |p h=>intro a' e _;simp [ny] at e;subst e;exact .p h
 |str s l h=>intro a' e _;simp [ny] at e;subst e;exact .str s l h
 |nan n hn=>intro a' e _;simp [ny] at e;subst e;exact .nan n hn
 |agg cs vs hl hs _ ih=>
  intro a' e hr
  simp only [ny,Option.map_eq_some_iff] at e
  obtain ⟨cs',hcs,rfl⟩:=e
  obtain ⟨h1,h2⟩:=mW hcs
  refine .agg cs' vs (by rw [h1,hl]) (fun c hc=>?_) (fun i c v hc hv=>?_)
  .obtain ⟨i,hi⟩:=zM hc
   obtain ⟨x,hx,hfx⟩:=h2 i c hi
   exact Ew hfx (hs x (List.mem_of_getElem? hx))
  .obtain ⟨x,hx,hfx⟩:=h2 i c hc
   exact ih i x v hx hv hfx (fun b hb=>hr b (jG i x hx hb))
 |kS cs vs hl _ ih=>
  intro a' e hr
  simp only [ny,Option.map_eq_some_iff] at e
  obtain ⟨cs',hcs,rfl⟩:=e
  obtain ⟨h1,h2⟩:=mW hcs
  refine .kS cs' vs (by rw [h1,hl]) (fun i c v hc hv=>?_)
  obtain ⟨x,hx,hfx⟩:=h2 i c hc
  exact ih i x v hx hv hfx (fun b hb=>hr b (jG i x hx hb))
 |slnil full a=>intro a' e _;simp [ny,uX] at e;subst e;exact .slnil _ _
 |sl rows full sz c o cap g hcap hfull hsz hfix hcell kE _ ih=>
  intro a' e hr
  simp only [ny,Option.map_eq_some_iff] at e
  obtain ⟨rows',hrows,rfl⟩:=e
  obtain ⟨h1,h2⟩:=CG hrows
  have key:∀(i:Nat) (row':List AV) (j:Nat) (x':AV),rows'[i]?=some row'->row'[j]?=some x'->∃row x,rows[i]?=some row/\row[j]?=some x/\ny ah x=some x':=fun i row' j x' hi hj=>by
   obtain ⟨row,hrow,hfr⟩:=h2 i row' hi
   obtain ⟨x,hx,hfx⟩:=(mW hfr).2 j x' hj
   exact ⟨row,x,hrow,hx,hfx⟩
  have:=Rep.sl (w:=w) (E:=iq fix) rows' false sz c o cap g (by rw [h1];exact hcap) (fun h=>by cases h) (fun i row' hi=>by
    obtain ⟨row,hrow,hfr⟩:=h2 i row' hi
    rw [(mW hfr).1];exact hsz i row hrow)
   (fun i row' j x' hi hj=>by obtain ⟨row,x,q1,q2,-⟩:=key i row' j x' hi hj;exact hf _ _ (hfix i row j x q1 q2))
   (fun i row' j x' hi hj=>by obtain ⟨row,x,q1,q2,-⟩:=key i row' j x' hi hj;exact hcell i row j x q1 q2)
   (fun row' hm x' hx=>by
    obtain ⟨i,hi⟩:=zM hm
    obtain ⟨j,hj⟩:=zM hx
    obtain ⟨row,x,q1,q2,q3⟩:=key i row' j x' hi hj
    exact Ew q3 (kE row (List.mem_of_getElem? q1) x (List.mem_of_getElem? q2)))
   (fun i row' j x' hi hj=>by
    obtain ⟨row,x,q1,q2,q3⟩:=key i row' j x' hi hj
    exact ih i row j x q1 q2 q3 (fun b hb=>hr b (uI i row q1 (jG j x q2 hb))))
  rw [h1] at this
  exact this
 |vp row off c o g hfix hcell kE _ ih=>
  intro a' e hr
  simp only [ny,Option.map_eq_some_iff] at e
  obtain ⟨row',hrow,rfl⟩:=e
  obtain ⟨h1,h2⟩:=mW hrow
  exact .vp row' off c o g (fun j x' hj=>by obtain ⟨x,q,-⟩:=h2 j x' hj;exact hf _ _ (hfix j x q)) (fun j x' hj=>by obtain ⟨x,q,-⟩:=h2 j x' hj;exact hcell j x q)
   (fun x' hx=>by obtain ⟨j,hj⟩:=zM hx;obtain ⟨x,q,q2⟩:=h2 j x' hj;exact Ew q2 (kE x (List.mem_of_getElem? q)))
   (fun j x' hj=>by obtain ⟨x,q,q2⟩:=h2 j x' hj;exact ih j x q q2 (fun b hb=>hr b (jG j x q hb)))
 |lg b sz off a hb=>
  intro a' e hr
  simp only [ny] at e
  split at e
  .split at e
   .cases e
    simp;exact .slnil _ _
   .cases e
  .cases e
 |os b sz off len c o cap hb hcap hsize=>
  intro a' e hr
  simp only [ny] at e
  split at e
  .rename_i sz' rs hab
   split at e
   .rename_i hcond
    obtain ⟨rfl,hle,hcl⟩:=hcond
    cases e
    obtain ⟨arr,tt,h4,h5⟩:=hB b _ _ hab hcl (hr b (by simp [AV.refs])) c o hb
    .have hget:∀(i:Nat) (row:List AV),((rs.drop off).take len)[i]?=some row->rs[off+i]?=some row:=fun i row hr=>by
      rw [List.getElem?_take] at hr
      split at hr
      .simpa using hr
      .cases hr
     have hlen:((rs.drop off).take len).length=len:=by simp;omega
     have hoff:∀i j:Nat,o+off*sz+i*sz+j=o+(off+i)*sz+j:=fun i j=>by rw [Nat.add_mul];omega
     have:=Rep.sl (w:=w) (E:=iq fix) ((rs.drop off).take len) false sz c (o+off*sz) cap (fun i j=>arr.getD (o+(off+i)*sz+j) undef) (by rw [hlen];exact hcap) (fun h=>by cases h)
      (fun i row hi=>h5.2.1 _ row (hget i row hi)) (fun i row j x hi hj=>hQ b _ _ hab (hr b (by simp [AV.refs])) c o hb _)
      (fun i row j x hi hj=>by
       obtain ⟨v,hv,-⟩:=h5.2.2.2 _ row j x (hget i row hi) hj
       rw [hoff,cell_of_row w c _ arr tt _ h4,hv]
       simp [hv])
      (fun row hm x hx=>h5.2.2.1 row (List.mem_of_mem_drop (List.mem_of_mem_take hm)) x hx)
      (fun i row j x hi hj=>by
       obtain ⟨v,hv,hx⟩:=h5.2.2.2 _ row j x (hget i row hi) hj
       have:arr.getD (o+(off+i)*sz+j) undef=v:=by simp [hv]
       rw [this]
       exact hx)
     rw [hlen] at this
     exact this
   .cases e
  .cases e
 |op b sz row off c o hb=>
  intro a' e hr
  simp only [ny] at e
  split at e
  .rename_i sz' rs hab
   split at e
   .rename_i hcond
    obtain ⟨rfl,hcl⟩:=hcond
    simp only [Option.map_eq_some_iff] at e
    obtain ⟨rw_,hrow,rfl⟩:=e
    obtain ⟨arr,tt,h4,h5⟩:=hB b _ _ hab hcl (hr b (by simp [AV.refs])) c o hb
    refine .vp rw_ off c (o+row*sz) (fun j=>arr.getD (o+row*sz+j) undef) (fun j x h=>hQ b _ _ hab (hr b (by simp [AV.refs])) c o hb _) (fun j x hj=>?_) (fun x hx=>h5.2.2.1 rw_ (List.mem_of_getElem? hrow) x hx) (fun j x hj=>?_)
    .obtain ⟨v,hv,-⟩:=h5.2.2.2 row rw_ j x hrow hj
     rw [cell_of_row w c _ arr tt _ h4,hv]
     simp [hv]
    .obtain ⟨v,hv,hx⟩:=h5.2.2.2 row rw_ j x hrow hj
     have:arr.getD (o+row*sz+j) undef=v:=by simp [hv]
     rw [this]
     exact hx
   .cases e
  .cases e
 |fn f first captured vs us hl hl' _ _ ih ih'=>
  intro a' e hr
  simp only [ny,Option.bind_eq_some_iff,Option.map_eq_some_iff] at e
  obtain ⟨x,hx,y,hy,rfl⟩:=e
  obtain ⟨h1,h2⟩:=mW hx
  obtain ⟨h3,h4⟩:=mW hy
  refine .fn f x y vs us (by rw [h1,hl]) (by rw [h3,hl']) (fun i c v hc hv=>?_) (fun i c v hc hv=>?_)
  .obtain ⟨z,hz,hfz⟩:=h2 i c hc
   exact ih i z v hz hv hfz (fun b hb=>hr b (by simp only [AV.refs,List.mem_append];exact .inl (jG i z hz hb)))
  .obtain ⟨z,hz,hfz⟩:=h4 i c hc
   exact ih' i z v hz hv hfz (fun b hb=>hr b (by simp only [AV.refs,List.mem_append];exact .inr (jG i z hz hb)))
 |wI t a v _ ih=>
  intro a' e hr
  simp only [ny,Option.map_eq_some_iff] at e
  obtain ⟨x,hx,rfl⟩:=e
  exact .wI t x v (ih hx hr)
 |mp b c hb=>intro a' e hr;simp [ny] at e
theorem MJ {fix:Nat->Nat->Prop}(hB:∀b sz rs,ah b=some (.rows sz rs)->iM rs=true->UD w E fix b sz rs)(hf:∀c o,E.fix c o->fix c o){a v}(h:Rep w E a v)
  {a'} (hz:ny ah a=some a') (hr:∀b∈a.refs,∀c o,E.own b=.at c o->∀off,fix c off):Rep w (iq fix) a' v:=
 MI (Q:=fun b=>∀c o,E.own b=.at c o->∀off,fix c off) (fun b sz rs h1 h2 _=>hB b sz rs h1 h2) (fun _ _ _ _ h=>h) hf h hz hr
theorem Rk (hh:eH base w E ah F){b sz:Nat}{rs:List (List AV)}(hb:ah b=some (.rows sz rs)){c o:Nat}(ho:E.own b=.at c o) :
  ∃(arr:Array Value) (ty:TypeId),w.heap[c]?=some (.cells arr ty (0,0))/\RowsIn w E arr o sz rs:=by
 rcases hh.blk b _ hb with ⟨h0,-⟩|⟨c',o',arr,tt,h1,h2,h3,h4,h5⟩
 .rw [ho] at h0;cases h0
 .rw [ho] at h1;cases h1
  exact ⟨arr,tt,h4,h5⟩
theorem xI (hh:eH base w E ah F){fix:Nat->Nat->Prop}(hf:∀c o,E.fix c o->fix c o):∀b sz rs,ah b=some (.rows sz rs)->iM rs=true->UD w E fix b sz rs:=by
 intro b sz rs hb hc c o ho
 obtain ⟨arr,ty,h1,h2,h3,h4,h5⟩:=Rk hh hb ho
 refine ⟨arr,ty,h1,h2,h3,h4,fun i row j x hi hj=>?_⟩
 obtain ⟨v,hv,hx⟩:=h5 i row j x hi hj
 exact ⟨v,hv,ZY hf hx (kF (zN hc i row hi) j x hj)⟩
theorem aeo (hh:eH base w E ah F){fix:Nat->Nat->Prop}(hf:∀c o,E.fix c o->fix c o){a v}(h:Rep w E a v) :
  ∀{a'},ny ah a=some a'->(∀b∈a.refs,∀c o,E.own b=.at c o->∀off,fix c off)->Rep w (iq fix) a' v:=
 fun hz hr=>MJ (xI hh hf) hf h hz hr
theorem YL (hh:eH base w E ah F){fix:Nat->Nat->Prop}(hf:∀c o,E.fix c o->fix c o)(hall:∀b c o,E.own b=.at c o->∀off,fix c off):∀n,∀b sz rs,vP ah n b=some (.rows sz rs)->iM rs=true->UD w E fix b sz rs
 |0=>xI hh hf
 |n+1=>by
  intro b sz rs' hb hc c o ho
  unfold vP at hb
  split at hb
  .rename_i sz0 rs hab
   cases hcl:iM rs
   case true=>
    simp only [hcl,cond_true,Option.some.injEq] at hb
    cases hb
    exact xI hh hf b _ _ hab hc c o ho
   simp only [hcl,cond_false,Option.map_eq_some_iff] at hb
   obtain ⟨UE,hz,he⟩:=hb
   cases he
   obtain ⟨arr,ty,h1,h2,h3,h4,h5⟩:=Rk hh hab ho
   obtain ⟨z1,z2⟩:=CG hz
   have key:∀(i:Nat) (row':List AV) (j:Nat) (x':AV),rs'[i]?=some row'->row'[j]?=some x'->∃row x,rs[i]?=some row/\row[j]?=some x/\ny (vP ah n) x=some x':=fun i row' j x' hi hj=>by
    obtain ⟨row,hrow,hfr⟩:=z2 i row' hi
    obtain ⟨x,hx,hfx⟩:=(mW hfr).2 j x' hj
    exact ⟨row,x,hrow,hx,hfx⟩
   refine ⟨arr,ty,h1,by rw [z1];exact h2,fun i row' hi=>?_,fun row' hm x' hx=>?_,fun i row' j x' hi hj=>?_⟩
   .obtain ⟨row,hrow,hfr⟩:=z2 i row' hi
    rw [(mW hfr).1];exact h3 i row hrow
   .obtain ⟨i,hi⟩:=zM hm
    obtain ⟨j,hj⟩:=zM hx
    obtain ⟨row,x,q1,q2,q3⟩:=key i row' j x' hi hj
    exact Ew q3 (h4 row (List.mem_of_getElem? q1) x (List.mem_of_getElem? q2))
   .obtain ⟨row,x,q1,q2,q3⟩:=key i row' j x' hi hj
    obtain ⟨v,hv,hx⟩:=h5 i row j x q1 q2
    exact ⟨v,hv,MJ (YL hh hf hall n) hf hx q3 (fun b _=>hall b)⟩
  .rename_i hne
   exact absurd hb (hne _ _)
theorem UF (hh:eH base w E ah F){fix:Nat->Nat->Prop}(hf:∀c o,E.fix c o->fix c o)(hall:∀b c o,E.own b=.at c o->∀off,fix c off)(n:Nat){a a':AV}{v:Value}(h:Rep w E a v)(hz:ny (vP ah n) a=some a'):Rep w (iq fix) a' v:=
 MJ (YL hh hf hall n) hf h hz (fun b _=>hall b)
def QL (ah:AH)(E:Env)(fix:Nat->Nat->Prop):Nat->Nat->Prop
 |0,b=>ah b≠none->∀c o,E.own b=.at c o->∀off,fix c off
 |n+1,b=>(ah b≠none->∀c o,E.own b=.at c o->∀off,fix c off)/\∀b'∈pR ah b,QL ah E fix n b'
theorem QL.at {fix:Nat->Nat->Prop}:∀{n b:Nat},QL ah E fix n b->ah b≠none->∀c o,E.own b=.at c o->∀off,fix c off
 |0,_,h=>h
 |_+1,_,h=>h.1
theorem abz {fix:Nat->Nat->Prop}:∀{n:Nat} {l:List Nat},(∀b∈rch ah n l,ah b≠none->∀c o,E.own b=.at c o->∀off,fix c off)->∀b∈l,QL ah E fix n b
 |0,l,h,b,hb=>h b hb
 |n+1,l,h,b,hb=>by
  refine ⟨h b (List.mem_append_left _ hb),fun b' hb'=>?_⟩
  exact abz (n:=n) (l:=l.flatMap (pR ah)) (fun x hx=>h x (List.mem_append_right _ hx)) b' (List.mem_flatMap.2 ⟨b,hb,hb'⟩)
theorem UG {n b sz:Nat}{rs:List (List AV)}(h:vP ah n b=some (.rows sz rs)):ah b≠none:=by
 cases n with
 |zero=>simp only [vP] at h;rw [h];exact fun e=>by cases e
 |succ n=>
  unfold vP at h
  intro e
  rw [e] at h
  cases h
theorem YM (hh:eH base w E ah F){fix:Nat->Nat->Prop}(hf:∀c o,E.fix c o->fix c o):∀n,∀b sz rs,vP ah n b=some (.rows sz rs)->iM rs=true->QL ah E fix n b->UD w E fix b sz rs
 |0=>fun b sz rs h1 h2 _=>xI hh hf b sz rs h1 h2
 |n+1=>by
  intro b sz rs' hb hc hQ c o ho
  unfold vP at hb
  split at hb
  .rename_i sz0 rs hab
   cases hcl:iM rs
   case true=>
    simp only [hcl,cond_true,Option.some.injEq] at hb
    cases hb
    exact xI hh hf b _ _ hab hc c o ho
   simp only [hcl,cond_false,Option.map_eq_some_iff] at hb
   obtain ⟨UE,hz,he⟩:=hb
   cases he
   obtain ⟨arr,ty,h1,h2,h3,h4,h5⟩:=Rk hh hab ho
   obtain ⟨z1,z2⟩:=CG hz
   have key:∀(i:Nat) (row':List AV) (j:Nat) (x':AV),rs'[i]?=some row'->row'[j]?=some x'->∃row x,rs[i]?=some row/\row[j]?=some x/\ny (vP ah n) x=some x':=fun i row' j x' hi hj=>by
    obtain ⟨row,hrow,hfr⟩:=z2 i row' hi
    obtain ⟨x,hx,hfx⟩:=(mW hfr).2 j x' hj
    exact ⟨row,x,hrow,hx,hfx⟩
   refine ⟨arr,ty,h1,by rw [z1];exact h2,fun i row' hi=>?_,fun row' hm x' hx=>?_,fun i row' j x' hi hj=>?_⟩
   .obtain ⟨row,hrow,hfr⟩:=z2 i row' hi
    rw [(mW hfr).1];exact h3 i row hrow
   .obtain ⟨i,hi⟩:=zM hm
    obtain ⟨j,hj⟩:=zM hx
    obtain ⟨row,x,q1,q2,q3⟩:=key i row' j x' hi hj
    exact Ew q3 (h4 row (List.mem_of_getElem? q1) x (List.mem_of_getElem? q2))
   .obtain ⟨row,x,q1,q2,q3⟩:=key i row' j x' hi hj
    obtain ⟨v,hv,hx⟩:=h5 i row j x q1 q2
    refine ⟨v,hv,MI (YM hh hf n) (fun b sz rs hb hq=>hq.at (UG hb)) hf hx q3 (fun b' hb'=>hQ.2 b' ?_)⟩
    unfold pR
    rw [hab]
    exact uI i row q1 (jG j x q2 hb')
  .rename_i hne
   exact absurd hb (hne _ _)
def aix (E:Env)(ah:AH)(rd:List Nat)(c:Nat):Prop:=∃b∈rd,ah b≠none/\∃o,E.own b=.at c o
def Ij (E:Env)(ah:AH)(rd:List Nat):Env:=⟨fun c o=>E.fix c o\/aix E ah rd c,E.own⟩
theorem G6 {rd:List Nat}:∀{ah:AH} {b:Nat} {k:pI},lJ ah (DN rd) b=some k->b∉rd/\ah b=some k:=by
 induction rd with
 |nil=>intro ah b k h;exact ⟨by simp,h⟩
 |cons x r ih=>
  intro ah b k h
  simp only [DN,List.map_cons,lJ] at h
  obtain ⟨h1,h2⟩:=ih h
  by_cases e:b=x
  .subst e;simp [upd] at h2
  .simp only [upd,if_neg e] at h2
   exact ⟨by simp [e,h1],h2⟩
theorem JM (hh:eH base w E ah F)(rd:List Nat):Step base w E w (Ij E ah rd):=by
 refine ⟨⟨fun _ _ h=>.inl h,fun _ _ _=>rfl,fun _ _=>rfl,fun _ arr _ fz h=>⟨arr,fz,h,rfl⟩⟩,RowKit.Below.refl _ _,fun c o hc h=>?_,fun _ _ _=>rfl,fun b c o h _=>⟨b,o,h⟩,fun c o h _=>?_⟩
 .rcases h with h|⟨b,-,-,o',h⟩
  .exact h
  .have:=(hh.lH b c o' h).1;omega
 .rcases h with h|⟨b,-,-,o',h⟩
  .exact .inl h
  .exact .inr ⟨b,o',h⟩
theorem Qk (hh:eH base w E ah F)(rd:List Nat):eH base w (Ij E ah rd) (lJ ah (DN rd)) F:=by
 have hx:=(JM hh rd).ext
 refine ⟨fun b k hb=>?_,fun b b' k k' c o c' o' hne h1 h2 h3 h4=>?_,hh.fresh,fun c o h=>?_,hh.bs,hh.lH⟩
 .obtain ⟨h1,h2⟩:=G6 hb
  refine (hh.blk b k h2).keep hx (fun c o _=>rfl) (fun c o off ho h=>?_)
  rcases h with h|⟨b',hb',hne,o',h⟩
  .exact h
  .obtain ⟨k',hk'⟩:=Option.ne_none_iff_exists'.1 hne
   have hbb:b≠b':=fun e=>h1 (e▸hb')
   exact absurd rfl (hh.sep b b' k k' c o c o' hbb h2 hk' ho h)
 .exact hh.sep b b' k k' c o c' o' hne (G6 h1).2 (G6 h2).2 h3 h4
 .rcases h with h|⟨b,-,-,o',h⟩
  .exact hh.jO c o h
  .exact (hh.lH b c o' h).2
theorem UH (hh:eH base w E ah F)(n:Nat){a a':AV}{v:Value}{rd:List Nat}(h:Rep w E a v)(hz:ny (vP ah n) a=some a')(hr:∀b∈rch ah n a.refs,b∈rd):Rep w (iq (Ij E ah rd).fix) a' v:=
 MI (YM hh (fun _ _ h=>.inl h) n) (fun b sz rs hb hq=>hq.at (UG hb)) (fun _ _ h=>.inl h) h hz
  (abz (fun b hb hne c o ho off=>.inr ⟨b,hr b hb,hne,o,ho⟩))
theorem UJ : ∀{n:Nat} {l l':List Nat},(∀b∈l,b∈l')->∀b∈rch ah n l,b∈rch ah n l'
 |0,_,_,h,b,hb=>h b hb
 |n+1,l,l',h,b,hb=>by
  rcases List.mem_append.1 hb with hb|hb
  .exact List.mem_append_left _ (h b hb)
  .refine List.mem_append_right _ (UJ (n:=n) (fun x hx=>?_) b hb)
   obtain ⟨y,hy,hxy⟩:=List.mem_flatMap.1 hx
   exact List.mem_flatMap.2 ⟨y,h y hy,hxy⟩
theorem Z4 (hh:eH base w E ah F){az as':List AV}{vs:List Value}(h:iT w E az vs)(hz:kN (vP ah aoK) az=some as'):iT w (iq (Ij E ah (rch ah aoK (jR az))).fix) as' vs:=by
 obtain ⟨h1,h2⟩:=mW hz
 refine ⟨by rw [h1,h.1],fun i a v ha hv=>?_⟩
 obtain ⟨x,hx,hfx⟩:=h2 i a ha
 exact UH hh aoK (h.2 i x v hx hv) hfx (UJ fun b hb=>jG i x hx hb)
end
end Go.Fw
end
section
namespace Go.Fw
variable [iZ]
section
variable {P : Program} {base:Nat} {w w':World} {E E':Env} {ah:AH} {F:Nat->Prop} {K:nT->Prop} {id:Nat}
theorem FH : ∀{l:List AV},KA l=true->∀(i:Nat) (x:AV),l[i]?=some x->x.flat=true
 |[],_,i,x,h=>by simp at h
 |a::r,hc,i,x,h=>by
  simp only [KA,Bool.and_eq_true] at hc
  cases i with
  |zero=>simp at h;subst h;exact hc.1
  |succ i=>simp at h;exact FH hc.2 i x h
theorem Ey {a v}(h:Rep w E a v)(hc:a.flat=true):Rep w' E' a v:=by
 induction h with
 |p h=>exact .p h
 |str s l h=>exact .str s l h
 |nan n hn=>exact .nan n hn
 |agg cs vs hl hs _ ih=>exact .agg cs vs hl hs (fun i c v h1 h2=>ih i c v h1 h2 (FH hc i c h1))
 |kS cs vs hl _ ih=>exact .kS cs vs hl (fun i c v h1 h2=>ih i c v h1 h2 (FH hc i c h1))
 |slnil full a=>exact .slnil full a
 |sl rows full sz c o cap g hcap hfull hsz hfix hcell kE _ ih=>
  have:rows=[]:=by simpa [AV.flat] using hc
  subst this
  exact .sl [] full sz c o cap g hcap hfull hsz (fun i row j x h=>by simp at h) (fun i row j x h=>by simp at h) kE (fun i row j x h=>by simp at h)
 |wI t a v _ ih=>exact .wI t a v (ih hc)
 |_=>simp [AV.flat] at hc
theorem Ik {fix:Nat->Nat->Prop}(hf:∀c o,fix c o->E.fix c o){a v}(h:Rep w (iq fix) a v):Rep w E a v:=by
 generalize he:iq fix=E0 at h
 induction h with
 |p h=>exact .p h
 |str s l h=>exact .str s l h
 |nan n hn=>exact .nan n hn
 |agg cs vs hl hs _ ih=>exact .agg cs vs hl hs ih
 |kS cs vs hl _ ih=>exact .kS cs vs hl ih
 |slnil full a=>exact .slnil full a
 |sl rows full sz c o cap g hcap hfull hsz hfix hcell kE _ ih=>
  subst he
  exact .sl rows full sz c o cap g hcap hfull hsz (fun i row j x h1 h2=>hf _ _ (hfix i row j x h1 h2)) hcell kE ih
 |vp row off c o g hfix hcell kE _ ih=>
  subst he
  exact .vp row off c o g (fun j x h=>hf _ _ (hfix j x h)) hcell kE ih
 |lg b sz off a hb=>subst he;exact absurd rfl hb
 |os b sz off len c o cap hb=>subst he;cases hb
 |op b sz row off c o hb=>subst he;cases hb
 |fn f first captured vs us hl hl' _ _ ih ih'=>exact .fn f first captured vs us hl hl' ih ih'
 |wI t a v _ ih=>exact .wI t a v ih
 |mp b c hb=>subst he;cases hb
 mutual
theorem zh : ∀{a:AV},a.clean=true->a.refs=[]
  | .p _,_=>rfl
  | .str _,_=>rfl
  | .nan,_=>rfl
  | .agg cs,h=>jM (l:=cs) h
  | .kS cs,h=>jM (l:=cs) h
  | .sl rows _,h=>rX (l:=rows) h
  | .vp row _,h=>jM (l:=row) h
  | .fn _ x y,h=>by
   simp only [AV.clean,Bool.and_eq_true] at h
   simp only [AV.refs,jM h.1,jM h.2,List.append_nil]
  | .wI _ v,h=>zh (a:=v) h
  | .os ..,h=>by simp [AV.clean] at h
  | .op ..,h=>by simp [AV.clean] at h
  | .mp _,h=>by simp [AV.clean] at h
theorem jM : ∀{l:List AV},jY l=true->jR l=[]
  |[],_=>rfl
  |a::r,h=>by
   simp only [jY,Bool.and_eq_true] at h
   simp only [jR,zh h.1,jM h.2,List.append_nil]
theorem rX : ∀{l:List (List AV)},iM l=true->jI l=[]
  |[],_=>rfl
  |a::r,h=>by
   simp only [iM,Bool.and_eq_true] at h
   simp only [jI,jM h.1,rX h.2,List.append_nil]
end
theorem UK (hh:eH base w E ah F){fix:Nat->Nat->Prop}(hf:∀c o,E.fix c o->fix c o){az as':List AV}{vs:List Value}(h:iT w E az vs)(hz:kN ah az=some as')
  (hr:∀b∈jR az,∀c o,E.own b=.at c o->∀off,fix c off):iT w (iq fix) as' vs:=by
 obtain ⟨h1,h2⟩:=mW hz
 refine ⟨by rw [h1,h.1],fun i a v ha hv=>?_⟩
 obtain ⟨x,hx,hfx⟩:=h2 i a ha
 exact aeo hh hf (h.2 i x v hx hv) hfx (fun b hb=>hr b (jG i x hx hb))
theorem FI (hh:eH base w E ah F){fix:Nat->Nat->Prop}(hf:∀c o,E.fix c o->fix c o)(hall:∀b c o,E.own b=.at c o->∀off,fix c off)(n:Nat){az as':List AV}{vs:List Value}(h:iT w E az vs)(hz:kN (vP ah n) az=some as'):iT w (iq fix) as' vs:=by
 obtain ⟨h1,h2⟩:=mW hz
 refine ⟨by rw [h1,h.1],fun i a v ha hv=>?_⟩
 obtain ⟨x,hx,hfx⟩:=h2 i a ha
 exact UF hh hf hall n (h.2 i x v hx hv) hfx
 mutual
theorem UL {ah eX:AH}:∀{a:AV},a.clean=true->ny eX a=ny ah a
  | .p _,_=>rfl
  | .str _,_=>rfl
  | .nan,_=>rfl
  | .agg cs,h=>by simp only [ny,u_ (l:=cs) (ah:=ah) (eX:=eX) h]
  | .kS cs,h=>by simp only [ny,u_ (l:=cs) (ah:=ah) (eX:=eX) h]
  | .sl rows _,h=>by simp only [ny,MK (l:=rows) (ah:=ah) (eX:=eX) h]
  | .vp row _,h=>by simp only [ny,u_ (l:=row) (ah:=ah) (eX:=eX) h]
  | .os ..,h=>by simp [AV.clean] at h
  | .op ..,h=>by simp [AV.clean] at h
  | .fn f x y,h=>by
   simp only [AV.clean,Bool.and_eq_true] at h
   simp only [ny,u_ (l:=x) (ah:=ah) (eX:=eX) h.1,u_ (l:=y) (ah:=ah) (eX:=eX) h.2]
  | .wI t v,h=>by simp only [ny,UL (a:=v) (ah:=ah) (eX:=eX) h]
  | .mp b,h=>by simp [AV.clean] at h
theorem u_ {ah eX:AH}:∀{l:List AV},jY l=true->kN eX l=kN ah l
  |[],_=>rfl
  |a::r,h=>by
   simp only [jY,Bool.and_eq_true] at h
   simp only [kN,UL (a:=a) (ah:=ah) (eX:=eX) h.1,u_ (l:=r) (ah:=ah) (eX:=eX) h.2]
theorem MK {ah eX:AH}:∀{l:List (List AV)},iM l=true->uX eX l=uX ah l
  |[],_=>rfl
  |a::r,h=>by
   simp only [iM,Bool.and_eq_true] at h
   simp only [uX,u_ (l:=a) (ah:=ah) (eX:=eX) h.1,MK (l:=r) (ah:=ah) (eX:=eX) h.2]
end
theorem aoL {o:Oper}{a:Act}{next:Act->World->Prop}{Q:Exit->Act->World->Prop}{s:Sem Next}{v:Value}(he:execOp a.eval o=s)(hr:s.run P w=.ok (.value v) w')
  (h:next (a.put o.dst v) w'):o.wp P a w next Q:=by
 unfold Oper.wp
 rw [he,hr]
 exact h
theorem abA {o:Oper}{a:Act}{next:Act->World->Prop}{Q:Exit->Act->World->Prop}{v:Value}(he:(execOp a.eval o).run P w=.ok (.value v) w')(h:next (a.put o.dst v) w'):o.wp P a w next Q:=by
 unfold Oper.wp
 rw [he]
 exact h
theorem CJ (hh:eH base w E ah F)(hG:ZR w E.fix){f:FuncId}{as':List AV}{r:AV}{vs:List Value}{fix:Nat->Nat->Prop}(hfix:∀c o,E.fix c o->fix c o)(Rl:∀c o,fix c o->c<w.heap.size)(hrep:iT w (iq fix) as' vs)(hpc:PC P f as' r)
  (hback:(r.flat=true\/∀c o,fix c o->E.fix c o)\/PCa P f as' r) {o:Oper} {a:Act}
  (he:(execOp a.eval o).run P w=(callFunc f vs.toArray).run P w) {next:Act->World->Prop} {Q:Exit->Act->World->Prop}
  (hn:∀v w' E',Step base w E w' E'->eH base w' E' ah (fun b=>F b/\b≠id)->Rep w' E' r v->next (a.put o.dst v) w'):o.wp P a w next Q:=by
 have hp:(match P.funcs[f]? with
  |none=>False
  |some fn=>
   if fn.body.isNone=true then ∃v,(callFunc f vs.toArray).run P w=.ok (.value v) w/\(((r.flat=true\/∀c o,fix c o->E.fix c o)/\Rep w (iq fix) r v)\/Rep w (iq fun _ _=>False) r v)
   else fn.name≠ "runtime.NumGoroutine" /\Calls P f vs.toArray w fun e w'=>∃v vU,e=.returned v/\Step w.heap.size w (iq fix) w' (iq vU)/\
    (∀c o,vU c o->c<w'.heap.size)/\(((r.flat=true\/∀c o,fix c o->E.fix c o)/\Rep w' (iq vU) r v)\/Rep w' (iq fun c o=>vU c o/\w.heap.size<=c) r v)):=by
  rcases hback with hb|hpa
  .have hp:=hpc w fix vs Rl (hG.mono hfix (fun _ _ _=>rfl) (fun _ arr _ fz h=>⟨arr,fz,h,rfl⟩)) hrep
   split at hp
   .exact hp.elim
   .rename_i fn hfn
    rw [hfn]
    dsimp only
    split at hp
    .rename_i hbody
     rw [if_pos hbody]
     obtain ⟨v,h1,h2⟩:=hp
     exact ⟨v,h1,.inl ⟨hb,h2⟩⟩
    .rename_i hbody
     rw [if_neg hbody]
     refine ⟨hp.1,hp.2.mono fun e w' hq=>?_⟩
     obtain ⟨v,vU,h1,h2,h3,h4⟩:=hq
     exact ⟨v,vU,h1,h2,h3,.inl ⟨hb,h4⟩⟩
  .have hp:=hpa w fix vs Rl (hG.mono hfix (fun _ _ _=>rfl) (fun _ arr _ fz h=>⟨arr,fz,h,rfl⟩)) hrep
   split at hp
   .exact hp.elim
   .rename_i fn hfn
    rw [hfn]
    dsimp only
    split at hp
    .rename_i hbody
     rw [if_pos hbody]
     obtain ⟨v,h1,h2⟩:=hp
     exact ⟨v,h1,.inr h2⟩
    .rename_i hbody
     rw [if_neg hbody]
     refine ⟨hp.1,hp.2.mono fun e w' hq=>?_⟩
     obtain ⟨v,vU,h1,h2,h3,h4⟩:=hq
     exact ⟨v,vU,h1,h2,h3,.inr h4⟩
 clear hback
 split at hp
 .exact hp.elim
 .rename_i fn hfn
  split at hp
  .obtain ⟨v,h1,h2⟩:=hp
   refine abA (he.trans h1) (hn v w E (Step.refl _ _ _) (hh.weaken fun b h=>h.1) ?_)
   rcases h2 with ⟨hb|hb,h2⟩|h2
   .exact Ey h2 hb
   .exact Ik hb h2
   .exact Ik (fun _ _ h=>h.elim) h2
  .rename_i hbody
   obtain ⟨hname,hp⟩:=hp
   unfold Oper.wp
   have hcall:(callFunc f vs.toArray).run P w=.ok (.enter f vs.toArray) w:=by
    have:(fn.name == "runtime.NumGoroutine")=false:=by simpa using hname
    simp only [callFunc,Sem.run_bind,run_program,Result.andThen_ok,hfn,this,aV,if_false,hbody,Sem.run_pure]
   rw [he,hcall]
   refine hp.mono fun e w' hq=>?_
   obtain ⟨v,vU,rfl,hst,hlt,hv⟩:=hq
   let E':Env:=⟨fun c o=>E.fix c o\/(w.heap.size<=c/\vU c o),E.own⟩
   have hblk:∀c,c<w.heap.size->w'.heap[c]?=w.heap[c]?:=hst.below.block
   have hx:Ext w E w' E':=by
    refine ⟨fun c o h=>.inl h,fun c o h=>World.cell?_of_block (w:=w) (hblk c (hh.jO c o h)),fun _ _=>rfl,fun c arr ty fz h=>⟨arr,fz,?_,rfl⟩⟩
    rw [hblk c (bI.1 h).1];exact h
   refine hn v w' E' ⟨hx,hst.below.mono hh.bs,fun c o hc h=>?_,fun c hc _=>hblk c hc,fun b c o h _=>⟨b,o,h⟩,fun c o h hc=>?_⟩ ?_ ?_
   .rcases h with h|⟨h,-⟩
    .exact h
    .have:=hh.bs;omega
   .rcases h with h|⟨h,-⟩
    .exact .inl h
    .omega
   .refine ⟨fun b k hb=>?_,hh.sep,fun b hb=>hh.fresh b hb.1,fun c o h=>?_,cO hh.bs hst.below.size,fun b c o h=>⟨(hh.lH b c o h).1,cZ (hh.lH b c o h).2 hst.below.size⟩⟩
    .have hb':=hh.blk b k hb
     refine hb'.keep hx (fun c o ho=>hblk c (hb'.lt ho).1) (fun c o off ho h=>?_)
     rcases h with h|⟨h,-⟩
     .exact h
     .have:=(hb'.lt ho).1;omega
    .rcases h with h|⟨-,h⟩
     .exact cZ (hh.jO c o h) hst.below.size
     .exact hlt c o h
   .rcases hv with ⟨hb|hb,hv⟩|hv
    .exact Ey hv hb
    rotate_left
    .exact Ik (E:=E') (fun c o h=>Or.inr ⟨h.2,h.1⟩) hv
    .refine Ik (fun c o h=>?_) hv
     rcases Nat.lt_or_ge c w.heap.size with hc|hc
     .exact .inl (hb c o (hst.Ei c o hc h))
     .exact .inr ⟨hc,h⟩
theorem abB (hh:eH base w E ah F)(hG:ZR w E.fix){f:FuncId}{args:List AV}{vs:List Value}(h:YA P ah f args K)(ha:iT w E args vs){o:Oper}{a:Act}
  (he:execOp a.eval o=callFunc f vs.toArray) {next:Act->World->Prop} {Q:Exit->Act->World->Prop}
  (hn:∀r v w' E',K r->Step base w E w' E'->eH base w' E' (lJ ah r.wr) (fun b=>F b/\b≠id)->Rep w' E' r.v v->next (a.put o.dst v) w'):o.wp P a w next Q:=by
 obtain ⟨az,has,as',r,hwk,hpc,hcl⟩:=dI.1 h
 rcases hcl with ⟨hcl,hK⟩|hK
 .obtain ⟨fix,hfix,Rl,aiy,hback⟩:∃fix:Nat->Nat->Prop,(∀c o,E.fix c o->fix c o)/\(∀c o,fix c o->c<w.heap.size)/\iT w (iq fix) az vs/\
    ((r.flat=true\/∀c o,fix c o->E.fix c o)\/PCa P f as' r):=by
   rcases hcl with hcl|hcl|hcl
   .rw [u_ hcl (ah:=ah)] at has
    refine ⟨E.fix,fun _ _ h=>h,hh.jO,UK hh (fun _ _ h=>h) ha has (fun b hb=>?_),.inl (.inr (fun _ _ h=>h))⟩
    rw [jM hcl] at hb;cases hb
   .exact ⟨fun c o=>c<w.heap.size,hh.jO,fun c o h=>h,FI hh hh.jO (fun b c o h off=>(hh.lH b c o h).2) aoK ha has,.inl (.inl hcl)⟩
   .exact ⟨fun c o=>c<w.heap.size,hh.jO,fun c o h=>h,FI hh hh.jO (fun b c o h off=>(hh.lH b c o h).2) aoK ha has,.inr hcl⟩
  exact CJ hh hG hfix Rl (hwk _ _ _ aiy) hpc hback (by rw [he]) (fun v w' E'=>hn _ v w' E' hK)
 .have h1:=Qk hh (rch ah aoK (jR args))
  have hs:=JM hh (rch ah aoK (jR args))
  exact CJ h1 (hG.mono (fun _ _ h=>.inl h) (fun _ _ _=>rfl) (fun _ arr _ fz h=>⟨arr,fz,h,rfl⟩)) (fun _ _ h=>h) h1.jO (hwk _ _ _ (Z4 hh ha has)) hpc (.inl (.inr fun _ _ h=>h)) (by rw [he])
   (fun v w' E' s hp hr=>hn _ v w' E' hK (hs.trans s) hp hr)
end
end Go.Fw
end
section
namespace Go.Fw
variable [iZ]
section
variable {P : Program} {w:World} {E:Env} {base:Nat} {ah:AH} {F:Nat->Prop} {K:nT->Prop}
theorem A8 {em:Bool}:∀{d:Nat} {t:TypeId} {a:AV} {v:Value},Cc P d t a=true->Rep w E a v->(Instr.checkKey em d t v).run P w=.ok () w:=by
 intro d
 induction d with
 |zero=>intro t a v h;simp [Cc] at h
 |succ d ih=>
  intro t a v h hr
  unfold Cc at h
  split at h
  .rename_i b hu;obtain rfl:=hr.gV;simp [Instr.checkKey,run_underlying hu]
  .rename_i k n hu;obtain rfl:=hr.gV;simp [Instr.checkKey,run_underlying hu]
  .rename_i s hu;cases hr;simp [Instr.checkKey,run_underlying hu]
  .rename_i fs cs hu
   cases hr with|agg _ vs hl hs hrep=>
   have hX:Rep w E (.agg cs) (.agg vs):=.agg _ _ hl hs hrep
   simp only [Instr.checkKey,Sem.run_bind,run_underlying hu,Result.andThen_ok]
   rw [<- Array.forIn_toList]
   clear hu
   revert h
   generalize fs.toList=l
   induction l with
   |nil=>intro _;simp
   |cons f l ihl=>
    intro h
    simp only [agM,ay] at h
    obtain ⟨h1,h2⟩:=h
    rw [List.forIn_cons]
    by_cases hn:f.name≠ "_"
    .rw [if_pos hn] at h1
     split at h1
     .rename_i ty hty
      split at h1
      .rename_i a ha
       obtain ⟨va,ra,hva⟩:=G5 hty ha hX
       have:=ih h1 hva
       simp only [if_pos hn,Sem.run_bind,ra,Result.andThen_ok,this,Sem.run_pure]
       exact ihl h2
      .cases h1
     .cases h1
    .simp only [if_neg hn,Sem.run_bind,Sem.run_pure,Result.andThen_ok]
     exact ihl h2
  .cases h
theorem Ql {t:TypeId}{x y:AV}{b:Bool}{vx vy:Value}(h:aeq P 10000 t x y=some b)(hx:Rep w E x vx)(hy:Rep w E y vy):(Op.equal t vx vy).run P w=.ok b w:=YE h hx hy
def Ez (w:World)(E:Env)(es:List (AV×AV))(lG:List MapEntry):Prop:=
 es.length=lG.length/\∀(i:Nat) (e:AV×AV) (ce:MapEntry),es[i]?=some e->lG[i]?=some ce->Rep w E e.1 ce.key/\Rep w E e.2 ce.val
theorem Ez.tail {e:AV×AV}{es:List (AV×AV)}{ce:MapEntry}{lG:List MapEntry}(h:Ez w E (e::es) (ce::lG)):Rep w E e.1 ce.key/\Rep w E e.2 ce.val/\Ez w E es lG:=
 ⟨(h.2 0 e ce rfl rfl).1,(h.2 0 e ce rfl rfl).2,by simpa using h.1,fun i a b h1 h2=>h.2 (i+1) a b (by simpa using h1) (by simpa using h2)⟩
def W_ (w:World)(E:Env)(lG:List MapEntry)(n:Nat):Option (Nat×AV)->Option (Nat×Value)->Prop
 |none,none=>True
 |some (i,a),some (j,v)=>j=n+i/\Rep w E a v/\∃ce,lG[i]?=some ce/\ce.val=v
 |_,_=>False
theorem G7 {kt:TypeId}{k:AV}{vk:Value}(hk:Rep w E k vk):∀{es:List (AV×AV)} {lG:List MapEntry} {n:Nat} {r:Option (Nat×AV)},Ez w E es lG->zJ P kt k es=some r->
  ∃o,(Instr.findAsking kt vk lG n).run P w=.ok o w/\W_ w E lG n r o
 |[],[],n,r,he,h=>by
  simp only [zJ,au] at h;subst h
  exact ⟨none,by simp [Instr.findAsking],trivial⟩
 |e::es,ce::lG,n,r,he,h=>by
  obtain ⟨h1,h2,h3⟩:=he.tail
  simp only [zJ] at h
  split at h
  .cases h
  .rename_i hq
   simp only [au] at h;subst h
   refine ⟨some (n,ce.val),?_,by simp,h2,ce,rfl,rfl⟩
   simp only [Instr.findAsking,Sem.run_bind,Ql hq hk h1,Result.andThen_ok,if_true,Sem.run_pure]
  .rename_i hq
   have step:(Instr.findAsking kt vk (ce::lG) n).run P w=(Instr.findAsking kt vk lG (n+1)).run P w:=by
    conv=>lhs;unfold Instr.findAsking
    simp only [Sem.run_bind,Ql hq hk h1,Result.andThen_ok,aV,if_false]
   split at h
   .cases h
   .rename_i hf
    simp only [au] at h;subst h
    obtain ⟨o,q1,q2⟩:=G7 (n:=n+1) hk h3 hf
    refine ⟨o,by rw [step];exact q1,?_⟩
    cases o with
    |none=>trivial
    |some o=>exact q2.elim
   .rename_i i v hf
    simp only [au] at h;subst h
    obtain ⟨o,q1,q2⟩:=G7 (n:=n+1) hk h3 hf
    refine ⟨o,by rw [step];exact q1,?_⟩
    cases o with
    |none=>exact q2.elim
    |some o=>
     obtain ⟨j,v'⟩:=o
     obtain ⟨e1,e2,c,e3,e4⟩:=q2
     exact ⟨by omega,e2,c,by simpa using e3,e4⟩
 |[],_::_,n,r,he,h=>by simp [Ez] at he
 |_::_,[],n,r,he,h=>by simp [Ez] at he
theorem MN {t:TypeId}{d:TypeDesc}(hu:P.underlying t=some d){x y:AV}{vx vy:Value}{b c:Bool}(h:aeq P 10000 t x y=some b)(hx:Rep w E x vx)(hy:Rep w E y vy)(hs:Instr.sameNow d vx vy=some c):c=b:=by
 unfold aeq at h
 unfold Instr.sameNow at hs
 split at hs
 .rename_i q k a k' a'
  split at hs
  .rename_i hk;subst hk
   simp only [au] at hs
   rw [hu] at h
   cases hx with|p _=>
   cases hy with|p _=>
   simp at h
   rw [<- hs,h]
  .cases hs
 .rename_i a a'
  simp only [au] at hs
  rw [hu] at h
  cases hx with
  |p hp=>simp [Ef] at hp
  |str _ l hl=>
   cases hy with
   |p hp=>simp [Ef] at hp
   |str _ l' hl'=>
    simp at h
    subst hl;subst hl'
    rw [<- hs,<- h]
    simp only [beq_toListBytes,ByteArray.toList_eq]
    rw [Bool.eq_iff_iff]
    simp
 .rename_i a a'
  simp only [au] at hs
  rw [hu] at h
  cases hx with|p _=>
  cases hy with|p _=>
  simp at h
  rw [<- hs,h]
 .cases hs
theorem Rn {kt:TypeId}{d:TypeDesc}(hu:P.underlying kt=some d){k:AV}{vk:Value}(hk:Rep w E k vk):∀{es:List (AV×AV)} {lG:List MapEntry} {n:Nat} {r:Option (Nat×AV)} {o:Option (Nat×Value)},Ez w E es lG->zJ P kt k es=some r->
  Instr.findNow d vk lG n=some o->W_ w E lG n r o
 |[],[],n,r,o,he,h,hn=>by
  simp only [zJ,au] at h;subst h
  simp only [Instr.findNow,au] at hn;subst hn
  trivial
 |e::es,ce::lG,n,r,o,he,h,hn=>by
  obtain ⟨h1,h2,h3⟩:=he.tail
  simp only [zJ] at h
  simp only [Instr.findNow] at hn
  split at hn
  .rename_i hs
   simp only [au] at hn;subst hn
   split at h
   .cases h
   .simp only [au] at h;subst h
    exact ⟨by simp,h2,ce,rfl,rfl⟩
   .rename_i hq
    exact absurd (MN hu hq hk h1 hs) (by simp)
  .rename_i hs
   split at h
   .cases h
   .rename_i hq
    exact absurd (MN hu hq hk h1 hs) (by simp)
   .split at h
    .cases h
    .rename_i hf
     simp only [au] at h;subst h
     have:=Rn hu hk h3 hf hn
     cases o with
     |none=>trivial
     |some o=>exact this.elim
    .rename_i i v hf
     simp only [au] at h;subst h
     have:=Rn hu hk h3 hf hn
     cases o with
     |none=>exact this.elim
     |some o=>
      obtain ⟨j,v'⟩:=o
      obtain ⟨e1,e2,c,e3,e4⟩:=this
      exact ⟨by omega,e2,c,by simpa using e3,e4⟩
  .cases hn
 |[],_::_,n,r,o,he,h,hn=>by simp [Ez] at he
 |_::_,[],n,r,o,he,h,hn=>by simp [Ez] at he
theorem KF {kt:TypeId}{d:TypeDesc}(hu:P.underlying kt=some d){k:AV}{vk:Value}(hk:Rep w E k vk){es:List (AV×AV)}{lG:List MapEntry}{r:Option (Nat×AV)}(he:Ez w E es lG)(h:zJ P kt k es=some r) :
  ∃o,(Instr.findKey kt vk lG).run P w=.ok o w/\W_ w E lG 0 r o:=by
 unfold Instr.findKey
 simp only [Sem.run_bind,run_underlying hu,Result.andThen_ok]
 cases hn:Instr.findNow d vk lG 0 with
 |some o=>exact ⟨o,by simp,Rn hu hk he h hn⟩
 |none=>exact G7 hk he h
section
variable {base : Nat} {ah:AH} {F:Nat->Prop} {K:nT->Prop} {id:Nat}
theorem H_.ents {es:List (AV×AV)}{lG:Array MapEntry}{clock:Nat}(h:H_ w E es lG clock):Ez w E es lG.toList:=
 ⟨by simpa using h.1,fun i e ce h1 h2=>by have:=h.2.1 i e ce h1 (by simpa using h2);exact ⟨this.1,this.2.1⟩⟩
theorem Xa (a b:ByteArray):(a == b)=true↔a=b:=by
 obtain ⟨x⟩:=a
 obtain ⟨y⟩:=b
 constructor
 .intro h
  have e:x=y:=by simpa using (show (x == y)=true from h)
  rw [e]
 .intro h
  cases h
  show (x == x)=true
  simp
theorem DR {r:Nat}{es:Array MapEntry}{clock:Nat}(o:Obj)(hb:w.heap[r]?=some (.map es clock)):(setObj r o).run P w=.ok () {w with heap:=w.heap.setIfInBounds r o}:=by
 simp [setObj,Sem.run,hb]
theorem A_ {r:Nat}{o o':Obj}(hb:w.heap[r]?=some o):(w.heap.setIfInBounds r o')[r]?=some o'/\∀r',r'≠r->(w.heap.setIfInBounds r o')[r']?=w.heap[r']?:=by
 have hlt:r<w.heap.size:=(bI.1 hb).1
 exact ⟨by simp [hlt],fun r' hne=>by simp [Ne.symm hne]⟩
theorem KG (hh:eH base w E ah F)(hid:F id){t:TypeId}{r:Option AV}{vr:Option Value}(h:AY P t id r K)(hr:JI w E r vr):Eo P base w E ah F id (Instr.makeMap t vr) K:=by
 obtain ⟨h0,hK⟩:=h
 obtain ⟨h1,h2⟩:=uZ hh hid (.map #[] 0) (.map []) (fun w' E' hx hfix ho hn=>
  ⟨w.heap.size,#[],0,ho,hh.bs,fun off hf=>by have:=hh.jO _ _ (hfix _ _ hf);omega,hn,rfl,fun i e ce h=>by simp at h,rfl,fun i a h=>by simp at h⟩)
 refine ⟨_,.map (some w.heap.size),w.alloc (.map #[] 0),_,hK,?_,h1,h2,.mp id w.heap.size (by simp [Env.set])⟩
 cases hr with
 |none=>simp [Instr.makeMap,run_newObj]
 |some hv=>
  split at h0
  .rename_i e;cases e
  .rename_i k n e
   simp only [au] at e
   subst e
   obtain rfl:=hv.gV
   split at h0
   .rename_i x y hu
    simp [Instr.makeMap,run_newObj,run_underlying hu,asInt,asIntOf]
   .exact h0.elim
  .exact h0.elim
theorem G8 {t:TypeId}{z:AV}(h:JE P t=some z):∃v,(zeroValue t).run P w=.ok v w/\Rep w E z v:=by
 unfold JE at h
 simp only [aW] at h
 obtain ⟨v,⟨i,hi,hv⟩,hz⟩:=h
 refine ⟨v,?_,YC hz⟩
 simp [zeroValue,typeInfo,hi,hv]
theorem wP {c ok:Bool}{a:AV}{v:Value}(h:Rep w E a v):Rep w E (DL c a ok) (if c=true then .tuple #[v,.bool ok] else v):=by
 cases c with
 |false=>exact h
 |true=>
  refine .kS _ _ rfl (fun i x y hx hy=>?_)
  match i with
  |0=>simp at hx hy;subst hx;subst hy;exact h
  |1=>simp at hx hy;subst hx;subst hy;exact .p rfl
  |i+2=>simp at hx
theorem MO (hh:eH base w E ah F){t:TypeId}{m k:AV}{vm vk:Value}{c:Bool}(h:Ce P ah t m k c K)(hm:Rep w E m vm)(hk:Rep w E k vk):tK P w E (Instr.lookup t vm vk c) K:=by
 unfold Ce at h
 split at h
 .rename_i kt et hu
  obtain ⟨hkey,h⟩:=h
  rw [dI] at h
  obtain ⟨z,hz,h⟩:=h
  unfold abr at h
  obtain ⟨zv,UA,hzv⟩:=G8 (w:=w) (E:=E) hz
  obtain ⟨d,hd⟩:∃d,P.underlying kt=some d:=by
   unfold Cc at hkey
   cases e:P.underlying kt with
   |none=>simp [e] at hkey
   |some d=>exact ⟨d,rfl⟩
  split at h
  .obtain rfl:=hm.gV
   refine ⟨_,_,h,rfl,?_,wP hzv⟩
   have e:(Instr.findKey kt vk []).run P w=.ok none w:=by simp [Instr.findKey,run_underlying hd,Instr.findNow]
   simp [Instr.lookup,run_underlying hu,A8 hkey hk,e,UA]
  .rename_i b
   split at h
   .rename_i es hb
    obtain ⟨r,hr,hK⟩:=dI.1 h
    obtain ⟨cc,lG,clock,h1,h2,h3,h4,h5⟩:=hh.blk b _ hb
    cases hm with|mp _ c' hc'=>
    rw [h1] at hc'
    cases hc'
    obtain ⟨o,ho,hf⟩:=KF (P:=P) (w:=w) (E:=E) hd hk h5.ents hr
    have hget:(getObj cc).run P w=.ok (.map lG clock) w:=by simp [getObj,Sem.run,h4]
    cases r with
    |none=>
     cases o with
     |some o=>exact hf.elim
     |none=>
      refine ⟨_,_,hK,rfl,?_,wP hzv⟩
      simp [Instr.lookup,run_underlying hu,hget,A8 hkey hk,ho,UA]
    |some q=>
     obtain ⟨i,a⟩:=q
     cases o with
     |none=>exact hf.elim
     |some o=>
      obtain ⟨j,v⟩:=o
      refine ⟨_,_,hK,rfl,?_,wP hf.2.1⟩
      simp [Instr.lookup,run_underlying hu,hget,A8 hkey hk,ho]
   .exact h.elim
  .exact h.elim
 .exact h.elim
theorem YN {a:AV}{v u:Value}(h:aei a=true)(hv:Rep w E a v)(hu:Rep w E a u):v=u/\∀n,Instr.sameBits n v u=true:=by
 unfold aei at h
 split at h
 .obtain rfl:=hv.gV;obtain rfl:=hu.gV;exact ⟨rfl,fun n=>by cases n<;>simp [Instr.sameBits]⟩
 .obtain rfl:=hv.gV;obtain rfl:=hu.gV;exact ⟨rfl,fun n=>by cases n<;>simp [Instr.sameBits]⟩
 .cases hv with
  |str s _ h1=>cases hu with
   |str s' _ h2=>
    have e:s=s':=ByteArray.ext (Array.toList_inj.1 (h1.trans h2.symm))
    subst e
    refine ⟨rfl,fun n=>?_⟩
    have:(s == s)=true:=by rw [Xa]
    cases n<;>simpa [Instr.sameBits] using this
 .cases h
theorem Z5 {a:AV}{v u:Value}(h:aej a=true)(hv:Rep w E a v)(hu:Rep w E a u):Instr.sameBits 10000 v u=true:=by
 unfold aej at h
 split at h
 .rename_i cs
  cases hv with
  |agg _ vs hl _ hr=>cases hu with
   |agg _ us hl' _ hr'=>
    simp only [Instr.sameBits,ay,beq_iff_eq,aJ]
    refine ⟨by omega,fun p hp=>?_⟩
    obtain ⟨i,hi⟩:=bJ.1 hp
    rw [List.getElem?_zip_eq_some] at hi
    obtain ⟨hi1,hi2⟩:=hi
    have hlt:i<cs.length:=by have:=(aG.1 hi1).1;simp at this;omega
    have hc:cs[i]?=some cs[i]:=by simp [hlt]
    exact (YN (aJ.1 h _ (List.getElem_mem hlt)) (hr i _ _ hc (by simpa using hi1)) (hr' i _ _ hc (by simpa using hi2))).2 _
 .exact (YN h hv hu).2 _
theorem Qm (hh:eH base w E ah F){b c:Nat}{es es':List (AV×AV)}(hb:ah b=some (.map es))(ho:E.own b=.at c 0){lG Z7:Array MapEntry}{clock clock':Nat}
  (hc:w.heap[c]?=some (.map lG clock)) (hm:H_ w E es' Z7 clock') :
  Step base w E {w with heap:=w.heap.setIfInBounds c (.map Z7 clock')} E/\eH base {w with heap:=w.heap.setIfInBounds c (.map Z7 clock')} E (upd ah b (some (.map es'))) F:=by
 obtain ⟨hlt,hbase,hnf⟩:=(hh.blk b _ hb).lt ho
 obtain ⟨g1,g2⟩:=A_ (o':=Obj.map Z7 clock') hc
 have hx:Ext w E {w with heap:=w.heap.setIfInBounds c (.map Z7 clock')} E:=by
  refine ⟨fun _ _ h=>h,fun c' off h=>?_,fun _ _=>rfl,fun c' ar t fz h=>?_⟩
  .have:c'≠c:=fun e=>hnf off (e▸h)
   simp only [World.cell?]
   rw [g2 c' this]
  .have:c'≠c:=fun e=>by subst e;rw [hc] at h;cases h
   exact ⟨ar,fz,by show (w.heap.setIfInBounds c _)[c']?=_;rw [g2 c' this];exact h,rfl⟩
 refine ⟨⟨hx,⟨rfl,rfl,rfl,by simp,fun j hj=>g2 j (by omega)⟩,fun _ _ _ h=>h,fun c' _ hno=>g2 c' (fun e=>hno b 0 (e▸ho)),fun b c o h _=>⟨b,o,h⟩,fun _ _ h _=>.inl h⟩,?_⟩
 refine ⟨fun b' k' hb'=>?_,fun b1 b2 k1 k2 c1 o1 c2 o2 hne h1 h2 h3 h4=>?_,hh.fresh,fun c' off h=>?_,by simpa using hh.bs,fun b c o h=>by simpa using hh.lH b c o h⟩
 .by_cases e:b'=b
  .subst e
   rw [eY rfl] at hb'
   cases hb'
   exact ⟨c,Z7,clock',ho,hbase,hnf,g1,hm.mono hx⟩
  .rw [aoE e] at hb'
   exact (hh.blk b' k' hb').keep hx (fun c' o' ho'=>g2 c' (fun ec=>hh.sep b' b k' _ c' o' c 0 e hb' hb ho' ho ec)) (fun _ _ _ _ h=>h)
 .have q1:∃k,ah b1=some k:=by
   by_cases e:b1=b
   .exact ⟨_,e▸hb⟩
   .rw [aoE e] at h1;exact ⟨k1,h1⟩
  have q2:∃k,ah b2=some k:=by
   by_cases e:b2=b
   .exact ⟨_,e▸hb⟩
   .rw [aoE e] at h2;exact ⟨k2,h2⟩
  obtain ⟨p1,q1⟩:=q1
  obtain ⟨p2,q2⟩:=q2
  exact hh.sep b1 b2 p1 p2 c1 o1 c2 o2 hne q1 q2 h3 h4
 .have:=hh.jO c' off h;simpa using this
theorem MP (hh:eH base w E ah F){t:TypeId}{m k v:AV}{vm vk vv:Value}(h:Ci P ah t m k v K)(hm:Rep w E m vm)(hk:Rep w E k vk)(hv:Rep w E v vv) :
  ∃r w' E',K r/\(Instr.mapUpdate t vm vk vv).run P w=.ok () w'/\Step base w E w' E'/\eH base w' E' (lJ ah r.wr) (fun b=>F b/\b≠id)/\r.v=.p undef:=by
 unfold Ci at h
 split at h
 .rename_i kt et hu
  obtain ⟨hkey,hbit,h⟩:=h
  obtain ⟨d,hd⟩:∃d,P.underlying kt=some d:=by
   unfold Cc at hkey
   cases e:P.underlying kt with
   |none=>simp [e] at hkey
   |some d=>exact ⟨d,rfl⟩
  unfold Uu at h
  split at h
  .rename_i b
   split at h
   .rename_i es hb
    obtain ⟨r,hr,hsame,hK⟩:=dI.1 h
    obtain ⟨cc,lG,clock,h1,h2,h3,h4,h5⟩:=hh.blk b _ hb
    cases hm with|mp _ c' hc'=>
    rw [h1] at hc'
    cases hc'
    obtain ⟨o,ho,hf⟩:=KF (P:=P) (w:=w) (E:=E) hd hk h5.ents hr
    have hget:(getObj cc).run P w=.ok (.map lG clock) w:=by simp [getObj,Sem.run,h4]
    obtain ⟨m1,m2,m3⟩:=h5
    cases r with
    |none=>
     cases o with
     |some o=>exact hf.elim
     |none=>
      have hm':H_ w E (es++[(k,v)]) (lG.push ⟨vk,vv,clock⟩) (clock+1):=by
       refine ⟨by simp [m1],fun i e ce hi hc=>?_,by simp [m3.1],fun i a ha=>?_⟩
       .rw [List.getElem?_append] at hi
        rw [Array.getElem?_push] at hc
        split at hi
        .rename_i hlt
         rw [if_neg (by omega)] at hc
         obtain ⟨q1,q2,q3⟩:=m2 i e ce hi hc
         exact ⟨q1,q2,by omega⟩
        .rename_i hge
         have hlt:=(aG.1 hi).1
         simp at hlt
         have ei:i=lG.size:=by omega
         rw [if_pos ei] at hc
         cases hc
         have e0:i-es.length=0:=by omega
         rw [e0] at hi
         simp at hi
         subst hi
         exact ⟨hk,hv,by simp⟩
       .rw [Array.getElem?_push] at ha
        split at ha
        .rename_i ei
         cases ha
         rw [ei];exact m3.1
        .exact m3.2 i a ha
      obtain ⟨s1,s2⟩:=Qm hh hb h1 h4 hm'
      refine ⟨_,_,E,hK,?_,s1,s2.weaken (fun b h=>h.1),rfl⟩
      simp [Instr.mapUpdate,run_underlying hu,hget,A8 hkey hk,ho,DR _ h4]
    |some q=>
     obtain ⟨i,a⟩:=q
     cases o with
     |none=>exact hf.elim
     |some o=>
      obtain ⟨j,u⟩:=o
      obtain ⟨e1,e2,ce,e3,e4⟩:=hf
      have ej:j=i:=by omega
      subst ej
      have hlt:j<lG.size:=by simpa using (aG.1 e3).1
      have e3':lG[j]?=some ce:=by simpa using e3
      have hkk:Rep w E k ce.key:=by
       have:=hsame _ rfl
       simp only [aB] at this
       obtain ⟨e,g1,g2⟩:=this
       have:=(m2 j e ce g1 e3').1
       rwa [g2] at this
      have hsb:Instr.sameBits 10000 ce.key vk=true:=Z5 hbit hkk hk
      have hm':H_ w E (es.set j (k,v)) (lG.modify j fun e=>{e with key:=vk,val:=vv}) clock:=by
       refine ⟨by simp [m1],fun i e ce hi hc=>?_,by simp [m3.1],fun i a ha=>?_⟩
       .rw [List.getElem?_set] at hi
        rw [Array.getElem?_modify] at hc
        split at hi
        .rename_i eij
         rw [if_pos eij] at hc
         subst eij
         split at hi
         .cases hi
          rw [e3'] at hc
          simp at hc
          subst hc
          exact ⟨hk,hv,(m2 j es[j] _ (by simp [m1,hlt]) e3').2.2⟩
         .cases hi
        .rename_i eij
         rw [if_neg eij] at hc
         exact m2 i e ce hi hc
       .have born:∀(i:Nat) (a:MapEntry),(lG.modify j fun e=>{e with key:=vk,val:=vv})[i]?=some a->∃a',lG[i]?=some a'/\a'.born=a.born:=by
         intro i a h
         rw [Array.getElem?_modify] at h
         split at h
         .simp only [aB] at h
          obtain ⟨a',g1,g2⟩:=h
          exact ⟨a',g1,by rw [<- g2]⟩
         .exact ⟨a,h,rfl⟩
        obtain ⟨a',g1,g2⟩:=born i a ha
        rw [<- g2];exact m3.2 i a' g1
      obtain ⟨s1,s2⟩:=Qm hh hb h1 h4 hm'
      refine ⟨_,_,E,hK,?_,s1,s2.weaken (fun b h=>h.1),rfl⟩
      have eg:((lG[j]?).map (·.key)).getD vk=ce.key:=by rw [e3'];rfl
      simp [Instr.mapUpdate,run_underlying hu,hget,A8 hkey hk,ho,DR _ h4,Instr.keyThatStays,eg,hsb]
   .exact h.elim
  .exact h.elim
 .exact h.elim
end
end
end Go.Fw
end
section
namespace Go.Fw
variable [iZ]
section
variable {P : Program} {base:Nat} {w w':World} {E E':Env} {ah:AH} {F:Nat->Prop} {K:nT->Prop} {id:Nat}
theorem vV.take {c o n rows}(h:vV w E c o n rows)(m:Nat):vV w E c o n (rows.take m):=fun i row j x hi hj=>by
 rw [bM] at hi
 split at hi
 .exact h i row j x hi hj
 .cases hi
theorem UM (hh:eH base w E ah F){n:Nat}(hn:0<n){y:AV}{vy:Value}{k:List (List AV)->List Nat->Prop}(h:aoQ ah n y k)(hy:Rep w E y vy) :
  ∃ys rd,k ys rd/\(Builtin.lenOf vy).run P w=.ok ys.length w/\
   (∀m,m<=ys.length->∃news,(Builtin.firstCells n m vy).run P w=.ok news.toArray w/\iT w E (ys.take m).flatten news)/\
   (∀row∈ys,row.length=n)/\(∀row∈ys,∀x∈row,x.mP=true):=by
 cases y with
 |sl rows full=>
  obtain ⟨hr,hk⟩:=h
  cases hy with
  |slnil _ a=>exact ⟨[],[],hk,rfl,fun m hm=>by
    obtain rfl:m=0:=by simpa using hm
    exact ⟨[],by cases a<;>simp [Builtin.firstCells,loadCells,loadCellsFrom],iT.nil⟩,by simp,by simp⟩
  |sl _ _ sz c o cap g hcap hfull hsz hfix hcell kE hrep=>
   have hsz':∀(i:Nat) (row:List AV),rows[i]?=some row->sz=n:=fun i row hi=>by rw [<- hsz i row hi];exact hr row (aK hi)
   have hC:vV w E c o n rows:=fun i row j x hi hj=>by
    have e:=hsz' i row hi
    subst e
    exact ⟨g i j,hcell i row j x hi hj,hrep i row j x hi hj⟩
   refine ⟨rows,[],hk,rfl,fun m hm=>?_,hr,kE⟩
   obtain ⟨news,h1,h2⟩:=vV.load (P:=P) (w:=w) (E:=E) (c:=c) (o:=o) hn (fun row hrow=>hr row (bQ hrow)) (hC.take m)
   have e:(rows.take m).length=m:=by simp;omega
   rw [e] at h1
   exact ⟨news,h1,h2⟩
 |os b sz off len=>
  obtain ⟨rfl,h⟩:=h
  split at h
  .rename_i sz' rs hab
   obtain ⟨rfl,hle,hk⟩:=h
   have hlen:((rs.drop off).take len).length=len:=by simp;omega
   cases hy with
   |lg=>
    refine ⟨(rs.drop off).take 0,[b],hk,rfl,fun m hm=>?_,by simp,by simp⟩
    obtain rfl:m=0:=by simpa using hm
    refine ⟨[],?_,by simp;exact iT.nil⟩
    cases ‹Option Addr› with
    |none=>rfl
    |some a=>simp [Builtin.firstCells,loadCells,loadCellsFrom]
   |os _ _ _ _ c o cap hb hcap hsize=>
    rcases hh.blk b _ hab with ⟨h0,-⟩|⟨c',o',arr,tt,h1,h2,h3,h4,h5⟩
    .rw [hb] at h0;cases h0
    .rw [hb] at h1
     cases h1
     have hget:∀(i:Nat) (row:List AV),((rs.drop off).take len)[i]?=some row->rs[off+i]?=some row:=fun i row hr=>by
      rw [bM] at hr
      split at hr
      .simpa using hr
      .cases hr
     have hr:∀row∈(rs.drop off).take len,row.length=sz:=fun row hm=>by
      obtain ⟨i,hi⟩:=bJ.1 hm
      exact h5.2.1 _ row (hget i row hi)
     have hC:vV w E c (o+off*sz) sz ((rs.drop off).take len):=fun i row j x hi hj=>by
      obtain ⟨v,hv,hx⟩:=h5.2.2.2 _ row j x (hget i row hi) hj
      refine ⟨v,?_,hx⟩
      rw [cell_of_row w c _ arr tt _ h4,<- hv]
      congr 1
      rw [bW];omega
     refine ⟨(rs.drop off).take len,[b],hk,by rw [hlen];rfl,fun m hm=>?_,hr,fun row hm x hx=>h5.2.2.1 row (List.mem_of_mem_drop (bQ hm)) x hx⟩
     obtain ⟨news,g1,g2⟩:=vV.load (P:=P) (w:=w) (E:=E) (c:=c) (o:=o+off*sz) hn (fun row hrow=>hr row (bQ hrow)) (hC.take m)
     have e:(((rs.drop off).take len).take m).length=m:=by rw [List.length_take];omega
     rw [e] at g1
     exact ⟨news,g1,g2⟩
  .exact h.elim
 |str s=>
  obtain ⟨rfl,hk⟩:=h
  cases hy with|str b _ hb=>
  subst hb
  refine ⟨_,_,hk,by simp [Builtin.lenOf],fun m hm=>?_,by simp,by simp [AV.mP]⟩
  refine ⟨(b.data.toList.take m).map fun x=>.int .u8 x.toNat,?_,?_⟩
  .have e:(b.extract 0 m).data.toList=b.data.toList.take m:=by simp
   simp only [Builtin.firstCells,Sem.run_pure]
   congr 1
   apply Array.ext'
   rw [Array.toList_map,e]
  .have e:∀l:List UInt8,(l.map fun x=>[AV.p (.int .u8 x.toNat)]).flatten=l.map fun x=>AV.p (.int .u8 x.toNat):=by
    intro l
    induction l with
    |nil=>rfl
    |cons x l ih=>simp [ih]
   rw [<- List.map_take,e]
   refine ⟨by simp,fun i x v hx hv=>?_⟩
   simp only [bV,aB] at hx hv
   obtain ⟨u,hu,rfl⟩:=hx
   obtain ⟨u',hu',rfl⟩:=hv
   rw [hu] at hu'
   cases hu'
   exact .p rfl
 |_=>exact h.elim
theorem Qn (hh:eH base w E ah F){b sz off len:Nat}{rs ys:List (List AV)}{c o cap:Nat}(hn:0<sz)(hab:ah b=some (.rows sz rs))(hb:E.own b=.at c o)(hle:off+len<=rs.length)
  {m:Nat} (hm:m<=len) (hyl:ys.length=m) {news:List Value} (hr2:iT w E ys.flatten news) (ZX:∀row∈ys,row.length=sz) (hys:∀row∈ys,∀x∈row,x.mP=true) :
  ∃w',(storeCells ⟨c,o+off*sz,none⟩ news 0).run P w=.ok () w'/\Step base w E w' E/\eH base w' E (upd ah b (some (.rows sz (rs.take off++ys++rs.drop (off+m))))) F:=by
 rcases hh.blk b _ hab with ⟨h0,-⟩|⟨c',o',arr,tt,h1,h2,h3,h4,h5⟩
 .rw [hb] at h0;cases h0
 .rw [hb] at h1
  cases h1
  have hnl:news.length=m*sz:=by rw [<- hr2.1,(pU hn ZX).1,hyl]
  have hm1:(off+m)*sz<=rs.length*sz:=b_ _ (by omega)
  have h51:=h5.1
  have UC:o+off*sz+news.length<=arr.size:=by rw [bW] at hm1;omega
  have hone:∀u∈news,u.oneCell'=true:=fun u hu=>by
   obtain ⟨j,hj⟩:=bJ.1 hu
   have hlt:=(aG.1 hj).1
   rw [<- hr2.1] at hlt
   have hmem:ys.flatten[j]∈ys.flatten:=by simp
   obtain ⟨row,hrow,agO⟩:=List.mem_flatten.1 hmem
   exact (hr2.2 j ys.flatten[j] u (by simp [hlt]) hj).one (hys row hrow _ agO)
  have hst:=run_storeCells_at P c (o+off*sz) tt news 0 arr w h4 (by simpa using UC) hone
  simp only [Nat.add_zero] at hst
  obtain ⟨D8,harr⟩:∃D8,D8=(arr.toList.take (o+off*sz)++news++arr.toList.drop (o+off*sz+news.length)).toArray:=⟨_,rfl⟩
  rw [<- harr] at hst
  have hsz:D8.size=arr.size:=by rw [harr];simp;omega
  have hget:=Rj UC
  rw [<- harr] at hget
  have hrows:RowsIn w E D8 o sz (rs.take off++ys++rs.drop (off+m)):=by
   have key:∀(i:Nat) (row:List AV),(rs.take off++ys++rs.drop (off+m))[i]?=some row->(off<=i/\i<off+m/\ys[i-off]?=some row)\/((i<off\/off+m<=i)/\rs[i]?=some row):=by
    intro i row h
    have e1:(rs.take off).length=off:=by simp;omega
    rw [dA,List.getElem?_append] at h
    split at h
    .rename_i hlt
     rw [bM] at h
     split at h
     .exact .inr ⟨.inl (by omega),h⟩
     .cases h
    .rename_i hge
     rw [e1] at h hge
     rw [List.getElem?_append] at h
     split at h
     .exact .inl ⟨by omega,by omega,h⟩
     .rw [List.getElem?_drop] at h
      refine .inr ⟨.inr (by omega),?_⟩
      rw [<- h];congr 1;omega
   refine ⟨?_,fun i row hi=>?_,fun row hr x hx=>?_,fun i row j x hi hj=>?_⟩
   .rw [hsz]
    have:(rs.take off++ys++rs.drop (off+m)).length=rs.length:=by simp [hyl];omega
    rw [this];exact h51
   .rcases key i row hi with ⟨_,_,h⟩|⟨_,h⟩
    .exact ZX row (aK h)
    .exact h5.2.1 i row h
   .rcases aN.1 hr with hr|hr
    .rcases aN.1 hr with hr|hr
     .exact h5.2.2.1 row (bQ hr) x hx
     .exact hys row hr x hx
    .exact h5.2.2.1 row (List.mem_of_mem_drop hr) x hx
   .rcases key i row hi with ⟨q1,q2,h⟩|⟨q,h⟩
    .have hj':j<sz:=by have:=(aG.1 hj).1;rw [ZX row (aK h)] at this;exact this
     have hjj:(i-off)*sz+j<m*sz:=by
      have:(i-off+1)*sz<=m*sz:=b_ _ (by omega)
      rw [bW] at this;omega
     have e2:i*sz=off*sz+(i-off)*sz:=by rw [<- bW];congr 1;omega
     have hfl:ys.flatten[(i-off)*sz+j]?=some x:=by
      obtain ⟨_,g⟩:=pU hn ZX
      obtain ⟨row',x',g1,g2,g3⟩:=g ((i-off)*sz+j) (by rw [hyl];exact hjj)
      have d1:((i-off)*sz+j) / sz=i-off:=by rw [Nat.mul_comm,Nat.mul_add_div hn,Nat.div_eq_of_lt hj'];omega
      have d2:((i-off)*sz+j) % sz=j:=by rw [Nat.mul_comm,Nat.mul_add_mod,Nat.mod_eq_of_lt hj']
      rw [d1,h] at g1;cases g1
      rw [d2,hj] at g2;cases g2
      exact g3
     have hv:news[(i-off)*sz+j]?=some news[(i-off)*sz+j]!:=by
      have:(i-off)*sz+j<news.length:=by omega
      simp [this]
     refine ⟨news[(i-off)*sz+j]!,?_,hr2.2 _ _ _ hfl hv⟩
     rw [hget,if_pos (by omega),<- hv]
     congr 1
     omega
    .obtain ⟨v,hv,hx⟩:=h5.2.2.2 i row j x h hj
     refine ⟨v,?_,hx⟩
     have hjl:=(aG.1 hj).1
     rw [h5.2.1 i row h] at hjl
     have:¬(o+off*sz<=o+i*sz+j/\o+i*sz+j<o+off*sz+news.length):=by
      rintro ⟨a1,a2⟩
      rcases q with q|q
      .have:(i+1)*sz<=off*sz:=b_ _ (by omega)
       rw [bW] at this;omega
      .have:(off+m)*sz<=i*sz:=b_ _ q
       rw [bW] at this;omega
     rw [hget,if_neg this]
     exact hv
  exact ⟨w.setRow c D8,hst,Cj hh hab hb h4 hsz,Cm hh hab hb h4 hsz hrows⟩
theorem abC (hh:eH base w E ah F){t ty:TypeId}{x y:AV}{vx vy:Value}{ts:Array TypeId}(ht:ts[0]?=some t)(h:Uw P ah t x y K)(hx:Rep w E x vx)(hy:Rep w E y vy) :
  Eo P base w E ah F id (Builtin.copy_ ts ty #[vx,vy]) K:=by
 obtain ⟨e,he,hne,h⟩:=dI.1 h
 obtain ⟨el,inf,hu,hi,rfl⟩:=uH he
 have hn:0<inf.size:=Nat.pos_of_ne_zero hne
 obtain ⟨ys,rd,h,gl,gf,gr,gs⟩:=UM (P:=P) hh hn h hy
 have run:∀(a:Option Addr) (dl cap:Nat) (news:List Value) (w1:World),(Builtin.firstCells inf.size (min ys.length dl) vy).run P w=.ok news.toArray w->
   (∀b,a=some b->(storeCells b news 0).run P w=.ok () w1)->(a=none->w1=w)->(Builtin.copy_ ts ty #[.slice a dl cap,vy]).run P w=.ok (.int .i64 (min ys.length dl:Nat)) w1:=by
  intro a dl cap news w1 h1 h2 h3
  cases a with
  |none=>
   obtain rfl:=h3 rfl
   simp [Builtin.copy_,ht,run_underlying hu,gl,sizeOf,typeInfo,hi,Nat.min_def,goInt] at h1 ⊢
   simp [h1]
  |some b=>
   have h2:=h2 b rfl
   simp [Builtin.copy_,ht,run_underlying hu,gl,sizeOf,typeInfo,hi,Nat.min_def,goInt] at h1 ⊢
   simp [h1,h2]
 cases x with
 |sl rows full=>
  cases rows with
  |cons r l=>exact h.elim
  |nil=>
   obtain ⟨news,n1,n2⟩:=gf 0 (dG _)
   have hn0:news=[]:=by have:=n2.1;simp at this;exact List.eq_nil_of_length_eq_zero this.symm
   subst hn0
   have gen:∀a cap,vx=.slice a 0 cap->Eo P base w E ah F id (Builtin.copy_ ts ty #[vx,vy]) K:=by
    intro a cap e
    subst e
    refine tK.wr hh ⟨_,.int .i64 0,h,rfl,?_,.p rfl⟩
    have:=run a 0 cap [] w (by rw [Nat.min_zero];exact n1) (fun b hb=>by simp [storeCells]) (fun _=>rfl)
    simpa using this
   cases hx with
   |slnil _ a=>exact gen a 0 rfl
   |sl _ _ sz c o cap g hcap hfull=>exact gen _ cap rfl
 |os b sz off len=>
  obtain ⟨rfl,h⟩:=h
  split at h
  .rename_i sz' rs hab
   obtain ⟨rfl,hle,hK⟩:=h
   cases hx with
   |lg _ _ _ a hb=>
    obtain ⟨news,n1,n2⟩:=gf 0 (dG _)
    have hn0:news=[]:=by have:=n2.1;simp at this;exact List.eq_nil_of_length_eq_zero this.symm
    subst hn0
    refine ⟨_,.int .i64 0,w,E,hK,?_,Step.refl _ _ _,?_,?_⟩
    .have:=run a 0 0 [] w (by rw [Nat.min_zero];exact n1) (fun b hb=>by simp [storeCells]) (fun _=>rfl)
     simpa using this
    .have e:(rs.take off++ys.take 0++rs.drop (off+min ys.length 0))=rs:=by simp
     show eH base w E (upd ah b _) _
     rw [e]
     have e2:upd ah b (some (.rows inf.size rs))=ah:=by
      funext j
      unfold upd
      split
      .rename_i e;rw [e,hab]
      .rfl
     rw [e2]
     exact hh.weaken fun _ h=>h.1
    .simp;exact .p rfl
   |os _ _ _ _ c o cap hb hcap hsize=>
    obtain ⟨news,n1,n2⟩:=gf (min ys.length len) (Nat.min_le_left _ _)
    have et:ys.take (min ys.length len)=ys.take len:=by
     rw [List.take_eq_take_iff];omega
    rw [et] at n2
    obtain ⟨w1,s1,s2,s3⟩:=Qn (P:=P) (cap:=cap) hh (m:=min ys.length len) hn hab hb hle (Nat.min_le_right _ _) (by simp;omega) n2
     (fun row hr=>gr row (bQ hr)) (fun row hr=>gs row (bQ hr))
    exact ⟨_,_,w1,E,hK,run _ len cap news w1 n1 (fun b' hb'=>by cases hb';exact s1) (fun e=>by cases e),s2,s3.weaken (fun _ h=>h.1),.p rfl⟩
  .exact h.elim
 |_=>exact h.elim
theorem MR (hh:eH base w E ah F){t x lo hi mx vx vlo ZU Jz}(h:B_ P ah t x lo hi mx K)(hx:Rep w E x vx)(hlo:JI w E lo vlo)(hhi:JI w E hi ZU)(hmx:JI w E mx Jz) :
  tK P w E (Instr.sliceAt t vx vlo ZU Jz) K:=by
 cases x with
 |op b sz i off=>
  obtain ⟨e,he,hsz,hoff,hbig,h9⟩:=dI.1 h
  clear h
  obtain ⟨n,el,ty,hua,hty,rfl⟩:=zL he
  obtain ⟨-,hs,-⟩:=xH hty w
  simp only at hsz hbig
  subst hoff
  revert h9
  cases hab:ah b with
  |none=>intro h;exact h.elim
  |some kk=>
  cases kk with
  |map es=>intro h;exact h.elim
  |it m n k=>intro h;exact h.elim
  |tC ty sz rs=>intro h;exact h.elim
  |rows sz' rs=>
   intro h
   obtain ⟨rfl,hle,hb,h⟩:=h
   obtain ⟨l,h,hl0,hl⟩:=rU (P:=P) h hlo
   obtain ⟨j,h,hj0,hj⟩:=rU (P:=P) h hhi
   obtain ⟨m,h,hm0,hm⟩:=rU (P:=P) h hmx
   obtain ⟨hlj,hjm,hml,hK⟩:=h
   have hbb:Jz.isSome=true->ZU.isSome=true:=by rw [<- hmx.isSome,<- hhi.isSome];exact hb
   cases hx with
   |op _ _ _ _ c o hbo=>
    have hs0:=pK (P:=P) (w:=w) (isS:=false) (len:=n) (cap:=n) (l:=l) (h:=j) (m:=m) (lo:=vlo) (hi:=ZU) (mx:=Jz) hlj hjm (by omega) hl0 hl hj0 hj hm hbb
    have hmn:(if Jz.isSome=true then m else n)>=j/\(if Jz.isSome=true then m else n)<=n:=by split<;>omega
    generalize hM:(if Jz.isSome=true then m else n)=M at hs0 hmn
    refine ⟨_,.slice (some (if M=l then (⟨c,o+i*sz+0,none⟩:Addr) else (⟨c,o+i*sz+0,none⟩:Addr).add (l*sz))) (j-l) (M-l),hK,rfl,?_,?_⟩
    .simp only [Instr.sliceAt,Instr.sureAddr,Sem.run_bind,run_underlying hua,Result.andThen_ok,Sem.run_pure,hs0,hs]
     subst hsz
     by_cases e:M=l<;>simp [e]
    .by_cases e:M=l
     .rw [if_pos e]
      have e1:j-l=0:=by omega
      have e2:M-l=0:=by omega
      rw [e1,e2]
      exact .lg b sz (i+l) _ (by rw [hbo];simp)
     .rw [if_neg e]
      rcases hh.blk b _ hab with ⟨h0,-⟩|⟨c',o',arr,tt,q1,q2,q3,q4,q5,q6⟩
      .rw [hbo] at h0;cases h0
      .rw [hbo] at q1;cases q1
       have:=Rep.os (w:=w) (E:=E) b sz (i+l) (j-l) c o (M-l) hbo ⟨by omega,by omega⟩ ⟨arr,tt,_,q4,by
        have:(i+l+(M-l))*sz<=rs.length*sz:=b_ _ (by omega)
        omega⟩
       rw [show o+(i+l)*sz=o+i*sz+0+l*sz by rw [bW];omega] at this
       simpa [Addr.add_lit] using this
 |_=>unfold B_ at h;exact ZT h hx hlo hhi hmx
theorem Z8 (hh:eH base w E ah F){t ty:TypeId}{x:AV}{vx:Value}{ts:Array TypeId}(ht:ts[0]?=some t)(h:Rf P ah t x K)(hx:Rep w E x vx) :
  Eo P base w E ah F id (Builtin.clear_ ts ty #[vx]) K:=by
 obtain ⟨e,he,hne,h⟩:=dI.1 h
 obtain ⟨z,hz0,hzl,h⟩:=dI.1 h
 obtain ⟨el,inf,hu,hi,rfl⟩:=uH he
 rw [hu] at hz0
 have hz:aoH P el=some z:=hz0
 have hzl:z.length=inf.size:=hzl
 have hn:0<inf.size:=Nat.pos_of_ne_zero hne
 obtain ⟨zv,UA,hzc,hzs⟩:=rV (w:=w) (E:=E) hz
 have rt:∀{w' E'},Rep w' E' (.kS []) (.tuple #[]):=.kS [] #[] rfl (fun i c v h=>by simp at h)
 cases x with
 |os b sz off len=>
  obtain ⟨rfl,h⟩:=h
  split at h
  .rename_i sz' rs hab
   obtain ⟨rfl,hle,hK⟩:=h
   have same:len=0->∀a cap,vx=.slice a 0 cap->Eo P base w E ah F id (Builtin.clear_ ts ty #[vx]) K:=by
    intro e a cap ev
    subst e;subst ev
    refine ⟨_,.tuple #[],w,E,hK,?_,Step.refl _ _ _,?_,rt⟩
    .cases a<;>simp [Builtin.clear_,ht,run_underlying hu]
    .have e:(rs.take off++List.replicate 0 z++rs.drop (off+0))=rs:=by simp
     show eH base w E (upd ah b _) _
     rw [e]
     have e2:upd ah b (some (.rows inf.size rs))=ah:=by
      funext j
      unfold upd
      split
      .rename_i e;rw [e,hab]
      .rfl
     rw [e2]
     exact hh.weaken fun _ h=>h.1
   cases hx with
   |lg _ _ _ a hb=>exact same rfl a 0 rfl
   |os _ _ _ _ c o cap hb hcap hsize=>
    by_cases e0:len=0
    .exact same e0 _ cap (by rw [e0])
    .have CB:=JK hzc len
     rw [hzl] at CB
     have hzv:zv.cells.size=inf.size:=by rw [<- hzl,hzc.1];simp
     have akx:Builtin.zeroCells zv.cells len=(Array.range (len*inf.size)).map (fun i=>zv.cells[i % zv.cells.size]!):=by unfold Builtin.zeroCells;rw [hzv]
     rw [<- akx] at CB
     obtain ⟨w1,s1,s2,s3⟩:=Qn (P:=P) (cap:=cap) hh (m:=len) (ys:=List.replicate len z) hn hab hb hle (dH _) (by simp) CB
      (fun row hr=>by rw [(List.mem_replicate.1 hr).2];exact hzl) (fun row hr=>by rw [(List.mem_replicate.1 hr).2];exact hzs)
     refine ⟨_,.tuple #[],w1,E,hK,?_,s2,s3.weaken (fun _ h=>h.1),rt⟩
     cases len with
     |zero=>exact absurd rfl e0
     |succ n=>simp [Builtin.clear_,ht,run_underlying hu,UA,s1]
  .exact h.elim
 |_=>exact h.elim
theorem KH {t:TypeId}{x:AV}{vx:Value}(h:Ib P t x K)(hx:Rep w E x vx):tK P w E (Instr.makeInterface t vx) K:=by
 obtain ⟨h0,hK⟩:=h
 refine ⟨_,.iface t vx,hK,rfl,?_,.wI t x vx hx⟩
 split at h0
 .exact h0.elim
 .exact h0.elim
 .rename_i d h1 h2
  cases hu:P.underlying t with
  |none=>exact (h2 hu).elim
  |some d=>
   cases d with
   |interface l=>exact (h1 l hu).elim
   |_=>simp [Instr.makeInterface,run_underlying hu]
theorem Il {x:AV}{vx:Value}(h:yV x K)(hx:Rep w E x vx):K (.val x)/\((∃a,vx=.pointer (some a))\/∃f a b,vx=.func (.func f) a b):=by
 unfold yV at h
 split at h
 .cases hx;exact ⟨h,.inl ⟨_,rfl⟩⟩
 .cases hx;exact ⟨h,.inl ⟨_,rfl⟩⟩
 .cases hx;exact ⟨h,.inr ⟨_,_,_,rfl⟩⟩
 .exact h.elim
theorem Ro {d:TypeDesc}(h:Ic d=none):∀l,d≠.interface l:=by
 intro l e;subst e;cases h
theorem Rq {d:TypeDesc}{l:Array (String×TypeId)}(h:Ic d=some l):d=.interface l:=by
 cases d<;>simp [Ic] at h
 subst h;rfl
theorem MS {x:AV}{xt a:TypeId}{c:Bool}{vx:Value}(h:FD P x a c K)(hx:Rep w E x vx):tK P w E (Instr.typeAssert vx xt a c) K:=by
 unfold FD at h
 rw [dI] at h
 obtain ⟨d,hu,h⟩:=h
 unfold aAs at h
 split at h
 .rename_i want t v hd
  have:=Rq hd
  subst this
  obtain ⟨i,hi,hm,hK⟩:=dI.1 h
  cases hx with|wI _ _ vv hv=>
  refine ⟨_,_,hK,rfl,?_,wP (.wI t v vv hv)⟩
  simp [Instr.typeAssert,run_underlying hu,typeInfo,hi,hm]
 .rename_i t v hd
  have hd:=Ro hd
  cases hx with|wI _ _ vv hv=>
  rcases h with ⟨e,h⟩|⟨e,rfl,h⟩
  .refine ⟨_,_,h,rfl,?_,wP hv⟩
   cases d with
   |interface l=>exact (hd l rfl).elim
   |_=>simp [Instr.typeAssert,run_underlying hu,e]
  .obtain ⟨z,hz,hK⟩:=dI.1 h
   obtain ⟨zv,UA,hzv⟩:=G8 (w:=w) (E:=E) hz
   refine ⟨_,.tuple #[zv,.bool false],hK,rfl,?_,wP (c:=true) (ok:=false) hzv⟩
   cases d with
   |interface l=>exact (hd l rfl).elim
   |_=>simp [Instr.typeAssert,run_underlying hu,e,UA]
 .obtain ⟨rfl,h⟩:=h
  obtain ⟨z,hz,hK⟩:=dI.1 h
  obtain rfl:=hx.gV
  obtain ⟨zv,UA,hzv⟩:=G8 (w:=w) (E:=E) hz
  refine ⟨_,.tuple #[zv,.bool false],hK,rfl,?_,wP (c:=true) (ok:=false) hzv⟩
  cases d<;>simp [Instr.typeAssert,run_underlying hu,UA]
 .exact h.elim
theorem Z9 {row:List AV}{b:UInt8}(h:ao5 row=some b):row=[.p (.int .u8 b.toNat)]:=by
 unfold ao5 at h
 split at h
 .rename_i n
  cases hd:decide (0<=n/\n<256) with
  |false=>simp [hd] at h
  |true=>
   have hn:=of_decide_eq_true hd
   simp [hd] at h
   subst h
   congr 3
   have:n.toNat<256:=by omega
   simp [UInt8.toNat_ofNat',Nat.mod_eq_of_lt this]
   omega
 .cases h
theorem MV {f:Value->ByteArray->Sem (ForInStep ByteArray)}(hf:∀(b:UInt8) (r:ByteArray),(f (.int .u8 b.toNat) r).run P w=.ok (.yield (r.push b)) w) :
  ∀(l:List UInt8) (vs:List Value) (s:ByteArray),vs=l.map (fun b=>Value.int .u8 b.toNat)->(forIn vs s f).run P w=.ok ⟨(s.data.toList++l).toArray⟩ w
 |[],vs,s,h=>by subst h;simp
 |b::l,vs,s,h=>by
  subst h
  rw [bg,List.forIn_cons]
  simp only [Sem.run_bind,hf,Result.andThen_ok]
  rw [MV hf l _ (s.push b) rfl]
  congr 2
  apply Array.ext'
  simp
theorem Z_ (hh:eH base w E ah F){s d:TypeId}{x:AV}{vx:Value}(h:abt P ah s d x K)(hx:Rep w E x vx):tK P w E (convert s d vx) K:=by
 obtain ⟨hd,hs,hns,h⟩:=h
 split at hs
 .rename_i e hsu
  have hx0:=hx
  obtain ⟨ys,rd,news,h,gl,gf,gr,gxr,gxs⟩:=MH (P:=P) hh (by decide) h hx
  obtain ⟨l,hl,hK⟩:=dI.1 h
  have hys:∀(ys:List (List AV)) (l:List UInt8),ys.mapM ao5=some l->ys=l.map fun b=>[AV.p (.int .u8 b.toNat)]:=by
   intro ys
   induction ys with
   |nil=>intro l h;simp at h;subst h;rfl
   |cons y ys ih=>
    intro l h
    simp only [List.mapM_cons,Option.pure_def,Option.bind_eq_bind,aW] at h
    obtain ⟨b,hb,r,hr,he⟩:=h
    cases he
    rw [bg,<- ih r hr,Z9 hb]
  have e1:=hys ys l hl
  have hfl:∀l:List UInt8,(l.map fun b=>[AV.p (.int .u8 b.toNat)]).flatten=l.map fun b=>AV.p (.int .u8 b.toNat):=by
   intro l
   induction l with
   |nil=>rfl
   |cons x l ih=>simp [ih]
  have e2:news=l.map fun b=>Value.int .u8 b.toNat:=by
   rw [e1,hfl] at gr
   apply List.ext_getElem?
   intro i
   by_cases hi:i<l.length
   .have hlt:i<news.length:=by have:=gr.1;simp at this;omega
    have:=gr.2 i (.p (.int .u8 l[i].toNat)) news[i] (by simp [hi]) (by simp [hlt])
    rw [bf hlt,this.gV]
    simp [hi]
   .have hlt:¬i<news.length:=by have:=gr.1;simp at this;omega
    simp [hi,hlt]
  have hlen:ys.length=l.length:=by rw [e1];simp
  refine ⟨_,.string ⟨l.toArray⟩,hK,rfl,?_,.str _ _ (by simp)⟩
  have hsl:∃a n c,vx=.slice a n c:=by
   cases hx0 with
   |slnil f a=>exact ⟨_,_,_,rfl⟩
   |sl rows full sz c o cap g=>exact ⟨_,_,_,rfl⟩
   |lg=>exact ⟨_,_,_,rfl⟩
   |os=>exact ⟨_,_,_,rfl⟩
   |str=>exact hns.elim
   |p hp=>cases vx<;>simp [Ef] at hp<;>simp [Builtin.lenOf] at gl
   |_=>simp [Builtin.lenOf] at gl
  obtain ⟨a,n,c,rfl⟩:=hsl
  have hn:n=ys.length:=by simpa [Builtin.lenOf] using gl
  subst hn
  have hcv:convert s d (.slice a ys.length c)=convert s d (.slice a ys.length c):=rfl
  cases a with
  |none=>
   have:l=[]:=by
    simp [Builtin.firstCells] at gf
    have e3:news=[]:=gf
    rw [e3] at e2
    simpa using e2.symm
   subst this
   simp [convert,run_underlying hsu,run_underlying hd,run_underlying hs,Conv.bytesToString]
   rfl
  |some ad=>
   simp only [Builtin.firstCells,Nat.mul_one] at gf
   simp [convert,run_underlying hsu,run_underlying hd,run_underlying hs,Conv.bytesToString,gf,Sem.run_bind]
   rw [MV (P:=P) (w:=w) (fun b r=>by simp) l news .empty e2]
   simp
 .exact hs.elim
theorem UN (hh:eH base w E ah F){s d:TypeId}{x:AV}{vx:Value}(h:Ie P ah s d x K)(hx:Rep w E x vx):tK P w E (convert s d vx) K:=by
 unfold Ie at h
 split at h
 .exact Z_ hh h hx
 .exact (Uy h hx).rd
end
end Go.Fw
end
section
namespace Go.Fw
variable [iZ]
section
variable {P : Program} {base:Nat} {w w':World} {E E':Env} {ah:AH} {F:Nat->Prop} {K:nT->Prop} {id:Nat}
theorem aac (hh:eH base w E ah F){b c:Nat}{k k':pI}(hb:ah b=some k)(ho:E.own b=.at c 0){o0 o1:Obj}(hc:w.heap[c]?=some o0)(hnc:∀arr t f,o0≠.cells arr t f)
  (hk:∀w',Ext w E w' E->w'.heap[c]?=some o1->rO base w' E b k') :
  Step base w E {w with heap:=w.heap.setIfInBounds c o1} E/\eH base {w with heap:=w.heap.setIfInBounds c o1} E (upd ah b (some k')) F:=by
 obtain ⟨hlt,hbase,hnf⟩:=(hh.blk b _ hb).lt ho
 obtain ⟨g1,g2⟩:=A_ (o':=o1) hc
 have hx:Ext w E {w with heap:=w.heap.setIfInBounds c o1} E:=by
  refine ⟨fun _ _ h=>h,fun c' off h=>?_,fun _ _=>rfl,fun c' ar t fz h=>?_⟩
  .have:c'≠c:=fun e=>hnf off (e▸h)
   simp only [World.cell?]
   rw [g2 c' this]
  .have:c'≠c:=fun e=>by subst e;rw [hc] at h;cases h;exact hnc _ _ _ rfl
   exact ⟨ar,fz,by show (w.heap.setIfInBounds c _)[c']?=_;rw [g2 c' this];exact h,rfl⟩
 refine ⟨⟨hx,⟨rfl,rfl,rfl,by simp,fun j hj=>g2 j (by omega)⟩,fun _ _ _ h=>h,fun c' _ hno=>g2 c' (fun e=>hno b 0 (e▸ho)),fun b c o h _=>⟨b,o,h⟩,fun _ _ h _=>.inl h⟩,?_⟩
 refine ⟨fun b' k' hb'=>?_,fun b1 b2 k1 k2 c1 o1 c2 o2 hne h1 h2 h3 h4=>?_,hh.fresh,fun c' off h=>?_,by simpa using hh.bs,fun b c o h=>by simpa using hh.lH b c o h⟩
 .by_cases e:b'=b
  .subst e
   rw [eY rfl] at hb'
   cases hb'
   exact hk _ hx g1
  .rw [aoE e] at hb'
   exact (hh.blk b' k' hb').keep hx (fun c' o' ho'=>g2 c' (fun ec=>hh.sep b' b k' _ c' o' c 0 e hb' hb ho' ho ec)) (fun _ _ _ _ h=>h)
 .have q1:∃k,ah b1=some k:=by
   by_cases e:b1=b
   .exact ⟨_,e▸hb⟩
   .rw [aoE e] at h1;exact ⟨k1,h1⟩
  have q2:∃k,ah b2=some k:=by
   by_cases e:b2=b
   .exact ⟨_,e▸hb⟩
   .rw [aoE e] at h2;exact ⟨k2,h2⟩
  obtain ⟨p1,q1⟩:=q1
  obtain ⟨p2,q2⟩:=q2
  exact hh.sep b1 b2 p1 p2 c1 o1 c2 o2 hne q1 q2 h3 h4
 .have:=hh.jO c' off h;simpa using this
theorem aad (hh:eH base w E ah F)(hid:F id){t:TypeId}{m:AV}{vm:Value}(h:GU P ah id t m K)(hm:Rep w E m vm):Eo P base w E ah F id (Instr.range t vm) K:=by
 unfold GU at h
 split at h
 .rename_i kt et hu
  split at h
  .rename_i b
   split at h
   .rename_i es hb
    cases hm with
    |mp _ c ho=>
     obtain ⟨c',lG,clock,g1,g2,g3,g4,g5⟩:=hh.blk b _ hb
     rw [ho] at g1;cases g1
     have hcl:clock=es.length:=by rw [g5.2.2.1,g5.1]
     subst hcl
     have hne:b≠id:=fun e=>by subst e;have:=hh.fresh _ hid;rw [ho] at this;cases this
     obtain ⟨h1,h2⟩:=uZ hh hid (.mapIter (some c) es.length #[] es.length) (.it b es.length 0) (fun w' E' hx hfix hoi hn=>
      ⟨w.heap.size,c,hoi,hh.bs,fun off hf=>by have:=hh.jO _ _ (hfix _ _ hf);omega,by rw [hn];rfl,by rw [hx.own b (by rw [ho];simp),ho]⟩)
     refine ⟨_,.pointer (some ⟨w.heap.size,0,none⟩),_,_,h,?_,h1,h2,?_⟩
     .have hg:(getObj c).run P w=.ok (.map lG es.length) w:=by simp [getObj,Sem.run,g4]
      simp [Instr.range,run_underlying hu,hg,run_newObj]
     .simpa using Rep.op (w:=w.alloc (.mapIter (some c) es.length #[] es.length)) (E:=E.set id (.at w.heap.size 0)) id 1 0 0 w.heap.size 0 (by simp [Env.set])
   .exact h.elim
  .exact h.elim
 .exact h.elim
theorem KI {α:Type}{g:α->Nat}:∀(l:List α) (j k:Nat),(∀i a,l[i]?=some a->g a=j+i)->l.filter (fun a=>decide (k<=g a))=l.drop (k-j)
 |[],j,k,h=>by simp
 |a::r,j,k,h=>by
  have ha:=h 0 a rfl
  have ih:=KI (g:=g) r (j+1) k (fun i b hb=>by have:=h (i+1) b (by simpa using hb);omega)
  simp only [List.filter_cons]
  by_cases hk:k<=g a
  .rw [decide_eq_true hk]
   simp only [if_true]
   rw [ih]
   have e1:k-j=0:=by omega
   have e2:k-(j+1)=0:=by omega
   rw [e1,e2];rfl
  .rw [decide_eq_false hk]
   simp only [aV,if_false]
   rw [ih]
   have e1:k-j=(k-(j+1))+1:=by omega
   rw [e1];rfl
theorem apv {lG:Array MapEntry}(hb:∀(i:Nat) (a:MapEntry),lG[i]?=some a->a.born=i)(k:Nat):(lG.filter fun e=>!(Array.range k).contains e.born)=(lG.toList.drop k).toArray:=by
 apply Array.ext'
 rw [Array.toList_filter]
 have e:(fun e:MapEntry=>!(Array.range k).contains e.born)=fun e=>decide (k<=e.born):=by
  funext e
  by_cases h:k<=e.born
  .simp [h]
  .simp [h];omega
 rw [e,KI (g:=fun e:MapEntry=>e.born) lG.toList 0 k (fun i a h=>by simpa using hb i a (by simpa using h))]
 simp
theorem JO {α:Type}{g:α->Nat}:∀(l:List α) (j k:Nat),j<=k->(∀i a,l[i]?=some a->g a=j+i)->l.find? (fun a=>g a == k)=l[k-j]?
 |[],j,k,_,h=>by simp
 |a::r,j,k,hj,h=>by
  have ha:=h 0 a rfl
  by_cases hk:g a=k
  .have e1:k-j=0:=by omega
   simp [List.find?_cons,hk,e1]
  .have ih:=JO (g:=g) r (j+1) k (by omega) (fun i b hb=>by have:=h (i+1) b (by simpa using hb);omega)
   have e1:k-j=(k-(j+1))+1:=by omega
   have e2:(g a == k)=false:=by simpa using hk
   rw [List.find?_cons,e2,e1]
   simpa using ih
theorem aae (hh:eH base w E ah F){it:AV}{vi:Value}(h:JF ah it K)(hi:Rep w E it vi):tK P w E (Instr.entry vi) K:=by
 unfold JF at h
 split at h
 .rename_i q sz
  split at h
  .rename_i b n k hq
   unfold LD at h
   split at h
   .rename_i es hb
    obtain ⟨hn,h⟩:=h
    obtain ⟨e,he,hK⟩:=dI.1 h
    obtain ⟨c,cm,g1,g2,g3,g4,g5⟩:=hh.blk q _ hq
    obtain ⟨c',lG,clock,f1,f2,f3,f4,f5⟩:=hh.blk b _ hb
    rw [g5] at f1;cases f1
    obtain ⟨c0,o0,rfl,ho⟩:=hi.MB
    rw [g1] at ho;cases ho
    obtain ⟨m1,m2,m3,m4⟩:=f5
    have hcl:clock=n:=by omega
    subst hcl
    have hgi:(getObj c).run P w=.ok (.mapIter (some cm) clock (Array.range (k+1)) clock) w:=by simp [getObj,Sem.run,g4]
    have hgm:(getObj cm).run P w=.ok (.map lG clock) w:=by simp [getObj,Sem.run,f4]
    have hlt:k<lG.size:=by have:=(aG.1 he).1;omega
    obtain ⟨ce,hce⟩:∃ce,lG[k]?=some ce:=⟨lG[k],by simp [hlt]⟩
    obtain ⟨r1,r2,r3⟩:=m2 k e ce he hce
    have hf:lG.find? (fun e=>e.born == k)=some ce:=by
     rw [<- Array.find?_toList,JO (g:=fun e:MapEntry=>e.born) lG.toList 0 k (dG _) (fun i a h=>by simpa using m4 i a (by simpa using h))]
     simpa using hce
    have hbk:(Array.range (k+1)).back?=some k:=by simp [Array.back?]
    refine ⟨_,.tuple #[ce.key,ce.val],hK,rfl,?_,?_⟩
    .simp only [Instr.entry,Nat.zero_mul,Nat.add_zero,Sem.run_bind,hgi,hgm,hbk,Result.andThen_ok]
     simp [hf,hgm,Result.andThen]
    .exact .kS _ _ rfl (fun i x y h1 h2=>by
      match i,h1,h2 with
      |0,h1,h2=>cases h1;cases h2;exact r1
      |1,h1,h2=>cases h1;cases h2;exact r2)
   .exact h.elim
  .exact h.elim
 .exact h.elim
theorem abD (hh:eH base w E ah F)(hid:F id){it:AV}{str:Bool}{vi:Value}{ty:TypeId}(h:Qb ah it str K)(hi:Rep w E it vi):Eo P base w E ah F id (Instr.next vi str ty) K:=by
 unfold Qb at h
 split at h
 .split at h
  .rename_i q sz
   split at h
   .rename_i b n k hq
    unfold L9 at h
    split at h
    .rename_i es hb
     obtain ⟨hn,h⟩:=h
     obtain ⟨c,cm,g1,g2,g3,g4,g5⟩:=hh.blk q _ hq
     obtain ⟨c',lG,clock,f1,f2,f3,f4,f5⟩:=hh.blk b _ hb
     rw [g5] at f1;cases f1
     obtain ⟨c0,o0,rfl,ho⟩:=hi.MB
     rw [g1] at ho;cases ho
     obtain ⟨m1,m2,m3,m4⟩:=f5
     have hcl:clock=n:=by omega
     subst hcl
     have hgi:(getObj c).run P w=.ok (.mapIter (some cm) clock (Array.range k) clock) w:=by simp [getObj,Sem.run,g4]
     have hgm:(getObj cm).run P w=.ok (.map lG clock) w:=by simp [getObj,Sem.run,f4]
     have hle:=apv m4 k
     have hcond:(!(Array.range k).isEmpty&&!lG.isEmpty&&lG.all (·.born>=clock))=false:=by
      cases he:lG.isEmpty
      .have h0:0<lG.size:=by
        rcases Nat.eq_zero_or_pos lG.size with e|e
        .have:lG=#[]:=Array.eq_empty_of_size_eq_zero e
         subst this;simp at he
        .exact e
       have:lG.all (·.born>=clock)=false:=by
        rw [Array.all_eq_false]
        refine ⟨0,h0,?_⟩
        have:=m4 0 lG[0] (by simp [h0])
        simp [this];omega
       rw [this];simp
      .simp
     split at h
     .rename_i hk
      have hk:=aA hk
      refine ⟨_,.tuple #[.bool false],w,E,h,?_,Step.refl _ _ _,hh.weaken fun b h=>h.1,?_⟩
      .have hd:lG.toList.drop k=[]:=by rw [List.drop_eq_nil_iff];simp;omega
       rw [hd] at hle
       simp only [Instr.next,Nat.zero_mul,Nat.add_zero,Sem.run_bind,hgi,hgm,Result.andThen_ok]
       simp only [hcond,hle,aV,if_false,Sem.run_pure,Result.andThen_ok]
       simp [Question.forced]
      .exact .kS _ _ rfl (fun i x y h1 h2=>by
        match i,h1,h2 with
        |0,h1,h2=>cases h1;cases h2;exact .p rfl)
     .rename_i hk
      obtain ⟨hk1,h⟩:=h
      obtain ⟨e,he,hK⟩:=dI.1 h
      have hlt:k<lG.size:=by omega
      obtain ⟨ce,hce⟩:∃ce,lG[k]?=some ce:=⟨lG[k],by simp [hlt]⟩
      have hborn:=m4 k ce hce
      obtain ⟨r1,r2,r3⟩:=m2 k e ce he hce
      have hd:lG.toList.drop k=[ce]:=by
       have aiz:lG.toList[k]?=some ce:=by simpa using hce
       have hlt':k<lG.toList.length:=by simpa using hlt
       rw [List.drop_eq_getElem_cons hlt',List.drop_eq_nil_iff.2 (by simp;omega)]
       congr
       rw [bf hlt'] at aiz
       exact Option.some.inj aiz
      obtain ⟨s1,s2⟩:=aac (F:=F) (k':=.it b clock (k+1)) (o1:=.mapIter (some cm) clock (Array.range (k+1)) clock) hh hq g1 g4 (fun _ _ _ h=>by cases h) (fun w' hx hw=>
       ⟨c,cm,g1,g2,g3,hw,g5⟩)
      refine ⟨_,.tuple #[.bool true,ce.key,ce.val],_,E,hK,?_,s1,s2.weaken fun b h=>h.1,?_⟩
      .rw [hd] at hle
       have hset:∀o,(setObj c o).run P w=.ok () {w with heap:=w.heap.setIfInBounds c o}:=fun o=>by simp [setObj,Sem.run,g4]
       simp only [Instr.next,Nat.zero_mul,Nat.add_zero,Sem.run_bind,hgi,hgm,Result.andThen_ok]
       simp only [hcond,hle,aV,if_false,Sem.run_pure,Result.andThen_ok]
       have hf1:List.filter (fun x:MapEntry=>decide (x.born<clock)) [ce]=[ce]:=by rw [List.filter_cons,if_pos (by simpa using r3)];rfl
       have hf2:List.filter (fun x:MapEntry=>decide (clock<=x.born)) [ce]=[]:=by rw [List.filter_cons,if_neg (by simp;omega)];rfl
       have hck:¬clock<=k:=by omega
       simp [Question.forced,hf1,hf2,hck,hset,Array.range_succ,hborn,Result.andThen]
      .exact .kS _ _ rfl (fun i x y h1 h2=>by
        match i,h1,h2 with
        |0,h1,h2=>cases h1;cases h2;exact .p rfl
        |1,h1,h2=>cases h1;cases h2;exact r1.mono s1.ext
        |2,h1,h2=>cases h1;cases h2;exact r2.mono s1.ext)
    .exact h.elim
   .exact h.elim
  .exact h.elim
 .exact h.elim
end
end Go.Fw
end
section
namespace Go.Fw
variable [iZ]
section
variable {P : Program} {base:Nat} {w w':World} {E E':Env} {ah:AH} {F:Nat->Prop} {K:nT->Prop} {id:Nat}
abbrev abE (base:Nat)(w:World)(E:Env)(ah:AH)(F:Nat->Prop)(id:Nat)(K:nT->Prop)(o:Oper)(a:Act)(next:Act->World->Prop):Prop:=
 ∀r v w' E',K r->Step base w E w' E'->eH base w' E' (lJ ah r.wr) (fun b=>F b/\b≠id)->Rep w' E' r.v v->next (a.put o.dst v) w'
theorem nH {o:Oper}{a:Act}{next:Act->World->Prop}{Q:Exit->Act->World->Prop}{s:Sem Value}(hn:abE base w E ah F id K o a next)(h:Eo P base w E ah F id s K)
  (he:execOp a.eval o=(do pure (.value (<- s)))):o.wp P a w next Q:=by
 obtain ⟨r,v,w',E',h1,h2,h3,h4,h5⟩:=h
 exact aoL (s:=do pure (.value (<- s))) (v:=v) (w':=w') he (by simp [h2]) (hn r v w' E' h1 h3 h4 h5)
theorem FK {fr:nP}{a:Act}(hfr:yg w E fr a.tmps){x:Option Operand}{l:List (Unit×AV)}(h:OV fr (x.toList.map (((),·)))=some l) :
  JI w E (l.head?.map (·.2)) (x.map a.eval):=by
 cases x with
 |none=>simp [OV] at h;subst h;exact .none
 |some x=>
  simp only [Option.toList_some,bg,List.map_nil,OV,aW,aB] at h
  obtain ⟨y,hy,r,hr,rfl⟩:=h
  exact .some (fH hfr hy)
theorem abG (x y t:Nat):agI ((Question.nanBits .f64 x y).cut t):=by
 intro m
 have hw:∃s k,FloatKind.f64.format.read ((Question.nanBits .f64 x y).cut t)=.nan s k:=by
  have hd:(t / 2) % (2 ^ 52-1)<2 ^ 52-1:=Nat.mod_lt _ (by decide)
  have h2:t % 2<2:=Nat.mod_lt _ (by decide)
  show ∃s k,Ieee.Format.read Ieee.double ((t % 2)*2 ^ 63+0x7ff0000000000000+1+(t / 2) % (2 ^ 52-1))=.nan s k
  generalize (t / 2) % (2 ^ 52-1)=d at hd
  generalize t % 2=e at h2
  unfold Ieee.Format.read
  have e1:Ieee.double.signWeight=9223372036854775808:=by decide
  have e2:Ieee.double.infRung=9218868437227405312:=by decide
  have e3:Ieee.double.binade=4503599627370496:=by decide
  have hm:(e*2 ^ 63+0x7ff0000000000000+1+d) % 9223372036854775808=0x7ff0000000000001+d:=by omega
  simp only [e1,e2,e3,hm]
  rw [if_neg (by omega),if_neg (by omega),if_neg (by omega)]
  exact ⟨_,_,rfl⟩
 obtain ⟨s,k,e⟩:=hw
 constructor<;>simp only [Ieee.Format.order,e]<;>first|rfl|(cases FloatKind.f64.format.read m<;>rfl)
theorem aep {op t x y vx vy}{K:nT->Prop}(ox oy:Operand)(hh:eH base w E ah F)(h:abq op x y K)(hx:Rep w E x vx)(hy:Rep w E y vy) :
  Eo P base w E ah F id (do eqGuard op t ox oy vx vy;binOp op t vx vy) K:=by
 rcases h with ⟨rfl,rfl,rfl,hK⟩|⟨b,h1,h2,h3,h4,hK⟩
 .obtain rfl:=hx.gV;obtain rfl:=hy.gV
  have e0:FloatKind.f64.format.div 0 0=none:=by decide +kernel
  have hd:=Ii hh (w.drawn+1)
  refine ⟨_,.float .f64 ((Question.nanBits .f64 0 0).cut (w.tape w.drawn (.nanBits .f64 0 0))),{w with drawn:=w.drawn+1},E,hK,?_,hd.1,?_,.nan _ (abG _ _ _)⟩
  .simp [eqGuard,binOp,Op.floatArith,e0,choose,Sem.run,Question.forced]
  .exact hd.2.weaken (fun b h=>h.1)
 .exact (YH ox oy h1 h2 h3 h4 hK hx hy).wr hh
theorem Xb (hh:eH base w E ah F)(hid:F id){fr:nP}{a:Act}(hfr:yg w E fr a.tmps){o:Oper}(h:JG P id fr ah o.op K){next:Act->World->Prop}{Q:Exit->Act->World->Prop}
  (hn:abE base w E ah F id K o a next):o.wp P a w next Q:=by
 unfold JG at h
 dsimp only at h
 split at h
 .rename_i x hop
  obtain ⟨y,hy,hK⟩:=dI.1 h
  exact nH hn (s:=pure (a.eval x)) (tK.wr hh ⟨_,_,hK,rfl,rfl,fH hfr hy⟩) (by simp [execOp,hop])
 .rename_i x hop
  obtain ⟨y,hy,hK⟩:=dI.1 h
  exact nH hn (s:=pure (a.eval x)) (tK.wr hh ⟨_,_,hK,rfl,rfl,fH hfr hy⟩) (by simp [execOp,hop])
 .rename_i c x y hop
  obtain ⟨cv,hc,h⟩:=dI.1 h
  split at h
  .rename_i t
   have hcv:=(fH hfr hc).gV
   refine nH hn (s:=pure (if t=true then a.eval x else a.eval y)) (tK.wr hh ?_) (by simp [execOp,hop,hcv,asBool])
   rw [qH] at h
   split at h
   .rename_i ht;obtain ⟨z,hz,hK⟩:=dI.1 h;exact ⟨_,_,hK,rfl,by simp [ht],fH hfr hz⟩
   .rename_i ht;obtain ⟨z,hz,hK⟩:=dI.1 h;exact ⟨_,_,hK,rfl,by simp [ht],fH hfr hz⟩
  .exact h.elim
 .rename_i t x hop
  obtain ⟨y,hy,h⟩:=dI.1 h
  exact nH hn ((En hh h (fH hfr hy)).wr hh) (by simp [execOp,hop])
 .rename_i t x y hop
  obtain ⟨x',hx,h⟩:=dI.1 h
  obtain ⟨y',hy,h⟩:=dI.1 h
  obtain ⟨r,w',E',h1,h2,h3,h4,h5⟩:=JL (P:=P) (id:=id) hh h (fH hfr hx) (fH hfr hy)
  have:=hn r undef w' E' h1 h3 h4 (by rw [h5];exact .p rfl)
  unfold Oper.wp
  have e:(execOp a.eval o).run P w=.ok .skip w':=by simp [execOp,hop,h2]
  rw [e]
  exact this
 .rename_i s x k hop
  obtain ⟨y,hy,h⟩:=dI.1 h
  exact nH hn ((Gm h (fH hfr hy)).wr hh) (by simp [execOp,hop])
 .rename_i s x k hop
  obtain ⟨y,hy,h⟩:=dI.1 h
  exact nH hn ((Qd h (fH hfr hy)).wr hh) (by simp [execOp,hop])
 .rename_i t x i hop
  obtain ⟨x',hx,h⟩:=dI.1 h
  obtain ⟨i',hi,h⟩:=dI.1 h
  exact nH hn ((Gn h (fH hfr hx) (fH hfr hi)).wr hh) (by simp [execOp,hop])
 .rename_i t x i hop
  obtain ⟨x',hx,h⟩:=dI.1 h
  obtain ⟨i',hi,h⟩:=dI.1 h
  exact nH hn ((Qe h (fH hfr hx) (fH hfr hi)).wr hh) (by simp [execOp,hop])
 .rename_i x k hop
  obtain ⟨x',hx,h⟩:=dI.1 h
  exact nH hn ((KD h (fH hfr hx)).wr hh) (by simp [execOp,hop])
 .rename_i op t x y t2 hop
  obtain ⟨x',hx,h⟩:=dI.1 h
  obtain ⟨y',hy,h⟩:=dI.1 h
  rcases h with h|h
  .exact nH hn ((YI x y h (fH hfr hx) (fH hfr hy)).rd.wr hh) (by simp [execOp,hop])
  .exact nH hn (aep (t:=t) x y hh h (fH hfr hx) (fH hfr hy)) (by simp [execOp,hop])
 .rename_i op t x hop
  obtain ⟨x',hx,h⟩:=dI.1 h
  exact nH hn ((abv (P:=P) h (fH hfr hx)).rd.wr hh) (by simp [execOp,hop])
 .rename_i s d x hop
  obtain ⟨x',hx,h⟩:=dI.1 h
  exact nH hn ((UN hh h (fH hfr hx)).wr hh) (by simp [execOp,hop])
 .rename_i t hop
  exact nH hn (KG hh hid h .none) (by simp [execOp,hop])
 .rename_i t r hop
  obtain ⟨r',hr,h⟩:=dI.1 h
  exact nH hn (KG hh hid h (.some (fH hfr hr))) (by simp [execOp,hop])
 .rename_i t m k c hop
  obtain ⟨m',hm,h⟩:=dI.1 h
  obtain ⟨k',hk,h⟩:=dI.1 h
  exact nH hn ((MO hh h (fH hfr hm) (fH hfr hk)).wr hh) (by simp [execOp,hop])
 .rename_i t m k v hop
  obtain ⟨m',hm,h⟩:=dI.1 h
  obtain ⟨k',hk,h⟩:=dI.1 h
  obtain ⟨v',hv,h⟩:=dI.1 h
  obtain ⟨r,w',E',h1,h2,h3,h4,h5⟩:=MP (P:=P) (id:=id) hh h (fH hfr hm) (fH hfr hk) (fH hfr hv)
  have:=hn r undef w' E' h1 h3 h4 (by rw [h5];exact .p rfl)
  unfold Oper.wp
  have e:(execOp a.eval o).run P w=.ok .skip w':=by simp [execOp,hop,h2]
  rw [e]
  exact this
 .rename_i t m k v hop
  obtain ⟨m',hm,h⟩:=dI.1 h
  obtain ⟨k',hk,h⟩:=dI.1 h
  obtain ⟨v',hv,h⟩:=dI.1 h
  obtain ⟨r,w',E',h1,h2,h3,h4,h5⟩:=MP (P:=P) (id:=id) hh h (fH hfr hm) (fH hfr hk) (fH hfr hv)
  have:=hn r undef w' E' h1 h3 h4 (by rw [h5];exact .p rfl)
  unfold Oper.wp
  have e:(execOp a.eval o).run P w=.ok .skip w':=by simp [execOp,hop,h2]
  rw [e]
  exact this
 .rename_i t x hop
  obtain ⟨x',hx,h⟩:=dI.1 h
  exact nH hn (aad hh hid h (fH hfr hx)) (by simp [execOp,hop])
 .rename_i x str hop
  obtain ⟨x',hx,h⟩:=dI.1 h
  exact nH hn (abD (ty:=o.type) hh hid h (fH hfr hx)) (by simp [execOp,hop])
 .rename_i x hop
  obtain ⟨x',hx,h⟩:=dI.1 h
  exact nH hn ((aae (P:=P) hh h (fH hfr hx)).wr hh) (by simp [execOp,hop])
 .rename_i t x hop
  obtain ⟨x',hx,h⟩:=dI.1 h
  exact nH hn ((KH h (fH hfr hx)).wr hh) (by simp [execOp,hop])
 .rename_i x xt t c hop
  obtain ⟨x',hx,h⟩:=dI.1 h
  exact nH hn ((MS (xt:=xt) h (fH hfr hx)).wr hh) (by simp [execOp,hop])
 .rename_i x hop
  obtain ⟨x',hx,h⟩:=dI.1 h
  have hr:=fH hfr hx
  obtain ⟨hK,hv⟩:=Il h hr
  refine nH hn (s:=pure (a.eval x)) (tK.wr hh ⟨_,_,hK,rfl,rfl,hr⟩) ?_
  rcases hv with ⟨p,e⟩|⟨f,u,v,e⟩
  .simp [execOp,hop,e]
  .simp [execOp,hop,e]
 .rename_i t x lo hi mx hop
  obtain ⟨x',hx,h⟩:=dI.1 h
  obtain ⟨l,hl,h⟩:=dI.1 h
  obtain ⟨j,hj,h⟩:=dI.1 h
  obtain ⟨m,hm,h⟩:=dI.1 h
  exact nH hn ((MR hh h (fH hfr hx) (FK hfr hl) (FK hfr hj) (FK hfr hm)).wr hh) (by simp [execOp,hop])
 .rename_i t parts hop
  obtain ⟨ps,hps,h⟩:=dI.1 h
  obtain ⟨h1,h2⟩:=LG hfr hps
  refine nH hn ((Qh (rE:=parts.toList.map fun q=>(q.1,a.eval q.2)) h (by simpa using h1) (fun i p q hp hq=>?_)).wr hh) ?_
  .simp only [bV,aB] at hq
   obtain ⟨q',hq',rfl⟩:=hq
   exact h2 i p q' hp hq'
  .simp only [execOp,hop]
   congr 2
   .congr 1;apply Array.ext';simp
 .rename_i t len parts hop
  obtain ⟨ps,hps,h⟩:=dI.1 h
  obtain ⟨h1,h2⟩:=LG hfr hps
  refine nH hn (Me (rE:=parts.toList.map fun q=>(q.1,a.eval q.2)) hh hid h (by simpa using h1) (fun i p q hp hq=>?_)) ?_
  .simp only [bV,aB] at hq
   obtain ⟨q',hq',rfl⟩:=hq
   exact h2 i p q' hp hq'
  .simp only [execOp,hop]
   congr 2
   .congr 1;apply Array.ext';simp
 .rename_i t x hop
  obtain ⟨y,hy,h⟩:=dI.1 h
  exact nH hn (aem hh hid t h (fH hfr hy)) (by simp [execOp,hop])
 .rename_i t hop
  exact nH hn (ZV hh hid h) (by simp [execOp,hop])
 .rename_i t l c hop
  obtain ⟨l',hl,h⟩:=dI.1 h
  obtain ⟨c',hc,h⟩:=dI.1 h
  exact nH hn (OY hh hid h (fH hfr hl) (fH hfr hc)) (by simp [execOp,hop])
 .rename_i fn first captured hop
  obtain ⟨x,hx,h⟩:=dI.1 h
  obtain ⟨y,hy,hK⟩:=dI.1 h
  have rx:=qJ hfr hx
  have ry:=qJ hfr hy
  refine nH hn (s:=pure (.func fn (first.map a.eval) (captured.map a.eval))) (tK.wr hh ⟨_,_,hK,rfl,rfl,?_⟩) (by simp [execOp,hop,Instr.makeFunc])
  exact .fn fn x y _ _ (by simpa using rx.1) (by simpa using ry.1) (fun i c v h1 h2=>rx.2 i c v h1 (by simpa using h2)) (fun i c v h1 h2=>ry.2 i c v h1 (by simpa using h2))
 .rename_i args ts hop
  obtain ⟨l,hl,h⟩:=dI.1 h
  have rl:=qJ hfr hl
  split at h
  .rename_i x
   obtain ⟨t,ht,h⟩:=dI.1 h
   obtain ⟨v0,hv0⟩:∃v0,args.toList.map a.eval=[v0]:=by
    have:=rl.1;simp at this
    match hm:args.toList.map a.eval,(show (args.toList.map a.eval).length=1 by simp [<- this]) with
    |[v0],_=>exact ⟨v0,rfl⟩
   have e:args.map a.eval=#[v0]:=by apply Array.ext';simpa using hv0
   rw [hv0] at rl
   have hr:=rl.2 0 x v0 rfl rfl
   refine nH hn (s:=Builtin.len_ ts o.type #[v0]) (tK.wr hh ?_) (by simp [execOp,hop,resolve,invoke,builtin,e])
   obtain ⟨r,v,q1,q2,q3,q4⟩:=YJ (ty:=o.type) hh h hr
   refine ⟨r,v,q1,q2,?_,q4⟩
   rw [<- q3]
   simp [Builtin.len_,ht]
  .exact h.elim
 .rename_i args ts hop
  obtain ⟨l,hl,h⟩:=dI.1 h
  have rl:=qJ hfr hl
  split at h
  .rename_i x y
   obtain ⟨t,ht,h⟩:=dI.1 h
   obtain ⟨t2,ht2,h⟩:=dI.1 h
   obtain ⟨v0,v1,hv0⟩:∃v0 v1,args.toList.map a.eval=[v0,v1]:=by
    have:=rl.1;simp at this
    match hm:args.toList.map a.eval,(show (args.toList.map a.eval).length=2 by simp [<- this]) with
    |[v0,v1],_=>exact ⟨v0,v1,rfl⟩
   have e:args.map a.eval=#[v0,v1]:=by apply Array.ext';simpa using hv0
   rw [hv0] at rl
   have hr:=rl.2 0 x v0 rfl rfl
   have hr1:=rl.2 1 y v1 rfl rfl
   refine nH hn (s:=Builtin.append_ ts o.type #[v0,v1]) ?_ (by simp [execOp,hop,resolve,invoke,builtin,e])
   obtain ⟨r,v,w',E',q1,q2,q3⟩:=aby (ty:=o.type) hh hid h hr hr1
   refine ⟨r,v,w',E',q1,?_,q3⟩
   rw [<- q2]
   simp [Builtin.append_,ht,ht2]
  .exact h.elim
 .rename_i args ts hop
  obtain ⟨l,hl,h⟩:=dI.1 h
  have rl:=qJ hfr hl
  split at h
  .rename_i x y
   obtain ⟨t,ht,h⟩:=dI.1 h
   obtain ⟨v0,v1,hv0⟩:∃v0 v1,args.toList.map a.eval=[v0,v1]:=by
    have:=rl.1;simp at this
    match hm:args.toList.map a.eval,(show (args.toList.map a.eval).length=2 by simp [<- this]) with
    |[v0,v1],_=>exact ⟨v0,v1,rfl⟩
   have e:args.map a.eval=#[v0,v1]:=by apply Array.ext';simpa using hv0
   rw [hv0] at rl
   exact nH hn (s:=Builtin.copy_ ts o.type #[v0,v1]) (abC hh ht h (rl.2 0 x v0 rfl rfl) (rl.2 1 y v1 rfl rfl)) (by simp [execOp,hop,resolve,invoke,builtin,e])
  .exact h.elim
 .rename_i args ts hop
  obtain ⟨l,hl,h⟩:=dI.1 h
  have rl:=qJ hfr hl
  split at h
  .rename_i x
   obtain ⟨t,ht,h⟩:=dI.1 h
   obtain ⟨v0,hv0⟩:∃v0,args.toList.map a.eval=[v0]:=by
    have:=rl.1;simp at this
    match hm:args.toList.map a.eval,(show (args.toList.map a.eval).length=1 by simp [<- this]) with
    |[v0],_=>exact ⟨v0,rfl⟩
   have e:args.map a.eval=#[v0]:=by apply Array.ext';simpa using hv0
   rw [hv0] at rl
   exact nH hn (s:=Builtin.clear_ ts o.type #[v0]) (Z8 hh ht h (rl.2 0 x v0 rfl rfl)) (by simp [execOp,hop,resolve,invoke,builtin,e])
  .exact h.elim
 .rename_i args ts hop
  obtain ⟨l,hl,h⟩:=dI.1 h
  refine nH hn (s:=Builtin.min_ ts o.type (args.toList.map a.eval).toArray) ((Md (P:=P) (ts:=ts) (ty:=o.type) h (qJ hfr hl)).rd.wr hh) ?_
  have e:args.map a.eval=(args.toList.map a.eval).toArray:=by apply Array.ext';simp
  simp [execOp,hop,resolve,invoke,builtin,e]
 .rename_i args ts hop
  obtain ⟨l,hl,h⟩:=dI.1 h
  refine nH hn (s:=Builtin.max_ ts o.type (args.toList.map a.eval).toArray) ((Md (P:=P) (ts:=ts) (ty:=o.type) h (qJ hfr hl)).rd.wr hh) ?_
  have e:args.map a.eval=(args.toList.map a.eval).toArray:=by apply Array.ext';simp
  simp [execOp,hop,resolve,invoke,builtin,e]
 .rename_i f args ts hop
  obtain ⟨l,hl,h⟩:=dI.1 h
  refine abB hh hfr.GY h (qJ hfr hl) ?_ hn
  have e:args.map a.eval=(args.toList.map a.eval).toArray:=by apply Array.ext';simp
  simp [execOp,hop,resolve,invoke,Deferred.ofValue,Act.eval,e]
 .exact h.elim
end
end Go.Fw
end
section
namespace Go.Fw
variable [iZ]
def agR : Op->Bool
 | .move _ | .assign _ | .load _ _ | .fieldAddr _ _ _ | .field _ _ _ | .indexAddr _ _ _ | .index _ _ _ | .extract _ _ | .unOp _ _ _ | .nilCheck _ | .pick _ _ _ | .convert _ _ _ | .lookup _ _ _ _ | .makeInterface _ _ | .typeAssert _ _ _ _ | .slice _ _ _ _ _ | .build _ _ | .makeFunc _ _ _ | .call ⟨.builtin .len,_,_⟩=>true
 | .binOp o _ _ _ _=>!decide (o=.quo)
 |_=>false
section
variable {P : Program} {base:Nat} {w:World} {E:Env} {ah:AH} {F:Nat->Prop} {K:nT->Prop} {id:Nat}
theorem tV {o:Oper}{a:Act}{next:Act->World->Prop}{Q:Exit->Act->World->Prop}{s:Sem Value}(hn:∀r v,K r->r.wr=[]->Rep w E r.v v->next (a.put o.dst v) w)(h:tK P w E s K)
  (he:execOp a.eval o=(do pure (.value (<- s)))):o.wp P a w next Q:=by
 obtain ⟨r,v,h1,h2,h3,h4⟩:=h
 exact aoL (s:=do pure (.value (<- s))) (v:=v) (w':=w) he (by simp [h3]) (hn r v h1 h2 h4)
theorem agS (hh:eH base w E ah F){fr:nP}{a:Act}(hfr:yg w E fr a.tmps){o:Oper}(hpu:agR o.op=true)(h:JG P id fr ah o.op K){next:Act->World->Prop}{Q:Exit->Act->World->Prop}
  (hn:∀r v,K r->r.wr=[]->Rep w E r.v v->next (a.put o.dst v) w):o.wp P a w next Q:=by
 unfold JG at h
 dsimp only at h
 split at h
 .rename_i x hop
  obtain ⟨y,hy,hK⟩:=dI.1 h
  exact tV hn (s:=pure (a.eval x)) (show tK P w E _ K from ⟨_,_,hK,rfl,rfl,fH hfr hy⟩) (by simp [execOp,hop])
 .rename_i x hop
  obtain ⟨y,hy,hK⟩:=dI.1 h
  exact tV hn (s:=pure (a.eval x)) (show tK P w E _ K from ⟨_,_,hK,rfl,rfl,fH hfr hy⟩) (by simp [execOp,hop])
 .rename_i c x y hop
  obtain ⟨cv,hc,h⟩:=dI.1 h
  split at h
  .rename_i t
   have hcv:=(fH hfr hc).gV
   refine tV hn (s:=pure (if t=true then a.eval x else a.eval y)) ?_ (by simp [execOp,hop,hcv,asBool])
   rw [qH] at h
   split at h
   .rename_i ht;obtain ⟨z,hz,hK⟩:=dI.1 h;exact ⟨_,_,hK,rfl,by simp [ht],fH hfr hz⟩
   .rename_i ht;obtain ⟨z,hz,hK⟩:=dI.1 h;exact ⟨_,_,hK,rfl,by simp [ht],fH hfr hz⟩
  .exact h.elim
 .rename_i t x hop
  obtain ⟨y,hy,h⟩:=dI.1 h
  exact tV hn ((En hh h (fH hfr hy))) (by simp [execOp,hop])
 .rename_i hop;rw [hop] at hpu;cases hpu
 .rename_i s x k hop
  obtain ⟨y,hy,h⟩:=dI.1 h
  exact tV hn ((Gm h (fH hfr hy))) (by simp [execOp,hop])
 .rename_i s x k hop
  obtain ⟨y,hy,h⟩:=dI.1 h
  exact tV hn ((Qd h (fH hfr hy))) (by simp [execOp,hop])
 .rename_i t x i hop
  obtain ⟨x',hx,h⟩:=dI.1 h
  obtain ⟨i',hi,h⟩:=dI.1 h
  exact tV hn ((Gn h (fH hfr hx) (fH hfr hi))) (by simp [execOp,hop])
 .rename_i t x i hop
  obtain ⟨x',hx,h⟩:=dI.1 h
  obtain ⟨i',hi,h⟩:=dI.1 h
  exact tV hn ((Qe h (fH hfr hx) (fH hfr hi))) (by simp [execOp,hop])
 .rename_i x k hop
  obtain ⟨x',hx,h⟩:=dI.1 h
  exact tV hn ((KD h (fH hfr hx))) (by simp [execOp,hop])
 .rename_i op t x y t2 hop
  obtain ⟨x',hx,h⟩:=dI.1 h
  obtain ⟨y',hy,h⟩:=dI.1 h
  rcases h with h|h
  .exact tV hn ((YI x y h (fH hfr hx) (fH hfr hy)).rd) (by simp [execOp,hop])
  .exact tV hn (aek (t:=t) x y h (by rw [hop] at hpu;simpa [agR] using hpu) (fH hfr hx) (fH hfr hy)) (by simp [execOp,hop])
 .rename_i op t x hop
  obtain ⟨x',hx,h⟩:=dI.1 h
  exact tV hn ((abv (P:=P) h (fH hfr hx)).rd) (by simp [execOp,hop])
 .rename_i s d x hop
  obtain ⟨x',hx,h⟩:=dI.1 h
  exact tV hn ((UN hh h (fH hfr hx))) (by simp [execOp,hop])
 .rename_i hop;rw [hop] at hpu;cases hpu
 .rename_i hop;rw [hop] at hpu;cases hpu
 .rename_i t m k c hop
  obtain ⟨m',hm,h⟩:=dI.1 h
  obtain ⟨k',hk,h⟩:=dI.1 h
  exact tV hn ((MO hh h (fH hfr hm) (fH hfr hk))) (by simp [execOp,hop])
 .rename_i hop;rw [hop] at hpu;cases hpu
 .rename_i hop;rw [hop] at hpu;cases hpu
 .rename_i hop;rw [hop] at hpu;cases hpu
 .rename_i hop;rw [hop] at hpu;cases hpu
 .rename_i hop;rw [hop] at hpu;cases hpu
 .rename_i t x hop
  obtain ⟨x',hx,h⟩:=dI.1 h
  exact tV hn ((KH h (fH hfr hx))) (by simp [execOp,hop])
 .rename_i x xt t c hop
  obtain ⟨x',hx,h⟩:=dI.1 h
  exact tV hn ((MS (xt:=xt) h (fH hfr hx))) (by simp [execOp,hop])
 .rename_i x hop
  obtain ⟨x',hx,h⟩:=dI.1 h
  have hr:=fH hfr hx
  obtain ⟨hK,hv⟩:=Il h hr
  refine tV hn (s:=pure (a.eval x)) (show tK P w E _ K from ⟨_,_,hK,rfl,rfl,hr⟩) ?_
  rcases hv with ⟨p,e⟩|⟨f,u,v,e⟩
  .simp [execOp,hop,e]
  .simp [execOp,hop,e]
 .rename_i t x lo hi mx hop
  obtain ⟨x',hx,h⟩:=dI.1 h
  obtain ⟨l,hl,h⟩:=dI.1 h
  obtain ⟨j,hj,h⟩:=dI.1 h
  obtain ⟨m,hm,h⟩:=dI.1 h
  exact tV hn ((MR hh h (fH hfr hx) (FK hfr hl) (FK hfr hj) (FK hfr hm))) (by simp [execOp,hop])
 .rename_i t parts hop
  obtain ⟨ps,hps,h⟩:=dI.1 h
  obtain ⟨h1,h2⟩:=LG hfr hps
  refine tV hn ((Qh (rE:=parts.toList.map fun q=>(q.1,a.eval q.2)) h (by simpa using h1) (fun i p q hp hq=>?_))) ?_
  .simp only [bV,aB] at hq
   obtain ⟨q',hq',rfl⟩:=hq
   exact h2 i p q' hp hq'
  .simp only [execOp,hop]
   congr 2
   .congr 1;apply Array.ext';simp
 .rename_i hop;rw [hop] at hpu;cases hpu
 .rename_i hop;rw [hop] at hpu;cases hpu
 .rename_i hop;rw [hop] at hpu;cases hpu
 .rename_i hop;rw [hop] at hpu;cases hpu
 .rename_i fn first captured hop
  obtain ⟨x,hx,h⟩:=dI.1 h
  obtain ⟨y,hy,hK⟩:=dI.1 h
  have rx:=qJ hfr hx
  have ry:=qJ hfr hy
  refine tV hn (s:=pure (.func fn (first.map a.eval) (captured.map a.eval))) (show tK P w E _ K from ⟨_,_,hK,rfl,rfl,?_⟩) (by simp [execOp,hop,Instr.makeFunc])
  exact .fn fn x y _ _ (by simpa using rx.1) (by simpa using ry.1) (fun i c v h1 h2=>rx.2 i c v h1 (by simpa using h2)) (fun i c v h1 h2=>ry.2 i c v h1 (by simpa using h2))
 .rename_i args ts hop
  obtain ⟨l,hl,h⟩:=dI.1 h
  have rl:=qJ hfr hl
  split at h
  .rename_i x
   obtain ⟨t,ht,h⟩:=dI.1 h
   obtain ⟨v0,hv0⟩:∃v0,args.toList.map a.eval=[v0]:=by
    have:=rl.1;simp at this
    match hm:args.toList.map a.eval,(show (args.toList.map a.eval).length=1 by simp [<- this]) with
    |[v0],_=>exact ⟨v0,rfl⟩
   have e:args.map a.eval=#[v0]:=by apply Array.ext';simpa using hv0
   rw [hv0] at rl
   have hr:=rl.2 0 x v0 rfl rfl
   refine tV hn (s:=Builtin.len_ ts o.type #[v0]) ?_ (by simp [execOp,hop,resolve,invoke,builtin,e])
   obtain ⟨r,v,q1,q2,q3,q4⟩:=YJ (ty:=o.type) hh h hr
   refine ⟨r,v,q1,q2,?_,q4⟩
   rw [<- q3]
   simp [Builtin.len_,ht]
  .exact h.elim
 .rename_i hop;rw [hop] at hpu;cases hpu
 .rename_i hop;rw [hop] at hpu;cases hpu
 .rename_i hop;rw [hop] at hpu;cases hpu
 .rename_i hop;rw [hop] at hpu;cases hpu
 .rename_i hop;rw [hop] at hpu;cases hpu
 .rename_i hop;rw [hop] at hpu;cases hpu
 .exact h.elim
end
end Go.Fw
end
section
namespace Go.Fw
variable [iZ]
section
variable {P : Program} {ah:AH} {K:nT->Prop} {id:Nat}
theorem yX {ty row off}{k:AV->Prop}(h:apart ty row off k):∃x,k x/\apart ty row off (fun y=>y=x):=by
 unfold apart at h ⊢
 split at h
 .rename_i hb;simp only [if_pos hb];exact ⟨_,h.2,h.1,rfl⟩
 .rename_i hb;simp only [if_neg hb];obtain ⟨x,hx,hk⟩:=dI.1 h;exact ⟨x,hk,dI.2 ⟨x,hx,rfl⟩⟩
theorem aaf {t a}(h:Ia P ah t a K):∃r,K r/\∀eX:AH,(∀b∈r.rd,eX b=ah b)->Ia P eX t a (fun r'=>r'=r):=by
 obtain ⟨ty,hty,h⟩:=dI.1 h
 cases a with
 |vp row off=>
  obtain ⟨x,hK,hx⟩:=yX h
  refine ⟨_,hK,fun eX _=>dI.2 ⟨ty,hty,?_⟩⟩
  obtain ⟨y,rfl,hy⟩:=yX hx
  exact (show apart ty row off _ from by
   unfold apart at hy ⊢
   split at hy
   .rename_i hb;rw [if_pos hb];exact ⟨hy.1,by rw [hy.2]⟩
   .rename_i hb;rw [if_neg hb];obtain ⟨z,hz,e⟩:=dI.1 hy;exact dI.2 ⟨z,hz,by rw [e]⟩)
 |op b sz i off=>
  dsimp only at h
  split at h
  .rename_i sz' rs hab
   obtain ⟨rfl,h⟩:=h
   obtain ⟨row,hrow,h⟩:=dI.1 h
   obtain ⟨x,hK,hx⟩:=yX h
   refine ⟨_,hK,fun eX hag=>dI.2 ⟨ty,hty,?_⟩⟩
   dsimp only
   rw [hag b (by simp),hab]
   refine ⟨rfl,dI.2 ⟨row,hrow,?_⟩⟩
   unfold apart at hx ⊢
   split at hx
   .rename_i hb;rw [if_pos hb];exact ⟨hx.1,by rw [hx.2]⟩
   .rename_i hb;rw [if_neg hb];obtain ⟨z,hz,e⟩:=dI.1 hx;exact dI.2 ⟨z,hz,by rw [e]⟩
  .rename_i te sz' rs hab
   obtain ⟨rfl,h⟩:=h
   obtain ⟨row,hrow,h⟩:=dI.1 h
   obtain ⟨x,hK,hx⟩:=yX h
   refine ⟨_,hK,fun eX hag=>dI.2 ⟨ty,hty,?_⟩⟩
   dsimp only
   rw [hag b (by simp),hab]
   refine ⟨rfl,dI.2 ⟨row,hrow,?_⟩⟩
   unfold apart at hx ⊢
   split at hx
   .rename_i hb;rw [if_pos hb];exact ⟨hx.1,by rw [hx.2]⟩
   .rename_i hb;rw [if_neg hb];obtain ⟨z,hz,e⟩:=dI.1 hx;exact dI.2 ⟨z,hz,by rw [e]⟩
  .exact h.elim
 |_=>exact h.elim
theorem Ba {ty row off}{k k':AV->Prop}(hk:∀x,k x->k' x)(h:apart ty row off k):apart ty row off k':=by
 unfold apart at h ⊢
 split at h
 .rename_i hb;rw [if_pos hb];exact ⟨h.1,hk _ h.2⟩
 .rename_i hb;rw [if_neg hb];obtain ⟨z,hz,e⟩:=dI.1 h;exact dI.2 ⟨z,hz,hk _ e⟩
theorem Xc {t a v}(h:Ad P ah t a v K):∃r,K r/\∀eX:AH,(∀b∈r.rd,eX b=ah b)->Ad P eX t a v (fun r'=>r'=r):=by
 obtain ⟨ty,hty,h⟩:=dI.1 h
 cases a with
 |op b sz i off=>
  dsimp only at h
  split at h
  .rename_i sz' rs hab
   obtain ⟨rfl,hb,hl,h⟩:=h
   obtain ⟨row,hrow,hle,hK⟩:=dI.1 h
   refine ⟨_,hK,fun eX hag=>dI.2 ⟨ty,hty,?_⟩⟩
   dsimp only
   rw [hag b (by simp),hab]
   exact ⟨rfl,hb,hl,dI.2 ⟨row,hrow,hle,rfl⟩⟩
  .rename_i te sz' rs hab
   obtain ⟨rfl,hb,hl,h⟩:=h
   obtain ⟨row,hrow,hle,hK⟩:=dI.1 h
   refine ⟨_,hK,fun eX hag=>dI.2 ⟨ty,hty,?_⟩⟩
   dsimp only
   rw [hag b (by simp),hab]
   exact ⟨rfl,hb,hl,dI.2 ⟨row,hrow,hle,rfl⟩⟩
  .exact h.elim
 |_=>exact h.elim
theorem MW {s a k}(h:BZ P s a k K):∃r,K r/\r.rd=[]/\BZ P s a k (fun r'=>r'=r):=by
 obtain ⟨f,hf,h0,h⟩:=dI.1 h
 cases a<;>first|exact h.elim|exact ⟨_,h,rfl,dI.2 ⟨f,hf,h0,rfl⟩⟩
theorem Xd {s a k}(h:Q5 P s a k K):∃r,K r/\r.rd=[]/\Q5 P s a k (fun r'=>r'=r):=by
 obtain ⟨f,hf,h⟩:=dI.1 h
 cases a with
 |agg cs=>
  obtain ⟨x,hK,hx⟩:=yX h
  exact ⟨_,hK,rfl,dI.2 ⟨f,hf,Ba (fun y e=>by rw [e]) hx⟩⟩
 |_=>exact h.elim
theorem MX {t x i}(h:wM P t x i K):∃r,K r/\r.rd=[]/\wM P t x i (fun r'=>r'=r):=by
 unfold wM at h ⊢
 split at h
 .split at h
  .obtain ⟨e,he,h0,h⟩:=dI.1 h
   obtain ⟨row,hrow,hl,hK⟩:=dI.1 h
   exact ⟨_,hK,rfl,dI.2 ⟨e,he,h0,dI.2 ⟨row,hrow,hl,rfl⟩⟩⟩
  .obtain ⟨e,he,h0,h1,h2,hK⟩:=dI.1 h;exact ⟨_,hK,rfl,dI.2 ⟨e,he,h0,h1,h2,rfl⟩⟩
  .obtain ⟨e,he,h0,h1,hK⟩:=dI.1 h;exact ⟨_,hK,rfl,dI.2 ⟨e,he,h0,h1,rfl⟩⟩
  .rename_i b sz j off
   obtain ⟨e,he,h0,h1,hK⟩:=dI.1 h;exact ⟨_,hK,rfl,dI.2 ⟨e,he,h0,h1,rfl⟩⟩
  .exact h.elim
 .exact h.elim
theorem Xe {t x i}(h:JB P t x i K):∃r,K r/\r.rd=[]/\JB P t x i (fun r'=>r'=r):=by
 unfold JB at h ⊢
 split at h
 .split at h
  .obtain ⟨hu,h0,h⟩:=h
   obtain ⟨b,hb,hK⟩:=dI.1 h
   exact ⟨_,hK,rfl,hu,h0,dI.2 ⟨b,hb,rfl⟩⟩
  .obtain ⟨e,he,h0,h1,h⟩:=dI.1 h
   obtain ⟨x,hK,hx⟩:=yX h
   exact ⟨_,hK,rfl,dI.2 ⟨e,he,h0,h1,Ba (fun y e=>by rw [e]) hx⟩⟩
  .exact h.elim
 .exact h.elim
theorem Rt {x k}(h:xG x k K):∃r,K r/\r.rd=[]/\xG x k (fun r'=>r'=r):=by
 unfold xG at h ⊢
 split at h
 .obtain ⟨a,ha,hK⟩:=dI.1 h;exact ⟨_,hK,rfl,dI.2 ⟨a,ha,rfl⟩⟩
 .exact h.elim
theorem abH {op t c x y}{K:AV->Prop}(h:Q7 P op t c x y K):∃a,K a/\∀K':AV->Prop,K' a->Q7 P op t c x y K':=by
 unfold Q7 at h ⊢
 split at h
 .exact ⟨_,h.2,fun K' hK'=>⟨h.1,hK'⟩⟩
 .exact ⟨_,h.2,fun K' hK'=>⟨h.1,hK'⟩⟩
 .obtain ⟨rfl,h⟩:=h
  split at h<;>first|exact h.elim|exact ⟨_,h,fun K' hK'=>⟨rfl,hK'⟩⟩|exact ⟨_,h.2,fun K' hK'=>⟨rfl,h.1,hK'⟩⟩
 .obtain ⟨rfl,h⟩:=h
  split at h<;>first|exact h.elim|exact ⟨_,h,fun K' hK'=>⟨rfl,hK'⟩⟩|(obtain ⟨r,hr,hk⟩:=dI.1 h;exact ⟨_,hk,fun K' hK'=>⟨rfl,dI.2 ⟨r,hr,hK'⟩⟩⟩)
 .split at h<;>first|exact h.elim|exact ⟨_,h,fun K' hK'=>hK'⟩|exact ⟨_,h.2,fun K' hK'=>⟨h.1,hK'⟩⟩
 .obtain ⟨h0,h⟩:=h;obtain ⟨r,hr,hk⟩:=dI.1 h;exact ⟨_,hk,fun K' hK'=>⟨h0,dI.2 ⟨r,hr,hK'⟩⟩⟩
 .obtain ⟨h0,h⟩:=h;obtain ⟨r,hr,hk⟩:=dI.1 h;exact ⟨_,hk,fun K' hK'=>⟨h0,dI.2 ⟨r,hr,hK'⟩⟩⟩
 .exact h.elim
theorem abI {op x y}{K:nT->Prop}(h:abq op x y K):∃r,K r/\abq op x y (fun r'=>r'=r):=by
 rcases h with ⟨h1,h3,h4,hK⟩|⟨b,h1,h2,h3,h4,hK⟩
 .exact ⟨_,hK,.inl ⟨h1,h3,h4,rfl⟩⟩
 .exact ⟨_,hK,.inr ⟨b,h1,h2,h3,h4,rfl⟩⟩
theorem aer {op x}{K:AV->Prop}(h:aUn op x K):∃a,K a/\∀K':AV->Prop,K' a->aUn op x K':=by
 unfold aUn at h ⊢
 split at h<;>first|exact h.elim|exact ⟨_,h,fun K' hK'=>hK'⟩
theorem Ru {s d x}{K:AV->Prop}(h:AX P s d x K):∃a,K a/\∀K':AV->Prop,K' a->AX P s d x K':=by
 unfold AX at h ⊢
 obtain ⟨h0,h⟩:=h
 split at h
 .exact ⟨_,h,fun K' hK'=>⟨h0,hK'⟩⟩
 .exact ⟨_,h,fun K' hK'=>⟨h0,hK'⟩⟩
 .obtain ⟨r,hr,h1,h2,hk⟩:=dI.1 h;exact ⟨_,hk,fun K' hK'=>⟨h0,dI.2 ⟨r,hr,h1,h2,hK'⟩⟩⟩
 .exact ⟨_,h,fun K' hK'=>⟨h0,hK'⟩⟩
 .exact ⟨_,h.2.2,fun K' hK'=>⟨h0,h.1,h.2.1,hK'⟩⟩
 .exact h.elim
theorem rY {o d}{k:Nat->Prop}(h:Gf o d k):∃n,k n/\∀k':Nat->Prop,k' n->Gf o d k':=by
 unfold Gf at h ⊢
 split at h
 .exact ⟨_,h,fun k' h=>h⟩
 .exact ⟨_,h.2,fun k' h'=>⟨h.1,h'⟩⟩
 .exact h.elim
theorem Xf {t x lo hi mx}(h:JC P t x lo hi mx K):∃r,K r/\r.rd=[]/\JC P t x lo hi mx (fun r'=>r'=r):=by
 unfold JC at h ⊢
 split at h
 .obtain ⟨hu,hm,h⟩:=h
  obtain ⟨l,h,hl⟩:=rY h
  obtain ⟨j,h,hj⟩:=rY h
  obtain ⟨h1,h2,hK⟩:=h
  exact ⟨_,hK,rfl,hu,hm,hl _ (hj _ ⟨h1,h2,rfl⟩)⟩
 .obtain ⟨e,he,hr,hb,h⟩:=dI.1 h
  obtain ⟨l,h,hl⟩:=rY h
  obtain ⟨j,h,hj⟩:=rY h
  obtain ⟨m,h,hm⟩:=rY h
  obtain ⟨h1,h2,h3,hK⟩:=h
  exact ⟨_,hK,rfl,dI.2 ⟨e,he,hr,hb,hl _ (hj _ (hm _ ⟨h1,h2,h3,rfl⟩))⟩⟩
 .obtain ⟨e,he,hr,hb,h⟩:=dI.1 h
  obtain ⟨l,h,hl⟩:=rY h
  obtain ⟨j,h,hj⟩:=rY h
  obtain ⟨m,h,hm⟩:=rY h
  obtain ⟨h1,h2,h3,hK⟩:=h
  exact ⟨_,hK,rfl,dI.2 ⟨e,he,hr,hb,hl _ (hj _ (hm _ ⟨h1,h2,h3,rfl⟩))⟩⟩
 .exact h.elim
theorem Xg {t parts}(h:Q8 P t parts K):∃r,K r/\r.rd=[]/\Q8 P t parts (fun r'=>r'=r):=by
 obtain ⟨z,hz,h⟩:=dI.1 h
 obtain ⟨pl,hpl,h⟩:=dI.1 h
 obtain ⟨cs,hcs,hK⟩:=dI.1 h
 exact ⟨_,hK,rfl,dI.2 ⟨z,hz,dI.2 ⟨pl,hpl,dI.2 ⟨cs,hcs,rfl⟩⟩⟩⟩
theorem Lh {t len parts}(h:pO P t id len parts K):∃r,K r/\r.rd=[]/\pO P t id len parts (fun r'=>r'=r):=by
 unfold pO at h ⊢
 split at h
 .obtain ⟨i,hi,h⟩:=dI.1 h
  obtain ⟨z,hz,h1,h2,h⟩:=dI.1 h
  obtain ⟨cs,hcs,hK⟩:=dI.1 h
  exact ⟨_,hK,rfl,dI.2 ⟨i,hi,dI.2 ⟨z,hz,h1,h2,dI.2 ⟨cs,hcs,rfl⟩⟩⟩⟩
 .exact h.elim
theorem Xh {t}(h:Q_ P t id K):∃r,K r/\r.rd=[]/\Q_ P t id (fun r'=>r'=r):=by
 rcases h with h|h
 rotate_left
 .obtain ⟨z,hz,ha,hK⟩:=dI.1 h
  exact ⟨_,hK,rfl,.inr (dI.2 ⟨z,hz,ha,rfl⟩)⟩
 suffices h':∃r,K r/\r.rd=[]/\Q9 P t id (fun r'=>r'=r) from let ⟨r,h1,h2,h3⟩:=h';⟨r,h1,h2,.inl h3⟩
 obtain ⟨z,hz,hK⟩:=dI.1 h
 unfold Q9
 cases ha:ao6 P t with
 |true=>rw [ha] at hK;exact ⟨_,hK,rfl,dI.2 ⟨z,hz,rfl⟩⟩
 |false=>rw [ha] at hK;exact ⟨_,hK,rfl,dI.2 ⟨z,hz,rfl⟩⟩
theorem MZ {t l c}(h:rQ P t id l c K):∃r,K r/\r.rd=[]/\rQ P t id l c (fun r'=>r'=r):=by
 unfold rQ at h ⊢
 split at h
 .obtain ⟨i,hi,h⟩:=dI.1 h
  obtain ⟨z,hz,h1,h2,h3,h4,h5,hK⟩:=dI.1 h
  exact ⟨_,hK,rfl,dI.2 ⟨i,hi,dI.2 ⟨z,hz,h1,h2,h3,h4,h5,rfl⟩⟩⟩
 .exact h.elim
theorem G9 {n y}{k:List (List AV)->List Nat->Prop}(h:aoQ ah n y k):∃ys rd,k ys rd/\∀eX:AH,(∀b∈rd,eX b=ah b)->∀k':List (List AV)->List Nat->Prop,k' ys rd->aoQ eX n y k':=by
 unfold aoQ at h ⊢
 split at h
 .exact ⟨_,_,h.2,fun eX _ k' hk=>⟨h.1,hk⟩⟩
 .rename_i b sz off len
  obtain ⟨h0,h⟩:=h
  split at h
  .rename_i sz' rs hab
   obtain ⟨h1,h2,h⟩:=h
   exact ⟨_,_,h,fun eX hag k' hk=>⟨h0,by rw [hag b (by simp),hab];exact ⟨h1,h2,hk⟩⟩⟩
  .exact h.elim
 .exact ⟨_,_,h.2,fun eX _ k' hk=>⟨h.1,hk⟩⟩
 .exact h.elim
theorem EC {t t2 x y}(h:zI P id ah t t2 x y K):∃r,K r/\∀eX:AH,(∀b∈r.rd,eX b=ah b)->zI P id eX t t2 x y (fun r'=>r'=r):=by
 obtain ⟨e,he,h1,h2,h3,h4,h⟩:=dI.1 h
 obtain ⟨ys,rd,h,hy⟩:=G9 h
 cases x with
 |sl rows full=>
  obtain ⟨g1,g2,g3,g4,hK⟩:=h
  exact ⟨_,hK,fun eX hag=>dI.2 ⟨e,he,h1,h2,h3,h4,hy eX hag _ ⟨g1,g2,g3,g4,rfl⟩⟩⟩
 |os b sz off len=>
  obtain ⟨g0,h⟩:=h
  split at h
  .rename_i sz' rs hab
   obtain ⟨g1,g2,g3,hK⟩:=h
   refine ⟨_,hK,fun eX hag=>dI.2 ⟨e,he,h1,h2,h3,h4,hy eX (fun b' hb'=>hag b' (by simp [hb'])) _ ⟨g0,?_⟩⟩⟩
   rw [hag b (by simp),hab]
   exact ⟨g1,g2,g3,rfl⟩
  .exact h.elim
 |_=>exact h.elim
theorem aag {t t2 x y}(h:Yy P id ah t t2 x y K):∃r,K r/\∀eX:AH,(∀b∈r.rd,eX b=ah b)->Yy P id eX t t2 x y (fun r'=>r'=r):=by
 obtain ⟨el,m,rd,hu,h⟩:=h
 split at h
 .obtain ⟨h1,hK⟩:=h
  obtain ⟨r0,rfl,h2⟩:=EC h1
  exact ⟨_,hK,fun eX hag=>⟨el,m,rd,hu,h2 eX hag,rfl⟩⟩
 .rename_i b sz off len
  split at h
  .rename_i ty sz' rs hab
   obtain ⟨h0,hof,hb,h1,hK⟩:=h
   obtain ⟨r0,rfl,h2⟩:=EC h1
   refine ⟨_,hK,fun eX hag=>⟨el,m,rd,hu,?_⟩⟩
   show (match eX b with|some (.tC ty sz' rs)=>_|_=>False)
   rw [hag b hb,hab]
   refine ⟨h0,hof,hb,h2 _ fun b2 hb2=>?_,rfl⟩
   by_cases e:b2=b
   .rw [eY e,eY e]
   .rw [aoE e,aoE e];exact hag b2 hb2
  .exact h.elim
 .exact h.elim
theorem aah {t t2 x y}(h:Yz P id ah t t2 x y K):∃r,K r/\∀eX:AH,(∀b∈r.rd,eX b=ah b)->Yz P id eX t t2 x y (fun r'=>r'=r):=by
 rcases h with h|h
 .obtain ⟨r,h1,h2⟩:=EC h;exact ⟨r,h1,fun eX hag=>.inl (h2 eX hag)⟩
 .obtain ⟨r,h1,h2⟩:=aag h;exact ⟨r,h1,fun eX hag=>.inr (h2 eX hag)⟩
theorem abJ {t x}(h:JD P ah t x K):∃r,K r/\∀eX:AH,(∀b∈r.rd,eX b=ah b)->JD P eX t x (fun r'=>r'=r):=by
 unfold JD at h ⊢
 split at h
 .exact ⟨_,h,fun _ _=>rfl⟩
 .exact ⟨_,h,fun _ _=>rfl⟩
 .exact ⟨_,h,fun _ _=>rfl⟩
 .exact ⟨_,h,fun _ _=>rfl⟩
 .rename_i b hu
  split at h
  .rename_i es hab;exact ⟨_,h,fun eX hag=>by rw [hag b (by simp),hab]⟩
  .exact h.elim
 .exact h.elim
theorem KJ {mx l}{K:AV->Prop}(h:Cb mx l K):∃a,K a/\∀K':AV->Prop,K' a->Cb mx l K':=by
 unfold Cb at h ⊢
 split at h
 .exact ⟨_,h.2,fun K' hK=>⟨h.1,hK⟩⟩
 .exact h.elim
 mutual
theorem Qo {ah eX:AH}:∀{a:AV},(∀b∈a.refs,eX b=ah b)->ny eX a=ny ah a
  | .p _,_=>rfl
  | .str _,_=>rfl
  | .agg cs,h=>by simp only [ny,qK (l:=cs) h]
  | .kS cs,h=>by simp only [ny,qK (l:=cs) h]
  | .sl rows _,h=>by simp only [ny,ED (l:=rows) h]
  | .vp row _,h=>by simp only [ny,qK (l:=row) h]
  | .os b sz off len,h=>by simp only [ny,h b (by simp [AV.refs])]
  | .op b sz row off,h=>by simp only [ny,h b (by simp [AV.refs])]
  | .fn f x y,h=>by
   simp only [AV.refs,aN] at h
   simp only [ny,qK (l:=x) (fun b hb=>h b (.inl hb)),qK (l:=y) (fun b hb=>h b (.inr hb))]
  | .wI t v,h=>by simp only [ny,Qo (a:=v) h]
  | .mp b,_=>rfl
  | .nan,_=>rfl
theorem qK {ah eX:AH}:∀{l:List AV},(∀b∈jR l,eX b=ah b)->kN eX l=kN ah l
  |[],_=>rfl
  |a::r,h=>by
   simp only [jR,aN] at h
   simp only [kN,Qo (a:=a) (fun b hb=>h b (.inl hb)),qK (l:=r) (fun b hb=>h b (.inr hb))]
theorem ED {ah eX:AH}:∀{l:List (List AV)},(∀b∈jI l,eX b=ah b)->uX eX l=uX ah l
  |[],_=>rfl
  |a::r,h=>by
   simp only [jI,aN] at h
   simp only [uX,qK (l:=a) (fun b hb=>h b (.inl hb)),ED (l:=r) (fun b hb=>h b (.inr hb))]
end
theorem JQ {ah eX:AH}:∀(n:Nat) {l:List Nat},(∀b∈rch ah n l,eX b=ah b)->∀b∈l,vP eX n b=vP ah n b
 |0,l,h,b,hb=>h b hb
 |n+1,l,h,b,hb=>by
  simp only [rch,aN] at h
  have ih:=JQ n (l:=l.flatMap (pR ah)) (fun b hb=>h b (.inr hb))
  simp only [vP,h b (.inl hb)]
  cases hk:ah b with
  |none=>rfl
  |some k=>
   cases k with
   |rows sz rs=>
    simp only
    rw [ED (l:=rs) (ah:=vP ah n) (eX:=vP eX n) (fun c hc=>ih c (List.mem_flatMap.2 ⟨b,hb,by simp only [pR,hk];exact hc⟩))]
   |map es=>rfl
   |it m n k=>rfl
   |tC ty sz rs=>rfl
theorem Qp {ah:AH}{b sz:Nat}{rs:List (List AV)}(h:ah b=some (.rows sz rs))(hc:iM rs=true):∀n,vP ah n b=some (.rows sz rs)
 |0=>h
 |n+1=>by simp only [vP,h,hc,cond_true]
theorem Io {α β:Type}{f g:α->List β}:∀{l:List α},(∀b∈l,f b=g b)->l.flatMap f=l.flatMap g
 |[],_=>rfl
 |a::r,h=>by rw [List.flatMap_cons,List.flatMap_cons,h a bD,Io fun b hb=>h b (aQ _ hb)]
theorem JR {ah eX:AH}:∀(n:Nat) {l:List Nat},(∀b∈rch ah n l,eX b=ah b)->rch eX n l=rch ah n l
 |0,l,h=>rfl
 |n+1,l,h=>by
  simp only [rch,aN] at h
  have e:l.flatMap (pR eX)=l.flatMap (pR ah):=Io fun b hb=>by simp only [pR,h b (.inl hb)]
  simp only [rch,e]
  rw [JR n (fun b hb=>h b (.inr hb))]
theorem yH {ah:AH}{b sz len:Nat}{rs:List (List AV)}(h:ah b=some (.rows sz rs))(hc:iM rs=true)(hl:rs.length=len):ny (vP ah aoK) (.os b sz 0 len)=some (.sl rs false):=by
 subst hl
 simp [ny,Qp h hc aoK,hc]
theorem aai {f args}(h:YA P ah f args K):∃r,K r/\∀eX:AH,(∀b∈r.rd,eX b=ah b)->YA P eX f args (fun r'=>r'=r):=by
 obtain ⟨az,has,as',r,hwk,hpc,hcl⟩:=dI.1 h
 rcases hcl with ⟨hcl,hK⟩|hK
 .exact ⟨_,hK,fun eX hag=>dI.2 ⟨az,by rw [qK (JQ aoK hag)];exact has,as',r,hwk,hpc,.inl ⟨hcl,by rw [JR aoK hag]⟩⟩⟩
 .exact ⟨_,hK,fun eX hag=>dI.2 ⟨az,by rw [qK (JQ aoK hag)];exact has,as',r,hwk,hpc,.inr (by rw [JR aoK hag])⟩⟩
theorem Ip {t r}(h:AY P t id r K):∃x,K x/\x.rd=[]/\AY P t id r (fun r'=>r'=x):=⟨_,h.2,rfl,h.1,rfl⟩
theorem UO {t m k c}(h:Ce P ah t m k c K):∃r,K r/\∀eX:AH,(∀b∈r.rd,eX b=ah b)->Ce P eX t m k c (fun r'=>r'=r):=by
 unfold Ce at h ⊢
 split at h
 .rename_i kt et hu
  obtain ⟨h1,h⟩:=h
  rw [dI] at h
  obtain ⟨z,hz,h⟩:=h
  unfold abr at h
  split at h
  .exact ⟨_,h,fun eX _=>⟨h1,dI.2 ⟨z,hz,rfl⟩⟩⟩
  .rename_i b
   split at h
   .rename_i es hb
    obtain ⟨r,hr,hK⟩:=dI.1 h
    refine ⟨_,hK,fun eX hag=>⟨h1,dI.2 ⟨z,hz,?_⟩⟩⟩
    unfold abr
    dsimp only
    rw [hag b (by simp),hb]
    exact dI.2 ⟨r,hr,rfl⟩
   .exact h.elim
  .exact h.elim
 .exact h.elim
theorem Xi {t m}(h:GU P ah id t m K):∃r,K r/\∀eX:AH,(∀b∈r.rd,eX b=ah b)->GU P eX id t m (fun r'=>r'=r):=by
 unfold GU at h ⊢
 split at h
 .split at h
  .rename_i b
   split at h
   .rename_i es hb
    refine ⟨_,h,fun eX hag=>?_⟩
    dsimp only
    rw [hag b (by simp),hb]
   .exact h.elim
  .exact h.elim
 .exact h.elim
theorem Xj {it}(h:JF ah it K):∃r,K r/\∀eX:AH,(∀b∈r.rd,eX b=ah b)->JF eX it (fun r'=>r'=r):=by
 unfold JF at h ⊢
 split at h
 .rename_i q sz
  split at h
  .rename_i b n k hq
   unfold LD at h
   split at h
   .rename_i es hb
    obtain ⟨hn,h⟩:=h
    obtain ⟨e,he,hK⟩:=dI.1 h
    refine ⟨_,hK,fun eX hag=>?_⟩
    rw [hag q (by simp),hq]
    dsimp only
    unfold LD
    rw [hag b (by simp),hb]
    exact ⟨hn,dI.2 ⟨e,he,rfl⟩⟩
   .exact h.elim
  .exact h.elim
 .exact h.elim
theorem aaj {it str}(h:Qb ah it str K):∃r,K r/\∀eX:AH,(∀b∈r.rd,eX b=ah b)->Qb eX it str (fun r'=>r'=r):=by
 unfold Qb at h ⊢
 split at h
 .split at h
  .rename_i q sz
   split at h
   .rename_i b n k hq
    unfold L9 at h
    split at h
    .rename_i es hb
     obtain ⟨hn,h⟩:=h
     split at h
     .rename_i hk
      refine ⟨_,h,fun eX hag=>?_⟩
      rw [hag q (by simp),hq]
      dsimp only
      unfold L9
      rw [hag b (by simp),hb]
      exact ⟨hn,by rw [hk]⟩
     .rename_i hk
      obtain ⟨hk1,h⟩:=h
      obtain ⟨e,he,hK⟩:=dI.1 h
      refine ⟨_,hK,fun eX hag=>?_⟩
      rw [hag q (by simp),hq]
      dsimp only
      unfold L9
      rw [hag b (by simp),hb]
      exact ⟨hn,by rw [hk];exact ⟨hk1,dI.2 ⟨e,he,rfl⟩⟩⟩
    .exact h.elim
   .exact h.elim
  .exact h.elim
 .exact h.elim
theorem KL {t m k v}(h:Ci P ah t m k v K):∃r,K r/\∀eX:AH,(∀b∈r.rd,eX b=ah b)->Ci P eX t m k v (fun r'=>r'=r):=by
 unfold Ci at h ⊢
 split at h
 .rename_i kt et hu
  obtain ⟨h1,h2,h⟩:=h
  unfold Uu at h
  split at h
  .rename_i b
   split at h
   .rename_i es hb
    obtain ⟨r,hr,hs,hK⟩:=dI.1 h
    refine ⟨_,hK,fun eX hag=>⟨h1,h2,?_⟩⟩
    unfold Uu
    dsimp only
    rw [hag b (by simp),hb]
    exact dI.2 ⟨r,hr,hs,rfl⟩
   .exact h.elim
  .exact h.elim
 .exact h.elim
theorem aak {t x y}(h:Uw P ah t x y K):∃r,K r/\∀eX:AH,(∀b∈r.rd,eX b=ah b)->Uw P eX t x y (fun r'=>r'=r):=by
 unfold Uw at h
 rw [dI] at h
 obtain ⟨e,he,h1,h⟩:=h
 have h':=G9 h
 clear h
 obtain ⟨ys,rd,h,hy⟩:=h'
 split at h
 .exact ⟨_,h,fun eX hag=>dI.2 ⟨e,he,h1,hy eX hag _ rfl⟩⟩
 .rename_i b sz off len
  obtain ⟨h2,h⟩:=h
  split at h
  .rename_i sz' rs hab
   obtain ⟨h3,h4,hK⟩:=h
   refine ⟨_,hK,fun eX hag=>dI.2 ⟨e,he,h1,hy eX (fun b' hb'=>hag b' (by simp [hb'])) _ ⟨h2,?_⟩⟩⟩
   rw [hag b (by simp),hab]
   exact ⟨h3,h4,rfl⟩
  .exact h.elim
 .exact h.elim
theorem UQ {t x lo hi mx}(h:B_ P ah t x lo hi mx K):∃r,K r/\∀eX:AH,(∀b∈r.rd,eX b=ah b)->B_ P eX t x lo hi mx (fun r'=>r'=r):=by
 cases x with
 |op b sz i off=>
  obtain ⟨e,he,hsz,hoff,hbig,h9⟩:=dI.1 h
  clear h
  revert h9
  cases hb:ah b with
  |none=>intro h;exact h.elim
  |some kk=>
  cases kk with
  |map es=>intro h;exact h.elim
  |it m n k=>intro h;exact h.elim
  |tC ty sz rs=>intro h;exact h.elim
  |rows sz' rs=>
   intro h
   obtain ⟨h1,h2,h3,h⟩:=h
   obtain ⟨l,h,hl⟩:=rY h
   obtain ⟨j,h,hj⟩:=rY h
   obtain ⟨m,h,hm⟩:=rY h
   obtain ⟨a1,a2,a3,hK⟩:=h
   exact ⟨_,hK,fun eX hag=>dI.2 ⟨e,he,hsz,hoff,hbig,by rw [hag b (by simp),hb];exact ⟨h1,h2,h3,hl _ (hj _ (hm _ ⟨a1,a2,a3,rfl⟩))⟩⟩⟩
 |_=>
  unfold B_ at h
  obtain ⟨r,hK,-,hr⟩:=Xf h
  exact ⟨r,hK,fun eX _=>by unfold B_;exact hr⟩
theorem Xk {t x}(h:Rf P ah t x K):∃r,K r/\∀eX:AH,(∀b∈r.rd,eX b=ah b)->Rf P eX t x (fun r'=>r'=r):=by
 obtain ⟨e,he,hne,h⟩:=dI.1 h
 obtain ⟨z,hz,hzl,h⟩:=dI.1 h
 cases x with
 |os b sz off len=>
  obtain ⟨rfl,h⟩:=h
  split at h
  .rename_i sz' rs hb
   obtain ⟨h1,h2,hK⟩:=h
   exact ⟨_,hK,fun eX hag=>dI.2 ⟨e,he,hne,dI.2 ⟨z,hz,hzl,rfl,by rw [hag b (by simp),hb];exact ⟨h1,h2,rfl⟩⟩⟩⟩
  .exact h.elim
 |_=>exact h.elim
theorem aal {s d x}(h:Ie P ah s d x K):∃r,K r/\∀eX:AH,(∀b∈r.rd,eX b=ah b)->Ie P eX s d x (fun r'=>r'=r):=by
 unfold Ie at h ⊢
 split at h
 .obtain ⟨h1,h2,h3,h⟩:=h
  obtain ⟨ys,rd,h,hy⟩:=G9 h
  obtain ⟨l,hl,hK⟩:=dI.1 h
  exact ⟨_,hK,fun eX hag=>⟨h1,h2,h3,hy eX hag _ (dI.2 ⟨l,hl,rfl⟩)⟩⟩
 .obtain ⟨r,hK,hl⟩:=Ru h
  exact ⟨_,hK,fun eX _=>hl _ rfl⟩
theorem Rw {t x}(h:Ib P t x K):∃r,K r/\Ib P t x (fun r'=>r'=r):=⟨_,h.2,h.1,rfl⟩
theorem OZ {x}(h:yV x K):∃r,K r/\yV x (fun r'=>r'=r):=by
 unfold yV at h ⊢
 split at h
 .exact ⟨_,h,rfl⟩
 .exact ⟨_,h,rfl⟩
 .exact ⟨_,h,rfl⟩
 .exact h.elim
theorem UR {x a c}(h:FD P x a c K):∃r,K r/\FD P x a c (fun r'=>r'=r):=by
 unfold FD at h ⊢
 rw [dI] at h
 obtain ⟨d,hd,h⟩:=h
 unfold aAs at h
 split at h
 .rename_i hq
  obtain ⟨i,hi,hm,hK⟩:=dI.1 h
  exact ⟨_,hK,dI.2 ⟨d,hd,by unfold aAs;rw [hq];exact dI.2 ⟨i,hi,hm,rfl⟩⟩⟩
 .rename_i hq
  rcases h with ⟨e,hK⟩|⟨e,e2,h⟩
  .exact ⟨_,hK,dI.2 ⟨d,hd,by unfold aAs;rw [hq];exact .inl ⟨e,rfl⟩⟩⟩
  .obtain ⟨z,hz,hK⟩:=dI.1 h
   exact ⟨_,hK,dI.2 ⟨d,hd,by unfold aAs;rw [hq];exact .inr ⟨e,e2,dI.2 ⟨z,hz,rfl⟩⟩⟩⟩
 .obtain ⟨e2,h⟩:=h
  obtain ⟨z,hz,hK⟩:=dI.1 h
  refine ⟨_,hK,dI.2 ⟨d,hd,?_⟩⟩
  unfold aAs
  cases Ic d<;>exact ⟨e2,dI.2 ⟨z,hz,rfl⟩⟩
 .exact h.elim
def apb (fr fr':nP)(xs:List Operand):Prop:=∀t,Operand.tmp t∈xs->ji fr' t=ji fr t
theorem f_ {fr fr':nP}{x:Operand}{xs:List Operand}(h:apb fr fr' xs)(hx:x∈xs):ev fr' x=ev fr x:=by
 cases x with
 |tmp t=>exact h t hx
 |_=>rfl
theorem qX {fr fr':nP}:∀{l xs:List Operand},apb fr fr' xs->(∀x∈l,x∈xs)->Qa fr' l=Qa fr l
 |[],xs,_,_=>rfl
 |x::r,xs,h,hm=>by
  have e:=qX (l:=r) h (fun y hy=>hm y (aQ _ hy))
  simp only [Qa,f_ h (hm x (by simp)),e]
theorem yY {α:Type}{fr fr':nP}:∀{l:List (α×Operand)} {xs:List Operand},apb fr fr' xs->(∀x∈l,x.2∈xs)->OV fr' l=OV fr l
 |[],xs,_,_=>rfl
 |(i,x)::r,xs,h,hm=>by
  have e:=yY (l:=r) h (fun y hy=>hm y (aQ _ hy))
  simp only [OV,f_ h (hm (i,x) (by simp)),e]
theorem aes {fr:nP}{op:Op}(h:JG P id fr ah op K):∃r,K r/\∀(fr':nP) (eX:AH),apb fr fr' op.operands.toList->(∀b∈r.rd,eX b=ah b)->JG P id fr' eX op (fun r'=>r'=r):=by
 unfold JG at h
 dsimp only at h
 split at h
 .obtain ⟨y,hy,hK⟩:=dI.1 h
  exact ⟨_,hK,fun fr' eX hf _=>dI.2 ⟨y,by rw [f_ hf (by simp [Op.operands])];exact hy,rfl⟩⟩
 .obtain ⟨y,hy,hK⟩:=dI.1 h
  exact ⟨_,hK,fun fr' eX hf _=>dI.2 ⟨y,by rw [f_ hf (by simp [Op.operands])];exact hy,rfl⟩⟩
 .rename_i c x y
  obtain ⟨cv,hc,h⟩:=dI.1 h
  split at h
  .rename_i t
   rw [qH] at h
   split at h
   .rename_i ht;obtain ⟨z,hz,hK⟩:=dI.1 h
    refine ⟨_,hK,fun fr' eX hf _=>dI.2 ⟨_,by rw [f_ hf (by simp [Op.operands])];exact hc,?_⟩⟩
    dsimp only
    rw [qH,if_pos ht]
    exact dI.2 ⟨z,by rw [f_ hf (by simp [Op.operands])];exact hz,rfl⟩
   .rename_i ht;obtain ⟨z,hz,hK⟩:=dI.1 h
    refine ⟨_,hK,fun fr' eX hf _=>dI.2 ⟨_,by rw [f_ hf (by simp [Op.operands])];exact hc,?_⟩⟩
    dsimp only
    rw [qH,if_neg ht]
    exact dI.2 ⟨z,by rw [f_ hf (by simp [Op.operands])];exact hz,rfl⟩
  .exact h.elim
 .obtain ⟨y,hy,h⟩:=dI.1 h
  obtain ⟨r,hK,hl⟩:=aaf h
  exact ⟨r,hK,fun fr' eX hf ha=>dI.2 ⟨y,by rw [f_ hf (by simp [Op.operands])];exact hy,hl eX ha⟩⟩
 .obtain ⟨x',hx,h⟩:=dI.1 h
  obtain ⟨y',hy,h⟩:=dI.1 h
  obtain ⟨r,hK,hl⟩:=Xc h
  exact ⟨r,hK,fun fr' eX hf ha=>dI.2 ⟨x',by rw [f_ hf (by simp [Op.operands])];exact hx,dI.2 ⟨y',by rw [f_ hf (by simp [Op.operands])];exact hy,hl eX ha⟩⟩⟩
 .obtain ⟨y,hy,h⟩:=dI.1 h
  obtain ⟨r,hK,-,hl⟩:=MW h
  exact ⟨r,hK,fun fr' eX hf ha=>dI.2 ⟨y,by rw [f_ hf (by simp [Op.operands])];exact hy,hl⟩⟩
 .obtain ⟨y,hy,h⟩:=dI.1 h
  obtain ⟨r,hK,-,hl⟩:=Xd h
  exact ⟨r,hK,fun fr' eX hf ha=>dI.2 ⟨y,by rw [f_ hf (by simp [Op.operands])];exact hy,hl⟩⟩
 .obtain ⟨x',hx,h⟩:=dI.1 h
  obtain ⟨y',hy,h⟩:=dI.1 h
  obtain ⟨r,hK,-,hl⟩:=MX h
  exact ⟨r,hK,fun fr' eX hf ha=>dI.2 ⟨x',by rw [f_ hf (by simp [Op.operands])];exact hx,dI.2 ⟨y',by rw [f_ hf (by simp [Op.operands])];exact hy,hl⟩⟩⟩
 .obtain ⟨x',hx,h⟩:=dI.1 h
  obtain ⟨y',hy,h⟩:=dI.1 h
  obtain ⟨r,hK,-,hl⟩:=Xe h
  exact ⟨r,hK,fun fr' eX hf ha=>dI.2 ⟨x',by rw [f_ hf (by simp [Op.operands])];exact hx,dI.2 ⟨y',by rw [f_ hf (by simp [Op.operands])];exact hy,hl⟩⟩⟩
 .obtain ⟨y,hy,h⟩:=dI.1 h
  obtain ⟨r,hK,-,hl⟩:=Rt h
  exact ⟨r,hK,fun fr' eX hf ha=>dI.2 ⟨y,by rw [f_ hf (by simp [Op.operands])];exact hy,hl⟩⟩
 .obtain ⟨x',hx,h⟩:=dI.1 h
  obtain ⟨y',hy,h⟩:=dI.1 h
  rcases h with h|h
  .obtain ⟨r,hK,hl⟩:=abH h
   exact ⟨_,hK,fun fr' eX hf ha=>dI.2 ⟨x',by rw [f_ hf (by simp [Op.operands])];exact hx,dI.2 ⟨y',by rw [f_ hf (by simp [Op.operands])];exact hy,.inl (hl _ rfl)⟩⟩⟩
  .obtain ⟨r,hK,hl⟩:=abI h
   exact ⟨r,hK,fun fr' eX hf ha=>dI.2 ⟨x',by rw [f_ hf (by simp [Op.operands])];exact hx,dI.2 ⟨y',by rw [f_ hf (by simp [Op.operands])];exact hy,.inr hl⟩⟩⟩
 .obtain ⟨y,hy,h⟩:=dI.1 h
  obtain ⟨r,hK,hl⟩:=aer h
  exact ⟨_,hK,fun fr' eX hf ha=>dI.2 ⟨y,by rw [f_ hf (by simp [Op.operands])];exact hy,hl _ rfl⟩⟩
 .obtain ⟨y,hy,h⟩:=dI.1 h
  obtain ⟨r,hK,hl⟩:=aal h
  exact ⟨_,hK,fun fr' eX hf ha=>dI.2 ⟨y,by rw [f_ hf (by simp [Op.operands])];exact hy,hl eX ha⟩⟩
 .obtain ⟨r,hK,-,hl⟩:=Ip h
  exact ⟨r,hK,fun fr' eX hf ha=>hl⟩
 .obtain ⟨y,hy,h⟩:=dI.1 h
  obtain ⟨r,hK,-,hl⟩:=Ip h
  exact ⟨r,hK,fun fr' eX hf ha=>dI.2 ⟨y,by rw [f_ hf (by simp [Op.operands])];exact hy,hl⟩⟩
 .obtain ⟨x',hx,h⟩:=dI.1 h
  obtain ⟨y',hy,h⟩:=dI.1 h
  obtain ⟨r,hK,hl⟩:=UO h
  exact ⟨r,hK,fun fr' eX hf ha=>dI.2 ⟨x',by rw [f_ hf (by simp [Op.operands])];exact hx,dI.2 ⟨y',by rw [f_ hf (by simp [Op.operands])];exact hy,hl eX ha⟩⟩⟩
 .obtain ⟨x',hx,h⟩:=dI.1 h
  obtain ⟨y',hy,h⟩:=dI.1 h
  obtain ⟨z',hz,h⟩:=dI.1 h
  obtain ⟨r,hK,hl⟩:=KL h
  exact ⟨r,hK,fun fr' eX hf ha=>dI.2 ⟨x',by rw [f_ hf (by simp [Op.operands])];exact hx,dI.2 ⟨y',by rw [f_ hf (by simp [Op.operands])];exact hy,dI.2 ⟨z',by rw [f_ hf (by simp [Op.operands])];exact hz,hl eX ha⟩⟩⟩⟩
 .obtain ⟨x',hx,h⟩:=dI.1 h
  obtain ⟨y',hy,h⟩:=dI.1 h
  obtain ⟨z',hz,h⟩:=dI.1 h
  obtain ⟨r,hK,hl⟩:=KL h
  exact ⟨r,hK,fun fr' eX hf ha=>dI.2 ⟨x',by rw [f_ hf (by simp [Op.operands])];exact hx,dI.2 ⟨y',by rw [f_ hf (by simp [Op.operands])];exact hy,dI.2 ⟨z',by rw [f_ hf (by simp [Op.operands])];exact hz,hl eX ha⟩⟩⟩⟩
 .obtain ⟨y,hy,h⟩:=dI.1 h
  obtain ⟨r,hK,hl⟩:=Xi h
  exact ⟨_,hK,fun fr' eX hf ha=>dI.2 ⟨y,by rw [f_ hf (by simp [Op.operands])];exact hy,hl eX ha⟩⟩
 .obtain ⟨y,hy,h⟩:=dI.1 h
  obtain ⟨r,hK,hl⟩:=aaj h
  exact ⟨_,hK,fun fr' eX hf ha=>dI.2 ⟨y,by rw [f_ hf (by simp [Op.operands])];exact hy,hl eX ha⟩⟩
 .obtain ⟨y,hy,h⟩:=dI.1 h
  obtain ⟨r,hK,hl⟩:=Xj h
  exact ⟨_,hK,fun fr' eX hf ha=>dI.2 ⟨y,by rw [f_ hf (by simp [Op.operands])];exact hy,hl eX ha⟩⟩
 .obtain ⟨y,hy,h⟩:=dI.1 h
  obtain ⟨r,hK,hl⟩:=Rw h
  exact ⟨_,hK,fun fr' eX hf ha=>dI.2 ⟨y,by rw [f_ hf (by simp [Op.operands])];exact hy,hl⟩⟩
 .obtain ⟨y,hy,h⟩:=dI.1 h
  obtain ⟨r,hK,hl⟩:=UR h
  exact ⟨_,hK,fun fr' eX hf ha=>dI.2 ⟨y,by rw [f_ hf (by simp [Op.operands])];exact hy,hl⟩⟩
 .obtain ⟨y,hy,h⟩:=dI.1 h
  obtain ⟨r,hK,hl⟩:=OZ h
  exact ⟨_,hK,fun fr' eX hf ha=>dI.2 ⟨y,by rw [f_ hf (by simp [Op.operands])];exact hy,hl⟩⟩
 .rename_i t x lo hi mx
  obtain ⟨x',hx,h⟩:=dI.1 h
  obtain ⟨l,hl,h⟩:=dI.1 h
  obtain ⟨j,hj,h⟩:=dI.1 h
  obtain ⟨m,hm,h⟩:=dI.1 h
  obtain ⟨r,hK,hr⟩:=UQ h
  refine ⟨r,hK,fun fr' eX hf ha=>dI.2 ⟨x',by rw [f_ hf (by simp [Op.operands])];exact hx,dI.2 ⟨l,?_,dI.2 ⟨j,?_,dI.2 ⟨m,?_,hr eX ha⟩⟩⟩⟩⟩
  .rw [yY hf (fun y hy=>by cases lo<;>simp at hy;subst hy;simp [Op.operands])];exact hl
  .rw [yY hf (fun y hy=>by cases hi<;>simp at hy;subst hy;simp [Op.operands])];exact hj
  .rw [yY hf (fun y hy=>by cases mx<;>simp at hy;subst hy;simp [Op.operands])];exact hm
 .rename_i t parts
  obtain ⟨ps,hps,h⟩:=dI.1 h
  obtain ⟨r,hK,-,hl⟩:=Xg h
  refine ⟨r,hK,fun fr' eX hf ha=>dI.2 ⟨ps,?_,hl⟩⟩
  rw [yY hf (fun y hy=>by simp [Op.operands];exact ⟨y.1,by simpa using hy⟩)];exact hps
 .rename_i t len parts
  obtain ⟨ps,hps,h⟩:=dI.1 h
  obtain ⟨r,hK,-,hl⟩:=Lh h
  refine ⟨r,hK,fun fr' eX hf ha=>dI.2 ⟨ps,?_,hl⟩⟩
  rw [yY hf (fun y hy=>by simp [Op.operands];exact ⟨y.1,by simpa using hy⟩)];exact hps
 .obtain ⟨y,hy,h⟩:=dI.1 h
  exact ⟨_,h.2,fun fr' eX hf ha=>dI.2 ⟨y,by rw [f_ hf (by simp [Op.operands])];exact hy,h.1,rfl⟩⟩
 .obtain ⟨r,hK,-,hl⟩:=Xh h
  exact ⟨r,hK,fun fr' eX hf ha=>hl⟩
 .obtain ⟨x',hx,h⟩:=dI.1 h
  obtain ⟨y',hy,h⟩:=dI.1 h
  obtain ⟨r,hK,-,hl⟩:=MZ h
  exact ⟨r,hK,fun fr' eX hf ha=>dI.2 ⟨x',by rw [f_ hf (by simp [Op.operands])];exact hx,dI.2 ⟨y',by rw [f_ hf (by simp [Op.operands])];exact hy,hl⟩⟩⟩
 .obtain ⟨x',hx,h⟩:=dI.1 h
  obtain ⟨y',hy,hK⟩:=dI.1 h
  exact ⟨_,hK,fun fr' eX hf ha=>dI.2 ⟨x',by rw [qX hf (by simp [Op.operands];intro x hx;exact .inl hx)];exact hx,dI.2 ⟨y',by rw [qX hf (by simp [Op.operands];intro x hx;exact .inr hx)];exact hy,rfl⟩⟩⟩
 .obtain ⟨l,hl,h⟩:=dI.1 h
  split at h
  .rename_i x
   obtain ⟨t,ht,h⟩:=dI.1 h
   obtain ⟨r,hK,hr⟩:=abJ h
   exact ⟨r,hK,fun fr' eX hf ha=>dI.2 ⟨[x],by rw [qX hf (by simp [Op.operands,Call.operands])];exact hl,dI.2 ⟨t,ht,hr eX ha⟩⟩⟩
  .exact h.elim
 .obtain ⟨l,hl,h⟩:=dI.1 h
  split at h
  .rename_i x y
   obtain ⟨t,ht,h⟩:=dI.1 h
   obtain ⟨t2,ht2,h⟩:=dI.1 h
   obtain ⟨r,hK,hr⟩:=aah h
   exact ⟨r,hK,fun fr' eX hf ha=>dI.2 ⟨[x,y],by rw [qX hf (by simp [Op.operands,Call.operands])];exact hl,dI.2 ⟨t,ht,dI.2 ⟨t2,ht2,hr eX ha⟩⟩⟩⟩
  .exact h.elim
 .obtain ⟨l,hl,h⟩:=dI.1 h
  split at h
  .rename_i x y
   obtain ⟨t,ht,h⟩:=dI.1 h
   obtain ⟨r,hK,hr⟩:=aak h
   exact ⟨r,hK,fun fr' eX hf ha=>dI.2 ⟨[x,y],by rw [qX hf (by simp [Op.operands,Call.operands])];exact hl,dI.2 ⟨t,ht,hr eX ha⟩⟩⟩
  .exact h.elim
 .obtain ⟨l,hl,h⟩:=dI.1 h
  split at h
  .rename_i x
   obtain ⟨t,ht,h⟩:=dI.1 h
   obtain ⟨r,hK,hr⟩:=Xk h
   exact ⟨r,hK,fun fr' eX hf ha=>dI.2 ⟨[x],by rw [qX hf (by simp [Op.operands,Call.operands])];exact hl,dI.2 ⟨t,ht,hr eX ha⟩⟩⟩
  .exact h.elim
 .obtain ⟨l,hl,h⟩:=dI.1 h
  obtain ⟨r,hK,hr⟩:=KJ h
  exact ⟨_,hK,fun fr' eX hf ha=>dI.2 ⟨l,by rw [qX hf (by simp [Op.operands,Call.operands])];exact hl,hr _ rfl⟩⟩
 .obtain ⟨l,hl,h⟩:=dI.1 h
  obtain ⟨r,hK,hr⟩:=KJ h
  exact ⟨_,hK,fun fr' eX hf ha=>dI.2 ⟨l,by rw [qX hf (by simp [Op.operands,Call.operands])];exact hl,hr _ rfl⟩⟩
 .obtain ⟨l,hl,h⟩:=dI.1 h
  obtain ⟨r,hK,hr⟩:=aai h
  exact ⟨r,hK,fun fr' eX hf ha=>dI.2 ⟨l,by rw [qX hf (by simp [Op.operands,Call.operands];intro x hx;exact .inr hx)];exact hl,hr eX ha⟩⟩
 .exact h.elim
end
end Go.Fw
end
section
namespace Go.Fw
variable [iZ]
def pV (ops:Array Oper)(fr:nP)(o:Oper)(k:Bool->Prop):Prop:=
 match o.guard with
 |none=>k true
 |some (j,want)=>gG ((ops[j]?).bind (·.dst)) fun d=>gG (ji fr d) fun a=>
  match a with
  | .p (.bool t)=>k (t == want)
  | .p _=>k false
  |_=>False
structure qF where
 i:Nat
 rd:List Nat
 wr:List Nat
def EF (M:List Nat)(i:Nat)(rd wr:List Nat)(f:qF):Prop:=
 (M.getD i 0).testBit f.i=true\/((∀b∈f.wr,b∉rd/\b∉wr)/\∀b∈f.rd,b∉wr)
def ao2 (M:Option (List Nat))(fs:List qF)(i:Nat)(rd wr:List Nat):Prop:=
 match M with
 |none=>True
 |some M=>∀f∈fs,EF M i rd wr f
def FM (M:Option (List Nat))(fs:List qF)(i:Nat)(rd wr:List Nat):List qF:=
 match M with
 |none=>fs
 |some _=>if (rd.isEmpty&&wr.isEmpty)=true then fs else ⟨i,rd,wr⟩::fs
def Gg (P:Program)(ops:Array Oper)(M:Option (List Nat))(iG:Nat):Nat->List Oper->nP->AH->List qF->(nP->AH->Prop)->Prop
 |_,[],fr,ah,_,k=>k fr ah
 |i,o::rest,fr,ah,fs,k=>pV ops fr o fun wt=>
  aIf wt (JG P (iG+i) fr ah o.op fun r=>ao2 M fs i r.rd (r.wr.map (·.1))/\
   Gg P ops M iG (i+1) rest (vT fr o.dst r.v) (lJ ah r.wr) (FM M fs i r.rd (r.wr.map (·.1))) k)
  (Gg P ops M iG (i+1) rest (vT fr o.dst (.p undef)) ah fs k)
section
variable {P : Program} {ops:Array Oper}
theorem zQ {w E fr}{a:Act}(hfr:yg w E fr a.tmps){o:Oper}{k:Bool->Prop}(h:pV ops fr o k):∃wt,k wt/\Region.wanted o (yielded ops a.tmps)=wt:=by
 unfold pV at h
 unfold Region.wanted
 split at h
 .rename_i hg;rw [hg];exact ⟨true,h,rfl⟩
 .rename_i j want hg
  obtain ⟨d,hd,h⟩:=dI.1 h
  obtain ⟨x,hx,h⟩:=dI.1 h
  obtain ⟨v,hv,hr⟩:=hfr.get d x hx
  rw [hg]
  dsimp only
  unfold yielded
  rw [hd]
  simp only [Option.bind_some,hv]
  split at h
  .rename_i t
   obtain rfl:=hr.gV
   refine ⟨_,h,?_⟩
   cases t<;>cases want<;>rfl
  .rename_i u hu
   obtain rfl:=hr.gV
   refine ⟨_,h,?_⟩
   cases v<;>first|rfl|exact absurd rfl (hu _)
  .exact h.elim
def YP (base:Nat)(w:World)(E:Env)(a:Act)(n:Nat)(k:nP->AH->Prop)(a':Act)(w':World):Prop:=
 ∃E' fr' eX,k fr' eX/\Step base w E w' E'/\eH base w' E' eX (fun b=>n<=b)/\yg w' E' fr' a'.tmps/\a'.defers=a.defers
theorem aoF (a:Act)(d:Option Tmp)(v:Value):(a.put d v).defers=a.defers:=by cases d<;>rfl
theorem M_ {Q:Exit->Act->World->Prop}{base iG:Nat}{k:nP->AH->Prop}:∀(l:List Oper) (i:Nat) (fr:nP) (ah:AH) (w:World) (E:Env) (a:Act),
  Gg P ops none iG i l fr ah [] k->(∀j:Nat,l[j]?=ops[i+j]?)->eH base w E ah (fun b=>iG+i<=b)->yg w E fr a.tmps->
  (∀a' w',YP base w E a (iG+i+l.length) k a' w'->Q .normal a' w')->wpOps P ops Q (List.range' i l.length) a w
 |[],i,fr,ah,w,E,a,h,hl,hh,hfr,hQ=>by
  simp only [List.length_nil,List.range'_zero,wpOps]
  exact hQ a w ⟨E,fr,ah,h,Step.refl _ _ _,by simpa using hh,hfr,rfl⟩
 |o::rest,i,fr,ah,w,E,a,h,hl,hh,hfr,hQ=>by
  have ho:ops[i]?=some o:=by simpa using (hl 0).symm
  simp only [dD,List.range'_succ]
  rw [wpOps_cons]
  unfold wpOp
  rw [ho]
  dsimp only
  obtain ⟨wt,hk,hw⟩:=zQ hfr h
  have hl':∀j:Nat,rest[j]?=ops[i+1+j]?:=fun j=>by have:=hl (j+1);simp at this;rw [this];congr 1;omega
  cases wt with
  |true=>
   rw [qH,if_pos rfl] at hk
   rw [if_pos hw]
   refine .inl (Xb hh (dH _) hfr hk (fun r v w' E' hr hst hh' hv=>?_))
   refine M_ rest (i+1) _ _ w' E' (a.put o.dst v) hr.2 hl' (hh'.weaken fun b hb=>⟨by omega,by omega⟩) ((hfr.mono hst.ext).put o.dst hv) (fun a' w'' hp=>hQ a' w'' ?_)
   obtain ⟨E2,fr2,wL,q1,q2,q3,q4,q5⟩:=hp
   exact ⟨E2,fr2,wL,q1,hst.trans q2,q3.weaken fun b hb=>by simp at hb;omega,q4,by rw [q5,aoF]⟩
  |false=>
   rw [qH,if_neg (by simp)] at hk
   rw [if_neg (by rw [hw];simp)]
   refine M_ rest (i+1) _ _ w E (a.put o.dst undef) hk hl' (hh.weaken fun b hb=>by omega) (hfr.put o.dst (.p rfl)) (fun a' w'' hp=>hQ a' w'' ?_)
   obtain ⟨E2,fr2,wL,q1,q2,q3,q4,q5⟩:=hp
   exact ⟨E2,fr2,wL,q1,q2,q3.weaken fun b hb=>by simp at hb;omega,q4,by rw [q5,aoF]⟩
def Ah (acc:List Nat)(o:Oper):Nat:=o.after.toList.foldl (fun s e=>if Region.binds .any e=true then s |||2 ^ e.on |||acc.getD e.on 0 else s) 0
def aoI : List Oper->List Nat->List Nat
 |[],acc=>acc
 |o::r,acc=>aoI r (acc++[Ah acc o])
theorem Xl {acc:List Nat}{o:Oper}{i:Nat}(h:(Ah acc o).testBit i=true) :
  ∃e∈o.after.toList,Region.binds .any e=true/\(e.on=i\/(acc.getD e.on 0).testBit i=true):=by
 unfold Ah at h
 have key:∀(l:List Edge) (s:Nat),(l.foldl (fun s e=>if Region.binds .any e=true then s |||2 ^ e.on |||acc.getD e.on 0 else s) s).testBit i=true->
   s.testBit i=true\/∃e∈l,Region.binds .any e=true/\(e.on=i\/(acc.getD e.on 0).testBit i=true):=by
  intro l
  induction l with
  |nil=>intro s h;exact .inl h
  |cons e l ih=>
   intro s h
   simp only [List.foldl_cons] at h
   rcases ih _ h with h|⟨e',he',h⟩
   .split at h
    .rename_i hb
     simp only [Nat.testBit_or,bC,Nat.testBit_two_pow,decide_eq_true_eq] at h
     rcases h with (h|h)|h
     .exact .inl h
     .exact .inr ⟨e,by simp,hb,.inl h⟩
     .exact .inr ⟨e,by simp,hb,.inr h⟩
    .exact .inl h
   .exact .inr ⟨e',by simp [he'],h⟩
 rcases key _ _ h with h|h
 .simp at h
 .exact h
theorem JU : ∀(l:List Oper) (acc:List Nat) (j:Nat) (o:Oper),l[j]?=some o->(aoI l acc).length=acc.length+l.length/\(∀i,i<acc.length->(aoI l acc)[i]?=acc[i]?)/\
  (aoI l acc)[acc.length+j]?=some (Ah ((aoI l acc).take (acc.length+j)) o)
 |[],acc,j,o,h=>by simp at h
 |o'::r,acc,j,o,h=>by
  have pre:∀(l:List Oper) (acc:List Nat),(aoI l acc).length=acc.length+l.length/\∀i,i<acc.length->(aoI l acc)[i]?=acc[i]?:=by
   intro l
   induction l with
   |nil=>intro acc;exact ⟨by simp [aoI],fun i _=>rfl⟩
   |cons o r ih=>
    intro acc
    obtain ⟨h1,h2⟩:=ih (acc++[Ah acc o])
    refine ⟨by simp [aoI,h1];omega,fun i hi=>?_⟩
    simp only [aoI]
    rw [h2 i (by simp;omega),bF hi]
  obtain ⟨p1,p2⟩:=pre (o'::r) acc
  refine ⟨p1,p2,?_⟩
  cases j with
  |zero=>
   simp at h;subst h
   simp only [aoI,Nat.add_zero]
   obtain ⟨q1,q2⟩:=pre r (acc++[Ah acc o'])
   rw [q2 acc.length (by simp)]
   have:(aoI r (acc++[Ah acc o'])).take acc.length=acc:=by
    apply List.ext_getElem?
    intro i
    rw [bM]
    split
    .rename_i hi;rw [q2 i (by simp;omega),bF hi]
    .rename_i hi;rw [bT (by omega)]
   rw [this]
   simp
  |succ j=>
   simp at h
   obtain ⟨-,-,h3⟩:=JU r (acc++[Ah acc o']) j o h
   simp only [aoI]
   rw [bK] at h3
   rw [show acc.length+(j+1)=acc.length+[Ah acc o'].length+j by simp;omega]
   exact h3
def uw (ops:Array Oper):Bool:=ops.toList.zipIdx.all fun (o,i)=>o.after.toList.all fun e=>!Region.binds .any e||decide (e.on<i)
def zS (ops:Array Oper)(M:List Nat):Bool:=
 (List.range ops.size).all fun j=>(List.range j).all fun i=>(M.getD j 0).testBit i||(match ops[i]?,ops[j]? with|some x,some y=>x.apart ops y|_,_=>true)
theorem sS (h:uw ops=true){i:Nat}{o:Oper}(ho:ops[i]?=some o){e:Edge}(he:e∈o.after.toList)(hb:Region.binds .any e=true):e.on<i:=by
 unfold uw at h
 rw [aJ] at h
 have hm:(o,i)∈ops.toList.zipIdx:=by
  rw [bJ]
  exact ⟨i,by simp [List.getElem?_zipIdx,ho]⟩
 have h1:=h (o,i) hm
 rw [aJ] at h1
 have h2:=h1 e he
 simpa [hb] using h2
theorem Iq {M}(h:zS ops M=true){i j:Nat}{x y:Oper}(hx:ops[i]?=some x)(hy:ops[j]?=some y)(hij:i<j):(M.getD j 0).testBit i=true\/x.apart ops y=true:=by
 unfold zS at h
 rw [aJ] at h
 have hj:j<ops.size:=(bI.1 hy).1
 have h1:=h j (by simpa using hj)
 rw [aJ] at h1
 have h2:=h1 i (by simpa using hij)
 rw [hx,hy] at h2
 simpa using h2
end
end Go.Fw
end
section
namespace Go.Fw
variable [iZ]
section
variable {P : Program} {ops:Array Oper} {iG:Nat} {M:List Nat}
def Na (fr fr':nP)(ts:List Tmp):Prop:=∀t∈ts,ji fr' t=ji fr t
def Xm (P:Program)(ops:Array Oper)(iG j:Nat)(o:Oper)(fr:nP)(ah:AH)(r:nT):Prop:=
 ∀(fr':nP) (eX:AH),Na fr fr' (o.looksAt ops)->(∀b∈r.rd,eX b=ah b)->
  pV ops fr' o fun wt=>if wt=true then JG P (iG+j) fr' eX o.op (fun r'=>r'=r) else r=⟨.p undef,[],[]⟩
theorem UU {fr:nP}{o:Oper}{k:Bool->Prop}(h:pV ops fr o k):∃wt,k wt/\∀fr':nP,Na fr fr' (o.looksAt ops)->∀k':Bool->Prop,k' wt->pV ops fr' o k':=by
 unfold pV at h ⊢
 split at h
 .rename_i hg;exact ⟨true,h,fun fr' _ k' hk=>hk⟩
 .rename_i j want hg
  obtain ⟨d,hd,h⟩:=dI.1 h
  obtain ⟨x,hx,h⟩:=dI.1 h
  have hag:∀fr':nP,Na fr fr' (o.looksAt ops)->ji fr' d=some x:=fun fr' hag=>by
   rw [hag d (by unfold Oper.looksAt;rw [hg];dsimp only;rw [hd];simp),hx]
  split at h
  .exact ⟨_,h,fun fr' ha k' hk=>dI.2 ⟨d,hd,dI.2 ⟨_,hag fr' ha,hk⟩⟩⟩
  .rename_i u hu
   refine ⟨_,h,fun fr' ha k' hk=>?_⟩
   refine dI.2 ⟨d,hd,dI.2 ⟨_,hag fr' ha,?_⟩⟩
   split
   .rename_i t e;cases e;exact absurd rfl (hu t)
   .exact hk
   .rename_i h1 h2;exact absurd rfl (h2 u)
  .exact h.elim
theorem UW {fr fr':nP}{o:Oper}(h:Na fr fr' (o.looksAt ops)):apb fr fr' o.op.operands.toList:=by
 intro t ht
 refine h t ?_
 unfold Oper.looksAt
 simp only [aN,List.mem_filterMap]
 exact .inl ⟨_,ht,rfl⟩
def ids (r:nT):List Nat:=r.wr.map (·.1)
theorem UY {k:nP->AH->Prop}:∀(l:List Oper) (i:Nat) (fr:nP) (ah:AH) (fs:List qF),Gg P ops (some M) iG i l fr ah fs k->
  ∃(FR:Nat->nP) (zG:Nat->AH) (R:Nat->nT),FR i=fr/\zG i=ah/\k (FR (i+l.length)) (zG (i+l.length))/\
   (∀(j:Nat) (o:Oper),l[j]?=some o->Xm P ops iG (i+j) o (FR (i+j)) (zG (i+j)) (R (i+j))/\FR (i+j+1)=vT (FR (i+j)) o.dst (R (i+j)).v/\zG (i+j+1)=lJ (zG (i+j)) (R (i+j)).wr/\
    (∀f∈fs,EF M (i+j) (R (i+j)).rd (ids (R (i+j))) f)/\
    (∀j' < j,EF M (i+j) (R (i+j)).rd (ids (R (i+j))) ⟨i+j',(R (i+j')).rd,ids (R (i+j'))⟩))
 |[],i,fr,ah,fs,h=>⟨fun _=>fr,fun _=>ah,fun _=>⟨.p undef,[],[]⟩,rfl,rfl,h,fun j o h=>by simp at h⟩
 |o::l,i,fr,ah,fs,h=>by
  obtain ⟨wt,hk,hloc⟩:=UU h
  
  have main:∃(r:nT) (fs':List qF),Xm P ops iG i o fr ah r/\(∀f∈fs,EF M i r.rd (ids r) f)/\(∀f∈fs,f∈fs')/\
    ((r.rd=[]/\ids r=[])\/(⟨i,r.rd,ids r⟩:qF)∈fs')/\Gg P ops (some M) iG (i+1) l (vT fr o.dst r.v) (lJ ah r.wr) fs' k:=by
   cases wt with
   |true=>
    rw [qH,if_pos rfl] at hk
    obtain ⟨r,⟨hc,hrest⟩,hop⟩:=aes hk
    refine ⟨r,_,fun fr' eX ha hb=>hloc fr' ha _ (by rw [if_pos rfl];exact hop fr' eX (UW ha) hb),hc,fun f hf=>?_,?_,hrest⟩
    .unfold FM;dsimp only;split
     .exact hf
     .exact aQ _ hf
    .unfold FM;dsimp only
     split
     .rename_i he
      simp only [ay,List.isEmpty_iff] at he
      exact .inl he
     .exact .inr (by simp [ids])
   |false=>
    rw [qH,if_neg (by simp)] at hk
    refine ⟨⟨.p undef,[],[]⟩,fs,fun fr' eX ha hb=>hloc fr' ha _ (by rw [if_neg (by simp)]),fun f _=>.inr ⟨fun b _=>⟨by simp,by simp [ids]⟩,fun b _=>by simp [ids]⟩,fun f hf=>hf,.inl ⟨rfl,rfl⟩,hk⟩
  obtain ⟨r,fs',hst,hcf,hsub,hin,hrest⟩:=main
  obtain ⟨FR,zG,R,h1,h2,h3,h4⟩:=UY l (i+1) _ _ fs' hrest
  refine ⟨fun m=>if m=i then fr else FR m,fun m=>if m=i then ah else zG m,fun m=>if m=i then r else R m,by simp,by simp,?_,fun j o' hj=>?_⟩
  .have e:i+(o::l).length=i+1+l.length:=by simp;omega
   have ne:¬(i+1+l.length=i):=by omega
   rw [e];simp only [if_neg ne]
   exact h3
  .cases j with
   |zero=>
    simp at hj;subst hj
    have ne:¬(i+1=i):=by omega
    simp only [Nat.add_zero,if_true]
    rw [if_neg ne,if_neg ne]
    exact ⟨hst,h1,h2,hcf,fun j' hj'=>by omega⟩
   |succ j=>
    simp at hj
    have e1:i+(j+1)=i+1+j:=by omega
    have ne1:¬(i+1+j=i):=by omega
    have ne2:¬(i+1+j+1=i):=by omega
    obtain ⟨q1,q2,q3,q4,q5⟩:=h4 j o' hj
    rw [e1]
    simp only [if_neg ne1,if_neg ne2]
    refine ⟨q1,q2,q3,fun f hf=>q4 f (hsub f hf),fun j' hj'=>?_⟩
    cases j' with
    |zero=>
     simp only [Nat.add_zero,if_true]
     rcases hin with ⟨g1,g2⟩|hin
     .exact .inr ⟨fun b hb=>by simp [g2] at hb,fun b hb=>by simp [g1] at hb⟩
     .exact q4 _ hin
    |succ j'=>
     have e2:i+(j'+1)=i+1+j':=by omega
     have ne3:¬(i+1+j'=i):=by omega
     rw [e2]
     simp only [if_neg ne3]
     exact q5 j' (by omega)
def aoM (q:Nat->Bool):Nat->Nat
 |0=>0
 |n+1=>if q n=true then n+1 else aoM q n
theorem G_ (q:Nat->Bool):∀n,aoM q n<=n/\(∀i,aoM q n<=i->i<n->q i=false)/\(0<aoM q n->q (aoM q n-1)=true)
 |0=>⟨dH _,fun i h1 h2=>by omega,fun h=>by simp [aoM] at h⟩
 |n+1=>by
  obtain ⟨h1,h2,h3⟩:=G_ q n
  simp only [aoM]
  split
  .rename_i hq;exact ⟨dH _,fun i a b=>by omega,fun _=>hq⟩
  .rename_i hq
   refine ⟨by omega,fun i a b=>?_,h3⟩
   by_cases e:i=n
   .subst e;simpa using hq
   .exact h2 i a (by omega)
theorem aam {α:Type}{val:Nat->α}{wr:Nat->Bool}{n:Nat}(hs:∀i<n,wr i=false->val (i+1)=val i){m m':Nat}(hm:m<=m')(hn:m'<=n)(hw:∀i,m<=i->i<m'->wr i=false):val m'=val m:=by
 induction m' with
 |zero=>
  have:m=0:=by omega
  subst this;rfl
 |succ m' ih=>
  by_cases e:m=m'+1
  .subst e;rfl
  .rw [hs m' (by omega) (hw m' (by omega) (by omega))]
   exact ih (by omega) (by omega) (fun i a b=>hw i a (by omega))
theorem yZ {α:Type}{val:Nat->α}{wr L:Nat->Bool}{n j:Nat}(hs:∀i<n,wr i=false->val (i+1)=val i)(hj:j<=n)
  (h1:∀i<n,L i=true->wr i=true->i<j) (h2:∀i<j,wr i=true->L i=true):val (aoM (fun i=>L i&&wr i) n)=val j:=by
 obtain ⟨a,b,c⟩:=G_ (fun i=>L i&&wr i) n
 have hle:aoM (fun i=>L i&&wr i) n<=j:=by
  rcases Nat.eq_zero_or_pos (aoM (fun i=>L i&&wr i) n) with e|e
  .omega
  .have:=c e
   simp only [ay] at this
   have:=h1 _ (by omega) this.1 this.2
   omega
 refine (aam hs hle hj (fun i q1 q2=>?_)).symm
 have hb:=b i q1 (by omega)
 cases hw:wr i with
 |false=>rfl
 |true=>simp [hw,h2 i q2 hw] at hb
theorem KO {q q':Nat->Bool}{n:Nat}(h:∀i<n,q i=q' i):aoM q n=aoM q' n:=by
 induction n with
 |zero=>rfl
 |succ n ih=>simp only [aoM,h n (by omega),ih (fun i hi=>h i (by omega))]
theorem UZ {q:Nat->Bool}{n j:Nat}(hj:j<n)(hq:q j=true)(hn:∀i,j<i->i<n->q i=false):aoM q n=j+1:=by
 obtain ⟨a,b,c⟩:=G_ q n
 rcases Nat.lt_trichotomy (aoM q n) (j+1) with h|h|h
 .have:=b j (by omega) hj;rw [hq] at this;cases this
 .exact h
 .have h1:=c (by omega)
  have h2:=hn (aoM q n-1) (by omega) (by omega)
  rw [h1] at h2;cases h2
theorem Bc {ah:AH}:∀{l:List (Nat×Option pI)} {b:Nat},b∉l.map (·.1)->lJ ah l b=ah b
 |[],b,_=>rfl
 |(c,k)::r,b,h=>by
  simp at h
  simp only [lJ]
  rw [Bc (by simpa using h.2),aoE h.1]
theorem YQ : ∀{l:List (Nat×Option pI)} {ah eX:AH} {b:Nat},b∈l.map (·.1)->lJ ah l b=lJ eX l b
 |[],ah,eX,b,h=>by simp at h
 |(c,k)::r,ah,eX,b,h=>by
  simp only [lJ]
  by_cases hb:b∈r.map (·.1)
  .exact YQ hb
  .rw [Bc hb,Bc hb]
   simp at h hb
   rcases h with h|h
   .rw [eY h,eY h]
   .exact absurd h.choose_spec (hb _)
end
end Go.Fw
end
section
namespace Go.Fw
variable [iZ]
section
variable {P : Program} {ops:Array Oper} {iG:Nat}
def nI (listed:Array Bool)(i:Nat):Bool:=listed.getD i false
def Xn (ops:Array Oper)(t:Tmp)(i:Nat):Bool:=match ops[i]? with|some o=>decide (o.dst=some t)|none=>false
def Xo (R:Nat->nT)(b:Nat)(i:Nat):Bool:=decide (b∈ids (R i))
structure Nb (P:Program)(ops:Array Oper)(iG:Nat)(M:List Nat)(FR:Nat->nP)(zG:Nat->AH)(R:Nat->nT):Prop where
 step:∀(j:Nat) (o:Oper),ops[j]?=some o->Xm P ops iG j o (FR j) (zG j) (R j)
 fr:∀(j:Nat) (o:Oper),ops[j]?=some o->FR (j+1)=vT (FR j) o.dst (R j).v
 ah:∀(j:Nat) (o:Oper),ops[j]?=some o->zG (j+1)=lJ (zG j) (R j).wr
 foot:∀(j:Nat) (o:Oper),ops[j]?=some o->∀j' < j,EF M j (R j).rd (ids (R j)) ⟨j',(R j').rd,ids (R j')⟩
def Pre (ops:Array Oper)(listed:Array Bool)(j:Nat):Prop:=∀o,ops[j]?=some o->∀e∈o.after.toList,Region.binds .any e=true->nI listed e.on=true
theorem zT {listed:Array Bool}(xJ:uw ops=true)(hcl:∀j,nI listed j=true->Pre ops listed j){i:Nat}:∀j,Pre ops listed j->((aoI ops.toList []).getD j 0).testBit i=true->nI listed i=true:=by
 intro j
 induction j using Nat.strongRecOn with
 |_ j ih=>
  intro hp hb
  cases ho:ops[j]? with
  |none=>
   have:(aoI ops.toList []).getD j 0=0:=by
    have hlen:(aoI ops.toList []).length<=ops.size:=by
     cases hs:ops.toList with
     |nil=>simp [aoI]
     |cons o r=>
      have:=(JU (o::r) [] 0 o rfl).1
      rw [this,<- hs];simp
    have hj:ops.size<=j:=by simpa using ho
    simp [List.getD,bT (show (aoI ops.toList []).length<=j by omega)]
   rw [this] at hb;simp at hb
  |some o=>
   obtain ⟨h1,-,h3⟩:=JU ops.toList [] j o (by simpa using ho)
   simp only [List.length_nil,Nat.zero_add] at h3
   have e:(aoI ops.toList []).getD j 0=Ah ((aoI ops.toList []).take j) o:=by simp [List.getD,h3]
   rw [e] at hb
   obtain ⟨ed,hed,hbd,hor⟩:=Xl hb
   have hl:=hp o ho ed hed hbd
   rcases hor with rfl|hor
   .exact hl
   .have hlt:=sS xJ ho hed hbd
    refine ih ed.on hlt (hcl ed.on hl) ?_
    have:((aoI ops.toList []).take j).getD ed.on 0=(aoI ops.toList []).getD ed.on 0:=by
     simp [List.getD,bM,hlt]
    rwa [this] at hor
structure Inv (P:Program)(ops:Array Oper)(iG base:Nat)(FR:Nat->nP)(zG:Nat->AH)(R:Nat->nT)(w0:World)(E0:Env)(a0:Act)(listed:Array Bool)(a:Act)(w:World):Prop where
 size:listed.size=ops.size
 closed:∀j,nI listed j=true->Pre ops listed j
 body:∃E frL YR,Step base w0 E0 w E/\eH base w E YR (fun b=>iG<=b/\∀i,nI listed i=true->b≠iG+i)/\yg w E frL a.tmps/\frL.length=(FR 0).length/\
  (∀t,ji frL t=ji (FR (aoM (fun i=>nI listed i&&Xn ops t i) ops.size)) t)/\
  (∀b,YR b=zG (aoM (fun i=>nI listed i&&Xo R b i) ops.size) b)/\a.defers=a0.defers
theorem JV {M FR zG R}(h:Nb P ops iG M FR zG R)(t:Tmp):∀i<ops.size,Xn ops t i=false->ji (FR (i+1)) t=ji (FR i) t:=by
 intro i hi hw
 have ho:ops[i]?=some ops[i]:=by simp [hi]
 rw [h.fr i _ ho]
 unfold Xn at hw
 rw [ho] at hw
 cases hd:ops[i].dst with
 |none=>rfl
 |some d=>
  have:t≠d:=fun e=>by dsimp only at hw;rw [hd,e] at hw;simp at hw
  simp [vT,oJ,this]
theorem Rx {M FR zG R}(h:Nb P ops iG M FR zG R)(b:Nat):∀i<ops.size,Xo R b i=false->zG (i+1) b=zG i b:=by
 intro i hi hw
 have ho:ops[i]?=some ops[i]:=by simp [hi]
 rw [h.ah i _ ho]
 exact Bc (show b∉ids (R i) from by simpa [Xo] using hw)
theorem Bd {M FR zG R}(h:Nb P ops iG M FR zG R):∀m,m<=ops.size->(FR m).length=(FR 0).length
 |0,_=>rfl
 |m+1,hm=>by
  have ho:ops[m]?=some ops[m]:=by simp [show m<ops.size by omega]
  rw [h.fr m _ ho,<- Bd h m (by omega)]
  cases ops[m].dst<;>simp [vT,gQ]
theorem uy {listed:Array Bool}{i j:Nat}(hj:j<listed.size):nI (listed.setIfInBounds j true) i=(nI listed i||decide (i=j)):=by
 unfold nI
 simp only [Array.getD_eq_getD_getElem?,Array.getElem?_setIfInBounds]
 by_cases e:j=i
 .subst e;simp [hj]
 .have:¬i=j:=fun h=>e h.symm
  simp [e,this]
theorem abK (xJ:uw ops=true)(YS:zS ops (aoI ops.toList [])=true){base:Nat}{FR:Nat->nP}{zG:Nat->AH}{R:Nat->nT}(hL:Nb P ops iG (aoI ops.toList []) FR zG R)
  {w0:World} {E0:Env} {a0:Act} {listed:Array Bool} {a:Act} {w:World} (inv:Inv P ops iG base FR zG R w0 E0 a0 listed a w) {j:Nat} (hj:j∈Region.ready .any ops listed) {Q:Exit->Act->World->Prop} {K:Act->World->Prop}
  (hK:∀a' w',Inv P ops iG base FR zG R w0 E0 a0 (listed.setIfInBounds j true) a' w'->K a' w'):wpOp P ops Q j K a w:=by
 obtain ⟨hun,o,ho,hall⟩:=mem_ready.1 hj
 have hjn:j<ops.size:=(bI.1 ho).1
 have hjl:j<listed.size:=by rw [inv.size];exact hjn
 have hnl:nI listed j=false:=by unfold nI;simpa [Array.getD_eq_getD_getElem?,hjl] using hun
 have hpre:Pre ops listed j:=fun o' ho' e he hb=>by
  rw [ho] at ho';cases ho'
  have:=hall e (by simpa using he) hb
  unfold nI;exact this
 obtain ⟨E,frL,YR,hst,hh,hfr,hlen,aiA,aiB,hdef⟩:=inv.body
 have hM:∀i,((aoI ops.toList []).getD j 0).testBit i=true->nI listed i=true:=fun i=>zT xJ inv.closed j hpre
 have hM':∀i,nI listed i=true->((aoI ops.toList []).getD i 0).testBit j=true->False:=fun i hi hb=>by
  have:=zT xJ inv.closed i (inv.closed i hi) hb
  rw [hnl] at this;cases this
 have hne:∀i,nI listed i=true->i≠j:=fun i hi e=>by rw [e,hnl] at hi;cases hi
 have hLn:∀i,nI listed i=true->i<ops.size:=fun i hi=>by
  rcases Nat.lt_or_ge i ops.size with h|h
  .exact h
  .unfold nI at hi;simp [Array.getD_eq_getD_getElem?,Array.getElem?_eq_none (show listed.size<=i by rw [inv.size];exact h)] at hi
 
 have YT:∀t,(t∈o.looksAt ops\/o.dst=some t)->(∀i<ops.size,nI listed i=true->Xn ops t i=true->i<j)/\(∀i<j,Xn ops t i=true->nI listed i=true):=by
  intro t ht
  have af4:∀i,Xn ops t i=true->∃oi,ops[i]?=some oi/\oi.dst=some t:=fun i hi=>by
   unfold Xn at hi
   split at hi
   .rename_i oi hoi;exact ⟨oi,hoi,by simpa using hi⟩
   .cases hi
  refine ⟨fun i hi hl hw=>?_,fun i hi hw=>?_⟩
  .obtain ⟨oi,hoi,hd⟩:=af4 i hw
   rcases Nat.lt_trichotomy i j with h|h|h
   .exact h
   .exact absurd h (hne i hl)
   .rcases Iq YS ho hoi h with hb|hap
    .exact (hM' i hl hb).elim
    .obtain ⟨q1,q2,q3⟩:=Oper.apart_spec hap
     rcases ht with ht|ht
     .exact absurd ht (q3 t hd)
     .exact absurd hd (q2 t ht)
  .obtain ⟨oi,hoi,hd⟩:=af4 i hw
   rcases Iq YS hoi ho hi with hb|hap
   .exact hM i hb
   .obtain ⟨q1,q2,q3⟩:=Oper.apart_spec hap
    rcases ht with ht|ht
    .exact absurd ht (q1 t hd)
    .exact absurd ht (q2 t hd)
 have af5:∀b,(b∈(R j).rd\/b∈ids (R j))->(∀i<ops.size,nI listed i=true->Xo R b i=true->i<j)/\(∀i<j,Xo R b i=true->nI listed i=true):=by
  intro b hb
  refine ⟨fun i hi hl hw=>?_,fun i hi hw=>?_⟩
  .have hw':b∈ids (R i):=by simpa [Xo] using hw
   rcases Nat.lt_trichotomy i j with h|h|h
   .exact h
   .exact absurd h (hne i hl)
   .have hoi:ops[i]?=some ops[i]:=by simp [hi]
    rcases hL.foot i _ hoi j h with hbit|⟨q1,q2⟩
    .exact (hM' i hl hbit).elim
    .rcases hb with hb|hb
     .exact absurd hw' (q2 b hb)
     .exact absurd hw' (q1 b hb).2
  .have hw':b∈ids (R i):=by simpa [Xo] using hw
   rcases hL.foot j o ho i hi with hbit|⟨q1,q2⟩
   .exact hM i hbit
   .rcases hb with hb|hb
    .exact absurd hb (q1 b hw').1
    .exact absurd hb (q1 b hw').2
 have hag:Na (FR j) frL (o.looksAt ops):=fun t ht=>by
  obtain ⟨q1,q2⟩:=YT t (.inl ht)
  rw [aiA t]
  exact yZ (val:=fun m=>ji (FR m) t) (JV hL t) (by omega) q1 q2
 have aky:∀b∈(R j).rd,YR b=zG j b:=fun b hb=>by
  obtain ⟨q1,q2⟩:=af5 b (.inl hb)
  rw [aiB b]
  exact yZ (val:=fun m=>zG m b) (Rx hL b) (by omega) q1 q2
 
 have hset:∀i,nI (listed.setIfInBounds j true) i=(nI listed i||decide (i=j)):=fun i=>uy hjl
 have finish:∀(E':Env) (v:Value) (w':World),Step base w E w' E'->eH base w' E' (lJ YR (R j).wr) (fun b=>(iG<=b/\∀i,nI listed i=true->b≠iG+i)/\b≠iG+j)->Rep w' E' (R j).v v->
   K (a.put o.dst v) w':=by
  intro E' v w' hs' hh' hv
  refine hK _ _ ⟨by simpa using inv.size,fun i hi=>?_,E',vT frL o.dst (R j).v,lJ YR (R j).wr,hst.trans hs',hh'.weaken (fun b hb=>⟨⟨hb.1,fun i hi=>hb.2 i (by rw [hset,hi];rfl)⟩,hb.2 j (by rw [hset];simp)⟩),(hfr.mono hs'.ext).put o.dst hv,?_,fun t=>?_,fun b=>?_,by rw [aoF];exact hdef⟩
  .intro o' ho' e he hb
   rw [hset]
   rw [hset] at hi
   simp only [bC,decide_eq_true_eq] at hi
   rcases hi with hi|rfl
   .rw [inv.closed i hi o' ho' e he hb];rfl
   .rw [hpre o' ho' e he hb];rfl
  .rw [<- hlen];cases o.dst<;>simp [vT,gQ]
  .by_cases e:o.dst=some t
   .obtain ⟨q1,q2⟩:=YT t (.inr e)
    have hlast:aoM (fun i=>nI (listed.setIfInBounds j true) i&&Xn ops t i) ops.size=j+1:=by
     refine UZ hjn ?_ (fun i h1 h2=>?_)
     .rw [hset];simp [Xn,ho,e]
     .rw [hset]
      cases hw:Xn ops t i with
      |false=>simp
      |true=>
       cases hl:nI listed i with
       |false=>simp;omega
       |true=>have:=q1 i h2 hl hw;omega
    rw [hlast,hL.fr j o ho,e]
    simp only [vT,oJ]
    rw [hlen,Bd hL j (by omega)]
    split
    .rfl
    .rename_i hc
     have:¬(t<(FR 0).length):=fun h=>hc (by simp [h])
     have g1:ji frL t=none:=by cases hg:ji frL t with|none=>rfl|some x=>have:=Ig hg;omega
     have g2:ji (FR j) t=none:=by cases hg:ji (FR j) t with|none=>rfl|some x=>have:=Ig hg;rw [Bd hL j (by omega)] at this;omega
     rw [g1,g2]
   .have hwj:Xn ops t j=false:=by simp [Xn,ho,e]
    rw [KO (q':=fun i=>nI listed i&&Xn ops t i) (fun i hi=>by
     rw [hset]
     by_cases ei:i=j
     .subst ei;simp [hwj]
     .simp [ei])]
    rw [<- aiA t]
    cases hd:o.dst with
    |none=>rfl
    |some d=>
     have:t≠d:=fun h=>e (by rw [hd,h])
     simp [vT,oJ,this]
  .by_cases e:b∈ids (R j)
   .obtain ⟨q1,q2⟩:=af5 b (.inr e)
    have hlast:aoM (fun i=>nI (listed.setIfInBounds j true) i&&Xo R b i) ops.size=j+1:=by
     refine UZ hjn ?_ (fun i h1 h2=>?_)
     .rw [hset];simp [Xo,e]
     .rw [hset]
      cases hw:Xo R b i with
      |false=>simp
      |true=>
       cases hl:nI listed i with
       |false=>simp;omega
       |true=>have:=q1 i h2 hl hw;omega
    rw [hlast,hL.ah j o ho]
    exact YQ e
   .have hwj:Xo R b j=false:=by simp [Xo,e]
    rw [KO (q':=fun i=>nI listed i&&Xo R b i) (fun i hi=>by
     rw [hset]
     by_cases ei:i=j
     .subst ei;simp [hwj]
     .simp [ei])]
    rw [Bc e]
    exact aiB b
 have hs:=hL.step j o ho frL YR hag aky
 obtain ⟨wt,hk,hw⟩:=zQ hfr hs
 unfold wpOp
 rw [ho]
 dsimp only
 cases wt with
 |true=>
  rw [if_pos rfl] at hk
  rw [if_pos hw]
  refine .inl (Xb hh ⟨by omega,fun i hi e=>hne i hi (by omega)⟩ hfr hk (fun r v w' E' hr hs' hh' hv=>?_))
  subst hr
  exact finish E' v w' hs' hh' hv
 |false=>
  rw [if_neg (by simp)] at hk
  rw [if_neg (by rw [hw];simp)]
  refine finish E undef w (Step.refl _ _ _) ?_ (by rw [hk];exact .p rfl)
  rw [hk]
  exact hh.weaken fun b hb=>hb.1
theorem aao (xJ:uw ops=true)(YS:zS ops (aoI ops.toList [])=true){base:Nat}{k:nP->AH->Prop}{fr:nP}{ah:AH}(h:Gg P ops (some (aoI ops.toList [])) iG 0 ops.toList fr ah [] k)
  {w:World} {E:Env} {a:Act} (hh:eH base w E ah (fun b=>iG<=b)) (hfr:yg w E fr a.tmps) {Q:Exit->Act->World->Prop}
  (hQ:∀a' w',YP base w E a (iG+ops.size) k a' w'->Q .normal a' w'):wpAny P .any ops Q ops.size (Array.replicate ops.size false) a w:=by
 obtain ⟨FR,zG,R,h1,h2,h3,h4⟩:=UY ops.toList 0 fr ah [] h
 simp only [Nat.zero_add] at h3 h4
 have hL:Nb P ops iG (aoI ops.toList []) FR zG R:=
  ⟨fun j o ho=>(h4 j o (by simpa using ho)).1,fun j o ho=>(h4 j o (by simpa using ho)).2.1,fun j o ho=>(h4 j o (by simpa using ho)).2.2.1,fun j o ho=>(h4 j o (by simpa using ho)).2.2.2.2⟩
 have hlen:ops.toList.length=ops.size:=by simp
 rw [hlen] at h3
 have main:∀(fuel:Nat) (listed:Array Bool) (a':Act) (w':World),Inv P ops iG base FR zG R w E a listed a' w'->(List.range ops.size).countP (fun i=>!nI listed i)<=fuel->wpAny P .any ops Q fuel listed a' w':=by
  intro fuel
  induction fuel with
  |zero=>
   intro listed a' w' inv hc
   have hall:∀i,i<ops.size->nI listed i=true:=fun i hi=>by
    have:=List.countP_eq_zero.1 (Nat.le_zero.1 hc) i (by simpa using hi)
    simpa using this
   have hr:Region.ready .any ops listed=[]:=by
    cases hr:Region.ready .any ops listed with
    |nil=>rfl
    |cons x xs=>
     have hx:x∈Region.ready .any ops listed:=by rw [hr];simp
     obtain ⟨hun,o,ho,-⟩:=mem_ready.1 hx
     have hxn:=(bI.1 ho).1
     have:=hall x hxn
     unfold nI at this
     have hxl:x<listed.size:=by rw [inv.size];exact hxn
     simp [Array.getD_eq_getD_getElem?,hxl] at this hun
     rw [this] at hun;cases hun
   refine ⟨hr,hQ a' w' ?_⟩
   obtain ⟨E',frL,YR,q1,q2,q3,q4,q5,q6,q7⟩:=inv.body
   have e1:∀t,ji frL t=ji (FR ops.size) t:=fun t=>by
    rw [q5 t]
    exact yZ (val:=fun m=>ji (FR m) t) (JV hL t) (dH _) (fun i hi _ _=>hi) (fun i hi _=>hall i hi)
   have e2:YR=zG ops.size:=by
    funext b
    rw [q6 b]
    exact yZ (val:=fun m=>zG m b) (Rx hL b) (dH _) (fun i hi _ _=>hi) (fun i hi _=>hall i hi)
   refine ⟨E',FR ops.size,zG ops.size,h3,q1,?_,⟨by rw [Bd hL _ (dH _),<- q4];exact q3.size,fun i x hx=>q3.get i x (by rw [e1];exact hx),q3.GY⟩,q7⟩
   rw [<- e2]
   exact q2.weaken fun b hb=>⟨by omega,fun i hi=>by
    have:i<ops.size:=by
     rcases Nat.lt_or_ge i ops.size with h|h
     .exact h
     .unfold nI at hi;simp [Array.getD_eq_getD_getElem?,Array.getElem?_eq_none (show listed.size<=i by rw [inv.size];exact h)] at hi
    omega⟩
  |succ fuel ih=>
   intro listed a' w' inv hc
   refine ⟨fun hr=>?_,fun j hj=>?_⟩
   ·
    have hall:∀i,i<ops.size->nI listed i=true:=by
     intro i
     induction i using Nat.strongRecOn with
     |_ i ihi=>
      intro hi
      cases hl:nI listed i with
      |true=>rfl
      |false=>
       have ho:ops[i]?=some ops[i]:=by simp [hi]
       have hil:i<listed.size:=by rw [inv.size];exact hi
       have:i∈Region.ready .any ops listed:=mem_ready.2 ⟨by unfold nI at hl;simpa [Array.getD_eq_getD_getElem?,hil] using hl,ops[i],ho,fun e he hb=>by
        have hlt:=sS xJ ho (by simpa using he) hb
        exact ihi e.on hlt (by omega)⟩
       rw [hr] at this;cases this
    have hz:(List.range ops.size).countP (fun i=>!nI listed i)<=0:=by
     rw [Nat.le_zero,List.countP_eq_zero]
     intro i hi
     simp [hall i (by simpa using hi)]
    
    have:=hQ a' w' ?_
    .exact this
    .obtain ⟨E',frL,YR,q1,q2,q3,q4,q5,q6,q7⟩:=inv.body
     have e1:∀t,ji frL t=ji (FR ops.size) t:=fun t=>by
      rw [q5 t]
      exact yZ (val:=fun m=>ji (FR m) t) (JV hL t) (dH _) (fun i hi _ _=>hi) (fun i hi _=>hall i hi)
     have e2:YR=zG ops.size:=by
      funext b
      rw [q6 b]
      exact yZ (val:=fun m=>zG m b) (Rx hL b) (dH _) (fun i hi _ _=>hi) (fun i hi _=>hall i hi)
     refine ⟨E',FR ops.size,zG ops.size,h3,q1,?_,⟨by rw [Bd hL _ (dH _),<- q4];exact q3.size,fun i x hx=>q3.get i x (by rw [e1];exact hx),q3.GY⟩,q7⟩
     rw [<- e2]
     exact q2.weaken fun b hb=>⟨by omega,fun i hi=>by
      have:i<ops.size:=by
       rcases Nat.lt_or_ge i ops.size with h|h
       .exact h
       .unfold nI at hi;simp [Array.getD_eq_getD_getElem?,Array.getElem?_eq_none (show listed.size<=i by rw [inv.size];exact h)] at hi
      omega⟩
   .refine abK xJ YS hL inv hj (fun a2 w2 inv2=>ih _ a2 w2 inv2 ?_)
    obtain ⟨hun,o,ho,-⟩:=mem_ready.1 hj
    have hjn:=(bI.1 ho).1
    have hjl:j<listed.size:=by rw [inv.size];exact hjn
    have hnl:nI listed j=false:=by unfold nI;simpa [Array.getD_eq_getD_getElem?,hjl] using hun
    have:(List.range ops.size).countP (fun i=>!nI (listed.setIfInBounds j true) i)<(List.range ops.size).countP (fun i=>!nI listed i):=by
     have hsub:∀l:List Nat,l.Nodup->l.countP (fun i=>!nI (listed.setIfInBounds j true) i)+(if j∈l then 1 else 0)=l.countP (fun i=>!nI listed i):=by
      intro l
      induction l with
      |nil=>intro _;simp
      |cons x l ihl=>
       intro hnd
       obtain ⟨hx,hnd⟩:=List.nodup_cons.1 hnd
       have:=ihl hnd
       simp only [List.countP_cons,uy hjl]
       by_cases e:x=j
       .subst e
        rw [if_neg hx] at this
        have h':l.countP (fun i=>!(nI listed i||decide (i=x)))=l.countP (fun i=>!nI listed i):=by
         simp only [uy hjl] at this;simpa using this
        rw [h'];simp [hnl]
       .have ej:(j∈x::l)↔j∈l:=by simp;intro h;exact absurd h.symm e
        simp only [uy hjl] at this
        have U0:(nI listed x||decide (x=j))=nI listed x:=by simp [e]
        rw [U0]
        by_cases hm:j∈l
        .rw [if_pos hm] at this;rw [if_pos (ej.2 hm)];omega
        .rw [if_neg hm] at this;rw [if_neg (fun h=>hm (ej.1 h))];omega
     have:=hsub (List.range ops.size) List.nodup_range
     rw [if_pos (by simpa using hjn)] at this
     omega
    omega
 refine main ops.size _ a w ⟨by simp,fun j hj=>?_,E,fr,ah,Step.refl _ _ _,hh.weaken (fun b hb=>hb.1),hfr,by rw [h1],fun t=>?_,fun b=>?_,rfl⟩ ?_
 .unfold nI at hj;simp [Array.getD_eq_getD_getElem?,Array.getElem?_replicate] at hj
  split at hj<;>simp at hj
 .have:aoM (fun i=>nI (Array.replicate ops.size false) i&&Xn ops t i) ops.size=0:=by
   have h0:∀n,aoM (fun i=>nI (Array.replicate ops.size false) i&&Xn ops t i) n=0:=by
    intro n
    induction n with
    |zero=>rfl
    |succ n ih=>
     simp only [aoM]
     rw [if_neg,ih]
     unfold nI;simp [Array.getD_eq_getD_getElem?,Array.getElem?_replicate]
     split<;>simp
   exact h0 _
  rw [this,h1]
 .have:aoM (fun i=>nI (Array.replicate ops.size false) i&&Xo R b i) ops.size=0:=by
   have h0:∀n,aoM (fun i=>nI (Array.replicate ops.size false) i&&Xo R b i) n=0:=by
    intro n
    induction n with
    |zero=>rfl
    |succ n ih=>
     simp only [aoM]
     rw [if_neg,ih]
     unfold nI;simp [Array.getD_eq_getD_getElem?,Array.getElem?_replicate]
     split<;>simp
   exact h0 _
  rw [this,h2]
 .exact cO List.countP_le_length (by simp)
end
end Go.Fw
end
section
namespace Go.Fw
variable [iZ]
end Go.Fw
end
section
namespace Go.Fw
variable [iZ]
abbrev AQ :=Exit->nP->AH->Nat->Prop
structure Lj (base:Nat)(w:World)(E:Env)(fr:nP)(ah:AH)(nx:Nat)(a:Act):Prop where
 heap:eH base w E ah (fun b=>nx<=b)
 fr:yg w E fr a.tmps
 defers:a.defers=[]
def yD (base:Nat)(w:World)(E:Env)(Q:AQ)(e:Exit)(a':Act)(w':World):Prop:=
 ∃E' fr' eX nx',Q e fr' eX nx'/\Lj base w' E' fr' eX nx' a'/\Step base w E w' E'
def AW (P:Program)(c:Code)(fr:nP)(ah:AH)(nx:Nat)(Q:AQ):Prop:=
 ∀base w E a,Lj base w E fr ah nx a->c.wp P (yD base w E Q) a w
def abL (K:nP->AH->Nat->Prop)(Q:AQ):AQ
 | .normal,fr,ah,nx=>K fr ah nx
 |e,fr,ah,nx=>Q e fr ah nx
def AIn (id:Nat)(Q:AQ):AQ
 | .exit id',fr,ah,nx=>if id'=id then Q .normal fr ah nx else Q (.exit id') fr ah nx
 |e,fr,ah,nx=>Q e fr ah nx
section
variable {P : Program} {fr:nP} {ah:AH} {nx:Nat} {Q:AQ}
theorem yD.mono {base w E w1 E1}{Q Q':AQ}{e a' w'}(hs:Step base w E w1 E1)(hq:∀fr ah nx,Q e fr ah nx->Q' e fr ah nx)(h:yD base w1 E1 Q e a' w'):yD base w E Q' e a' w':=by
 obtain ⟨E',fr',eX,nx',h1,h2,h3⟩:=h
 exact ⟨E',fr',eX,nx',hq _ _ _ h1,h2,hs.trans h3⟩
theorem AW.mono {c:Code}{Q':AQ}(h:AW P c fr ah nx Q)(hq:∀e fr ah nx,Q e fr ah nx->Q' e fr ah nx):AW P c fr ah nx Q':=
 fun base w E a hs=>wp_mono (h base w E a hs) fun e a' w' hp=>hp.mono (Step.refl _ _ _) (hq e)
theorem YU (h:Q .normal fr ah nx):AW P .skip fr ah nx Q:=fun base w E a hs=>wp_skip ⟨E,fr,ah,nx,h,hs,Step.refl _ _ _⟩
theorem aeu {id:Nat}(h:Q (.exit id) fr ah nx):AW P (.exit id) fr ah nx Q:=fun base w E a hs=>wp_exit ⟨E,fr,ah,nx,h,hs,Step.refl _ _ _⟩
theorem Xp (h:Q .ret fr ah nx):AW P .ret fr ah nx Q:=fun base w E a hs=>wp_ret ⟨E,fr,ah,nx,h,hs,Step.refl _ _ _⟩
theorem agT {x y:Code}(h:∀K:nP->AH->Nat->Prop,(∀fr ah nx,AW P y fr ah nx Q->K fr ah nx)->AW P x fr ah nx (abL K Q)):AW P (.seq x y) fr ah nx Q:=by
 have h':=h (fun fr ah nx=>AW P y fr ah nx Q) (fun _ _ _ h=>h)
 intro base w E a hs
 refine wp_seq (wp_mono (h' base w E a hs) fun e a' w' hp=>?_)
 cases e with
 |normal=>
  obtain ⟨E',fr',eX,nx',h1,h2,h3⟩:=hp
  exact wp_mono (h1 base w' E' a' h2) fun e a2 w2 hp2=>hp2.mono h3 (fun _ _ _ h=>h)
 |_=>exact hp.mono (Step.refl _ _ _) (fun _ _ _ h=>h)
theorem FN {x y:Code}(h:AW P x fr ah nx (abL (fun fr ah nx=>AW P y fr ah nx Q) Q)):AW P (.seq x y) fr ah nx Q:=
 agT fun _ hk=>h.mono fun e fr ah nx hq=>by cases e<;>first|exact hk _ _ _ hq|exact hq
theorem YV {c:Operand}{x y:Code}(t:Bool)(hc:ev fr c=some (.p (.bool t)))(h:if t=true then AW P x fr ah nx Q else AW P y fr ah nx Q):AW P (.cond c x y) fr ah nx Q:=by
 intro base w E a hs
 have hv:=(fH hs.fr hc).gV
 refine wp_cond hv ?_
 cases t with
 |true=>exact h base w E a hs
 |false=>exact h base w E a hs
theorem abM {id:Nat}{c:Code}(h:AW P c fr ah nx (AIn id Q)):AW P (.block id c) fr ah nx Q:=by
 intro base w E a hs
 refine wp_block (wp_mono (h base w E a hs) fun e a' w' hp=>?_)
 cases e with
 |exit id'=>
  obtain ⟨E',fr',eX,nx',h1,h2,h3⟩:=hp
  simp only [AIn] at h1
  simp only [Exit.inBlock]
  split
  .rename_i e;rw [if_pos e] at h1;exact ⟨E',fr',eX,nx',h1,h2,h3⟩
  .rename_i e;rw [if_neg e] at h1;exact ⟨E',fr',eX,nx',h1,h2,h3⟩
 |_=>exact hp.mono (Step.refl _ _ _) (fun _ _ _ h=>h)
theorem aap {id:Nat}{ops:Array Oper}(h:Gg P ops none nx 0 ops.toList fr ah [] (fun fr' eX=>Q .normal fr' eX (nx+ops.size))):AW P (.region id ops false) fr ah nx Q:=by
 intro base w E a hs
 refine wp_region ?_
 have:=M_ (Q:=yD base w E Q) (base:=base) (iG:=nx) ops.toList 0 fr ah w E a h (by simp) (hs.heap.weaken fun b hb=>by simpa using hb) hs.fr (fun a' w' hp=>?_)
 .simpa [List.range_eq_range'] using this
 .obtain ⟨E',fr',eX,h1,h2,h3,h4,h5⟩:=hp
  exact ⟨E',fr',eX,nx+ops.size,h1,⟨h3.weaken fun b hb=>by simpa using hb,h4,by rw [h5];exact hs.defers⟩,h2⟩
theorem aev {id:Nat}{ops:Array Oper}(hm:P.follows .mixedOrders=true)(M:List Nat)(hM:aoI ops.toList []=M)(he:uw ops=true)(hsl:zS ops M=true)
  (h:Gg P ops (some M) nx 0 ops.toList fr ah [] (fun fr' eX=>Q .normal fr' eX (nx+ops.size))):AW P (.region id ops true) fr ah nx Q:=by
 subst hM
 intro base w E a hs
 refine wp_region_any hm ?_
 obtain ⟨d1,d2⟩:=Ii hs.heap (w.drawn+1)
 refine aao he hsl h d2 (hs.fr.mono d1.ext) (fun a' w' hp=>?_)
 obtain ⟨E',fr',eX,h1,h2,h3,h4,h5⟩:=hp
 exact ⟨E',fr',eX,nx+ops.size,h1,⟨h3,h4,by rw [h5];exact hs.defers⟩,d1.trans h2⟩
def Ai : nP->nP->Prop
 |_,[]=>True
 |[],_::_=>False
 |_::xs,none::ys=>Ai xs ys
 |x::xs,some a::ys=>x=some a/\Ai xs ys
theorem Ai.length : ∀{fr Ry:nP},Ai fr Ry->Ry.length<=fr.length
 |_,[],_=>by simp
 |[],_::_,h=>h.elim
 |_::xs,none::ys,h=>by have:=Ai.length (fr:=xs) (Ry:=ys) h;simp;omega
 |x::xs,some a::ys,h=>by have:=Ai.length (fr:=xs) (Ry:=ys) h.2;simp;omega
theorem Ai.get : ∀{fr Ry:nP} {i:Nat} {a:AV},Ai fr Ry->ji Ry i=some a->ji fr i=some a
 |_,[],i,a,_,h=>by simp [ji] at h
 |[],_::_,_,_,h,_=>h.elim
 |_::xs,none::ys,0,a,h,hg=>by simp [ji] at hg
 |_::xs,none::ys,i+1,a,h,hg=>Ai.get (fr:=xs) (Ry:=ys) h hg
 |x::xs,some b::ys,0,a,h,hg=>by simp [ji] at hg ⊢;rw [h.1,hg]
 |x::xs,some b::ys,i+1,a,h,hg=>Ai.get (fr:=xs) (Ry:=ys) h.2 hg
theorem Lj.le {base w E a}{Ry:nP}(h:Lj base w E fr ah nx a)(hle:Ai fr Ry):Lj base w E Ry ah nx a:=
 ⟨h.heap,⟨cO hle.length h.fr.size,fun i x hx=>h.fr.get i x (hle.get hx),h.fr.GY⟩,h.defers⟩
theorem aew {c:Code}{nX:AH}{rH:Nat}(hah:∀b k,nX b=some k->ah b=some k)(hnx:nx<=rH)(h:AW P c fr nX rH Q):AW P c fr ah nx Q:=by
 intro base w E a hs
 refine h base w E a ⟨⟨fun b k hb=>hs.heap.blk b k (hah b k hb),fun b b' k k' c o c' o' hne h1 h2=>hs.heap.sep b b' k k' c o c' o' hne (hah _ _ h1) (hah _ _ h2),fun b hb=>hs.heap.fresh b (cO hnx hb),hs.heap.jO,hs.heap.bs,hs.heap.lH⟩,hs.fr,hs.defers⟩
def apz (J:Nat->nP->AH->Nat->Prop)(n:Nat)(fr:nP)(ah:AH)(nx:Nat):Prop:=∃m<n,∃Ry,Ai fr Ry/\J m Ry ah nx
theorem YW {c:Code}(I:Nat->nP->AH->Nat->Prop)(n0:Nat)(Ry:nP)(hle:Ai fr Ry)(h0:I n0 Ry ah nx)
  (round:∀n fr ah nx,I n fr ah nx->∀K:nP->AH->Nat->Prop,(∀fr ah nx,apz I n fr ah nx->K fr ah nx)->AW P c fr ah nx (abL K Q)):AW P (.loop c) fr ah nx Q:=by
 intro base w E a hs
 refine wp_loop_ghost (fun n a' w'=>∃E' fr' eX nx',I n fr' eX nx'/\Lj base w' E' fr' eX nx' a'/\Step base w E w' E') n0 ⟨E,Ry,ah,nx,h0,hs.le hle,Step.refl _ _ _⟩ ?_
 intro n a' w' hI
 obtain ⟨E',fr',eX,nx',h1,h2,h3⟩:=hI
 refine wp_mono (round n fr' eX nx' h1 (apz I n) (fun _ _ _ h=>h) base w' E' a' h2) fun e a2 w2 hp=>?_
 cases e with
 |normal=>
  obtain ⟨E2,fr2,wL,rJ,⟨m,hm,fr3,hle,hJ⟩,q2,q3⟩:=hp
  exact ⟨m,hm,E2,fr3,wL,rJ,hJ,q2.le hle,h3.trans q3⟩
 |_=>exact hp.mono h3 (fun _ _ _ h=>h)
def tX (P:Program)(fr:nP)(ah:AH):List ResultVar->(List AV->Prop)->Prop
 |[],k=>k []
 | .tmp t::r,k=>gG (ji fr t) fun a=>tX P fr ah r fun l=>k (a::l)
 | .cell t ty::r,k=>gG (ji fr t) fun p=>Ia P ah ty p fun x=>tX P fr ah r fun l=>k (x.v::l)
def one (l:List AV):AV:=match l with | [a]=>a|l=>.kS l
def Nc (tmps:Array Value):ResultVar->Sem Value
 | .tmp t=>pure (tmps.getD t undef)
 | .cell p t=>do loadVar t (<- asAddr (tmps.getD p undef))
theorem sU {base w E ah nx}{a:Act}(hs:Lj base w E fr ah nx a):∀{l:List ResultVar} {k:List AV->Prop},tX P fr ah l k->
  ∃az vs,k az/\(l.mapM (Nc a.tmps)).run P w=.ok vs w/\iT w E az vs
 |[],k,h=>⟨[],[],h,rfl,iT.nil⟩
 | .tmp t::r,k,h=>by
  obtain ⟨x,hx,h⟩:=dI.1 h
  obtain ⟨az,vs,h1,h2,h3⟩:=sU hs h
  obtain ⟨v,hv,hr⟩:=hs.fr.get t x hx
  refine ⟨x::az,v::vs,h1,?_,iT.cons hr h3⟩
  have e:(Nc a.tmps (.tmp t)).run P w=.ok v w:=by simp [Nc,hv]
  rw [List.mapM_cons]
  simp only [Sem.run_bind,e,Sem.run_pure,Result.andThen_ok,h2]
 | .cell p t::r,k,h=>by
  obtain ⟨x,hx,h⟩:=dI.1 h
  obtain ⟨v,hv,hr⟩:=hs.fr.get p x hx
  obtain ⟨rs,u,⟨az,vs,h1,h2,h3⟩,h5,h6,h7⟩:=En (P:=P) (K:=fun x=>∃az vs,k (x.v::az)/\(r.mapM (Nc a.tmps)).run P w=.ok vs w/\iT w E az vs) hs.heap
   (by
    unfold Ia at h ⊢
    obtain ⟨ty,hty,h⟩:=dI.1 h
    refine dI.2 ⟨ty,hty,?_⟩
    cases x with
    |vp row off=>exact Ba (fun y hy=>sU hs hy) h
    |op b sz i off=>
     dsimp only at h ⊢
     split at h
     .obtain ⟨q1,q2⟩:=h
      obtain ⟨row,q3,q4⟩:=dI.1 q2
      exact ⟨q1,dI.2 ⟨row,q3,Ba (fun y hy=>sU hs hy) q4⟩⟩
     .obtain ⟨q1,q2⟩:=h
      obtain ⟨row,q3,q4⟩:=dI.1 q2
      exact ⟨q1,dI.2 ⟨row,q3,Ba (fun y hy=>sU hs hy) q4⟩⟩
     .exact h.elim
    |_=>exact h.elim) hr
  refine ⟨rs.v::az,u::vs,h1,?_,iT.cons h7 h3⟩
  have hp:a.tmps.getD p undef=v:=by simp [hv]
  have hload:(Nc a.tmps (.cell p t)).run P w=.ok u w:=by
   show (do loadVar t (<- asAddr (a.tmps.getD p undef)):Sem Value).run P w=_
   rw [hp]
   cases v with
   |pointer q=>
    cases q with
    |some q=>simpa [Instr.loadAt,Instr.sureAddr,asAddr] using h6
    |none=>simp [Instr.loadAt,Instr.sureAddr] at h6
   |_=>simp [Instr.loadAt,Instr.sureAddr] at h6
  rw [List.mapM_cons]
  simp only [Sem.run_bind,hload,h2,Result.andThen_ok,Sem.run_pure]
theorem YX {w E az vs}(h:iT w E az vs):Rep w E (one az) (if h:vs.toArray.size=1 then vs.toArray[0] else .tuple vs.toArray):=by
 match az,vs,h with
 |[],[],h=>exact .kS [] #[] rfl (fun i c v h=>by simp at h)
 |[a],[v],h=>exact h.2 0 a v rfl rfl
 |a::b::az,v::u::vs,h=>
  have e:¬((v::u::vs).toArray.size=1):=by simp
  rw [dif_neg e]
  exact .kS _ _ (by simpa using h.1) (fun i c v hc hv=>h.2 i c v hc (by simpa using hv))
 |[],_::_,h=>exact absurd h.1 (by simp)
 |_::_,[],h=>exact absurd h.1 (by simp)
 |[a],_::_::_,h=>exact absurd h.1 (by simp)
 |_::_::_,[_],h=>exact absurd h.1 (by simp)
def aiC (P:Program)(fn:Func)(r:AV):AQ:=fun e fr ah _=>(e=.normal\/e=.ret)/\tX P fr ah fn.results.toList fun l=>ny (vP ah aoK) (one l)=some r
theorem abN {f:FuncId}{fn:Func}{c:Code}{args:List AV}{r:AV}(hf:P.funcs[f]?=some fn)(hb:fn.body=some c)(hname:fn.name≠ "runtime.NumGoroutine")
  (hn:args.length<=fn.ntmps) (h:AW P c (args.map some++List.replicate (fn.ntmps-args.length) none) (fun _=>none) 0 (aiC P fn r)):PC P f args r:=by
 intro w fix vs hfix hG hargs
 rw [hf]
 dsimp only
 rw [if_neg (by rw [hb];simp)]
 refine ⟨hname,calls_of_wp hf hb ?_⟩
 have Rz:Lj w.heap.size w (iq fix) (args.map some++List.replicate (fn.ntmps-args.length) none) (fun _=>none) 0
   {tmps:=vs.toArray++Array.replicate (fn.ntmps-vs.toArray.size) undef,defers:=[]}:=by
  refine ⟨⟨fun b k hb=>(by cases hb),fun b b' k k' c o c' o' _ hb=>(by cases hb),fun _ _=>rfl,hfix,dH _,fun b c o hb=>(by cases hb)⟩,⟨?_,fun i x hx=>?_,hG⟩,rfl⟩
  .simp [hargs.1]
  .have hlt:i<args.length/\args[i]?=some x:=by
    have key:∀(l:List AV) (m i:Nat) (x:AV),ji (l.map some++List.replicate m none) i=some x->i<l.length/\l[i]?=some x:=by
     intro l
     induction l with
     |nil=>
      intro m
      induction m with
      |zero=>intro i x h;simp [ji] at h
      |succ m ih=>
       intro i x h
       simp only [List.map_nil,List.nil_append,List.replicate_succ] at h ih
       cases i with
       |zero=>simp [ji] at h
       |succ i=>have:=(ih i x h).1;simp at this
     |cons y l ih=>
      intro m i x h
      cases i with
      |zero=>simp [ji] at h;exact ⟨by simp,by simp [h]⟩
      |succ i=>
       simp only [bg,cu,ji] at h
       obtain ⟨h1,h2⟩:=ih m i x h
       exact ⟨by simp;omega,by simpa using h2⟩
    exact key args _ i x hx
   have hvl:i<vs.length:=by rw [<- hargs.1];exact hlt.1
   refine ⟨vs[i],?_,hargs.2 i x _ hlt.2 (by simp [hvl])⟩
   rw [Array.getElem?_append_left (by simpa using hvl)]
   simp [hvl]
 refine wp_mono (h _ w (iq fix) _ Rz) fun e a' w' hp=>?_
 obtain ⟨E',fr',eX,nx',⟨he,hres⟩,hs',hst⟩:=hp
 obtain ⟨az,vs',hz,hrun,hrep⟩:=sU hs' hres
 have hres':(results fn a'.tmps).run P w'=.ok (if h:vs'.toArray.size=1 then vs'.toArray[0] else .tuple vs'.toArray) w':=by
  have e:results fn a'.tmps=(do
    let vs <- fn.results.mapM (Nc a'.tmps)
    pure (if h:vs.size=1 then vs[0] else .tuple vs)):=by
   unfold results
   congr 1
  rw [e,Array.mapM_eq_mapM_toList,Sem.run_bind,Sem.run_map,hrun]
  rfl
 have hv:=YX hrep
 let vU:Nat->Nat->Prop:=fun c o=>E'.fix c o\/(w.heap.size<=c/\c<w'.heap.size)
 have hfr:=UF hs'.heap (fix:=vU) (fun c o h=>.inl h) (fun b c o ho off=>.inr (hs'.heap.lH b c o ho)) aoK hv hz
 have abO:∃v vU,Ending.returned (if h:vs'.toArray.size=1 then vs'.toArray[0] else .tuple vs'.toArray)=.returned v/\Step w.heap.size w (iq fix) w' (iq vU)/\
    (∀c o,vU c o->c<w'.heap.size)/\Rep w' (iq vU) r v:=by
  refine ⟨_,vU,rfl,⟨⟨fun c o h=>.inl (hst.ext.fix c o h),hst.ext.cell,fun b hb=>absurd rfl hb,hst.ext.arr⟩,hst.below,fun c o hc h=>?_,fun c hc _=>hst.below.block c hc,fun b c o h _=>(by cases h),fun c o h hc=>?_⟩,fun c o h=>?_,hfr⟩
  .rcases h with h|⟨h,-⟩
   .exact hst.Ei c o hc h
   .omega
  .rcases h with h|⟨h,-⟩
   .exact hst.GN c o h hc |>.imp id (fun ⟨b,o',h⟩=>by cases h)
   .omega
  .rcases h with h|⟨-,h⟩
   .exact hs'.heap.jO c o h
   .exact h
 rcases he with rfl|rfl
 .exact ⟨hs'.defers,_,hres',abO⟩
 .exact ⟨hs'.defers,_,hres',abO⟩
end
end Go.Fw
end
section
namespace Go.Fw
variable [iZ]
def eG (k:IntKind)(a b:Int):Int:=k.wrap (a+b)
def jg (k:IntKind)(a b:Int):Int:=k.wrap (a-b)
def D9 (k:IntKind)(a b:Int):Int:=k.wrap (a*b)
def CO (k:IntKind)(a b:Int):Int:=k.wrap (a.tdiv b)
def zi (_:IntKind)(a b:Int):Int:=a.tmod b
def jS (k:IntKind)(a b:Int):Int:=k.wrap (BitVec.ofInt k.bits a&&&BitVec.ofInt k.bits b).toNat
def U1 (k:IntKind)(a b:Int):Int:=k.wrap (BitVec.ofInt k.bits a |||BitVec.ofInt k.bits b).toNat
def o_ (k:IntKind)(a b:Int):Int:=k.wrap (BitVec.ofInt k.bits a&&&~~~ BitVec.ofInt k.bits b).toNat
def jA (k:IntKind)(a b:Int):Int:=a.fdiv (2 ^ (min b.toNat k.bits))
def CP (k:IntKind)(n:Int):Int:=k.wrap (BitVec.ofInt k.bits (if k.signed then -1 else k.max) ^^^ BitVec.ofInt k.bits n).toNat
def dV (a b:Int):Bool:=a == b
def iO (a b:Int):Bool:=a != b
def Nh (a b:Bool):Bool:=a == b
def wJ (a b:List UInt8):Bool:=decide (a=b)
def YZ (a b:List UInt8):Bool:=!decide (a=b)
def fEq (m n:Nat):Bool:=FloatKind.f64.format.order m n == some .eq
def Ll (m n:Nat):Bool:=FloatKind.f64.format.order m n != some .eq
def fLt (m n:Nat):Bool:=FloatKind.f64.format.order m n == some .lt
def OT (m n:Nat):Bool:=FloatKind.f64.format.order m n == some .lt||FloatKind.f64.format.order m n == some .eq
def fGt (m n:Nat):Bool:=FloatKind.f64.format.order m n == some .gt
def Qq (m n:Nat):Bool:=FloatKind.f64.format.order m n == some .gt||FloatKind.f64.format.order m n == some .eq
def sLen (s:List UInt8):Int:=s.length
def pW {α:Type}(s:List α):Int:=s.length
end Go.Fw
end
