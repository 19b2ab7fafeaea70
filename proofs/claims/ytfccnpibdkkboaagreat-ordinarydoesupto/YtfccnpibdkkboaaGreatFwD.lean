
import Derived.Test.YtfccnpibdkkboaaGreatFwC
import Derived.Test.YtfccnpibdkkboaaGreatFwB
set_option linter.unusedVariables false
set_option linter.unusedSimpArgs false
set_option linter.unusedSectionVars false
set_option linter.unnecessarySimpa false
section
namespace Go.Fw
variable [iZ]
section
variable {P : Program} {ρ:List AV}
theorem Nq {w:World}{E:Env}{fr:nP}{o:Oper}{a:Act}{f:FuncId}(hfr:yg w E fr a.tmps){x:Operand}{l:Array Operand}{ts:Array TypeId}{first captured m:List AV}(hop:o.op=.call ⟨.value x,l,ts⟩)
  (hx:ev fr x=some (.fn (.func f) first captured)) (hm:Qa fr l.toList=some m):∃vs,iT w E (first++m++captured) vs/\∀w',(execOp a.eval o).run P w'=(callFunc f vs.toArray).run P w':=by
 have hv:=fH hfr hx
 have hl:=qJ hfr hm
 obtain ⟨vs,us,h1,h2,hval⟩:∃vs us:Array Value,iT w E first vs.toList/\iT w E captured us.toList/\a.eval x=.func (.func f) vs us:=by
  generalize a.eval x=val at hv
  cases hv with
  |fn _ _ _ vs us q1 q2 q3 q4=>exact ⟨vs,us,⟨by simpa using q1,fun i c v e1 e2=>q3 i c v e1 (by simpa using e2)⟩,⟨by simpa using q2,fun i c v e1 e2=>q4 i c v e1 (by simpa using e2)⟩,rfl⟩
 refine ⟨vs.toList++l.toList.map a.eval++us.toList,iT.append (iT.append h1 hl) h2,?_⟩
 have e:vs++l.map a.eval++us=(vs.toList++l.toList.map a.eval++us.toList).toArray:=by apply Array.ext';simp
 intro w'
 congr 1
 simp only [execOp,hop,resolve,hval,Deferred.ofValue,invoke]
 rw [<- e]
 rfl
end
end Go.Fw
end
section
namespace Go.Fw
variable [iZ]
end Go.Fw
end
section
namespace Go.Fw
variable [iZ]
end Go.Fw
end
section
namespace Go.Fw
variable [iZ]
end Go.Fw
end
section
namespace Go.Fw
variable [iZ]
end Go.Fw
end
section
namespace Go.Fw
variable [iZ]
section
variable {P : Program} {base:Nat} {w w':World} {E:Env} {ah:AH} {F:Nat->Prop}
theorem abQ (hh:eH base w E ah F){q c:Nat}{o0:Obj}(o1:Obj)(ho:E.own q=.at c 0)(hsep:∀b k c' o',ah b=some k->E.own b=.at c' o'->c'≠c)(hnf:∀off,¬E.fix c off)
  (hc:w.heap[c]?=some o0) (hnc:∀arr t f,o0≠.cells arr t f) (d:Nat) :
  Step base w E {w with drawn:=d,heap:=w.heap.setIfInBounds c o1} E/\eH base {w with drawn:=d,heap:=w.heap.setIfInBounds c o1} E ah F:=by
 obtain ⟨hbase,hlt⟩:=hh.lH q c 0 ho
 obtain ⟨g1,g2⟩:=A_ (o':=o1) hc
 have hx:Ext w E {w with drawn:=d,heap:=w.heap.setIfInBounds c o1} E:=by
  refine ⟨fun _ _ h=>h,fun c' off h=>?_,fun _ _=>rfl,fun c' ar t fz h=>?_⟩
  .have:c'≠c:=fun e=>hnf off (e▸h)
   simp only [World.cell?]
   rw [g2 c' this]
  .have:c'≠c:=fun e=>by subst e;rw [hc] at h;cases h;exact hnc _ _ _ rfl
   exact ⟨ar,fz,by show (w.heap.setIfInBounds c _)[c']?=_;rw [g2 c' this];exact h,rfl⟩
 refine ⟨⟨hx,⟨rfl,rfl,rfl,by simp,fun j hj=>g2 j (by omega)⟩,fun _ _ _ h=>h,fun c' _ hno=>g2 c' (fun e=>hno q 0 (e▸ho)),fun b c o h _=>⟨b,o,h⟩,fun _ _ h _=>.inl h⟩,?_⟩
 refine ⟨fun b' k' hb'=>?_,hh.sep,hh.fresh,fun c' off h=>?_,by simpa using hh.bs,fun b c o h=>by simpa using hh.lH b c o h⟩
 .exact (hh.blk b' k' hb').keep hx (fun c' o' ho'=>g2 c' (hsep b' k' c' o' hb' ho')) (fun _ _ _ _ h=>h)
 .have:=hh.jO c' off h;simpa using this
theorem y5 : ∀{l m:List Nat},l.Nodup->(∀x∈l,x∈m)->l.length<=m.length
 |[],m,_,_=>by simp
 |a::l,m,h,hs=>by
  obtain ⟨h1,h2⟩:=List.nodup_cons.1 h
  have ha:a∈m:=hs a (by simp)
  have ih:=y5 (l:=l) (m:=m.erase a) h2 (fun x hx=>by
   have:x≠a:=fun e=>h1 (e▸hx)
   exact (List.mem_erase_of_ne this).2 (hs x (by simp [hx])))
  rw [List.length_erase_of_mem ha] at ih
  have:0<m.length:=List.length_pos_of_mem ha
  simp;omega
theorem Qr {n:Nat}{s:List Nat}(hs:s.Nodup)(hlt:∀j∈s,j<n)(hl:s.length=n):∀j,j<n->j∈s:=by
 intro j hj
 apply Classical.byContradiction
 intro hno
 have:=y5 (l:=j::s) (m:=List.range n) (List.nodup_cons.2 ⟨hno,hs⟩) (fun x hx=>by
  cases hx with
  |head=>exact List.mem_range.2 hj
  |tail _ hx=>exact List.mem_range.2 (hlt x hx))
 simp at this;omega
theorem abR {cq cm n:Nat}{s:List Nat}{lG:Array MapEntry}{ty:TypeId}(hq:w.heap[cq]?=some (.mapIter (some cm) n s.toArray n))(hm:w.heap[cm]?=some (.map lG n))
  (hb:∀(i:Nat) (a:MapEntry),lG[i]?=some a->a.born=i) (hn:lG.size=n) (hs:s.Nodup) (hlt:∀j∈s,j<n) :
  (s.length=n/\(Instr.next (.pointer (some ⟨cq,0,none⟩)) false ty).run P w=.ok (.tuple #[.bool false]) w)\/
  ∃j ce d,lG[j]?=some ce/\j∉s/\(Instr.next (.pointer (some ⟨cq,0,none⟩)) false ty).run P w =
   .ok (.tuple #[.bool true,ce.key,ce.val]) {w with drawn:=d,heap:=w.heap.setIfInBounds cq (.mapIter (some cm) n (s++[j]).toArray n)}:=by
 have hgi:(getObj cq).run P w=.ok (.mapIter (some cm) n s.toArray n) w:=by simp [getObj,Sem.run,hq]
 have hgm:(getObj cm).run P w=.ok (.map lG n) w:=by simp [getObj,Sem.run,hm]
 have hcond:(!s.toArray.isEmpty&&!lG.isEmpty&&lG.all (·.born>=n))=false:=by
  cases he:lG.isEmpty
  .have h0:0<lG.size:=by
    rcases Nat.eq_zero_or_pos lG.size with e|e
    .have:lG=#[]:=Array.eq_empty_of_size_eq_zero e
     subst this;simp at he
    .exact e
   have:lG.all (·.born>=n)=false:=by
    rw [Array.all_eq_false]
    refine ⟨0,h0,?_⟩
    have:=hb 0 lG[0] (by simp [h0])
    simp [this];omega
   rw [this];simp
  .simp
 have hin:∀x∈lG.toList,x.born<n/\lG[x.born]?=some x:=by
  intro x hx
  obtain ⟨i,hi⟩:=List.mem_iff_getElem?.1 hx
  have hi':lG[i]?=some x:=by simpa using hi
  have:=hb i x hi'
  have hlt':=(Array.getElem?_eq_some_iff.1 hi').1
  rw [this];exact ⟨by omega,hi'⟩
 obtain ⟨left,hleft⟩:∃left,left=lG.filter fun e=>!s.toArray.contains e.born:=⟨_,rfl⟩
 have hlm:∀x,x∈left.toList↔x∈lG.toList/\x.born∉s:=by
  intro x
  rw [hleft,Array.toList_filter,List.mem_filter]
  simp
 have hold:left.filter (fun e=>decide (e.born<n))=left:=by
  apply Array.ext'
  rw [Array.toList_filter,List.filter_eq_self]
  intro x hx
  simpa using (hin x ((hlm x).1 hx).1).1
 have hnew:left.filter (fun e=>decide (e.born>=n))=#[]:=by
  apply Array.ext'
  rw [Array.toList_filter]
  simp only [List.filter_eq_nil_iff,decide_eq_true_eq]
  intro x hx
  have:=(hin x ((hlm x).1 hx).1).1
  omega
 rcases Nat.lt_or_ge s.length n with hlen|hlen
 .right
  
  obtain ⟨j0,hj0,akE⟩:∃j,j<n/\j∉s:=by
   apply Classical.byContradiction
   intro hno
   have hsub:∀j∈List.range n,j∈s:=fun j hj=>Classical.byContradiction fun h=>hno ⟨j,List.mem_range.1 hj,h⟩
   have:=y5 (List.nodup_range (n:=n)) hsub
   simp at this;omega
  have hne:left.size≠0:=by
   have:lG[j0]∈left.toList:=(hlm _).2 ⟨by simp,by rw [hb j0 lG[j0] (by simp [hn,hj0])];exact akE⟩
   intro h0
   have h1:left.toList.length=0:=by simpa using h0
   rw [List.length_eq_zero_iff] at h1
   rw [h1] at this;cases this
  have hempty:left.isEmpty=false:=by
   cases hh:left.isEmpty
   .rfl
   .rw [Array.isEmpty_iff_size_eq_zero] at hh;exact absurd hh hne
  
  obtain ⟨i,w2,hch,hi,hw2⟩:∃i w2,(choose (.mapNext left.size)).run P w=.ok i w2/\i<left.size/\∃d,w2={w with drawn:=d}:=by
   rw [run_choose_drew]
   split
   .rename_i hf
    refine ⟨0,w,rfl,by omega,w.drawn,rfl⟩
   .refine ⟨_,_,rfl,?_,w.drawn+1,rfl⟩
    show _ % _<_
    exact Nat.mod_lt _ (by omega)
  obtain ⟨d,rfl⟩:=hw2
  have hce:left[i]∈left.toList:=by simp
  obtain ⟨h1,h2⟩:=(hlm _).1 hce
  obtain ⟨h3,h4⟩:=hin _ h1
  refine ⟨left[i].born,left[i],d,h4,h2,?_⟩
  have hset:∀o,(setObj cq o).run P {w with drawn:=d}=.ok () {w with drawn:=d,heap:=w.heap.setIfInBounds cq o}:=fun o=>by simp [setObj,Sem.run,hq]
  simp only [Instr.next,Sem.run_bind,hgi,hgm,Result.andThen_ok]
  simp only [hcond,<- hleft,aV,if_false,Sem.run_pure,Result.andThen_ok,hold,hnew]
  simp only [hempty,aV,if_false,Array.append_empty,Array.empty_append,Array.size_map,hch,Result.andThen_ok]
  rw [Sem.run_bind,hch]
  simp [hi,hset,Result.andThen]
 .left
  have hl:s.length=n:=by
   have:=y5 hs (m:=List.range n) fun x hx=>List.mem_range.2 (hlt x hx)
   simp at this;omega
  refine ⟨hl,?_⟩
  have hemp:left=#[]:=by
   apply Array.ext'
   rw [show (#[]:Array MapEntry).toList=[] from rfl,List.eq_nil_iff_forall_not_mem]
   intro x hx
   obtain ⟨h1,h2⟩:=(hlm x).1 hx
   exact h2 (Qr hs hlt hl _ (hin x h1).1)
  simp only [Instr.next,Sem.run_bind,hgi,hgm,Result.andThen_ok]
  simp only [hcond,<- hleft,hemp,aV,if_false,Sem.run_pure,Result.andThen_ok]
  simp [Question.forced]
theorem aas {cq cm n j:Nat}{s:List Nat}{lG:Array MapEntry}{ce:MapEntry}(hq:w.heap[cq]?=some (.mapIter (some cm) n (s++[j]).toArray n))(hm:w.heap[cm]?=some (.map lG n))
  (hb:∀(i:Nat) (a:MapEntry),lG[i]?=some a->a.born=i) (hj:lG[j]?=some ce) :
  (Instr.entry (.pointer (some ⟨cq,0,none⟩))).run P w=.ok (.tuple #[ce.key,ce.val]) w:=by
 have hgi:(getObj cq).run P w=.ok (.mapIter (some cm) n (s++[j]).toArray n) w:=by simp [getObj,Sem.run,hq]
 have hgm:(getObj cm).run P w=.ok (.map lG n) w:=by simp [getObj,Sem.run,hm]
 have hf:lG.find? (fun e=>e.born == j)=some ce:=by
  rw [<- Array.find?_toList,JO (g:=fun e:MapEntry=>e.born) lG.toList 0 j (dG _) (fun i a h=>by simpa using hb i a (by simpa using h))]
  simpa using hj
 have hbk:(s++[j]).toArray.back?=some j:=by simp
 simp only [Instr.entry,Sem.run_bind,hgi,Result.andThen_ok,hbk,hgm]
 simp [hf]
theorem EI {ops:Array Oper}{i:Nat}{o:Oper}{rest:List Nat}{Q:Exit->Act->World->Prop}{a:Act}(ho:ops[i]?=some o)(hg:o.guard=none)(h:o.wp P a w (wpOps P ops Q rest) Q):wpOps P ops Q (i::rest) a w:=by
 rw [wpOps_cons]
 unfold wpOp
 rw [ho]
 have:Region.wanted o (yielded ops a.tmps)=true:=by unfold Region.wanted;rw [hg]
 dsimp only
 rw [if_pos this]
 exact .inl h
theorem wQ {ops:Array Oper}{i:Nat}{o:Oper}{rest:List Nat}{Q:Exit->Act->World->Prop}{a:Act}{fr:nP}{x:AV}{d:Nat}(hh:eH base w E ah F)(hfr:yg w E fr a.tmps)(ho:ops[i]?=some o)(hg:o.guard=none)(hd:o.dst=some d)
  (hpu:agR o.op=true) (h:JG P 0 fr ah o.op (fun r=>r.v=x)) (hn:∀a':Act,a'.defers=a.defers->yg w E (pG fr d x) a'.tmps->wpOps P ops Q rest a' w):wpOps P ops Q (i::rest) a w:=by
 refine EI ho hg (agS hh hfr hpu h fun r v hK _ hv=>?_)
 rw [hK] at hv
 have:=hfr.put o.dst hv
 rw [hd] at this
 exact hn _ (aoF _ _ _) (by rw [hd];exact this)
def ao9 (es:List (AV×AV))(i j:Nat):Bool:=match es[j]? with|some e=>Nat.beq (kOf e.1) i|none=>false
def Marked (es:List (AV×AV))(s:List Nat)(rs rs':List (List AV)):Prop:=rs'.length=rs.length/\∀i,i<rs.length->rs'[i]?=if s.any (ao9 es i)=true then some TT else rs[i]?
theorem Marked.set {es:List (AV×AV)}{s:List Nat}{rs rs':List (List AV)}(h:Marked es s rs rs'){j:Nat}{e:AV×AV}(hj:es[j]?=some e):Marked es (s++[j]) rs (rs'.set (kOf e.1) TT):=by
 refine ⟨by rw [List.length_set];exact h.1,fun i hi=>?_⟩
 rw [List.getElem?_set]
 have hkey:ao9 es i j=Nat.beq (kOf e.1) i:=by unfold ao9;rw [hj]
 rw [List.any_append,List.any_cons,List.any_nil,Bool.or_false,hkey]
 by_cases hk:kOf e.1=i
 .subst hk
  have:kOf e.1<rs'.length:=by rw [h.1];exact hi
  have hb:Nat.beq (kOf e.1) (kOf e.1)=true:=by simp
  rw [if_pos rfl,if_pos this,hb,Bool.or_true,if_pos rfl]
 .have hb:Nat.beq (kOf e.1) i=false:=by
   cases hbb:Nat.beq (kOf e.1) i
   .rfl
   .exact absurd (aA hbb) hk
  rw [if_neg hk,hb,Bool.or_false]
  exact h.2 i hi
theorem Marked.all {es:List (AV×AV)}{s:List Nat}{rs rs':List (List AV)}(h:Marked es s rs rs')(hs:s.Nodup)(hlt:∀j∈s,j<es.length)(hl:s.length=es.length) :
  ∀i,i<rs.length->rs'[i]?=if es.any (fun e=>Nat.beq (kOf e.1) i)=true then some TT else rs[i]?:=by
 intro i hi
 rw [h.2 i hi]
 have:s.any (ao9 es i)=es.any (fun e=>Nat.beq (kOf e.1) i):=by
  rw [Bool.eq_iff_iff,List.any_eq_true,List.any_eq_true]
  constructor
  .rintro ⟨j,hj,hk⟩
   unfold ao9 at hk
   split at hk
   .rename_i e he
    exact ⟨e,aK he,hk⟩
   .cases hk
  .rintro ⟨e,he,hk⟩
   obtain ⟨j,hj⟩:=bJ.1 he
   have hjl:=(aG.1 hj).1
   exact ⟨j,Qr hs hlt hl j hjl,by unfold ao9;rw [hj];exact hk⟩
 rw [this]
structure vw where
 (it tn tb te tk t8 tD d1 d2 d3:Nat)
 (T TB:TypeId)
def vw.ts (m:vw):List Nat:=[m.tn,m.tb,m.te,m.tk,m.t8,m.d1,m.d2,m.d3]
structure af6 (m:vw)(o1 o2 p1 p2 p3 q1 q2 q3 q4:Oper):Prop where
 o1:o1.op=.next (.tmp m.it) false/\o1.dst=some m.tn/\o1.guard=none
 o2:o2.op=.extract (.tmp m.tn) 0/\o2.dst=some m.tb/\o2.guard=none
 p1:p1.op=.entry (.tmp m.it)/\p1.dst=some m.te/\p1.guard=none
 p2:p2.op=.extract (.tmp m.te) 0/\p2.dst=some m.tk/\p2.guard=none
 p3:p3.op=.assign (.tmp m.tk)/\p3.dst=some m.t8/\p3.guard=none
 q1:q1.op=.move (.tmp m.tD)/\q1.dst=some m.d1/\q1.guard=none
 q2:q2.op=.move (.tmp m.t8)/\q2.dst=some m.d2/\q2.guard=none
 q3:q3.op=.indexAddr m.T (.tmp m.d1) (.tmp m.d2)/\q3.dst=some m.d3/\q3.guard=none
 q4:q4.op=.store m.TB (.tmp m.d3) (.const (.bool true))/\q4.dst=none/\q4.guard=none
theorem aoX {fr:nP}{d:Nat}{x:AV}(h:d<fr.length):ji (pG fr d x) d=some x:=by rw [oJ,if_pos ⟨rfl,h⟩]
theorem vX {fr:nP}{d t:Nat}{x:AV}(h:t≠d):ji (pG fr d x) t=ji fr t:=by rw [oJ,if_neg (fun e=>h e.1)]
theorem aex {m:vw}{o1 o2 p1 p2 p3 q1 q2 q3 q4:Oper}(hm:af6 m o1 o2 p1 p2 p3 q1 q2 q3 q4){r1 r2 r3 id id5:Nat}{fr:nP}{nx:Nat}{Q:AQ}
  {q sq mb bd len:Nat} {es:List (AV×AV)} {rs:List (List AV)} {tb:Nat}
  (hN:∀t∈m.ts,t<fr.length) (hit:m.it∉m.ts) (htD:m.tD∉m.ts) (hd1:m.t8≠m.d1) (hd2:m.d1≠m.d2)
  (hq:ji fr m.it=some (.op q sq 0 0)) (hqa:ah q=some (.it mb es.length 0)) (hma:ah mb=some (.map es)) (hD:ji fr m.tD=some (.os bd 1 0 len)) (hbd:ah bd=some (.rows 1 rs)) (hlen:len<=rs.length)
  (hT:kU P m.T=some (1,tb)) (hTB:qI P m.TB=some (false,1)) (hks:∀e∈es,∃kk n,e.1=.p (.int kk n)/\0<=n/\n.toNat<len) (hne1:q≠mb) (hne2:q≠bd) (akG:mb≠bd)
  (hQ:∀fr' rs',fr'.length=fr.length->(∀t,t∉m.ts->ji fr' t=ji fr t)->rs'.length=rs.length->(∀i,i<rs.length->rs'[i]?=if es.any (fun e=>Nat.beq (kOf e.1) i)=true then some TT else rs[i]?)->
   Q .normal fr' (upd (upd ah q none) bd (some (.rows 1 rs'))) nx) :
  AW P (.block id (.loop (.seq (.region r1 #[o1,o2] false) (.seq (.cond (.tmp m.tb) .skip (.exit id)) (.block id5 (.seq (.region r2 #[p1,p2,p3] false) (.region r3 #[q1,q2,q3,q4] false))))))) fr ah nx Q:=by
 intro base w E a hs
 obtain ⟨cq,cm,g1,g2,g3,g4,g5⟩:=hs.heap.blk q _ hqa
 obtain ⟨cm',amD,akH,f1,f2,f3,f4,f5⟩:=hs.heap.blk mb _ hma
 rw [g5] at f1;cases f1
 have abS:∀b k c o,b≠q->ah b=some k->E.own b=.at c o->c≠cq:=fun b k c o hb hk ho=>hs.heap.sep b q k _ c o cq 0 hb hk hqa ho g1
 have htn:=hN m.tn (by simp [vw.ts])
 have htb:=hN m.tb (by simp [vw.ts])
 have hte:=hN m.te (by simp [vw.ts])
 have htk:=hN m.tk (by simp [vw.ts])
 have ht8:=hN m.t8 (by simp [vw.ts])
 have amE:=hN m.d1 (by simp [vw.ts])
 have amF:=hN m.d2 (by simp [vw.ts])
 have amG:=hN m.d3 (by simp [vw.ts])
 simp only [vw.ts,bH,List.not_mem_nil,or_false,not_or] at hit htD
 let zG:List (List AV)->AH:=fun rs'=>upd (upd ah q none) bd (some (.rows 1 rs'))
 have hAm:∀rs',zG rs' mb=some (.map es):=fun rs'=>by show upd (upd ah q none) bd _ mb=_;rw [aoE akG,aoE (fun e=>hne1 e.symm)];exact hma
 have hAb:∀rs',zG rs' bd=some (.rows 1 rs'):=fun rs'=>eY rfl
 have af7:∀rs' b k c o,zG rs' b=some k->E.own b=.at c o->c≠cq:=by
  intro rs' b k c o hk ho
  by_cases e:b=bd
  .subst e;exact abS b _ c o (fun e=>hne2 e.symm) hbd ho
  .have hk2:upd (upd ah q none) bd (some (.rows 1 rs')) b=some k:=hk
   rw [aoE e] at hk2
   by_cases e2:b=q
   .rw [eY e2] at hk2;cases hk2
   .rw [aoE e2] at hk2;exact abS b k c o e2 hk2 ho
 let J:Nat->Act->World->Prop:=fun n a' w'=>∃s fr' rs',s.Nodup/\(∀j∈s,j<es.length)/\n+s.length=es.length/\fr'.length=fr.length/\(∀t,t∉m.ts->ji fr' t=ji fr t)/\Marked es s rs rs'/\
  eH base w' E (zG rs') (fun b=>nx<=b)/\w'.heap[cq]?=some (.mapIter (some cm) es.length s.toArray es.length)/\yg w' E fr' a'.tmps/\a'.defers=[]/\Step base w E w' E
 refine wp_block (wp_loop_ghost J es.length ?_ ?_)
 .refine ⟨[],fr,rs,List.nodup_nil,by simp,by simp,rfl,fun _ _=>rfl,⟨rfl,fun i hi=>by simp⟩,?_,by rw [g4,show Array.range 0=#[] from by simp],hs.fr,hs.defers,Step.refl _ _ _⟩
  have:=(hs.heap.drop q).Em (b:=bd) (k:=.rows 1 rs) (k':=.rows 1 rs) (by rw [aoE (fun e=>hne2 e.symm)];exact hbd) (hs.heap.blk bd _ hbd)
  exact this
 .intro n a1 w1 hJ
  obtain ⟨s,fr1,UE,j1,j2,j3,j4,j5,j6,j7,j8,j9,j10,j11⟩:=hJ
  obtain ⟨cm',lG,clock,f1,f2,f3,f4,f5⟩:=j7.blk mb _ (hAm UE)
  rw [g5] at f1;cases f1
  obtain ⟨m1,m2,m3,m4⟩:=f5
  have hcl:clock=es.length:=by omega
  subst hcl
  have akI:cm≠cq:=abS mb _ cm 0 (fun e=>hne1 e.symm) hma g5
  have hfit:ji fr1 m.it=some (.op q sq 0 0):=by rw [j5 _ (by simp only [vw.ts,bH,List.not_mem_nil,or_false,not_or];exact hit)];exact hq
  have akJ:ji fr1 m.tD=some (.os bd 1 0 len):=by rw [j5 _ (by simp only [vw.ts,bH,List.not_mem_nil,or_false,not_or];exact htD)];exact hD
  have agV:∀(fr':nP) (a':Act) (w':World),yg w' E fr' a'.tmps->ji fr' m.it=some (.op q sq 0 0)->a'.eval (.tmp m.it)=.pointer (some ⟨cq,0,none⟩):=by
   intro fr' a' w' akK hf
   obtain ⟨c,o,h1,h2⟩:=(fH (x:=.tmp m.it) akK hf).MB
   rw [g1] at h2;cases h2
   simpa using h1
  refine wp_seq (wp_region ?_)
  have hr2:List.range (#[o1,o2]:Array Oper).size=[0,1]:=rfl
  rw [hr2]
  rcases abR (P:=P) (ty:=o1.type) j8 f4 m4 m3.symm j1 j2 with ⟨hall,hrun⟩|⟨j,ce,d,hce,hjs,hrun⟩
  ·
   refine EI (o:=o1) rfl hm.o1.2.2 (aoL (s:=do pure (.value (<- Instr.next (a1.eval (.tmp m.it)) false o1.type))) (v:=.tuple #[.bool false]) (w':=w1) (by simp [execOp,hm.o1.1]) (by rw [agV fr1 a1 w1 j9 hfit];simp [hrun]) ?_)
   have hfr2:=j9.put o1.dst (x:=.kS [.p (.bool false)]) (v:=.tuple #[.bool false]) (.kS _ _ rfl (fun i x y h1 h2=>by
    match i,h1,h2 with
    |0,h1,h2=>cases h1;cases h2;exact .p rfl))
   rw [hm.o1.2.1] at hfr2
   refine wQ (x:=.p (.bool false)) (fr:=pG fr1 m.tn (.kS [.p (.bool false)])) (o:=o2) j7 (by rw [hm.o1.2.1];exact hfr2) rfl hm.o2.2.2 hm.o2.2.1 (by rw [hm.o2.1];rfl)
    (by rw [hm.o2.1];exact dI.2 ⟨_,aoX (by omega),dI.2 ⟨_,rfl,rfl⟩⟩) fun a2 agW hfr3=>?_
   show (Code.seq _ _).wp P _ a2 w1
   refine wp_seq (wp_cond (t:=false) ?_ ?_)
   .exact (fH (x:=.tmp m.tb) hfr3 (aoX (by rw [gQ];omega))).gV
   .refine wp_exit ?_
    show Exit.inBlock id (yD base w E Q) (.exit id) a2 w1
    simp only [Exit.inBlock,if_true]
    refine ⟨E,_,zG UE,nx,hQ _ UE ?_ ?_ j6.1 (j6.all j1 j2 hall),⟨j7,hfr3,by rw [agW,aoF];exact j10⟩,j11⟩
    .rw [gQ,gQ];exact j4
    .intro t ht
     simp only [vw.ts,bH,List.not_mem_nil,or_false,not_or] at ht
     rw [vX ht.2.1,vX ht.1]
     exact j5 t (by simp only [vw.ts,bH,List.not_mem_nil,or_false,not_or];exact ht)
  ·
   have hjl:j<es.length:=by have:=(bI.1 hce).1;omega
   obtain ⟨e,he⟩:∃e,es[j]?=some e:=⟨es[j],by simp [hjl]⟩
   obtain ⟨re1,re2,-⟩:=m2 j e ce he hce
   obtain ⟨kk,kn,hke,hk0,hkl⟩:=hks e (aK he)
   obtain ⟨s1,s2⟩:=abQ (o0:=.mapIter (some cm) es.length s.toArray es.length) j7 (.mapIter (some cm) es.length (s++[j]).toArray es.length) g1 (af7 UE) g3 j8 (fun _ _ _ h=>by cases h) d
   obtain ⟨w2,hw2⟩:∃w2,w2={w1 with drawn:=d,heap:=w1.heap.setIfInBounds cq (.mapIter (some cm) es.length (s++[j]).toArray es.length)}:=⟨_,rfl⟩
   have hhq:w2.heap[cq]?=some (.mapIter (some cm) es.length (s++[j]).toArray es.length):=by rw [hw2];exact (A_ j8).1
   have hhm:w2.heap[cm]?=some (.map lG es.length):=by rw [hw2];exact ((A_ j8).2 cm akI).trans f4
   rw [<- hw2] at s1 s2 hrun
   rw [hke] at re1
   refine EI (o:=o1) rfl hm.o1.2.2 (aoL (s:=do pure (.value (<- Instr.next (a1.eval (.tmp m.it)) false o1.type))) (v:=.tuple #[.bool true,ce.key,ce.val]) (w':=w2) (by simp [execOp,hm.o1.1]) (by rw [agV fr1 a1 w1 j9 hfit];simp [hrun]) ?_)
   have hfr2:=(j9.mono s1.ext).put o1.dst (x:=.kS [.p (.bool true),.p (.int kk kn),e.2]) (v:=.tuple #[.bool true,ce.key,ce.val]) (.kS _ _ rfl (fun i x y h1 h2=>by
    match i,h1,h2 with
    |0,h1,h2=>cases h1;cases h2;exact .p rfl
    |1,h1,h2=>cases h1;cases h2;exact re1.mono s1.ext
    |2,h1,h2=>cases h1;cases h2;exact re2.mono s1.ext))
   rw [hm.o1.2.1] at hfr2
   refine wQ (x:=.p (.bool true)) (fr:=pG fr1 m.tn (.kS [.p (.bool true),.p (.int kk kn),e.2])) (o:=o2) s2 (by rw [hm.o1.2.1];exact hfr2) rfl hm.o2.2.2 hm.o2.2.1 (by rw [hm.o2.1];rfl)
    (by rw [hm.o2.1];exact dI.2 ⟨_,aoX (by omega),dI.2 ⟨_,rfl,rfl⟩⟩) fun a2 agW hfr3=>?_
   show (Code.seq _ _).wp P _ a2 w2
   refine wp_seq (wp_cond (t:=true) ?_ ?_)
   .exact (fH (x:=.tmp m.tb) hfr3 (aoX (by rw [gQ];omega))).gV
   refine wp_skip ?_
   show (Code.block _ _).wp P _ a2 w2
   refine wp_block (wp_seq (wp_region ?_))
   have hr3:List.range (#[p1,p2,p3]:Array Oper).size=[0,1,2]:=rfl
   rw [hr3]
   have aiD:ji (pG (pG fr1 m.tn (.kS [.p (.bool true),.p (.int kk kn),e.2])) m.tb (.p (.bool true))) m.it=some (.op q sq 0 0):=by rw [vX hit.2.1,vX hit.1];exact hfit
   refine EI (o:=p1) rfl hm.p1.2.2 (aoL (s:=do pure (.value (<- Instr.entry (a2.eval (.tmp m.it))))) (v:=.tuple #[ce.key,ce.val]) (w':=w2) (by simp [execOp,hm.p1.1]) (by rw [agV _ a2 w2 hfr3 aiD];simp [aas hhq hhm m4 hce]) ?_)
   have agX:=hfr3.put p1.dst (x:=.kS [.p (.int kk kn),e.2]) (v:=.tuple #[ce.key,ce.val]) (.kS _ _ rfl (fun i x y h1 h2=>by
    match i,h1,h2 with
    |0,h1,h2=>cases h1;cases h2;exact re1.mono s1.ext
    |1,h1,h2=>cases h1;cases h2;exact re2.mono s1.ext))
   rw [hm.p1.2.1] at agX
   obtain ⟨fr3,Y3⟩:∃fr3,fr3=pG (pG fr1 m.tn (.kS [.p (.bool true),.p (.int kk kn),e.2])) m.tb (.p (.bool true)):=⟨_,rfl⟩
   rw [<- Y3] at agX
   have l3:fr3.length=fr.length:=by rw [Y3,gQ,gQ];exact j4
   refine wQ (x:=.p (.int kk kn)) (fr:=pG fr3 m.te (.kS [.p (.int kk kn),e.2])) (o:=p2) s2 (by rw [hm.p1.2.1];exact agX) rfl hm.p2.2.2 hm.p2.2.1 (by rw [hm.p2.1];rfl)
    (by rw [hm.p2.1];exact dI.2 ⟨_,aoX (by omega),dI.2 ⟨_,rfl,rfl⟩⟩) fun a3 akL akM=>?_
   refine wQ (x:=.p (.int kk kn)) (o:=p3) s2 akM rfl hm.p3.2.2 hm.p3.2.1 (by rw [hm.p3.1];rfl)
    (by rw [hm.p3.1];exact dI.2 ⟨_,aoX (by rw [gQ];omega),rfl⟩) fun a4 akN aiE=>?_
   show (Code.region _ _ _).wp P _ a4 w2
   refine wp_region ?_
   have hr4:List.range (#[q1,q2,q3,q4]:Array Oper).size=[0,1,2,3]:=rfl
   rw [hr4]
   obtain ⟨fr6,U2⟩:∃fr6,fr6=pG (pG (pG fr3 m.te (.kS [.p (.int kk kn),e.2])) m.tk (.p (.int kk kn))) m.t8 (.p (.int kk kn)):=⟨_,rfl⟩
   rw [<- U2] at aiE
   have l6:fr6.length=fr.length:=by rw [U2,gQ,gQ,gQ];exact l3
   have aiF:ji fr6 m.tD=some (.os bd 1 0 len):=by
    rw [U2,vX htD.2.2.2.2.1,vX htD.2.2.2.1,vX htD.2.2.1,Y3,vX htD.2.1,vX htD.1];exact akJ
   have akO:ji fr6 m.t8=some (.p (.int kk kn)):=by rw [U2];exact aoX (by rw [gQ,gQ];omega)
   refine wQ (x:=.os bd 1 0 len) (o:=q1) s2 aiE rfl hm.q1.2.2 hm.q1.2.1 (by rw [hm.q1.1];rfl)
    (by rw [hm.q1.1];exact dI.2 ⟨_,aiF,rfl⟩) fun a5 akP akQ=>?_
   refine wQ (x:=.p (.int kk kn)) (o:=q2) s2 akQ rfl hm.q2.2.2 hm.q2.2.1 (by rw [hm.q2.1];rfl)
    (by rw [hm.q2.1];exact dI.2 ⟨_,by show ji _ _=_;rw [vX hd1];exact akO,rfl⟩) fun a6 akR akS=>?_
   refine wQ (x:=.op bd 1 kn.toNat 0) (o:=q3) s2 akS rfl hm.q3.2.2 hm.q3.2.1 (by rw [hm.q3.1];rfl)
    (by
     rw [hm.q3.1]
     refine dI.2 ⟨.os bd 1 0 len,by show ji _ _=_;rw [vX hd2];exact aoX (by omega),dI.2 ⟨.p (.int kk kn),aoX (by rw [gQ];omega),?_⟩⟩
     show gG (kU P m.T) _
     rw [hT]
     exact ⟨hk0,hkl,rfl,by simp [nT.val]⟩) fun a7 akT aez=>?_
   
   obtain ⟨fr9,Y4⟩:∃fr9,fr9=pG (pG (pG fr6 m.d1 (.os bd 1 0 len)) m.d2 (.p (.int kk kn))) m.d3 (.op bd 1 kn.toNat 0):=⟨_,rfl⟩
   rw [<- Y4] at aez
   have l9:fr9.length=fr.length:=by rw [Y4,gQ,gQ,gQ];exact l6
   have akU:ji fr9 m.d3=some (.op bd 1 kn.toNat 0):=by rw [Y4];exact aoX (by rw [gQ,gQ];omega)
   have hilt:kn.toNat<UE.length:=by rw [j6.1];omega
   obtain ⟨row,hrow⟩:∃row,UE[kn.toNat]?=some row:=⟨UE[kn.toNat],by simp [hilt]⟩
   have hrl:row.length=1:=by
    rcases s2.blk bd _ (hAb UE) with ⟨_,h0⟩|⟨c',o',arr,tt,h1,h2,h3,h4,h5⟩
    .rw [h0] at hrow;simp at hrow
    .exact h5.2.1 _ row hrow
   have hst:Ad P (zG UE) m.TB (.op bd 1 kn.toNat 0) (.p (.bool true)) (fun r=>r=⟨.p undef,[(bd,some (.rows 1 (UE.set kn.toNat TT)))],[bd]⟩):=by
    refine dI.2 ⟨_,hTB,?_⟩
    dsimp only
    rw [hAb]
    refine ⟨rfl,rfl,rfl,dI.2 ⟨row,hrow,by rw [hrl];exact dH _,?_⟩⟩
    have:lay row 0 (AV.p (.bool true)).cells=TT:=by
     show row.take 0++[AV.p (.bool true)]++row.drop 1=_
     rw [List.drop_eq_nil_iff.2 (by omega)];simp [TT]
    rw [this]
   obtain ⟨r,w3,hr,hrun3,st3,hh3,-,hkeep⟩:=MG s2 hst (fH (x:=.tmp m.d3) aez akU) (fH (x:=.const (.bool true)) (av:=.p (.bool true)) aez rfl)
   subst hr
   refine EI (o:=q4) rfl hm.q4.2.2 ?_
   unfold Oper.wp
   have e4:(execOp a7.eval q4).run P w2=.ok .skip w3:=by simp [execOp,hm.q4.1,hrun3]
   rw [e4]
   show (∃n',n' < n/\J n' (a7.put q4.dst undef) w3)
   rw [hm.q4.2.1]
   refine ⟨n-1,?_,s++[j],fr9,UE.set kn.toNat TT,?_,?_,?_,l9,?_,?_,?_,?_,aez.mono st3.ext,?_,(j11.trans s1).trans st3⟩
   .have:=y5 (l:=j::s) (m:=List.range es.length) (List.nodup_cons.2 ⟨hjs,j1⟩) (fun x hx=>by
     cases hx with
     |head=>exact List.mem_range.2 hjl
     |tail _ hx=>exact List.mem_range.2 (j2 x hx))
    simp at this
    omega
   .rw [List.nodup_append]
    refine ⟨j1,by simp,fun x hx y hy=>?_⟩
    simp at hy;subst hy
    intro e;subst e;exact hjs hx
   .intro x hx
    simp only [aN,bZ] at hx
    rcases hx with hx|rfl
    .exact j2 x hx
    .exact hjl
   .have:=y5 (l:=j::s) (m:=List.range es.length) (List.nodup_cons.2 ⟨hjs,j1⟩) (fun x hx=>by
     cases hx with
     |head=>exact List.mem_range.2 hjl
     |tail _ hx=>exact List.mem_range.2 (j2 x hx))
    simp at this ⊢
    omega
   .intro t ht
    have ht':=ht
    simp only [vw.ts,bH,List.not_mem_nil,or_false,not_or] at ht
    rw [Y4,vX ht.2.2.2.2.2.2.2,vX ht.2.2.2.2.2.2.1,vX ht.2.2.2.2.2.1,U2,vX ht.2.2.2.2.1,vX ht.2.2.2.1,vX ht.2.2.1,Y3,vX ht.2.1,vX ht.1]
    exact j5 t ht'
   .have:=j6.set he
    rw [hke] at this
    exact this
   .have e5:lJ (zG UE) [(bd,some (pI.rows 1 (UE.set kn.toNat TT)))]=zG (UE.set kn.toNat TT):=by
     show upd (upd (upd ah q none) bd _) bd _=upd (upd ah q none) bd _
     rw [zK]
    rw [<- e5];exact hh3
   .rw [hkeep cq ?_];exact hhq
    intro b ⟨k,hk⟩ hb o ho
    exact af7 UE b k cq o hk ho rfl
   .show a7.defers=[]
    rw [akT,akR,akP,akN,akL,aoF,agW,aoF];exact j10
end
end Go.Fw
end
section
namespace Go.Fw
variable [iZ]
end Go.Fw
end
section
namespace Go.Fw
variable [iZ]
end Go.Fw
end
section
namespace Go.Fw
variable [iZ]
 mutual
def AV.bnd : AV->Prop
  | .p _ | .str _ | .nan=>True
  | .agg cs=>D_ cs
  | .kS cs=>D_ cs
  | .sl rows _=>rows.length<=4294967296/\Qs rows
  | .vp row _=>D_ row
  | .fn _ x y=>D_ x/\D_ y
  | .wI _ v=>v.bnd
  | .os _ _ _ n=>n<=4294967296
  | .op .. | .mp _=>True
def D_ : List AV->Prop
  |[]=>True
  |a::r=>a.bnd/\D_ r
def Qs : List (List AV)->Prop
  |[]=>True
  |a::r=>D_ a/\Qs r
end
theorem FP : ∀{l:List AV},(∀a∈l,a.bnd)->D_ l
 |[],_=>trivial
 |a::r,h=>⟨h a (by simp),FP fun b hb=>h b (by simp [hb])⟩
theorem U3 : ∀{l:List (List AV)},(∀a∈l,D_ a)->Qs l
 |[],_=>trivial
 |a::r,h=>⟨h a (by simp),U3 fun b hb=>h b (by simp [hb])⟩
theorem Qu : ∀{l:List (List AV)},Qs l->∀a∈l,D_ a
 |x::r,h,a,ha=>by
  cases ha with
  |head=>exact h.1
  |tail _ ha=>exact Qu h.2 a ha
theorem RF {w:World}{E:Env}{a:AV}{v:Value}(h:Rep w E a v):a.bnd:=by
 have mem:∀{l:List AV} {vs:List Value},l.length=vs.length->(∀(i:Nat) (c:AV) (v:Value),l[i]?=some c->vs[i]?=some v->c.bnd)->D_ l:=by
  intro l vs hl hh
  refine FP fun c hc=>?_
  obtain ⟨i,hi⟩:=bJ.1 hc
  have hlt:i<vs.length:=by rw [<- hl];exact (aG.1 hi).1
  exact hh i c vs[i] hi (by simp [hlt])
 induction h with
 |p h=>trivial
 |str s l h=>trivial
 |agg cs vs hl hs _ ih=>exact mem (vs:=vs.toList) (by simpa using hl) (fun i c v h1 h2=>ih i c v h1 (by simpa using h2))
 |kS cs vs hl _ ih=>exact mem (vs:=vs.toList) (by simpa using hl) (fun i c v h1 h2=>ih i c v h1 (by simpa using h2))
 |slnil full a=>exact ⟨by simp,trivial⟩
 |sl rows full sz c o cap g hcap hfull hsz hfix hcell kE _ ih=>
  refine ⟨hcap.2,U3 fun row hr=>FP fun x hx=>?_⟩
  obtain ⟨i,hi⟩:=bJ.1 hr
  obtain ⟨j,hj⟩:=bJ.1 hx
  exact ih i row j x hi hj
 |vp row off c o g hfix hcell kE _ ih=>
  refine FP fun x hx=>?_
  obtain ⟨j,hj⟩:=bJ.1 hx
  exact ih j x hj
 |lg b sz off a hb=>exact dG _
 |os b sz off len c o cap hb hcap hsize=>exact hcap.2
 |op b sz row off c o hb=>trivial
 |fn f first captured vs us hl hl' _ _ ih ih'=>exact ⟨mem (vs:=vs.toList) (by simpa using hl) (fun i c v h1 h2=>ih i c v h1 (by simpa using h2)),mem (vs:=us.toList) (by simpa using hl') (fun i c v h1 h2=>ih' i c v h1 (by simpa using h2))⟩
 |wI t a v _ ih=>exact ih
 |mp b c hb=>trivial
 |nan n hn=>trivial
end Go.Fw
namespace Go.Fw
variable [iZ]
theorem oN {P:Program}{f:FuncId}{args:List AV}{r:AV}(h:D_ args->PC P f args r):PC P f args r:=by
 intro w fix vs hfix hG hargs
 refine h (FP fun a ha=>?_) w fix vs hfix hG hargs
 obtain ⟨i,hi⟩:=bJ.1 ha
 have hlt:i<vs.length:=by rw [<- hargs.1];exact (aG.1 hi).1
 exact RF (hargs.2 i a vs[i] hi (by simp [hlt]))
end Go.Fw
end
section
namespace Go.Fw
variable [iZ]
section
variable {P : Program} {ρ:List AV} {N:Nat}
theorem Ir {base:Nat}{w0 w:World}{E0 E E':Env}(h:Step base w0 E0 w E)(hf:E'.fix=E.fix)(ho:∀b,E0.own b≠.free->E'.own b=E.own b)(hs:∀b c o,E'.own b=.at c o->∃b' o',E.own b'=.at c o'):Step base w0 E0 w E':=
 ⟨⟨fun c o h0=>by rw [hf];exact h.ext.fix c o h0,h.ext.cell,fun b hb=>(ho b hb).trans (h.ext.own b hb),h.ext.arr⟩,h.below,fun c o hc h0=>h.Ei c o hc (by rw [<- hf];exact h0),h.keep,
  fun b c o h0 hc=>let ⟨b',o',h1⟩:=hs b c o h0;h.Ej b' c o' h1 hc,fun c o h0 hc=>h.GN c o (by rw [<- hf];exact h0) hc⟩
theorem U4 : ∀{l:List AV},D_ l->∀x∈l,x.bnd
 |a::r,h,x,hx=>by
  cases hx with
  |head=>exact h.1
  |tail _ hx=>exact U4 h.2 x hx
end
end Go.Fw
end
