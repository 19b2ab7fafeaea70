
import Derived.Test.YtookhagokgenhaaGreatFwC
import Derived.Test.YtookhagokgenhaaGreatFwB
set_option linter.unusedVariables false
set_option linter.unusedSimpArgs false
set_option linter.unusedSectionVars false
set_option linter.unnecessarySimpa false
section
namespace Go.Fw
variable [jU]
def jG : Tm->Bool->Pc->Pc
 | .lb _,_,pc=>pc
 | .not t,b,pc=>jG t (!b) pc
 | .and x y,true,pc=>jG x true (jG y true pc)
 | .or x y,false,pc=>jG x false (jG y false pc)
 |t,b,pc=>(t,b)::pc
theorem gq {ρ:List AV}:∀{t:Tm} {b:Bool} {pc:Pc},(t.den ρ).B=b->Pc.holds ρ pc->Pc.holds ρ (jG t b pc):=by
 intro t
 induction t with
 |lb v=>intro b pc _ hp;exact hp
 |not t ih=>
  intro b pc h hp
  exact ih (by simp only [Tm.den,D.Di] at h;rw [<- h];simp) hp
 |and x y rU ihy=>
  intro b pc h hp
  cases b with
  |true=>
   simp only [Tm.den,D.Di,Bool.and_eq_true] at h
   exact rU h.1 (ihy h.2 hp)
  |false=>exact Pc.jo h hp
 |or x y rU ihy=>
  intro b pc h hp
  cases b with
  |false=>
   simp only [Tm.den,D.Di,Bool.or_eq_false_iff] at h
   exact rU h.1 (ihy h.2 hp)
  |true=>exact Pc.jo h hp
 |_=>intro b pc h hp;exact Pc.jo h hp
def su {α:Type}(ρ:List AV):List (Tm×α)->Option α
 |[]=>none
 |[x]=>some x.2
 |x::y::r=>bif (x.1.den ρ).B then some x.2 else su ρ (y::r)
def gdA {α:Type}(g:Tm):List (Tm×α)->List (Tm×α)
 |[]=>[]
 |[x]=>[(g,x.2)]
 |x::y::r=>(ayB g x.1,x.2)::gdA g (y::r)
theorem aeV {α:Type}{ρ:List AV}:∀{l:List (Tm×α)},l≠[]->∃x,su ρ l=some x
 |[],h=>absurd rfl h
 |[x],_=>⟨_,rfl⟩
 |x::y::r,_=>by
  simp only [su]
  cases (x.1.den ρ).B
  .exact aeV (l:=y::r) (by simp)
  .exact ⟨_,rfl⟩
theorem apo {α:Type}{g:Tm}:∀{l:List (Tm×α)},l≠[]->gdA g l≠[]
 |[],h=>absurd rfl h
 |[x],_=>by simp [gdA]
 |x::y::r,_=>by simp [gdA]
theorem Nz {α:Type}{ρ:List AV}{g:Tm}:∀{l rest:List (Tm×α)},rest≠[]->l≠[]->su ρ (gdA g l++rest)=bif (g.den ρ).B then su ρ l else su ρ rest
 |[],rest,hr,hl=>absurd rfl hl
 |[x],rest,hr,_=>by
  obtain ⟨z,s,rfl⟩:=List.exists_cons_of_ne_nil hr
  simp only [gdA,List.cons_append,List.nil_append,su]
 |x::y::r,rest,hr,_=>by
  have ih:=Nz (ρ:=ρ) (g:=g) (l:=y::r) hr (by simp)
  obtain ⟨u,v,huv⟩:=List.exists_cons_of_ne_nil (apo (g:=g) (l:=y::r) (by simp))
  simp only [gdA,List.cons_append]
  rw [huv] at ih ⊢
  simp only [List.cons_append] at ih ⊢
  simp only [su,wG,ih]
  cases (g.den ρ).B<;>cases (x.1.den ρ).B<;>rfl
structure CO where
 v:SV
 th:Tr SB
 nx:Nat
structure CR where
 outs:List (Tm×CO)
 nv:Nat
 sd:List (Pc×Side)
abbrev Ew :=Pc->Tr SB->Nat->Nat->FuncId->List SV->Option CR
def n_ (P:Program)(ρ:List AV)(inl:Ew):Prop:=
 ∀pc th nx nv f args R,inl pc th nx nv f args=some R->Pc.holds ρ pc->jw P ρ R.sd->
  ∀base w E ah vs,Fq ρ th ah->dU base w E ah (fun b=>nx<=b)->GOk w E.fix->iE w E (dQ ρ args) vs->
   ∀(o:Oper) (a:Act),(∀w',(execOp a.eval o).run P w'=(callFunc f vs.toArray).run P w')->∀(next:Act->World->Prop) (Q:Exit->Act->World->Prop),
    (∀c,su ρ R.outs=some c->∀v w' E' fV,Fq ρ c.th fV->Step base w E w' E'->dU base w' E' fV (fun b=>c.nx<=b)->Rep w' E' (c.v.den ρ) v->next (a.put o.dst v) w')->o.wp P a w next Q
def ac8 (P:Program)(t:TypeId)(name:String):Option FuncId:=
 match P.info? t with
 |none=>none
 |some i=>match i.methods.find? (·.name == name) with
  |none=>none
  |some m=>match m.path.toList,m.func,P.underlying t with
   |[],some (f,true),some (.pointer _)=>some f
   |_,_,_=>none
def IY (P:Program)(Ia:FuncId->Bool)(pc:Pc)(tr:Tr pI)(op:Op):Option (FuncId×List SV):=
 match op with
 | .call ⟨.value x,args,_⟩=>match Ai pc tr x with
  |some (.fn f first captured)=>bif (match x with | .func _=>Ia f|_=>true) then
    (match LU pc tr args.toList with|some l=>some (f,first++l++captured)|none=>none) else none
  |_=>none
 | .call ⟨.invoke x name,args,_⟩=>match Ai pc tr x with
  |some (.mP t v)=>match ac8 P t name with
   |some f=>(match LU pc tr args.toList with|some l=>some (f,v::l)|none=>none)
   |none=>none
  |_=>none
 |_=>none
structure RQ where
 tr:Tr pI
 th:Tr SB
 nx:Nat
structure SQ where
 outs:List (Tm×RQ)
 nv:Nat
 sd:List (Pc×Side)
def Dn (k:Pc->CO->Nat->Option SQ):Pc->List (Tm×CO)->Nat->Option SQ
 |_,[],_=>none
 |pc,[x],nv=>k pc x.2 nv
 |pc,x::y::r,nv=>match k (jG x.1 true pc) x.2 nv with
  |none=>none
  |some a=>match Dn k (jG x.1 false pc) (y::r) a.nv with
   |none=>none
   |some b=>some ⟨gdA x.1 a.outs++b.outs,b.nv,a.sd++b.sd⟩
def Ph (P:Program)(X:ql)(inl:Ew)(Ia:FuncId->Bool)(N:Nat)(ops:Array Oper):List Oper->Pc->RQ->Nat->Option SQ
 |[],_,R,nv=>some ⟨[(.lb true,R)],nv,[]⟩
 |o::rest,pc,R,nv=>
  bif TR N o.dst then
   match aeU ops pc R.tr o with
   |none=>none
   |some .no=>Ph P X inl Ia N ops rest pc {R with tr:=Nv R.tr o.dst ⟨[],.c .undef⟩} nv
   |some .yes=>match IY P Ia pc R.tr o.op with
    |some (f,args)=>match inl pc R.th R.nx nv f args with
     |none=>none
     |some C=>match Dn (fun pc c nv=>Ph P X inl Ia N ops rest pc ⟨Nv R.tr o.dst ⟨[],c.v⟩,c.th,c.nx⟩ nv) pc C.outs C.nv with
      |none=>none
      |some y=>some ⟨y.outs,y.nv,C.sd++y.sd⟩
    |none=>match sOp P X pc R.tr R.th R.nx nv o.op with
     |none=>none
     |some r=>match Ph P X inl Ia N ops rest pc ⟨Nv R.tr o.dst ⟨[],r.v⟩,wrT R.th r.wr,R.nx+1⟩ r.nv with
      |none=>none
      |some y=>some ⟨y.outs,y.nv,tag pc r.sd y.sd⟩
   |some (.maybe l)=>match sOp P X (l++pc) R.tr R.th R.nx nv o.op with
    |none=>match l with
     |[(t,b)]=>match IY P Ia (jG t b pc) R.tr o.op with
      |none=>none
      |some (f,args)=>match inl (jG t b pc) R.th R.nx nv f args with
       |none=>none
       |some C=>match Dn (fun pc c nv=>Ph P X inl Ia N ops rest pc ⟨Nv R.tr o.dst ⟨[],c.v⟩,c.th,c.nx⟩ nv) (jG t b pc) C.outs C.nv with
        |none=>none
        |some y=>match Ph P X inl Ia N ops rest (jG t (!b) pc) {R with tr:=Nv R.tr o.dst ⟨[],.c .undef⟩} y.nv with
         |none=>none
         |some z=>some ⟨bif b then gdA t y.outs++z.outs else gdA t z.outs++y.outs,z.nv,C.sd++(y.sd++z.sd)⟩
     |_=>none
    |some r=>bif r.wr.isEmpty then match Ph P X inl Ia N ops rest pc ⟨Nv R.tr o.dst ⟨l,r.v⟩,R.th,R.nx+1⟩ r.nv with
      |none=>none
      |some y=>some ⟨y.outs,y.nv,tag (l++pc) r.sd y.sd⟩
     else none
  else none
def aji (M:List Nat)(i:Nat)(l:List Nat):Bool:=l.all fun k=>(M.getD i 0).testBit k
def agU (fs:List IE)(i:Nat)(rd wr:List Nat):List IE:=bif rd.isEmpty&&wr.isEmpty then fs else ⟨i,rd,wr⟩::fs
def ajj : Option SB->Option SB->Bool
 |some (.rows a r),some (.rows b s)=>Nat.beq a b&&Qo r s
 |some (.fO a t),some (.fO b u)=>Nat.beq a b&&t.beq u
 |_,_=>false
theorem ajk {x y:Option SB}(h:ajj x y=true):∃k,x=some k/\y=some k:=by
 unfold ajj at h
 split at h
 .simp only [Bool.and_eq_true] at h;rw [Nat.eq_of_beq_eq_true h.1,IJ h.2];exact ⟨_,rfl,rfl⟩
 .simp only [Bool.and_eq_true] at h;rw [Nat.eq_of_beq_eq_true h.1,Tm.beq_eq h.2];exact ⟨_,rfl,rfl⟩
 .cases h
def BI (th:Tr SB)(outs:List (Tm×CO))(b:Nat):Bool:=outs.all fun x=>ajj (x.2.th.get b) (th.get b)
def IZ (M:List Nat)(i:Nat)(qs:List Nat)(fs:List IE)(th:Tr SB)(outs:List (Tm×CO)):Bool:=
 aji M i qs&&fs.all (fun f=>(M.getD i 0).testBit f.i||(f.wr.isEmpty&&f.rd.all (fun b=>BI th outs b)))
abbrev CS :=List (Nat×(Nat->Bool)×(Unit->Bool))
def JY (th:Tr SB)(nx:Nat)(args:List SV)(outs:List (Tm×CO))(_:Unit):Bool:=Yz th nx args&&outs.all fun x=>YA th nx x.2.nx x.2.th x.2.v
def Qu (M:List Nat)(i:Nat)(cs:CS):Bool:=cs.all fun c=>(M.getD i 0).testBit c.1
def aaj (M:List Nat)(i:Nat)(pu:Bool)(own:Nat)(rd wr:List Nat)(cs:CS):Bool:=cs.all fun c=>(M.getD i 0).testBit c.1||(rd.all c.2.1&&((pu&&wr.isEmpty)||(wr.all (Nat.beq own)&&c.2.2 ())))
def Tr.agV {α:Type}:Tr α->(Nat->α->Bool)->Tr α
 | .e,_=>.e
 | .n l x r,f=>.n (Tr.agV l (fun j=>f (2*j+1))) (match x with|none=>none|some a=>bif f 0 a then some a else none) (Tr.agV r (fun j=>f (2*j+2)))
theorem Tr.TU {α:Type}:∀{t:Tr α} {f:Nat->α->Bool} {k:Nat} {a:α},(t.agV f).get k=some a->t.get k=some a
 | .e,f,k,a,h=>by simp [Tr.agV,Tr.get] at h
 | .n l x r,f,k,a,h=>by
  simp only [Tr.agV,Tr.get] at h ⊢
  cases h1:Nat.beq k 0
  .simp only [h1,cond_false] at h ⊢
   cases h2:Nat.beq (k % 2) 1
   .simp only [h2,cond_false] at h ⊢;exact Tr.TU h
   .simp only [h2,cond_true] at h ⊢;exact Tr.TU h
  .simp only [h1,cond_true] at h ⊢
   cases x with
   |none=>cases h
   |some y=>
    simp only at h
    cases hf:f 0 y
    .simp [hf] at h
    .simpa [hf] using h
def YB (nx:Nat):Nat->Tr SB->Tr SB
 |0,th=>th
 |n+1,th=>YB nx n (th.agV fun b k=>Nat.ble (b+1) nx&&k.FZ.all (ayW th))
theorem TV {nx:Nat}:∀{n:Nat} {th:Tr SB} {b:Nat} {k:SB},(YB nx n th).get b=some k->th.get b=some k
 |0,th,b,k,h=>h
 |n+1,th,b,k,h=>Tr.TU (TV (n:=n) h)
def ac9 {α:Type}(a:Option α)(b:Unit->Option α):Option α:=match a with|some y=>some y|none=>b ()
theorem Qv {α:Type}{a:Option α}{b:Unit->Option α}{y:α}(h:ac9 a b=some y):a=some y\/b ()=some y:=by
 unfold ac9 at h
 split at h
 .exact .inl h
 .exact .inr h
def ac_ (i:Nat)(op:Op)(qs:List Nat):List Nat:=bif Ef op then qs else i::qs
def Dp (P:Program)(X:ql)(inl:Ew)(Ia:FuncId->Bool)(N:Nat)(ops:Array Oper)(M:List Nat):Nat->List Oper->Pc->List Nat->CS->List IE->RQ->Nat->Option SQ
 |_,[],_,_,_,_,R,nv=>some ⟨[(.lb true,R)],nv,[]⟩
 |i,o::rest,pc,qs,cs,fs,R,nv=>
  bif TR N o.dst then
   match aeU ops pc R.tr o with
   |none=>none
   |some .no=>Dp P X inl Ia N ops M (i+1) rest pc qs cs fs {R with tr:=Nv R.tr o.dst ⟨[],.c .undef⟩} nv
   |some .yes=>match IY P Ia pc R.tr o.op with
    |some (f,args)=>
      ac9 ((fun Ib=>
      match inl pc Ib R.nx nv f args with
      |none=>none
      |some C=>bif Qu M i cs&&IZ M i qs fs Ib C.outs then match Dn (fun pc c nv=>Dp P X inl Ia N ops M (i+1) rest pc qs ((i,BI Ib C.outs,JY Ib R.nx args C.outs)::cs) fs ⟨Nv R.tr o.dst ⟨[],c.v⟩,c.th,Nat.max c.nx R.nx⟩ nv) pc C.outs C.nv with
       |none=>none
       |some y=>some ⟨y.outs,y.nv,C.sd++y.sd⟩
       else none) R.th) (fun _=>(fun Ib=>
      match inl pc Ib R.nx nv f args with
      |none=>none
      |some C=>bif Qu M i cs&&IZ M i qs fs Ib C.outs then match Dn (fun pc c nv=>Dp P X inl Ia N ops M (i+1) rest pc qs ((i,BI Ib C.outs,JY Ib R.nx args C.outs)::cs) fs ⟨Nv R.tr o.dst ⟨[],c.v⟩,c.th,Nat.max c.nx R.nx⟩ nv) pc C.outs C.nv with
       |none=>none
       |some y=>some ⟨y.outs,y.nv,C.sd++y.sd⟩
       else none) (YB R.nx 4 R.th))
    |none=>match sOp P X pc R.tr R.th R.nx nv o.op with
     |none=>none
     |some r=>bif aaj M i (Ef o.op) R.nx r.rd (r.wr.map (·.1)) cs&&fs.all (fun f=>ayx M i r.rd (r.wr.map (·.1)) f) then
       match Dp P X inl Ia N ops M (i+1) rest pc (ac_ i o.op qs) cs (agU fs i r.rd (r.wr.map (·.1))) ⟨Nv R.tr o.dst ⟨[],r.v⟩,wrT R.th r.wr,R.nx+1⟩ r.nv with
       |none=>none
       |some y=>some ⟨y.outs,y.nv,tag pc r.sd y.sd⟩
      else none
   |some (.maybe l)=>match sOp P X (l++pc) R.tr R.th R.nx nv o.op with
    |none=>none
    |some r=>bif r.wr.isEmpty&&(aaj M i (Ef o.op) R.nx r.rd [] cs&&fs.all (fun f=>ayx M i r.rd (r.wr.map (·.1)) f)) then
      match Dp P X inl Ia N ops M (i+1) rest pc (ac_ i o.op qs) cs (agU fs i r.rd []) ⟨Nv R.tr o.dst ⟨l,r.v⟩,R.th,R.nx+1⟩ r.nv with
      |none=>none
      |some y=>some ⟨y.outs,y.nv,tag (l++pc) r.sd y.sd⟩
     else none
  else none
section
variable {P : Program} {ρ:List AV} {pc:Pc} {X:ql} {inl:Ew} {Ia:FuncId->Bool}
theorem ada {w:World}{E:Env}{fr:lY}{o:Oper}{a:Act}{f:FuncId}(hfr:vV w E fr a.tmps){x:Operand}{l:Array Operand}{ts:Array TypeId}{first captured m:List AV}(hop:o.op=.call ⟨.value x,l,ts⟩)
  (hx:ev fr x=some (.fn (.func f) first captured)) (hm:VY fr l.toList=some m):∃vs,iE w E (first++m++captured) vs/\∀w',(execOp a.eval o).run P w'=(callFunc f vs.toArray).run P w':=by
 have hv:=fM hfr hx
 have hl:=rQ hfr hm
 obtain ⟨vs,us,h1,h2,hval⟩:∃vs us:Array Value,iE w E first vs.toList/\iE w E captured us.toList/\a.eval x=.func (.func f) vs us:=by
  generalize a.eval x=val at hv
  cases hv with
  |fn _ _ _ vs us q1 q2 q3 q4=>exact ⟨vs,us,⟨by simpa using q1,fun i c v e1 e2=>q3 i c v e1 (by simpa using e2)⟩,⟨by simpa using q2,fun i c v e1 e2=>q4 i c v e1 (by simpa using e2)⟩,rfl⟩
 refine ⟨vs.toList++l.toList.map a.eval++us.toList,iE.append (iE.append h1 hl) h2,?_⟩
 have e:vs++l.map a.eval++us=(vs.toList++l.toList.map a.eval++us.toList).toArray:=by apply Array.ext';simp
 intro w'
 congr 1
 simp only [execOp,hop,resolve,hval,Deferred.ofValue,invoke]
 rw [<- e]
 rfl
def agW (P:Program)(fr:lY)(op:Op)(f:FuncId)(args:List AV):Prop:=
 ∀(w:World) (E:Env) (fr':lY) (a:Act) (o:Oper),o.op=op->ayP fr fr' op.operands.toList->vV w E fr' a.tmps->∃vs,iE w E args vs/\∀w',(execOp a.eval o).run P w'=(callFunc f vs.toArray).run P w'
theorem adb {t:TypeId}{name:String}{f:FuncId}(h:ac8 P t name=some f)(v:Value)(w:World)(n:Nat):(method (n+1) t v name).run P w=.ok (f,v) w:=by
 unfold ac8 at h
 split at h
 .cases h
 .rename_i i hi
  split at h
  .cases h
  .rename_i m hm
   split at h
   .rename_i f' e hp hf hu
    simp only [Option.some.injEq] at h;subst h
    simp [method,typeInfo,hi,hm,hp,hf,follow,receiverAt,run_underlying hu,Place.get]
   .cases h
theorem Dq {fr:lY}{tr:Tr pI}{op:Op}{f:FuncId}{args:List SV}(hp:pc.holds ρ)(hf:WA ρ tr fr)(h:IY P Ia pc tr op=some (f,args)):agW P fr op f (dQ ρ args):=by
 unfold IY at h
 split at h
 .rename_i x l ts
  split at h
  .rename_i f' first captured hx
   generalize (match x with | .func _=>Ia f' | _=>true)=g at h
   cases g
   .cases h
   .simp only [cond_true] at h
    split at h
    .rename_i m hm
     simp only [Option.some.injEq,Prod.mk.injEq] at h
     obtain ⟨rfl,rfl⟩:=h
     intro w E fr' a o hop hag hfr
     rw [l7,l7]
     have hx':ev fr' x=_:=(gB hag (by simp [Op.operands,Call.operands])).trans (iR hp hf hx)
     have hm':VY fr' l.toList=_:=(pz hag (by intro z hz;simp [Op.operands,Call.operands];exact .inr (by simpa using hz))).trans (vN hp hf hm)
     exact ada (P:=P) hfr hop hx' hm'
    .cases h
  .cases h
 .rename_i x name l ts
  split at h
  .rename_i t v hx
   split at h
   .rename_i f' arv
    split at h
    .rename_i m hm
     simp only [Option.some.injEq,Prod.mk.injEq] at h
     obtain ⟨rfl,rfl⟩:=h
     intro w E fr' a o hop hag hfr
     have hx':ev fr' x=some (.mP t (v.den ρ)):=(gB hag (by simp [Op.operands,Call.operands])).trans (iR hp hf hx)
     have hm':VY fr' l.toList=_:=(pz hag (by intro z hz;simp [Op.operands,Call.operands];exact .inr (by simpa using hz))).trans (vN hp hf hm)
     have hv:=fM hfr hx'
     have hl:=rQ hfr hm'
     obtain ⟨u,hu,hval⟩:∃u,Rep w E (v.den ρ) u/\a.eval x=.iface t u:=by
      generalize a.eval x=val at hv
      cases hv with
      |mP _ _ u q=>exact ⟨u,q,rfl⟩
     refine ⟨u::l.toList.map a.eval,iE.cons hu hl,?_⟩
     intro w'
     have e:(#[u]++(#[Value.iface t u]++l.map a.eval).extract 1 (#[Value.iface t u]++l.map a.eval).size)=(u::l.toList.map a.eval).toArray:=by
      apply Array.ext';simp [List.take_of_length_le]
     obtain ⟨n,hn⟩:∃n,P.types.size+Made.depth=n+1:=⟨P.types.size+99,rfl⟩
     have e0:(#[Value.iface t u]++l.map a.eval)[0]?=some (.iface t u):=by rw [Array.getElem?_append_left (by simp)];rfl
     simp only [execOp,hop,resolve,hval,Sem.run_bind,Sem.run_pure,Result.andThen_ok,invoke,e0,callMethod,run_program,hn,adb arv,e]
    .cases h
   .cases h
  .cases h
 .cases h
def an3 (P:Program)(ρ:List AV)(N base:Nat)(w:World)(E:Env)(a:Act)(R:RQ)(a':Act)(w':World):Prop:=
 ∃E' fr' fV,WA ρ R.tr fr'/\Fq ρ R.th fV/\fr'.length=N/\Step base w E w' E'/\dU base w' E' fV (fun b=>R.nx<=b)/\vV w' E' fr' a'.tmps/\a'.defers=a.defers
theorem Ey {k:Pc->CO->Nat->Option SQ}(hk:∀pc c nv y,k pc c nv=some y->y.outs≠[]):∀{l:List (Tm×CO)} {pc:Pc} {nv:Nat} {y:SQ},Dn k pc l nv=some y->y.outs≠[]
 |[],pc,nv,y,h=>by simp [Dn] at h
 |[x],pc,nv,y,h=>hk _ _ _ _ h
 |x::z::r,pc,nv,y,h=>by
  simp only [Dn] at h
  split at h
  .cases h
  .split at h
   .cases h
   .rename_i b hb
    simp only [Option.some.injEq] at h;subst h
    have:=Ey hk hb
    simp [this]
theorem NC {k:Pc->CO->Nat->Option SQ}(hk:∀pc c nv y,k pc c nv=some y->y.outs≠[]):∀{l:List (Tm×CO)} {pc:Pc} {nv:Nat} {y:SQ},Dn k pc l nv=some y->Pc.holds ρ pc->jw P ρ y.sd->
  ∀c,su ρ l=some c->∃pc' u_ y',k pc' c u_=some y'/\Pc.holds ρ pc'/\jw P ρ y'.sd/\∀R,su ρ y'.outs=some R->su ρ y.outs=some R
 |[],pc,nv,y,h,hp,hs,c,hc=>by simp [Dn] at h
 |[x],pc,nv,y,h,hp,hs,c,hc=>by
  simp only [su,Option.some.injEq] at hc;subst hc
  exact ⟨pc,nv,y,h,hp,hs,fun R h=>h⟩
 |x::z::r,pc,nv,y,h,hp,hs,c,hc=>by
  simp only [Dn] at h
  split at h
  .cases h
  .rename_i a ha
   split at h
   .cases h
   .rename_i b hb
    simp only [Option.some.injEq] at h;subst h
    have atp:=hk _ _ _ _ ha
    have hbne:=Ey hk hb
    have hsel:=Nz (ρ:=ρ) (g:=x.1) (l:=a.outs) hbne atp
    simp only [su] at hc
    cases hg:(x.1.den ρ).B
    .rw [hg] at hc hsel
     obtain ⟨pc',u_,y',q1,q2,q3,q4⟩:=NC hk hb (gq hg hp) (fun s hm=>hs s (by simp [hm])) c hc
     exact ⟨pc',u_,y',q1,q2,q3,fun R hR=>by rw [hsel];exact q4 R hR⟩
    .rw [hg] at hc hsel
     simp only [cond_true,Option.some.injEq] at hc;subst hc
     exact ⟨_,_,a,ha,gq hg hp,fun s hm=>hs s (by simp [hm]),fun R hR=>by rw [hsel];exact hR⟩
theorem xQ {N:Nat}{ops:Array Oper}:∀{l:List Oper} {pc:Pc} {R:RQ} {nv:Nat} {y:SQ},Ph P X inl Ia N ops l pc R nv=some y->y.outs≠[]
 |[],pc,R,nv,y,h=>by simp only [Ph,Option.some.injEq] at h;subst h;simp
 |o::rest,pc,R,nv,y,h=>by
  unfold Ph at h
  cases hd:TR N o.dst
  .simp [hd] at h
  .simp only [hd,cond_true] at h
   split at h
   .cases h
   .exact xQ h
   .split at h
    .split at h
     .cases h
     .split at h
      .cases h
      .rename_i z hz
       simp only [Option.some.injEq] at h;subst h
       exact (Ey (fun _ _ _ _ h=>xQ h) hz:z.outs≠[])
    .split at h
     .cases h
     .split at h
      .cases h
      .rename_i z hz
       simp only [Option.some.injEq] at h;subst h
       exact (xQ hz:z.outs≠[])
   .split at h
    .split at h
     .split at h
      .cases h
      .split at h
       .cases h
       .split at h
        .cases h
        .rename_i y hy
         split at h
         .cases h
         .rename_i z hz
          simp only [Option.some.injEq] at h;subst h
          have n1:y.outs≠[]:=Ey (fun _ _ _ _ h=>xQ h) hy
          have n2:z.outs≠[]:=xQ hz
          dsimp only
          rw [Bool.cond_eq_ite]
          split
          .intro e;exact n2 (List.append_eq_nil_iff.1 e).2
          .intro e;exact n1 (List.append_eq_nil_iff.1 e).2
     .cases h
    .rename_i r hr
     cases hE:r.wr.isEmpty
     .simp [hE] at h
     .simp only [hE,cond_true] at h
      split at h
      .cases h
      .rename_i z hz
       simp only [Option.some.injEq] at h;subst h
       exact (xQ hz:z.outs≠[])
theorem Dt {N:Nat}{ops:Array Oper}(hρ:iT ρ=true)(hX:oJ P ρ X)(hI:n_ P ρ inl){Q:Exit->Act->World->Prop}{base:Nat}:∀(l:List Oper) (i:Nat) {pc:Pc} {R:RQ} {nv:Nat} {S:SQ} (fr:lY) (ah:AH) (w:World) (E:Env) (a:Act),
  Ph P X inl Ia N ops l pc R nv=some S->Pc.holds ρ pc->jw P ρ S.sd->WA ρ R.tr fr->Fq ρ R.th ah->fr.length=N->(∀j:Nat,l[j]?=ops[i+j]?)->
  dU base w E ah (fun b=>R.nx<=b)->vV w E fr a.tmps->(∀R',su ρ S.outs=some R'->∀a' w',an3 P ρ N base w E a R' a' w'->Q .normal a' w')->wpOps P ops Q (List.range' i l.length) a w
 |[],i,pc,R,nv,S,fr,ah,w,E,a,h,hp,hs,hf,ha,hN,hl,hh,hfr,hQ=>by
  simp only [Ph,Option.some.injEq] at h;subst h
  simp only [List.length_nil,List.range'_zero,wpOps]
  exact hQ R rfl a w ⟨E,fr,ah,hf,ha,hN,Step.refl _ _ _,hh,hfr,rfl⟩
 |o::rest,i,pc,R,nv,S,fr,ah,w,E,a,h,hp,hs,hf,ha,hN,hl,hh,hfr,hQ=>by
  have ho:ops[i]?=some o:=by simpa using (hl 0).symm
  simp only [List.length_cons,List.range'_succ]
  rw [wpOps_cons]
  unfold wpOp
  rw [ho]
  dsimp only
  have hl':∀j:Nat,rest[j]?=ops[i+1+j]?:=fun j=>by have:=hl (j+1);simp at this;rw [this];congr 1;omega
  have lift:∀{w1:World} {E1:Env} {a1:Act},Step base w E w1 E1->a1.defers=a.defers->∀R',su ρ S.outs=some R'->∀a' w',an3 P ρ N base w1 E1 a1 R' a' w'->Q .normal a' w':=by
   intro w1 E1 a1 hst hdf R' hR' a' w' hpost
   obtain ⟨E2,fr2,ah2,q1,q2,q3,q4,q5,q6,q7⟩:=hpost
   exact hQ R' hR' a' w' ⟨E2,fr2,ah2,q1,q2,q3,hst.trans q4,q5,q6,by rw [q7,hdf]⟩
  unfold Ph at h
  cases hd:TR N o.dst
  .simp [hd] at h
  .simp only [hd,cond_true] at h
   split at h
   .cases h
   .rename_i hw
    obtain ⟨wt,hk,hwt⟩:=nZ (ops:=ops) hfr (BG hp hf hw (k:=fun b=>When.sem ρ .no b) fun b hb=>hb)
    simp only [When.sem] at hk;subst hk
    rw [if_neg (by rw [hwt];simp)]
    exact Dt hρ hX hI rest (i+1) _ _ w E _ h hp hs (xP (e:=⟨[],.c .undef⟩) hf hd hN) ha (by rw [mg,hN]) hl' hh (hfr.put o.dst (.p rfl)) (lift (Step.refl _ _ _) (ax6 _ _ _))
   .rename_i hw
    obtain ⟨wt,hk,hwt⟩:=nZ (ops:=ops) hfr (BG hp hf hw (k:=fun b=>When.sem ρ .yes b) fun b hb=>hb)
    simp only [When.sem] at hk;subst hk
    rw [if_pos hwt]
    split at h
    .rename_i f args hc
     split at h
     .cases h
     .rename_i C hC
      split at h
      .cases h
      .rename_i y hy
       simp only [Option.some.injEq] at h;subst h
       obtain ⟨vs,hvs,he⟩:=Dq (P:=P) hp hf hc w E fr a o rfl (fun _ _=>rfl) hfr
       refine .inl (hI _ _ _ _ _ _ _ hC hp (fun x hx=>hs x (by simp [hx])) base w E ah vs ha hh hfr.Lm hvs o a he _ _ (fun c hc v w' E' fV q1 q2 q3 q4=>?_))
       obtain ⟨pc',u_,y',g1,g2,g3,g4⟩:=NC (P:=P) (fun _ _ _ _ h=>xQ h) hy hp (fun x hx=>hs x (by simp [hx])) c hc
       exact Dt hρ hX hI rest (i+1) _ _ w' E' _ g1 g2 g3 (xP (e:=⟨[],c.v⟩) hf hd hN) q1 (by rw [mg,hN]) hl' q3 ((hfr.mono q2.ext).put o.dst q4) (fun R' hR'=>lift q2 (ax6 _ _ _) R' (g4 R' hR'))
    .split at h
     .cases h
     .rename_i r hr
      split at h
      .cases h
      .rename_i y hy
       simp only [Option.some.injEq] at h;subst h
       have hsd:=Gf hs
       refine .inl (X4 (id:=R.nx) (K:=fun r'=>r'=r.den ρ) hh (Nat.le_refl _) hfr (Yy hρ hX hp hf ha hr (hsd.1 hp) rfl) (fun r' v w' E' hr' hst hh' hv=>?_))
       subst hr'
       exact Dt hρ hX hI rest (i+1) _ _ w' E' _ hy hp hsd.2 (xP (e:=⟨[],r.v⟩) hf hd hN) (O_ ha) (by rw [mg,hN]) hl' (hh'.weaken fun b hb=>⟨Nat.le_of_succ_le hb,Nat.ne_of_gt hb⟩) ((hfr.mono hst.ext).put o.dst hv) (lift hst (ax6 _ _ _))
   .rename_i l hw
    split at h
    .split at h
     .rename_i t b hno
      split at h
      .cases h
      .rename_i f args hc
       split at h
       .cases h
       .rename_i C hC
        split at h
        .cases h
        .rename_i y hy
         split at h
         .cases h
         .rename_i z hz
          simp only [Option.some.injEq] at h;subst h
          have n1:y.outs≠[]:=Ey (fun _ _ _ _ h=>xQ h) hy
          have n2:z.outs≠[]:=xQ hz
          obtain ⟨wt,hk,hwt⟩:=nZ (ops:=ops) hfr (BG hp hf hw (k:=fun q=>When.sem ρ (.maybe [(t,b)]) q) fun q hq=>hq)
          simp only [When.sem,List.all_cons,List.all_nil,Bool.and_true] at hk
          have hsel:∀R',su ρ (bif b then gdA t y.outs++z.outs else gdA t z.outs++y.outs)=some R'↔su ρ (bif (t.den ρ).B == b then y.outs else z.outs)=some R':=by
           intro R'
           cases b
           .simp only [cond_false]
            rw [Nz n1 n2]
            cases (t.den ρ).B<;>rfl
           .simp only [cond_true]
            rw [Nz n2 n1]
            cases (t.den ρ).B<;>rfl
          cases wt with
          |true=>
           rw [if_pos hwt]
           have hB:(t.den ρ).B=b:=by simpa using hk.symm
           have hp1:=gq hB hp
           obtain ⟨vs,hvs,he⟩:=Dq (P:=P) hp1 hf hc w E fr a o rfl (fun _ _=>rfl) hfr
           refine .inl (hI _ _ _ _ _ _ _ hC hp1 (fun x hx=>hs x (by simp [hx])) base w E ah vs ha hh hfr.Lm hvs o a he _ _ (fun c hc v w' E' fV q1 q2 q3 q4=>?_))
           obtain ⟨pc',u_,y',g1,g2,g3,g4⟩:=NC (P:=P) (fun _ _ _ _ h=>xQ h) hy hp1 (fun x hx=>hs x (by simp [hx])) c hc
           exact Dt hρ hX hI rest (i+1) _ _ w' E' _ g1 g2 g3 (xP (e:=⟨[],c.v⟩) hf hd hN) q1 (by rw [mg,hN]) hl' q3 ((hfr.mono q2.ext).put o.dst q4) (fun R' hR'=>lift q2 (ax6 _ _ _) R' ((hsel R').2 (by rw [<- hk];exact g4 R' hR')))
          |false=>
           rw [if_neg (by rw [hwt];simp)]
           have hB:(t.den ρ).B=!b:=by cases hb:(t.den ρ).B<;>cases b<;>simp [hb] at hk ⊢
           exact Dt hρ hX hI rest (i+1) _ _ w E _ hz (gq hB hp) (fun x hx=>hs x (by simp [hx])) (xP (e:=⟨[],.c .undef⟩) hf hd hN) ha (by rw [mg,hN]) hl' hh (hfr.put o.dst (.p rfl)) (fun R' hR'=>lift (Step.refl _ _ _) (ax6 _ _ _) R' ((hsel R').2 (by rw [<- hk];exact hR')))
     .cases h
    .rename_i r hr
     cases hE:r.wr.isEmpty
     .simp [hE] at h
     .simp only [hE,cond_true] at h
      split at h
      .cases h
      .rename_i y hy
       simp only [Option.some.injEq] at h;subst h
       have hwr:r.wr=[]:=by simpa using hE
       have hsd:=Gf hs
       obtain ⟨wt,hk,hwt⟩:=nZ (ops:=ops) hfr (BG hp hf hw (k:=fun b=>When.sem ρ (.maybe l) b) fun b hb=>hb)
       simp only [When.sem] at hk
       have hput:=xP (e:=⟨l,r.v⟩) hf hd hN
       cases wt with
       |true=>
        rw [if_pos hwt]
        have hpl:=Pc.Gg hk.symm hp
        have e2:(⟨l,r.v⟩:pI).den ρ=r.v.den ρ:=by simp only [pI.den,<- hk];rfl
        rw [e2] at hput
        refine .inl (X4 (id:=R.nx) (K:=fun r'=>r'=r.den ρ) hh (Nat.le_refl _) hfr (Yy hρ hX hpl hf ha hr (hsd.1 hpl) rfl) (fun r' v w' E' hr' hst hh' hv=>?_))
        subst hr'
        have e3:qU ah (SR.den ρ r).wr=ah:=by simp [SR.den,hwr,qU]
        rw [e3] at hh'
        exact Dt hρ hX hI rest (i+1) _ _ w' E' _ hy hp hsd.2 hput ha (by rw [mg];exact hN) hl' (hh'.weaken fun b hb=>⟨Nat.le_of_succ_le hb,Nat.ne_of_gt hb⟩) ((hfr.mono hst.ext).put o.dst hv) (lift hst (ax6 _ _ _))
       |false=>
        rw [if_neg (by rw [hwt];simp)]
        have e1:(⟨l,r.v⟩:pI).den ρ=eX:=by simp only [pI.den,<- hk];rfl
        rw [e1] at hput
        exact Dt hρ hX hI rest (i+1) _ _ w E _ hy hp hsd.2 hput ha (by rw [mg];exact hN) hl' (hh.weaken fun b hb=>Nat.le_of_succ_le hb) (hfr.put o.dst (.p rfl)) (lift (Step.refl _ _ _) (ax6 _ _ _))
structure BJ where
 fr:lY
 ah:AH
 rv:AV
 WR:Nat->Bool
 RD:Nat->Bool
 NEW:Nat->Prop
 X_:Nat->Prop
 nx:Nat
 call:Bool
def ajl (P:Program)(ops:Array Oper)(base j:Nat)(o:Oper)(r:BJ)(ahn:AH):Prop:=
 ∀(HY:lY) (qX:AH) (w:World) (E:Env) (a:Act) (F:Nat->Prop),LG r.fr HY (o.looksAt ops)->(∀b,r.RD b=true->qX b=r.ah b)->
  dU base w E qX F->(∀b,r.X_ b->F b)->vV w E HY a.tmps->∀(Q:Exit->Act->World->Prop) (K:Act->World->Prop),
   (∀v w' E' xq,(∀b,xq b=if r.WR b=true then ahn b else qX b)->Step base w E w' E'->dU base w' E' xq (fun b=>F b/\¬r.NEW b)->Rep w' E' r.rv v->K (a.put o.dst v) w')->wpOp P ops Q j K a w
def Gi {α:Type}(f:BJ->α)(L:List BJ)(e:α)(k:Nat):α:=match L[k]? with|some r=>f r|none=>e
def ajm (r' r:BJ):Prop:=(∀b,r'.WR b=true->r.RD b=false/\r.WR b=false)/\∀b,r'.RD b=true->r.WR b=false
def an4 (f:IE)(r:BJ):Prop:=(∀b∈f.wr,r.RD b=false/\r.WR b=false)/\∀b∈f.rd,r.WR b=false
structure I4 (P:Program)(ops:Array Oper)(base:Nat)(M:List Nat)(i:Nat)(l:List Oper)(L:List BJ)(Qw:lY)(Qx:AH)(nxE:Nat)(qs:List Nat)(cs:CS)(fs:List IE)(k:Nat)(o:Oper)(r:BJ):Prop where
 step:ajl P ops base (i+k) o r (Gi (·.ah) L Qx (k+1))
 fr:Gi (·.fr) L Qw (k+1)=yx r.fr o.dst r.rv
 ah:∀b,r.WR b=false->Gi (·.ah) L Qx (k+1) b=r.ah b
 nx:r.nx<=Gi (·.nx) L nxE (k+1)
 req:∀b,r.X_ b->r.nx<=b
 new:∀b,r.NEW b->b<Gi (·.nx) L nxE (k+1)
 plain:r.call=false->(∀b,r.X_ b->b<Gi (·.nx) L nxE (k+1))/\∀b,r.NEW b->r.nx<=b
 avl:r.call=true->∀m∈qs,(M.getD (i+k) 0).testBit m=true
 calls:∀c∈cs,(M.getD (i+k) 0).testBit c.1=true\/((∀b,r.WR b=false)/\(∀b,r.RD b=true->c.2.1 b=true)/\∀b,¬r.NEW b)\/(c.2.2 ()=true/\(∀b,r.WR b=true->r.nx<=b)/\(∀b,r.RD b=true->c.2.1 b=true)/\∀b,r.NEW b->r.nx<=b)
 ccs:r.call=true->∀c∈cs,(M.getD (i+k) 0).testBit c.1=true
 foots:∀f∈fs,(M.getD (i+k) 0).testBit f.i=true\/an4 f r
 prev:∀k' r',k' < k->L[k']?=some r'->((M.getD (i+k) 0).testBit (i+k')=true\/ajm r' r)/\(r'.call=true->(M.getD (i+k) 0).testBit (i+k')=true\/∀b,r'.X_ b->¬r.NEW b)/\(r.call=true->(M.getD (i+k) 0).testBit (i+k')=true\/∀b,¬r'.X_ b)
theorem dU.sub {base:Nat}{w:World}{E:Env}{ah oq:AH}{F:Nat->Prop}(h:dU base w E ah F)(hs:∀b k,oq b=some k->ah b=some k):dU base w E oq F:=
 ⟨fun b k hb=>h.blk b k (hs b k hb),fun b b' k k' c o c' o' hne h1 h2=>h.sep b b' k k' c o c' o' hne (hs _ _ h1) (hs _ _ h2),h.fresh,h.kF,h.bs,h.kJ⟩
theorem jH {α:Type}{f:BJ->α}{r:BJ}{L:List BJ}{e:α}{k:Nat}:Gi f (r::L) e (k+1)=Gi f L e k:=rfl
theorem I4.cons {P:Program}{ops:Array Oper}{base:Nat}{M:List Nat}{i:Nat}{l:List Oper}{L:List BJ}{Qw:lY}{Qx:AH}{nxE:Nat}{qs qs':List Nat}{cs cs':CS}{fs fs':List IE}{o:Oper}{r:BJ}
  (hl:L.length=l.length) (h0:I4 P ops base M i (o::l) (r::L) Qw Qx nxE qs cs fs 0 o r) (ht:∀k o' r',l[k]?=some o'->L[k]?=some r'->I4 P ops base M (i+1) l L Qw Qx nxE qs' cs' fs' k o' r')
  (hqs:∀c∈qs,c∈qs') (hq:r.call=false->i∈qs'\/∀b,¬r.X_ b) (hcs:∀c∈cs,c∈cs') (hfs:∀f∈fs,f∈fs') (hc:r.call=true->∃S G,(i,S,G)∈cs'/\(∀b,S b=true->r.WR b=false)/\(G ()=true->∀b,(r.WR b=true\/r.RD b=true\/r.X_ b)->b<Gi (·.nx) L nxE 0)) (hf:r.call=false->(∃f∈fs',f.i=i/\∀r',an4 f r'->ajm r r')\/∀r',ajm r r') :
  ∀k o' r',(o::l)[k]?=some o'->(r::L)[k]?=some r'->I4 P ops base M i (o::l) (r::L) Qw Qx nxE qs cs fs k o' r':=by
 intro k o' r' h1 h2
 cases k with
 |zero=>simp at h1 h2;subst h1;subst h2;exact h0
 |succ k=>
  simp at h1 h2
  obtain ⟨q1,q2,q3,q4,q5,q6,q7,q8,q9,qc,q10,q11⟩:=ht k o' r' h1 h2
  have e:i+1+k=i+(k+1):=by omega
  rw [e] at q1 q8 q9 qc q10 q11
  refine ⟨q1,q2,q3,q4,q5,q6,q7,fun hcl m hm=>q8 hcl m (hqs m hm),fun c hm=>q9 c (hcs c hm),fun hcl c hm=>qc hcl c (hcs c hm),fun f hm=>q10 f (hfs f hm),fun k' s hk hs=>?_⟩
  have hnx:∀m,m<=k->Gi (·.nx) L nxE 0<=Gi (·.nx) L nxE m:=by
   intro m
   induction m with
   |zero=>intro _;exact Nat.le_refl _
   |succ m ih=>
    intro hm
    have h3:=(List.getElem?_eq_some_iff.1 h2).1
    have hm1:m<L.length:=by omega
    have:=(ht m l[m] L[m] (by simp [<- hl,hm1]) (by simp [hm1])).nx
    refine Nat.le_trans (ih (by omega)) ?_
    have e:Gi (·.nx) L nxE m=L[m].nx:=by unfold Gi;simp [hm1]
    rw [e];exact this
  have avU:Gi (·.nx) L nxE 0<=r'.nx:=by
   have:=hnx k (Nat.le_refl _)
   have e:Gi (·.nx) L nxE k=r'.nx:=by unfold Gi;rw [h2]
   rwa [e] at this
  cases k' with
  |zero=>
   simp at hs;subst hs
   refine ⟨?_,fun hcall=>?_,fun hcl=>?_⟩
   rotate_left
   .obtain ⟨S,G,hm,hS,hG⟩:=hc hcall
    rcases q9 _ hm with h|⟨-,-,h⟩|⟨h0,-,-,h⟩
    .exact .inl (by simpa using h)
    .exact .inr fun b _=>h b
    .refine .inr fun b hb hn=>?_
     have e1:=hG h0 b (.inr (.inr hb))
     have e2:=h b hn
     omega
   .cases hcall:r.call with
    |true=>
     obtain ⟨S,G,hm,hS,hG⟩:=hc hcall
     exact .inl (by simpa using qc hcl _ hm)
    |false=>
     rcases hq hcall with h|h
     .exact .inl (by simpa using q8 hcl i h)
     .exact .inr h
   cases hcall:r.call with
   |true=>
    obtain ⟨S,G,hm,hS,hG⟩:=hc hcall
    rcases q9 _ hm with h|⟨h1,h2,-⟩|⟨h0,h1,h2,-⟩
    .exact .inl (by simpa using h)
    .refine .inr ⟨fun b hb=>⟨?_,h1 b⟩,fun b _=>h1 b⟩
     cases hd:r'.RD b
     .rfl
     .have:=hS b (h2 b hd);rw [hb] at this;cases this
    .have lo:∀b,(r.WR b=true\/r.RD b=true\/r.X_ b)->r'.WR b=false:=fun b hb=>by
      cases hd:r'.WR b
      .rfl
      .have e1:=hG h0 b hb
       have e2:=h1 b hd
       omega
     refine .inr ⟨fun b hb=>⟨?_,lo b (.inl hb)⟩,fun b hb=>lo b (.inr (.inl hb))⟩
     cases hd:r'.RD b
     .rfl
     .have:=hS b (h2 b hd);rw [hb] at this;cases this
   |false=>
    rcases hf hcall with ⟨f,hm,rfl,hff⟩|hff
    .rcases q10 f hm with h|h
     .exact .inl h
     .exact .inr (hff _ h)
    .exact .inr (hff _)
  |succ k'=>
   simp at hs
   have:=q11 k' s (by omega) hs
   have e2:i+1+k'=i+(k'+1):=by omega
   rw [e2] at this
   exact this
theorem Ez {N:Nat}{ops:Array Oper}{M:List Nat}:∀{l:List Oper} {i:Nat} {pc:Pc} {qs:List Nat} {cs:CS} {fs:List IE} {R:RQ} {nv:Nat} {y:SQ},Dp P X inl Ia N ops M i l pc qs cs fs R nv=some y->y.outs≠[]
 |[],i,pc,qs,cs,fs,R,nv,y,h=>by simp only [Dp,Option.some.injEq] at h;subst h;simp
 |o::rest,i,pc,qs,cs,fs,R,nv,y,h=>by
  unfold Dp at h
  generalize (TR N o.dst)=g at h
  cases g
  .cases h
  .simp only [cond_true] at h
   split at h
   .cases h
   .exact Ez h
   .split at h
    .obtain ⟨Ib,h⟩:∃Ib,(match inl pc Ib R.nx nv _ _ with
       |none=>none
       |some C=>bif Qu M i cs&&IZ M i qs fs Ib C.outs then match Dn (fun pc c nv=>Dp P X inl Ia N ops M (i+1) rest pc qs ((i,BI Ib C.outs,JY Ib R.nx _ C.outs)::cs) fs ⟨Nv R.tr o.dst ⟨[],c.v⟩,c.th,Nat.max c.nx R.nx⟩ nv) pc C.outs C.nv with
        |none=>none
        |some y=>some ⟨y.outs,y.nv,C.sd++y.sd⟩
        else none)=some y:=(Qv h).elim (fun h=>⟨_,h⟩) (fun h=>⟨_,h⟩)
     split at h
     .cases h
     .generalize (Qu _ _ _&&IZ _ _ _ _ _ _)=g at h
      cases g
      .cases h
      .simp only [cond_true] at h
       split at h
       .cases h
       .rename_i z hz
        simp only [Option.some.injEq] at h;subst h
        exact (Ey (fun _ _ _ _ h=>Ez h) hz:z.outs≠[])
    .split at h
     .cases h
     .rename_i r hr
      generalize (aaj _ _ _ _ _ _ _&&fs.all _)=g at h
      cases g
      .cases h
      .simp only [cond_true] at h
       split at h
       .cases h
       .rename_i z hz
        simp only [Option.some.injEq] at h;subst h
        exact (Ez hz:z.outs≠[])
   .split at h
    .cases h
    .rename_i r hr
     generalize (r.wr.isEmpty&&(aaj _ _ _ _ _ _ _&&fs.all _))=g at h
     cases g
     .cases h
     .simp only [cond_true] at h
      split at h
      .cases h
      .rename_i z hz
       simp only [Option.some.injEq] at h;subst h
       exact (Ez hz:z.outs≠[])
theorem ajn {M:List Nat}{i:Nat}{l:List Nat}(h:aji M i l=true):∀c∈l,(M.getD i 0).testBit c=true:=by
 unfold aji at h
 rw [List.all_eq_true] at h
 exact h
theorem ajo {ah qX:AH}{wr:List (Nat×Option vH)}(b:Nat):qU qX wr b=if decide (b∈wr.map (·.1))=true then qU ah wr b else qX b:=by
 by_cases h:b∈wr.map (·.1)
 .rw [if_pos (by simpa using h)];exact aeD h
 .rw [if_neg (by simpa using h)];exact IG h
theorem ajp {ops:Array Oper}{base j:Nat}{o:Oper}(ho:ops[j]?=some o){fr:lY}{ah:AH}{nx:Nat}{RD:Nat->Bool}{v:AV}(hv:v=.p undef)(h:nH ops fr o (fun b=>b=false)) :
  ajl P ops base j o ⟨fr,ah,v,fun _=>false,RD,fun b=>Ef o.op=false/\b=nx,fun b=>Ef o.op=false/\b=nx,nx,false⟩ ah:=by
 intro HY qX w E a F hag hrd hh ade hfr Q K hK
 obtain ⟨wt,hk,hloc⟩:=zQ h
 obtain ⟨wt',hk',hw⟩:=nZ hfr (hloc HY hag (fun b=>b=wt) rfl)
 subst hk';subst hk
 unfold wpOp
 rw [ho]
 dsimp only
 rw [if_neg (by rw [hw];simp)]
 exact hK undef w E qX (fun b=>by simp) (Step.refl _ _ _) (hh.weaken fun b hb=>hb.1) (by rw [hv];exact .p rfl)
theorem aak {ops:Array Oper}{base j:Nat}{o:Oper}(ho:ops[j]?=some o){fr:lY}{ah:AH}{nx:Nat}{r:rP}(h:nH ops fr o (fun b=>b=true))(hop:Zl P nx fr ah o.op fun r'=>r'=r) :
  ajl P ops base j o ⟨fr,ah,r.v,fun b=>decide (b∈r.wr.map (·.1)),fun b=>decide (b∈r.rd),fun b=>Ef o.op=false/\b=nx,fun b=>Ef o.op=false/\b=nx,nx,false⟩ (qU ah r.wr):=by
 intro HY qX w E a F hag hrd hh ade hfr Q K hK
 obtain ⟨wt,hk,hloc⟩:=zQ h
 obtain ⟨wt',hk',hw⟩:=nZ hfr (hloc HY hag (fun b=>b=wt) rfl)
 subst hk';subst hk
 obtain ⟨r',rfl,hl⟩:=alN hop
 unfold wpOp
 rw [ho]
 dsimp only
 rw [if_pos hw]
 cases hpu:Ef o.op with
 |false=>
  refine .inl (X4 (id:=nx) hh (ade nx ⟨hpu,rfl⟩) hfr (hl HY qX (Dh hag) (fun b hb=>hrd b (by simpa using hb))) (fun r2 v w' E' hr hst hh' hv=>?_))
  subst hr
  exact hK v w' E' _ (fun b=>ajo b) hst (hh'.weaken fun b hb=>⟨hb.1,fun e=>hb.2 ⟨hpu,e⟩⟩) hv
 |true=>
  refine .inl (aiu (id:=nx) hh hfr hpu (hl HY qX (Dh hag) (fun b hb=>hrd b (by simpa using hb))) (fun r2 v hr hwr hv=>?_))
  subst hr
  exact hK v w E qX (fun b=>by simp [hwr]) (Step.refl _ _ _) (hh.weaken fun b hb=>hb.1) hv
theorem aal {α:Type}:∀{l:List (Tm×α)} {c:α},su ρ l=some c->∃x∈l,x.2=c
 |[],c,h=>by simp [su] at h
 |[x],c,h=>by simp only [su,Option.some.injEq] at h;exact ⟨x,by simp,h⟩
 |x::y::r,c,h=>by
  simp only [su] at h
  cases hg:(x.1.den ρ).B
  .rw [hg] at h
   obtain ⟨z,hz,e⟩:=aal (l:=y::r) h
   exact ⟨z,List.mem_cons_of_mem _ hz,e⟩
  .rw [hg] at h
   simp only [cond_true,Option.some.injEq] at h
   exact ⟨x,by simp,h⟩
theorem agY {M:List Nat}{i:Nat}{qs:List Nat}{fs:List IE}{th:Tr SB}{outs:List (Tm×CO)}(h:IZ M i qs fs th outs=true) :
  (∀q∈qs,(M.getD i 0).testBit q=true)/\(∀f∈fs,(M.getD i 0).testBit f.i=true\/(f.wr=[]/\∀b∈f.rd,BI th outs b=true)):=by
 unfold IZ at h
 simp only [Bool.and_eq_true,List.all_eq_true] at h
 obtain ⟨h1,h2⟩:=h
 refine ⟨ajn h1,fun f hf=>?_⟩
 cases hbit:(M.getD i 0).testBit f.i with
 |true=>exact .inl rfl
 |false=>
  have:=h2 f hf
  simp only [hbit,Bool.false_or,Bool.and_eq_true,List.isEmpty_iff,List.all_eq_true] at this
  exact .inr this
theorem aam {th:Tr SB}{outs:List (Tm×CO)}{b:Nat}(h:BI th outs b=true){x:Tm×CO}(hx:x∈outs):∃k,x.2.th.get b=some k/\th.get b=some k:=by
 unfold BI at h
 rw [List.all_eq_true] at h
 exact ajk (h x hx)
theorem ajq {M:List Nat}{i:Nat}{cs:CS}(h:Qu M i cs=true):∀c∈cs,(M.getD i 0).testBit c.1=true:=by
 unfold Qu at h
 rw [List.all_eq_true] at h
 exact h
theorem aeW {M:List Nat}{i own:Nat}{pu:Bool}{rd wr:List Nat}{cs:CS}(h:aaj M i pu own rd wr cs=true):∀c∈cs,(M.getD i 0).testBit c.1=true\/((∀b∈rd,c.2.1 b=true)/\((pu=true/\wr=[])\/((∀b∈wr,own=b)/\c.2.2 ()=true))):=by
 unfold aaj at h
 rw [List.all_eq_true] at h
 intro c hc
 cases hbit:(M.getD i 0).testBit c.1 with
 |true=>exact .inl rfl
 |false=>
  have:=h c hc
  simp only [hbit,Bool.false_or,Bool.and_eq_true,Bool.or_eq_true,List.isEmpty_iff,List.all_eq_true] at this
  exact .inr ⟨this.1,this.2.imp id fun h=>⟨fun b hb=>Nat.eq_of_beq_eq_true (h.1 b hb),h.2⟩⟩
theorem amb {i:Nat}{op:Op}{qs:List Nat}(h:Ef op=false):i∈ac_ i op qs:=by unfold ac_;rw [h];exact List.mem_cons_self
theorem aan {i:Nat}{op:Op}{qs:List Nat}:∀c∈qs,c∈ac_ i op qs:=fun c hc=>by
 unfold ac_
 cases Ef op
 .exact List.mem_cons_of_mem _ hc
 .exact hc
theorem aeX {i:Nat}{op:Op}{qs:List Nat}{nx:Nat}:i∈ac_ i op qs\/∀b,¬(Ef op=false/\b=nx):=by
 cases h:Ef op with
 |false=>exact .inl (amb h)
 |true=>exact .inr fun b hb=>by cases hb.1
theorem EC {N:Nat}{ops:Array Oper}{M:List Nat}{base:Nat}(hρ:iT ρ=true)(hX:oJ P ρ X)(hI:n_ P ρ inl):∀(l:List Oper) (i:Nat) {pc:Pc} {qs:List Nat} {cs:CS} {fs:List IE} {R:RQ} {nv:Nat} {S:SQ} (fr:lY) (ah:AH),
  Dp P X inl Ia N ops M i l pc qs cs fs R nv=some S->Pc.holds ρ pc->jw P ρ S.sd->WA ρ R.tr fr->Fq ρ R.th ah->fr.length=N->(∀j:Nat,l[j]?=ops[i+j]?)->
  ∃(R':RQ) (L:List BJ) (Qw:lY) (Qx:AH),su ρ S.outs=some R'/\L.length=l.length/\WA ρ R'.tr Qw/\Fq ρ R'.th Qx/\Qw.length=N/\Gi (·.fr) L Qw 0=fr/\Gi (·.ah) L Qx 0=ah/\Gi (·.nx) L R'.nx 0=R.nx/\
   ∀k o r,l[k]?=some o->L[k]?=some r->I4 P ops base M i l L Qw Qx R'.nx qs cs fs k o r
 |[],i,pc,qs,cs,fs,R,nv,S,fr,ah,h,hp,hs,hf,ha,hN,hl=>by
  simp only [Dp,Option.some.injEq] at h;subst h
  exact ⟨R,[],fr,ah,rfl,rfl,hf,ha,hN,rfl,rfl,rfl,fun k o r h=>by simp at h⟩
 |o::rest,i,pc,qs,cs,fs,R,nv,S,fr,ah,h,hp,hs,hf,ha,hN,hl=>by
  have ho:ops[i]?=some o:=by simpa using (hl 0).symm
  have hl':∀j:Nat,rest[j]?=ops[i+1+j]?:=fun j=>by have:=hl (j+1);simp at this;rw [this];congr 1;omega
  unfold Dp at h
  cases hd:TR N o.dst
  .simp [hd] at h
  .simp only [hd,cond_true] at h
   split at h
   .cases h
   .rename_i hw
    have hwt:nH ops fr o (fun b=>b=false):=BG hp hf hw fun b hb=>hb
    obtain ⟨R',L,Qw,Qx,q1,q2,q3,q4,q5,q6,q7,q8,q9⟩:=EC hρ hX hI rest (i+1) (base:=base) _ _ h hp hs (xP (e:=⟨[],.c .undef⟩) hf hd hN) ha (by rw [mg,hN]) hl'
    refine ⟨R',⟨fr,ah,.p undef,fun _=>false,fun _=>false,fun _=>False,fun _=>False,R.nx,false⟩::L,Qw,Qx,q1,by simp [q2],q3,q4,q5,rfl,rfl,rfl,?_⟩
    refine I4.cons q2 ⟨?_,?_,?_,?_,?_,?_,?_,?_,?_,?_,?_,?_⟩ q9 (fun _ h=>h) (fun _=>.inr fun b h=>h) (fun _ h=>h) (fun _ h=>h) (fun h=>by cases h) (fun _=>.inr fun r'=>⟨fun b h=>(by cases h),fun b h=>(by cases h)⟩)
    .rw [jH,q7]
     intro HY qX w E a F hag hrd hh ade hfr Q K hK
     obtain ⟨wt,hk,hloc⟩:=zQ hwt
     obtain ⟨wt',hk',hw⟩:=nZ hfr (hloc HY hag (fun b=>b=wt) rfl)
     subst hk';subst hk
     unfold wpOp
     rw [show ops[i+0]?=some o from ho]
     dsimp only
     rw [if_neg (by rw [hw];simp)]
     exact hK undef w E qX (fun b=>by simp) (Step.refl _ _ _) (hh.weaken fun b hb=>hb.1) (.p rfl)
    .rw [jH,q6];rfl
    .intro b _;rw [jH,q7]
    .rw [jH,q8];exact Nat.le_refl _
    .intro b h;exact h.elim
    .intro b h;exact h.elim
    .intro _;exact ⟨fun b h=>h.elim,fun b h=>h.elim⟩
    .intro h;cases h
    .intro c _;exact .inr (.inl ⟨fun _=>rfl,fun b hb=>(by cases hb),fun b hb=>hb⟩)
    .intro h;cases h
    .intro f _;exact .inr ⟨fun b _=>⟨rfl,rfl⟩,fun b _=>rfl⟩
    .intro k' r' hk;omega
   .rename_i hw
    have hwt:nH ops fr o (fun b=>b=true):=BG hp hf hw fun b hb=>hb
    split at h
    .rename_i f args hc
     obtain ⟨Ib,ha0,h⟩:∃Ib,Fq ρ Ib ah/\(match inl pc Ib R.nx nv f args with
       |none=>none
       |some C=>bif Qu M i cs&&IZ M i qs fs Ib C.outs then match Dn (fun pc c nv=>Dp P X inl Ia N ops M (i+1) rest pc qs ((i,BI Ib C.outs,JY Ib R.nx args C.outs)::cs) fs ⟨Nv R.tr o.dst ⟨[],c.v⟩,c.th,Nat.max c.nx R.nx⟩ nv) pc C.outs C.nv with
        |none=>none
        |some y=>some ⟨y.outs,y.nv,C.sd++y.sd⟩
        else none)=some S:=(Qv h).elim (fun h=>⟨R.th,ha,h⟩) (fun h=>⟨YB R.nx 4 R.th,fun b k hk=>ha b k (TV hk),h⟩)
     clear ha
     have ha:=ha0
     split at h
     .cases h
     .rename_i C hC
      cases hb:Qu M i cs&&IZ M i qs fs Ib C.outs
      .simp [hb] at h
      .simp only [hb,cond_true] at h
       simp only [Bool.and_eq_true] at hb
       have hcs:=ajq hb.1
       obtain ⟨hq1,hq2⟩:=agY hb.2
       split at h
       .cases h
       .rename_i y hy
        simp only [Option.some.injEq] at h;subst h
        have att:∃c,su ρ C.outs=some c:=by
         refine aeV ?_
         intro e;rw [e] at hy;simp [Dn] at hy
        obtain ⟨c,hc0⟩:=att
        obtain ⟨xc,hxc,exc⟩:=aal hc0
        have hsame:∀b,BI Ib C.outs b=true->iO ρ c.th b=ah b:=fun b hb=>by
         obtain ⟨k,k1,k2⟩:=aam hb hxc
         rw [exc] at k1
         rw [ha b k k2]
         unfold iO
         rw [k1];rfl
        obtain ⟨pc',u_,y',g1,g2,g3,g4⟩:=NC (P:=P) (fun _ _ _ _ h=>Ez h) hy hp (fun x hx=>hs x (by simp [hx])) c hc0
        cases hfm:JY Ib R.nx args C.outs ()
        case false=>
         obtain ⟨R',L,Qw,Qx,q1,q2,q3,q4,q5,q6,q7,q8,q9⟩:=EC hρ hX hI rest (i+1) (base:=base) (yx fr o.dst (c.v.den ρ)) (iO ρ c.th) g1 g2 g3 (xP (e:=⟨[],c.v⟩) hf hd hN) (fun b k hk=>by unfold iO;rw [hk];rfl) (by rw [mg,hN]) hl'
         refine ⟨R',⟨fr,ah,c.v.den ρ,fun b=>!BI Ib C.outs b,fun _=>true,fun b=>b<Nat.max c.nx R.nx,fun b=>R.nx<=b,R.nx,true⟩::L,Qw,Qx,g4 _ q1,by simp [q2],q3,q4,q5,rfl,rfl,rfl,?_⟩
         refine I4.cons q2 ⟨?_,?_,?_,?_,?_,?_,?_,?_,?_,?_,?_,?_⟩ q9 (fun _ h=>h) (fun h=>by cases h) (fun _ h=>List.mem_cons_of_mem _ h) (fun _ h=>h) (fun _=>⟨_,_,List.mem_cons_self,fun b hb=>by simp [hb],fun hg=>by rw [hfm] at hg;cases hg⟩) (fun h=>by cases h)
         .rw [jH,q7]
          intro HY qX w E a F hag hrd hh ade hfr Q K hK
          obtain ⟨wt,hk,hloc⟩:=zQ hwt
          obtain ⟨wt',hk',hw⟩:=nZ hfr (hloc HY hag (fun b=>b=wt) rfl)
          subst hk';subst hk
          have e0:qX=ah:=funext fun b=>hrd b rfl
          subst e0
          obtain ⟨vs,hvs,he⟩:=Dq hp hf hc w E HY a o rfl (Dh hag) hfr
          unfold wpOp
          rw [show ops[i+0]?=some o from ho]
          dsimp only
          rw [if_pos hw]
          refine .inl (hI _ _ _ _ _ _ _ hC hp (fun x hx=>hs x (by simp [hx])) base w E _ vs ha (hh.weaken ade) hfr.Lm hvs o a he _ _ (fun c' hc' v w' E' fV r1 r2 r3 r4=>?_))
          rw [hc0] at hc'
          cases hc'
          refine hK v w' E' (iO ρ c.th) (fun b=>?_) r2 ((r3.sub (oq:=iO ρ c.th) (fun b k hk=>?_)).weaken fun b hb=>?_) r4
          .cases hbu:BI Ib C.outs b
           .simp [hbu]
           .simp [hbu,hsame b hbu]
          .unfold iO at hk
           simp only [Option.map_eq_some_iff] at hk
           obtain ⟨z,hz,rfl⟩:=hk
           exact r1 b z hz
          .have:=hb.2
           have h2:Nat.max c.nx R.nx<=b:=Nat.le_of_not_lt this
           exact Nat.le_trans (Nat.le_max_left _ _) h2
         .rw [jH,q6]
         .intro b hb
          rw [jH,q7]
          exact hsame b (by simpa using hb)
         .rw [jH,q8];exact Nat.le_max_right _ _
         .intro b h;exact h
         .intro b h;rw [jH,q8];exact h
         .intro h;cases h
         .intro _ m hm;exact hq1 m hm
         .exact fun c hc=>.inl (hcs c hc)
         .exact fun _ c hc=>hcs c hc
         .intro f hm
          rcases hq2 f hm with h|⟨h1,h2⟩
          .exact .inl h
          .exact .inr ⟨fun b hb=>(by rw [h1] at hb;cases hb),fun b hb=>by simpa using h2 b hb⟩
         .intro k' r' hk;omega
        case true=>
         have hfm0:=hfm
         unfold JY at hfm0
         simp only [Bool.and_eq_true,List.all_eq_true] at hfm0
         obtain ⟨f1,f2,f3⟩:=ac6 hρ hfm0.1
         have hfx:=hfm0.2 xc hxc
         rw [exc] at hfx
         obtain ⟨f4,f5,f6⟩:=ac7 hρ hfx
         have arw:∀b k,iO ρ Ib b=some k->ah b=some k:=fun b k hk=>by
          obtain ⟨z,hz,rfl⟩:=yY hk
          exact ha b z hz
         have apq:∀b,BI Ib C.outs b=true->b<R.nx:=fun b hb=>by
          obtain ⟨k,k1,k2⟩:=aam hb hxc
          exact f1 b (k.den ρ) (by unfold iO;rw [k2];rfl)
         obtain ⟨R',L,Qw,Qx,q1,q2,q3,q4,q5,q6,q7,q8,q9⟩:=EC hρ hX hI rest (i+1) (base:=base) (yx fr o.dst (c.v.den ρ)) (fun b=>if c.nx<=b then ah b else iO ρ c.th b) g1 g2 g3 (xP (e:=⟨[],c.v⟩) hf hd hN) (fun b k hk=>by
          have h1:iO ρ c.th b=some (k.den ρ):=by unfold iO;rw [hk];rfl
          have h2:=(f5 b _ h1).1
          show (if c.nx<=b then ah b else iO ρ c.th b)=_
          rw [if_neg (by omega)];exact h1) (by rw [mg,hN]) hl'
         refine ⟨R',⟨fr,ah,c.v.den ρ,fun b=>!BI Ib C.outs b&&decide (b<c.nx),fun b=>decide (b<R.nx),fun b=>R.nx<=b/\b<c.nx,fun b=>R.nx<=b/\b<c.nx,R.nx,true⟩::L,Qw,Qx,g4 _ q1,by simp [q2],q3,q4,q5,rfl,rfl,rfl,?_⟩
         have hnext:c.nx<=Gi (·.nx) L R'.nx 0:=by rw [q8];exact Nat.le_max_left _ _
         refine I4.cons q2 ⟨?_,?_,?_,?_,?_,?_,?_,?_,?_,?_,?_,?_⟩ q9 (fun _ h=>h) (fun h=>by cases h) (fun _ h=>List.mem_cons_of_mem _ h) (fun _ h=>h) (fun _=>⟨_,_,List.mem_cons_self,fun b hb=>by simp [hb],fun _ b hb=>?_⟩) (fun h=>by cases h)
         rotate_right
         .rcases hb with hb|hb|hb
          .simp only [Bool.and_eq_true,decide_eq_true_eq] at hb;omega
          .simp only [decide_eq_true_eq] at hb;omega
          .have:=hb.2;omega
         .rw [jH,q7]
          intro HY qX w E a F hag hrd hh ade hfr Q K hK
          obtain ⟨wt,hk,hloc⟩:=zQ hwt
          obtain ⟨wt',hk',hw⟩:=nZ hfr (hloc HY hag (fun b=>b=wt) rfl)
          subst hk';subst hk
          obtain ⟨vs,hvs,he⟩:=Dq hp hf hc w E HY a o rfl (Dh hag) hfr
          unfold wpOp
          rw [show ops[i+0]?=some o from ho]
          dsimp only
          rw [if_pos hw]
          have hsub:∀b k,iO ρ Ib b=some k->qX b=some k:=fun b k hk=>by
           rw [hrd b (by simpa using f1 b k hk)];exact arw b k hk
          have hvs':iE w (E.part (iO ρ Ib)) (dQ ρ args) vs:=
           ⟨hvs.1,fun i a v h1 h2=>TS (hvs.2 i a v h1 h2) fun x hx=>f3 x (jv i a h1 hx)⟩
          refine .inl (hI _ _ _ _ _ _ _ hC hp (fun x hx=>hs x (by simp [hx])) base w (E.part (iO ρ Ib)) (iO ρ Ib) vs (fun b k hk=>by unfold iO;rw [hk];rfl) (Pg hh hsub f1 f2) hfr.Lm hvs' o a he _ _ (fun c' hc' v w' E' fV r1 r2 r3 r4=>?_))
          rw [hc0] at hc'
          cases hc'
          obtain ⟨u1,u2,u3⟩:=agT hh hsub f1 f4 (fun b h1 h2=>ade b ⟨h1,h2⟩) r2 (r3.sub (oq:=iO ρ c.th) (fun b k hk=>by
           obtain ⟨z,hz,rfl⟩:=yY hk
           exact r1 b z hz)) f5 (xq:=fun b=>if c.nx<=b then qX b else iO ρ c.th b) (fun b=>rfl)
          refine hK v w' _ _ (fun b=>?_) u1 u2 (u3 _ _ r4 f6)
          dsimp only
          by_cases hle:c.nx<=b
          .rw [if_pos hle,if_neg (by simp;omega)]
          .rw [if_neg hle]
           rcases Bool.eq_false_or_eq_true (BI Ib C.outs b) with hbu|hbu
           .rw [if_neg (by simp [hbu]),hsame b hbu,hrd b (by simpa using apq b hbu)]
           .rw [if_pos (by simp [hbu,show b<c.nx by omega]),if_neg hle]
         .rw [jH,q6]
         .intro b hb
          rw [jH,q7]
          dsimp only
          by_cases hle:c.nx<=b
          .rw [if_pos hle]
          .rw [if_neg hle]
           refine hsame b ?_
           cases hbu:BI Ib C.outs b
           .simp [hbu,show b<c.nx by omega] at hb
           .rfl
         .rw [jH,q8];exact Nat.le_max_right _ _
         .intro b h;exact h.1
         .intro b h;rw [jH];exact Nat.lt_of_lt_of_le h.2 hnext
         .intro h;cases h
         .intro _ m hm;exact hq1 m hm
         .exact fun c hc=>.inl (hcs c hc)
         .exact fun _ c hc=>hcs c hc
         .intro f hm
          rcases hq2 f hm with h|⟨h1,h2⟩
          .exact .inl h
          .exact .inr ⟨fun b hb=>(by rw [h1] at hb;cases hb),fun b hb=>by simp [h2 b hb]⟩
         .intro k' r' hk;omega
    .split at h
     .cases h
     .rename_i r hr
      cases hap:aaj M i (Ef o.op) R.nx r.rd (r.wr.map (·.1)) cs&&fs.all (fun f=>ayx M i r.rd (r.wr.map (·.1)) f)
      .simp [hap] at h
      .simp only [hap,cond_true] at h
       simp only [Bool.and_eq_true] at hap
       obtain ⟨hcs,hap⟩:=hap
       have hcs:=aeW hcs
       split at h
       .cases h
       .rename_i y hy
        simp only [Option.some.injEq] at h;subst h
        have hsd:=Gf hs
        have hop:=Yy hρ hX hp hf ha hr (hsd.1 hp) (K:=fun r'=>r'=r.den ρ) rfl
        have agZ:(r.den ρ).wr.map (·.1)=r.wr.map (·.1):=by simp [SR.den]
        have ajr:(r.den ρ).rd=r.rd:=rfl
        obtain ⟨R',L,Qw,Qx,q1,q2,q3,q4,q5,q6,q7,q8,q9⟩:=EC hρ hX hI rest (i+1) (base:=base) _ _ hy hp hsd.2 (xP (e:=⟨[],r.v⟩) hf hd hN) (O_ ha) (by rw [mg,hN]) hl'
        refine ⟨R',⟨fr,ah,(r.den ρ).v,fun b=>decide (b∈(r.den ρ).wr.map (·.1)),fun b=>decide (b∈(r.den ρ).rd),fun b=>Ef o.op=false/\b=R.nx,fun b=>Ef o.op=false/\b=R.nx,R.nx,false⟩::L,Qw,Qx,q1,by simp [q2],q3,q4,q5,rfl,rfl,rfl,?_⟩
        refine I4.cons q2 ⟨?_,?_,?_,?_,?_,?_,?_,?_,?_,?_,?_,?_⟩ q9 aan (fun _=>aeX) (fun _ h=>h) (fun f hm=>?_) (fun h=>by cases h) (fun _=>?_)
        .rw [jH,q7]
         exact aak (show ops[i+0]?=some o from ho) hwt hop
        .rw [jH,q6];rfl
        .intro b hb;rw [jH,q7]
         have hb':b∉(r.den ρ).wr.map (·.1):=by simpa using hb
         exact IG hb'
        .rw [jH,q8];exact Nat.le_succ _
        .intro b h;exact Nat.le_of_eq h.2.symm
        .intro b h;rw [jH,q8,h.2];exact Nat.lt_succ_self _
        .intro _;exact ⟨fun b h=>by rw [jH,q8,h.2];exact Nat.lt_succ_self _,fun b h=>Nat.le_of_eq h.2.symm⟩
        .intro h;cases h
        .intro c hc
         rcases hcs c hc with h|⟨h3,⟨h1,h2⟩|⟨h1,h2⟩⟩
         .exact .inl h
         .refine .inr (.inl ⟨fun b=>?_,fun b hb=>?_,fun b hb=>?_⟩)
          .simp only [agZ,h2];simp
          .exact h3 b (by simpa [ajr] using hb)
          .rw [h1] at hb;cases hb.1
         .refine .inr (.inr ⟨h2,fun b hb=>?_,fun b hb=>?_,fun b hb=>Nat.le_of_eq hb.2.symm⟩)
          .simp only [agZ,decide_eq_true_eq] at hb
           exact Nat.le_of_eq (h1 b hb)
          .exact h3 b (by simpa [ajr] using hb)
        .intro h;cases h
        .intro f hm
         rcases WU (List.all_eq_true.1 hap f hm) with h|⟨h1,h2⟩
         .exact .inl (by simpa using h)
         .refine .inr ⟨fun b hb=>?_,fun b hb=>?_⟩
          .have:=h1 b hb
           rw [agZ,ajr]
           exact ⟨by simpa using this.1,by simpa using this.2⟩
          .have:=h2 b hb
           simp only [agZ]
           simpa using this
        .intro k' r' hk;omega
        .unfold agU
         cases (r.rd.isEmpty&&(r.wr.map (·.1)).isEmpty)
         .exact List.mem_cons_of_mem _ hm
         .exact hm
        .cases hE:(r.rd.isEmpty&&(r.wr.map (·.1)).isEmpty)
         .refine .inl ⟨⟨i,r.rd,r.wr.map (·.1)⟩,by unfold agU;rw [hE];simp,rfl,fun r' h=>⟨fun b hb=>h.1 b ?_,fun b hb=>h.2 b ?_⟩⟩
          .rw [agZ] at hb;simpa using hb
          .rw [ajr] at hb;simpa using hb
         .simp only [Bool.and_eq_true,List.isEmpty_iff] at hE
          refine .inr fun r'=>⟨fun b hb=>?_,fun b hb=>?_⟩
          .simp only [agZ,hE.2] at hb;simp at hb
          .simp only [ajr,hE.1] at hb;simp at hb
   .rename_i l hw
    split at h
    .cases h
    .rename_i r hr
     cases hap:r.wr.isEmpty&&(aaj M i (Ef o.op) R.nx r.rd [] cs&&fs.all (fun f=>ayx M i r.rd (r.wr.map (·.1)) f))
     .simp [hap] at h
     .simp only [hap,cond_true] at h
      simp only [Bool.and_eq_true] at hap
      obtain ⟨hE,hcs,hap⟩:=hap
      have hcs:=aeW hcs
      have hwr:r.wr=[]:=by simpa using hE
      split at h
      .cases h
      .rename_i y hy
       simp only [Option.some.injEq] at h;subst h
       have hsd:=Gf hs
       have hwt:nH ops fr o (fun b=>b=l.all (fun x=>(x.1.den ρ).B == x.2)):=BG hp hf hw fun b hb=>hb
       have hput:=xP (e:=⟨l,r.v⟩) hf hd hN
       obtain ⟨R',L,Qw,Qx,q1,q2,q3,q4,q5,q6,q7,q8,q9⟩:=EC hρ hX hI rest (i+1) (base:=base) _ ah hy hp hsd.2 hput ha (by rw [mg,hN]) hl'
       refine ⟨R',⟨fr,ah,(⟨l,r.v⟩:pI).den ρ,fun _=>false,fun b=>decide (b∈r.rd),fun b=>Ef o.op=false/\b=R.nx,fun b=>Ef o.op=false/\b=R.nx,R.nx,false⟩::L,Qw,Qx,q1,by simp [q2],q3,q4,q5,rfl,rfl,rfl,?_⟩
       refine I4.cons q2 ⟨?_,?_,?_,?_,?_,?_,?_,?_,?_,?_,?_,?_⟩ q9 aan (fun _=>aeX) (fun _ h=>h) (fun f hm=>?_) (fun h=>by cases h) (fun _=>?_)
       .rw [jH,q7]
        cases hb:l.all (fun x=>(x.1.den ρ).B == x.2)
        .rw [hb] at hwt
         exact ajp (show ops[i+0]?=some o from ho) (by simp only [pI.den,hb];rfl) hwt
        .rw [hb] at hwt
         have hpl:=Pc.Gg hb hp
         have hop:=Yy hρ hX hpl hf ha hr (hsd.1 hpl) (K:=fun r'=>r'=r.den ρ) rfl
         have:=aak (base:=base) (show ops[i+0]?=some o from ho) hwt hop
         have e1:(r.den ρ).wr=[]:=by simp [SR.den,hwr]
         have e2:(⟨l,r.v⟩:pI).den ρ=(r.den ρ).v:=by simp only [pI.den,hb];rfl
         rw [e2]
         rw [e1] at this
         have e3:(r.den ρ).rd=r.rd:=rfl
         rw [e3] at this
         simpa [qU] using this
       .rw [jH,q6]
       .intro b hb;rw [jH,q7]
       .rw [jH,q8];exact Nat.le_succ _
       .intro b h;exact Nat.le_of_eq h.2.symm
       .intro b h;rw [jH,q8,h.2];exact Nat.lt_succ_self _
       .intro _;exact ⟨fun b h=>by rw [jH,q8,h.2];exact Nat.lt_succ_self _,fun b h=>Nat.le_of_eq h.2.symm⟩
       .intro h;cases h
       .intro c hc
        rcases hcs c hc with h|⟨h3,⟨h1,-⟩|⟨-,h2⟩⟩
        .exact .inl h
        .exact .inr (.inl ⟨fun b=>rfl,fun b hb=>h3 b (by simpa using hb),fun b hb=>by rw [h1] at hb;cases hb.1⟩)
        .exact .inr (.inr ⟨h2,fun b hb=>(by cases hb),fun b hb=>h3 b (by simpa using hb),fun b hb=>Nat.le_of_eq hb.2.symm⟩)
       .intro h;cases h
       .intro f hm
        rcases WU (List.all_eq_true.1 hap f hm) with h|⟨h1,h2⟩
        .exact .inl (by simpa using h)
        .exact .inr ⟨fun b hb=>⟨by simpa using (h1 b hb).1,rfl⟩,fun b hb=>rfl⟩
       .intro k' r' hk;omega
       .unfold agU
        cases (r.rd.isEmpty&&([]:List Nat).isEmpty)
        .exact List.mem_cons_of_mem _ hm
        .exact hm
       .cases hE:(r.rd.isEmpty&&([]:List Nat).isEmpty)
        .exact .inl ⟨⟨i,r.rd,[]⟩,by unfold agU;rw [hE];simp,rfl,fun r' h=>⟨fun b hb=>(by cases hb),fun b hb=>h.2 b (by simpa using hb)⟩⟩
        .simp only [Bool.and_eq_true,List.isEmpty_iff] at hE
         exact .inr fun r'=>⟨fun b hb=>(by cases hb),fun b hb=>(by simp only [hE.1] at hb;simp at hb)⟩
end
end Go.Fw
end
section
namespace Go.Fw
variable [jU]
structure sK where
 fr:Tr pI
 ah:Tr SB
 nx:Nat
structure Out where
 g:Tm
 e:Exit
 st:sK
def sel (ρ:List AV):List Out->Option (Exit×sK)
 |[]=>none
 |[o]=>some (o.e,o.st)
 |o::o'::r=>bif (o.g.den ρ).B then some (o.e,o.st) else sel ρ (o'::r)
def an5 : Kd->Bool | .sl=>false|_=>true
def apr (g:Tm)(x y:SV):Option SV:=
 match x,y with
 | .sc k x,.sc k' y=>bif decide (k=k') then bif an5 k||x.beq y then some (.sc k (Tf k g x y)) else none else none
 | .os b s o l,.os b' s' o' l'=>bif Nat.beq b b'&&(Nat.beq s s'&&Nat.beq o o') then some (.os b s o (ays g l l')) else none
 | .op b s r o,.op b' s' r' o'=>bif Nat.beq b b'&&(Nat.beq s s'&&Nat.beq o o') then some (.op b s (ays g r r') o) else none
 |x,y=>bif x.beq y then some x else none
 mutual
def ag0 (g:Tm):SV->SV->Option SV
  | .agg x,.agg y=>match YC g x y with|some z=>some (.agg z)|none=>none
  | .fA x,.fA y=>match YC g x y with|some z=>some (.fA z)|none=>none
  |x,y=>apr g x y
def YC (g:Tm):List SV->List SV->Option (List SV)
  |[],[]=>some []
  |x::r,y::s=>match ag0 g x y,YC g r s with|some z,some l=>some (z::l)|_,_=>none
  |_,_=>none
end
section
variable {P : Program} {ρ:List AV} {pc:Pc}
theorem Weak.of_eq {a b:AV}(h:a=b):Weak a b:=by subst h;exact Weak.refl a
theorem arx {a b c:Bool}(h:(a&&(b&&c))=true):a=true/\b=true/\c=true:=by simpa using h
theorem amc {g:Tm}{x y z:SV}(h:apr g x y=some z):Weak (bif (g.den ρ).B then x.den ρ else y.den ρ) (z.den ρ)/\(z.den ρ).jM=(x.den ρ).jM/\(z.den ρ).jM=(y.den ρ).jM:=by
 unfold apr at h
 split at h
 .rename_i k x k' y
  by_cases hk:k=k'
  .subst hk
   simp only [decide_true,cond_true] at h
   cases hq:an5 k||x.beq y
   .simp [hq] at h
   .simp only [hq,cond_true,Option.some.injEq] at h;subst h
    exact ⟨Weak.of_eq Ti.symm,by cases k<;>exact ⟨rfl,rfl⟩⟩
  .simp [hk] at h
 .rename_i b s o l b' s' o' l'
  cases hc:(Nat.beq b b'&&(Nat.beq s s'&&Nat.beq o o'))
  .simp [hc] at h
  .simp only [hc,cond_true,Option.some.injEq] at h;subst h
   obtain ⟨h1,h2,h3⟩:=arx hc
   have e1:=Nat.eq_of_beq_eq_true h1
   have e2:=Nat.eq_of_beq_eq_true h2
   have e3:=Nat.eq_of_beq_eq_true h3
   subst e1;subst e2;subst e3
   refine ⟨?_,rfl,rfl⟩
   simp only [SV.den,yR]
   cases (g.den ρ).B<;>exact Weak.refl _
 .rename_i b s r o b' s' r' o'
  cases hc:(Nat.beq b b'&&(Nat.beq s s'&&Nat.beq o o'))
  .simp [hc] at h
  .simp only [hc,cond_true,Option.some.injEq] at h;subst h
   obtain ⟨h1,h2,h3⟩:=arx hc
   have e1:=Nat.eq_of_beq_eq_true h1
   have e2:=Nat.eq_of_beq_eq_true h2
   have e3:=Nat.eq_of_beq_eq_true h3
   subst e1;subst e2;subst e3
   refine ⟨?_,rfl,rfl⟩
   simp only [SV.den,yR]
   cases (g.den ρ).B<;>exact Weak.refl _
 .cases hb:x.beq y
  .simp [hb] at h
  .simp only [hb,cond_true,Option.some.injEq] at h;subst h
   rw [SV.beq_eq hb]
   refine ⟨?_,rfl,rfl⟩
   cases (g.den ρ).B<;>exact Weak.refl _
 mutual
theorem Rk {g:Tm}{x y z:SV}(h:ag0 g x y=some z):Weak (bif (g.den ρ).B then x.den ρ else y.den ρ) (z.den ρ)/\(z.den ρ).jM=(x.den ρ).jM/\(z.den ρ).jM=(y.den ρ).jM:=by
   unfold ag0 at h
   split at h
   .split at h
    .rename_i l hl;simp only [Option.some.injEq] at h;subst h
     have:=JZ hl
     refine ⟨?_,rfl,rfl⟩
     cases hg:(g.den ρ).B<;>rw [hg] at this<;>exact Weak.agg this
    .cases h
   .split at h
    .rename_i l hl;simp only [Option.some.injEq] at h;subst h
     have:=JZ hl
     refine ⟨?_,rfl,rfl⟩
     cases hg:(g.den ρ).B<;>rw [hg] at this<;>exact Weak.fA this
    .cases h
   .exact amc h
  termination_by SizeOf.sizeOf x
theorem JZ {g:Tm}{x y z:List SV}(h:YC g x y=some z):yH (bif (g.den ρ).B then dQ ρ x else dQ ρ y) (dQ ρ z):=by
   match x,y with
   |[],[]=>simp only [YC,Option.some.injEq] at h;subst h;cases (g.den ρ).B<;>exact .nil
   |x::r,y::s=>
    simp only [YC] at h
    split at h
    .rename_i a l ha hl
     simp only [Option.some.injEq] at h;subst h
     have h1:=Rk ha
     have h2:=JZ hl
     cases hg:(g.den ρ).B
     .rw [hg] at h1 h2;exact .cons h1.1 h1.2.2 h2
     .rw [hg] at h1 h2;exact .cons h1.1 h1.2.1 h2
    .cases h
   |[],_::_=>simp [YC] at h
   |_::_,[]=>simp [YC] at h
  termination_by SizeOf.sizeOf x
end
end
end Go.Fw
end
section
namespace Go.Fw
variable [jU]
def TW (g:Tm):List (List SV)->List (List SV)->Option (List (List SV))
 |[],[]=>some []
 |x::r,y::s=>match YC g x y,TW g r s with|some z,some l=>some (z::l)|_,_=>none
 |_,_=>none
def aao (g:Tm)(x y:SB):Option SB:=
 match x,y with
 | .rows sz rs,.rows sz' rs'=>bif Nat.beq sz sz' then (match TW g rs rs' with|some l=>some (.rows sz l)|none=>none) else none
 | .fO sz t,.fO sz' t'=>bif Nat.beq sz sz'&&t.beq t' then some (.fO sz t) else none
 | .Ad m t,.Ad m' t'=>bif decide (m=m') then some (.Ad m (ays g t t')) else none
 | .map es,.map es'=>bif OX (es.map (·.1)) (es'.map (·.1))&&OX (es.map (·.2)) (es'.map (·.2)) then some (.map es) else none
 | .it m n k,.it m' n' k'=>bif Nat.beq m m'&&(n.beq n'&&Nat.beq k k') then some (.it m n k) else none
 | .kL ty sz rs,.kL ty' sz' rs'=>bif (Nat.beq ty ty'&&Nat.beq sz sz')&&Qo rs rs' then some (.kL ty sz rs) else none
 |_,_=>none
def qA (k k':vH):Prop:=∀base w E b,qW base w E b k->qW base w E b k'
theorem qA.refl (k:vH):qA k k:=fun _ _ _ _ h=>h
def Tr.mrg {α:Type}(f:α->α->Option α):Tr α->Tr α->Tr α
 | .n l x r,.n l' x' r'=>.n (Tr.mrg f l l') (match x,x' with|some a,some b=>f a b|_,_=>none) (Tr.mrg f r r')
 |_,_=>.e
theorem Tr.Gj {α:Type}{f:α->α->Option α}:∀{a b:Tr α} {t:Nat} {x:α},(Tr.mrg f a b).get t=some x->∃y z,a.get t=some y/\b.get t=some z/\f y z=some x
 | .e,b,t,x,h=>by simp [Tr.mrg,Tr.get] at h
 | .n _ _ _,.e,t,x,h=>by simp [Tr.mrg,Tr.get] at h
 | .n l u r,.n l' u' r',t,x,h=>by
  simp only [Tr.mrg,Tr.get] at h
  cases h1:Nat.beq t 0
  .simp only [h1,cond_false] at h
   cases h2:Nat.beq (t % 2) 1
   .simp only [h2,cond_false] at h
    obtain ⟨y,z,q1,q2,q3⟩:=Tr.Gj h
    exact ⟨y,z,by simpa [Tr.get,h1,h2] using q1,by simpa [Tr.get,h1,h2] using q2,q3⟩
   .simp only [h2,cond_true] at h
    obtain ⟨y,z,q1,q2,q3⟩:=Tr.Gj h
    exact ⟨y,z,by simpa [Tr.get,h1,h2] using q1,by simpa [Tr.get,h1,h2] using q2,q3⟩
  .simp only [h1,cond_true] at h
   split at h
   .rename_i a b
    exact ⟨a,b,by simp [Tr.get,h1],by simp [Tr.get,h1],h⟩
   .cases h
def adf (g:Tm)(a b:pI):Option pI:=
 match a.h,b.h with
 |[],[]=>match ag0 g a.v b.v with|some v=>some ⟨[],v⟩|none=>none
 |_,_=>none
def ajs {α:Type}(a b c:Tr α)(t:Nat):Bool:=(a.get t).isSome&&((b.get t).isSome&&(c.get t).isNone)
structure Kp where
 ks:List Nat
 low:Nat
def Pj (th:Tr SB):Nat->List Nat->List Nat->List Nat
 |0,_,acc=>acc
 |n+1,[],acc=>acc
 |n+1,b::r,acc=>bif ac4 b acc then Pj th n r acc else
  match th.get b with
  |none=>Pj th n r acc
  |some k=>Pj th n ((match k with | .rows _ rs=>Dl rs | .fO _ _=>[] | .Ad _ _=>[] | .map es=>Ep (es.map (·.1))++Ep (es.map (·.2)) | .it m _ _=>[m] | .kL _ _ rs=>Dl rs)++r) (b::acc)
def an6 {α:Type}(a b c:Tr α):Nat->Bool
 |0=>false
 |n+1=>ajs a b c n||an6 a b c n
def ajt (low:Nat)(refs:List Nat)(a b c:Tr SB):Bool:=an6 a b c low||(Pj a 1000 refs []).any (ajs a b c)
def ayY (fr:Tr pI):List Nat->List Nat
 |[]=>[]
 |t::r=>match fr.get t with|some e=>e.v.FZ++ayY fr r|none=>ayY fr r
def adg (keep:Kp)(a b:sK)(fr:Tr pI)(th:Tr SB):Bool:=keep.ks.any (ajs a.fr b.fr fr)||ajt keep.low (ayY fr keep.ks) a.ah b.ah th
def aap (keep:Kp)(g:Tm)(a b:sK):Option sK:=
 let fr:=Tr.mrg (adf g) a.fr b.fr
 let th:=Tr.mrg (aao g) a.ah b.ah
 bif adg keep a b fr th then none else
 some ⟨fr,th,Nat.max a.nx b.nx⟩
structure Ic (ρ:List AV)(N:Nat)(st:sK)(Fp:lY)(oq:AH)(nx0:Nat):Prop where
 fr:∀t e,st.fr.get t=some e->∃a,jm Fp t=some a/\Weak a (e.den ρ)
 ah:∀b k,st.ah.get b=some k->∃k0,oq b=some k0/\qA k0 (k.den ρ)
 len:Fp.length=N
 nx:nx0<=st.nx
section
variable {P : Program} {ρ:List AV} {pc:Pc} {N:Nat} {fr:lY} {ah:AH} {nx:Nat}
theorem TY {g:Tm}:∀{x y z:List (List SV)},TW g x y=some z->tZ (bif (g.den ρ).B then iL ρ x else iL ρ y) (iL ρ z)
 |[],[],z,h=>by simp only [TW,Option.some.injEq] at h;subst h;cases (g.den ρ).B<;>exact .nil
 |x::r,y::s,z,h=>by
  simp only [TW] at h
  split at h
  .rename_i a l ha hl
   simp only [Option.some.injEq] at h;subst h
   have h1:=JZ (ρ:=ρ) ha
   have h2:=TY hl
   cases hg:(g.den ρ).B
   .rw [hg] at h1 h2;exact .cons h1 h2
   .rw [hg] at h1 h2;exact .cons h1 h2
  .cases h
 |[],_::_,z,h=>by simp [TW] at h
 |_::_,[],z,h=>by simp [TW] at h
theorem qA.rows {sz:Nat}{az bs:List (List AV)}(h:tZ az bs):qA (.rows sz az) (.rows sz bs):=by
 intro base w E b hk
 rcases hk with ⟨h1,h2⟩|⟨c,o,arr,ty,h1,h2,h3,h4,h5⟩
 .subst h2
  refine .inl ⟨h1,?_⟩
  have:=h.length
  cases bs with|nil=>rfl|cons=>simp at this
 .refine .inr ⟨c,o,arr,ty,h1,h2,h3,h4,?_⟩
  obtain ⟨q1,q2,q3,q4⟩:=h5
  refine ⟨by rw [<- h.length];exact q1,fun i row hr=>?_,fun row hm x hx=>?_,fun i row j x hr hx=>?_⟩
  .obtain ⟨row',hr',hw⟩:=h.get i row hr
   rw [<- hw.length];exact q2 i row' hr'
  .obtain ⟨i,hi⟩:=vM hm
   obtain ⟨j,hj⟩:=vM hx
   obtain ⟨row',hr',hw⟩:=h.get i row hi
   have hlt:j<row'.length:=by rw [hw.length];exact (List.getElem?_eq_some_iff.1 hj).1
   have hx':row'[j]?=some row'[j]:=by simp [hlt]
   rw [(hw.get j _ x hx' hj).2]
   exact q3 row' (List.mem_of_getElem? hr') _ (List.mem_of_getElem? hx')
  .obtain ⟨row',hr',hw⟩:=h.get i row hr
   have hlt:j<row'.length:=by rw [hw.length];exact (List.getElem?_eq_some_iff.1 hx).1
   have hx':row'[j]?=some row'[j]:=by simp [hlt]
   obtain ⟨v,hv,hrep⟩:=q4 i row' j _ hr' hx'
   exact ⟨v,hv,(hw.get j _ x hx' hx).1 _ _ _ hrep⟩
theorem L_ {g:Tm}{x y z:SB}(h:aao g x y=some z):qA (bif (g.den ρ).B then x.den ρ else y.den ρ) (z.den ρ):=by
 unfold aao at h
 split at h
 .rename_i sz rs sz' rs'
  cases h1:Nat.beq sz sz'
  .simp [h1] at h
  .simp only [h1,cond_true] at h
   have e:=Nat.eq_of_beq_eq_true h1
   subst e
   split at h
   .rename_i l hl
    simp only [Option.some.injEq] at h;subst h
    have:=TY (ρ:=ρ) hl
    cases hg:(g.den ρ).B<;>rw [hg] at this<;>exact qA.rows this
   .cases h
 .rename_i sz t sz' t'
  cases h1:Nat.beq sz sz'&&t.beq t'
  .simp [h1] at h
  .simp only [h1,cond_true,Option.some.injEq] at h
   simp only [Bool.and_eq_true] at h1
   have e:=Nat.eq_of_beq_eq_true h1.1
   have e2:=Tm.beq_eq h1.2
   subst e;subst e2;subst h
   cases (g.den ρ).B<;>exact qA.refl _
 .rename_i m t m' t'
  cases h1:decide (m=m')
  .simp [h1] at h
  .simp only [h1,cond_true,Option.some.injEq] at h
   have e:=of_decide_eq_true h1
   subst e;subst h
   simp only [SB.den,yR]
   cases (g.den ρ).B<;>exact qA.refl _
 .rename_i es es'
  cases h1:OX (es.map (·.1)) (es'.map (·.1))&&OX (es.map (·.2)) (es'.map (·.2))
  .simp [h1] at h
  .simp only [h1,cond_true,Option.some.injEq] at h;subst h
   simp only [Bool.and_eq_true] at h1
   have e1:=Aj h1.1
   have e2:=Aj h1.2
   have:es=es':=by
    apply List.ext_getElem
    .have:=congrArg List.length e1;simpa using this
    .intro i hi hi'
     have a1:(es.map (·.1))[i]?=(es'.map (·.1))[i]?:=by rw [e1]
     have a2:(es.map (·.2))[i]?=(es'.map (·.2))[i]?:=by rw [e2]
     simp [hi,hi'] at a1 a2
     exact Prod.ext a1 a2
   subst this
   cases (g.den ρ).B<;>exact qA.refl _
 .rename_i m n k m' n' k'
  cases h1:Nat.beq m m'&&(n.beq n'&&Nat.beq k k')
  .simp [h1] at h
  .simp only [h1,cond_true,Option.some.injEq] at h;subst h
   simp only [Bool.and_eq_true] at h1
   obtain rfl:=Nat.eq_of_beq_eq_true h1.1
   obtain rfl:=Tm.beq_eq h1.2.1
   obtain rfl:=Nat.eq_of_beq_eq_true h1.2.2
   cases (g.den ρ).B<;>exact qA.refl _
 .rename_i ty sz rs ty' sz' rs'
  cases h1:(Nat.beq ty ty'&&Nat.beq sz sz')&&Qo rs rs'
  .simp [h1] at h
  .simp only [h1,cond_true,Option.some.injEq] at h
   simp only [Bool.and_eq_true] at h1
   obtain rfl:=Nat.eq_of_beq_eq_true h1.1.1
   obtain rfl:=Nat.eq_of_beq_eq_true h1.1.2
   obtain rfl:=IJ h1.2
   subst h
   cases (g.den ρ).B<;>exact qA.refl _
 .cases h
theorem Weak.trans {a b c:AV}(h:Weak a b)(k:Weak b c):Weak a c:=fun w E v hr=>k w E v (h w E v hr)
theorem qA.trans {a b c:vH}(h:qA a b)(k:qA b c):qA a c:=fun base w E x hr=>k base w E x (h base w E x hr)
theorem WV {g:Tm}{a b c:pI}(h:adf g a b=some c):Weak (bif (g.den ρ).B then a.den ρ else b.den ρ) (c.den ρ):=by
 obtain ⟨ah,av⟩:=a
 obtain ⟨bh,bv⟩:=b
 unfold adf at h
 split at h
 .rename_i h1 h2
  dsimp only at h1 h2
  subst h1;subst h2
  split at h
  .rename_i v hv
   simp only [Option.some.injEq] at h;subst h
   exact (Rk hv).1
  .cases h
 .cases h
theorem amd {keep:Kp}{g:Tm}{a b c:sK}(h:aap keep g a b=some c)(hg:(g.den ρ).B=true)(hs:Ic ρ N a fr ah nx):Ic ρ N c fr ah nx:=by
 unfold aap at h
 dsimp only at h
 generalize (adg keep _ _ _ _)=q at h
 cases q
 .simp only [cond_false,Option.some.injEq] at h;subst h
  refine ⟨fun t e he=>?_,fun b k hk=>?_,hs.len,Nat.le_trans hs.nx (Nat.le_max_left _ _)⟩
  .obtain ⟨y,z,h1,h2,h3⟩:=Tr.Gj he
   obtain ⟨x,hx,hw⟩:=hs.fr t y h1
   have:=WV (ρ:=ρ) h3
   rw [hg] at this
   exact ⟨x,hx,hw.trans this⟩
  .obtain ⟨y,z,h1,h2,h3⟩:=Tr.Gj hk
   obtain ⟨x,hx,hw⟩:=hs.ah b y h1
   have:=L_ (ρ:=ρ) h3
   rw [hg] at this
   exact ⟨x,hx,hw.trans this⟩
 .cases h
theorem ame {keep:Kp}{g:Tm}{a b c:sK}(h:aap keep g a b=some c)(hg:(g.den ρ).B=false)(hs:Ic ρ N b fr ah nx):Ic ρ N c fr ah nx:=by
 unfold aap at h
 dsimp only at h
 generalize (adg keep _ _ _ _)=q at h
 cases q
 .simp only [cond_false,Option.some.injEq] at h;subst h
  refine ⟨fun t e he=>?_,fun b k hk=>?_,hs.len,Nat.le_trans hs.nx (Nat.le_max_right _ _)⟩
  .obtain ⟨y,z,h1,h2,h3⟩:=Tr.Gj he
   obtain ⟨x,hx,hw⟩:=hs.fr t z h2
   have:=WV (ρ:=ρ) h3
   rw [hg] at this
   exact ⟨x,hx,hw.trans this⟩
  .obtain ⟨y,z,h1,h2,h3⟩:=Tr.Gj hk
   obtain ⟨x,hx,hw⟩:=hs.ah b z h2
   have:=L_ (ρ:=ρ) h3
   rw [hg] at this
   exact ⟨x,hx,hw.trans this⟩
 .cases h
def Gl (ρ:List AV)(N:Nat)(outs:List Out):AQ:=fun e fr ah nx=>∃st,sel ρ outs=some (e,st)/\Ic ρ N st fr ah nx
def T_ (g:Tm)(l:List Out):List Out:=l.map fun o=>{o with g:=ayB g o.g}
def Ae (g:Tm):List Out->List Out
 |[]=>[]
 |[o]=>[{o with g:=g}]
 |o::o'::r=>{o with g:=ayB g o.g}::Ae g (o'::r)
theorem ag1 {g:Tm}:∀{l:List Out},l≠[]->Ae g l≠[]
 |[],h=>absurd rfl h
 |[o],_=>by simp [Ae]
 |o::o'::r,_=>by simp [Ae]
theorem yZ {g:Tm}:∀{l rest:List Out},rest≠[]->sel ρ (Ae g l++rest)=if (g.den ρ).B=true/\l≠[] then sel ρ l else sel ρ rest
 |[],rest,hr=>by simp [Ae]
 |[o],rest,hr=>by
  obtain ⟨x,r,rfl⟩:=List.exists_cons_of_ne_nil hr
  simp only [Ae,List.cons_append,List.nil_append,sel]
  cases (g.den ρ).B<;>simp
 |o::o'::r,rest,hr=>by
  have ih:=yZ (g:=g) (l:=o'::r) (rest:=rest) hr
  obtain ⟨x,s,hx⟩:=List.exists_cons_of_ne_nil (ag1 (g:=g) (l:=o'::r) (by simp))
  simp only [Ae,List.cons_append]
  rw [hx] at ih ⊢
  simp only [List.cons_append,sel,wG] at ih ⊢
  rw [ih]
  cases hg:(g.den ρ).B
  .simp
  .cases (o.g.den ρ).B<;>simp
def Rl (t:Tm)(x y:List Out):List Out:=Ae t x++y
theorem aeY {t:Tm}{x y:List Out}(hx:x≠[])(hy:y≠[]):sel ρ (Rl t x y)=if (t.den ρ).B=true then sel ρ x else sel ρ y:=by
 unfold Rl
 rw [yZ hy]
 simp [hx]
def qB : List Out->Option (List Out×Out)
 |[]=>none
 |[o]=>some ([],o)
 |o::o'::r=>match qB (o'::r) with|some (l,n)=>some (o::l,n)|none=>none
theorem ND : ∀{l r:List Out} {n:Out},qB l=some (r,n)->l=r++[n]
 |[],r,n,h=>by simp [qB] at h
 |[o],r,n,h=>by simp only [qB,Option.some.injEq,Prod.mk.injEq] at h;obtain ⟨rfl,rfl⟩:=h;rfl
 |o::o'::s,r,n,h=>by
  simp only [qB] at h
  split at h
  .rename_i l m hl
   simp only [Option.some.injEq,Prod.mk.injEq] at h;obtain ⟨rfl,rfl⟩:=h
   rw [ND hl];rfl
  .cases h
def Zm : Exit->Bool | .normal=>true|_=>false
def Mc (keep:Kp):List Out->List Out
 |[]=>[]
 |o::r=>
  bif Zm o.e then
   match qB (Mc keep r) with
   |none=>[o]
   |some (l,n)=>bif Zm n.e then
     match aap keep o.g o.st n.st with
     |some m=>T_ (ayp o.g) l++[{n with st:=m}]
     |none=>o::(l++[n])
    else Ae (ayp o.g) (l++[n])++[o]
  else o::Mc keep r
theorem aps {l:List Out}{x:Exit×sK}(h:sel ρ l=some x):l≠[]:=by rintro rfl;cases h
theorem aaq : ∀{l:List Out},l≠[]->∃x,sel ρ l=some x
 |[],h=>absurd rfl h
 |[o],_=>⟨_,rfl⟩
 |o::o'::r,_=>by
  simp only [sel]
  cases (o.g.den ρ).B
  .exact aaq (l:=o'::r) (by simp)
  .exact ⟨_,rfl⟩
theorem Qy {n m:Out}(he:m.e=n.e):∀{l:List Out} {x:Exit×sK},sel ρ (l++[n])=some x->(sel ρ (l++[m])=some x)\/(x=(n.e,n.st)/\sel ρ (l++[m])=some (m.e,m.st))
 |[],x,h=>by simp only [List.nil_append,sel,Option.some.injEq] at h ⊢;exact .inr ⟨h.symm,trivial⟩
 |[o],x,h=>by
  simp only [List.cons_append,List.nil_append,sel] at h ⊢
  cases hg:(o.g.den ρ).B
  .rw [hg] at h;simp only [cond_false,Option.some.injEq] at h ⊢;exact .inr ⟨h.symm,trivial⟩
  .rw [hg] at h;exact .inl h
 |o::o'::r,x,h=>by
  simp only [List.cons_append,sel] at h ⊢
  cases hg:(o.g.den ρ).B
  .rw [hg] at h;exact Qy he (l:=o'::r) h
  .rw [hg] at h;exact .inl h
theorem Gm {g:Tm}{m:Out}:∀{l:List Out},sel ρ (T_ g l++[m])=if (g.den ρ).B=true then sel ρ (l++[m]) else some (m.e,m.st)
 |[]=>by simp [T_,sel]
 |[o]=>by
  simp only [T_,List.map_cons,List.map_nil,List.cons_append,List.nil_append,sel,wG]
  cases (g.den ρ).B<;>simp
 |o::o'::r=>by
  have ih:=Gm (g:=g) (m:=m) (l:=o'::r)
  simp only [T_,List.map_cons,List.cons_append,sel,wG] at ih ⊢
  rw [ih]
  cases (g.den ρ).B<;>simp
theorem YD {e:Exit}(h:Zm e=true):e=.normal:=by cases e<;>first|rfl|cases h
theorem xR {keep:Kp}:∀{l:List Out} {e:Exit},Gl ρ N l e fr ah nx->Gl ρ N (Mc keep l) e fr ah nx
 |[],e,h=>h
 |o::r,e,h=>by
  obtain ⟨st,hsel,hst⟩:=h
  unfold Mc
  
  have rest:r≠[]->((o.g.den ρ).B=true/\e=o.e/\st=o.st)\/((o.g.den ρ).B=false/\Gl ρ N (Mc keep r) e fr ah nx):=by
   intro hr
   obtain ⟨o',r',rfl⟩:=List.exists_cons_of_ne_nil hr
   simp only [sel] at hsel
   cases hg:(o.g.den ρ).B
   .rw [hg] at hsel;exact .inr ⟨rfl,xR ⟨st,hsel,hst⟩⟩
   .rw [hg] at hsel;simp only [cond_true,au,aN] at hsel;exact .inl ⟨rfl,hsel.1.symm,hsel.2.symm⟩
  have aju:∀{l':List Out},l'≠[]->((o.g.den ρ).B=true/\e=o.e/\st=o.st)\/((o.g.den ρ).B=false/\Gl ρ N l' e fr ah nx)->Gl ρ N (o::l') e fr ah nx:=by
   intro l' hl' hc
   obtain ⟨x,s,rfl⟩:=List.exists_cons_of_ne_nil hl'
   rcases hc with ⟨hg,rfl,rfl⟩|⟨hg,st',h1,h2⟩
   .exact ⟨o.st,by simp [sel,hg],hst⟩
   .exact ⟨st',by simp [sel,hg,h1],h2⟩
  by_cases hr:r=[]
  .subst hr
   have e1:Mc keep []=[]:=rfl
   rw [e1]
   cases hn:Zm o.e
   .exact ⟨st,hsel,hst⟩
   .simp only [cond_true,qB];exact ⟨st,hsel,hst⟩
  .have hrest:=rest hr
   have hne:Mc keep r≠[]:=by
    obtain ⟨x,hx⟩:=aaq (ρ:=ρ) hr
    
    intro he
    have:∀l:List Out,l≠[]->Mc keep l≠[]:=by
     intro l
     induction l with
     |nil=>intro h;exact absurd rfl h
     |cons o r ih=>
      intro _
      unfold Mc
      cases Zm o.e
      .simp
      .simp only [cond_true]
       split
       .simp
       .rename_i l n _
        cases Zm n.e
        .simp
        .simp only [cond_true];split<;>simp
    exact this r hr he
   cases hn:Zm o.e
   .simp only [cond_false]
    exact aju hne hrest
   .simp only [cond_true]
    split
    .rename_i hs
     exfalso
     obtain ⟨x,s,hx⟩:=List.exists_cons_of_ne_nil hne
     rw [hx] at hs
     have:∀(s:List Out) (x:Out),qB (x::s)≠none:=by
      intro s
      induction s with
      |nil=>intro x;simp [qB]
      |cons y s ih=>
       intro x
       simp only [qB]
       cases hq:qB (y::s) with
       |none=>exact absurd hq (ih y)
       |some v=>simp
     exact this s x hs
    .rename_i l n hs
     have heq:=ND hs
     rw [heq] at hrest
     cases hn2:Zm n.e
     .simp only [cond_false]
      rcases hrest with ⟨hg,rfl,rfl⟩|⟨hg,st',h1,h2⟩
      .refine ⟨o.st,?_,hst⟩
       rw [yZ (by simp),oz,hg]
       simp [sel]
      .refine ⟨st',?_,h2⟩
       rw [yZ (by simp),oz,hg]
       simp [h1]
     .simp only [cond_true]
      have e1:=YD hn
      have e2:=YD hn2
      split
      .rename_i m hm
       rcases hrest with ⟨hg,rfl,rfl⟩|⟨hg,st',h1,h2⟩
       .refine ⟨m,?_,amd hm hg hst⟩
        rw [Gm,oz,hg]
        simp [e1,e2]
       .rcases Qy (n:=n) (m:={n with st:=m}) rfl h1 with h3|⟨h3,h4⟩
        .refine ⟨st',?_,h2⟩
         rw [Gm,oz,hg]
         simpa using h3
        .simp only [aN] at h3
         obtain ⟨h3,rfl⟩:=h3
         refine ⟨m,?_,ame hm hg h2⟩
         rw [Gm,oz,hg]
         simp only [bD,if_true,h4,h3]
      .exact aju (by simp) hrest
end
end Go.Fw
end
section
namespace Go.Fw
variable [jU]
def Tm.lt (n:Nat):Tm->Bool
 | .lb _ | .li _ | .lf _ | .ls _ | .nl=>true
 | .var i _=>Nat.ble (i+1) n
 | .bin _ _ x y=>x.lt n&&y.lt n
 | .and x y=>x.lt n&&y.lt n
 | .or x y=>x.lt n&&y.lt n
 | .byte x y=>x.lt n&&y.lt n
 | .not x=>x.lt n
 | .neg _ x=>x.lt n
 | .com _ x=>x.lt n
 | .conv _ x=>x.lt n
 | .toF x=>x.lt n
 | .ZL x=>x.lt n
 | .slen x=>x.lt n
 | .rlen x=>x.lt n
 | .bts x=>x.lt n
 | .sbs x=>x.lt n
 | .ite c x y=>c.lt n&&(x.lt n&&y.lt n)
 | .ah5 c x y=>c.lt n&&(x.lt n&&y.lt n)
def AgreeV (n:Nat)(ρ σ:List AV):Prop:=∀i,i<n->ρ.getD i eX=σ.getD i eX
theorem Tm.qm {n:Nat}{ρ σ:List AV}(h:AgreeV n ρ σ):∀{t:Tm},t.lt n=true->t.den ρ=t.den σ:=by
 intro t
 induction t with
 |lb|li|lf|ls|nl=>intro _;rfl
 |var i p=>intro hl;simp only [Tm.den];rw [h i (aG hl)]
 |bin o k x y rU ihy=>intro hl;simp only [Tm.lt,ay] at hl;simp only [Tm.den,rU hl.1,ihy hl.2]
 |and x y rU ihy=>intro hl;simp only [Tm.lt,ay] at hl;simp only [Tm.den,rU hl.1,ihy hl.2]
 |or x y rU ihy=>intro hl;simp only [Tm.lt,ay] at hl;simp only [Tm.den,rU hl.1,ihy hl.2]
 |byte x y rU ihy=>intro hl;simp only [Tm.lt,ay] at hl;simp only [Tm.den,rU hl.1,ihy hl.2]
 |ite c x y ihc rU ihy=>intro hl;simp only [Tm.lt,ay] at hl;simp only [Tm.den,ihc hl.1,rU hl.2.1,ihy hl.2.2]
 |ah5 c x y ihc rU ihy=>intro hl;simp only [Tm.lt,ay] at hl;simp only [Tm.den,ihc hl.1,rU hl.2.1,ihy hl.2.2]
 |not x ih=>intro hl;simp only [Tm.den,ih hl]
 |neg k x ih=>intro hl;simp only [Tm.den,ih hl]
 |com k x ih=>intro hl;simp only [Tm.den,ih hl]
 |conv k x ih=>intro hl;simp only [Tm.den,ih hl]
 |toF x ih=>intro hl;simp only [Tm.den,ih hl]
 |ZL x ih=>intro hl;simp only [Tm.den,ih hl]
 |slen x ih=>intro hl;simp only [Tm.den,ih hl]
 |rlen x ih=>intro hl;simp only [Tm.den,ih hl]
 |bts x ih=>intro hl;simp only [Tm.den,ih hl]
 |sbs x ih=>intro hl;simp only [Tm.den,ih hl]
 mutual
def SV.lt (n:Nat):SV->Bool
  | .sc _ t=>t.lt n
  | .c _ | .nil | .mp _=>true
  | .sf t=>t.lt n
  | .agg l=>ltL n l
  | .fA l=>ltL n l
  | .slc r _=>ag2 n r
  | .vp row _=>ltL n row
  | .os _ _ _ t=>t.lt n
  | .op _ _ t _=>t.lt n
  | .fn _ x y=>ltL n x&&ltL n y
  | .mP _ v=>v.lt n
def ltL (n:Nat):List SV->Bool
  |[]=>true
  |x::r=>x.lt n&&ltL n r
def ag2 (n:Nat):List (List SV)->Bool
  |[]=>true
  |x::r=>ltL n x&&ag2 n r
end
section
variable {n : Nat} {ρ σ:List AV} (h:AgreeV n ρ σ)
 include h
 mutual
theorem SV.qm : ∀{x:SV},x.lt n=true->x.den ρ=x.den σ
  | .sc k t,hl=>by simp only [SV.den];rw [Tm.qm h hl]
  | .c _,_=>rfl
  | .nil,_=>rfl
  | .mp _,_=>rfl
  | .sf t,hl=>by simp only [SV.den];rw [Tm.qm h hl]
  | .agg l,hl=>by simp only [SV.den];rw [Ak (l:=l) hl]
  | .fA l,hl=>by simp only [SV.den];rw [Ak (l:=l) hl]
  | .slc r _,hl=>by simp only [SV.den];rw [NG (l:=r) hl]
  | .vp row _,hl=>by simp only [SV.den];rw [Ak (l:=row) hl]
  | .os _ _ _ t,hl=>by simp only [SV.den];rw [Tm.qm h hl]
  | .op _ _ t _,hl=>by simp only [SV.den];rw [Tm.qm h hl]
  | .fn _ x y,hl=>by simp only [SV.lt,ay] at hl;simp only [SV.den];rw [Ak (l:=x) hl.1,Ak (l:=y) hl.2]
  | .mP _ v,hl=>by simp only [SV.den];rw [SV.qm (x:=v) hl]
theorem Ak : ∀{l:List SV},ltL n l=true->dQ ρ l=dQ σ l
  |[],_=>rfl
  |x::r,hl=>by simp only [ltL,ay] at hl;simp only [dQ];rw [SV.qm (x:=x) hl.1,Ak (l:=r) hl.2]
theorem NG : ∀{l:List (List SV)},ag2 n l=true->iL ρ l=iL σ l
  |[],_=>rfl
  |x::r,hl=>by simp only [ag2,ay] at hl;simp only [iL];rw [Ak (l:=x) hl.1,NG (l:=r) hl.2]
end
end
def Pc.lt (n:Nat)(pc:Pc):Bool:=pc.all fun x=>x.1.lt n
def pI.lt (n:Nat)(e:pI):Bool:=Pc.lt n e.h&&e.v.lt n
theorem pI.qm {n:Nat}{ρ σ:List AV}(h:AgreeV n ρ σ){e:pI}(hl:e.lt n=true):e.den ρ=e.den σ:=by
 simp only [pI.lt,ay] at hl
 have:(e.h.all fun x=>(x.1.den ρ).B == x.2)=(e.h.all fun x=>(x.1.den σ).B == x.2):=by
  have h1:=hl.1
  unfold Pc.lt at h1
  rw [aH] at h1
  rw [Bool.eq_iff_iff,aH,aH]
  constructor
  .intro q x hx;rw [<- Tm.qm h (h1 x hx)];exact q x hx
  .intro q x hx;rw [Tm.qm h (h1 x hx)];exact q x hx
 unfold pI.den
 rw [this,SV.qm h hl.2]
def Pc.old (n:Nat)(pc:Pc):Pc:=pc.filter fun x=>x.1.lt n
theorem Pc.ag3 {n:Nat}{ρ σ:List AV}(h:AgreeV n ρ σ){pc:Pc}(hp:pc.holds ρ):(pc.old n).holds σ:=by
 intro x hx
 unfold Pc.old at hx
 rw [List.mem_filter] at hx
 rw [<- Tm.qm h hx.2]
 exact hp x hx.1
def SB.lt (n:Nat):SB->Bool
 | .rows _ rs=>ag2 n rs
 | .fO _ t=>t.lt n
 | .Ad _ t=>t.lt n
 | .map es=>ltL n (es.map (·.1))&&ltL n (es.map (·.2))
 | .it _ t _=>t.lt n
 | .kL _ _ rs=>ag2 n rs
theorem SB.qm {n:Nat}{ρ σ:List AV}(h:AgreeV n ρ σ){k:SB}(hl:k.lt n=true):k.den ρ=k.den σ:=by
 cases k with
 |rows sz rs=>simp only [SB.den];rw [NG h hl]
 |fO sz t=>simp only [SB.den];rw [Tm.qm h hl]
 |Ad m t=>simp only [SB.den];rw [Tm.qm h hl]
 |it m t k=>simp only [SB.den];rw [Tm.qm h hl]
 |kL ty sz rs=>simp only [SB.den];rw [NG h hl]
 |map es=>
  simp only [SB.lt,ay] at hl
  have h1:=Ak h hl.1
  have h2:=Ak h hl.2
  rw [nN,nN] at h1 h2
  simp only [SB.den]
  congr 1
  apply List.map_congr_left
  intro e he
  have a1:e.1.den ρ=e.1.den σ:=by
   have:=List.map_inj_left.1 h1 e.1 (aW.2 ⟨e,he,rfl⟩);exact this
  have a2:e.2.den ρ=e.2.den σ:=by
   have:=List.map_inj_left.1 h2 e.2 (aW.2 ⟨e,he,rfl⟩);exact this
  rw [a1,a2]
inductive QS where
 |sc (k:Kd)
 |agg (ks:List Kd)
 |os (b sz:Nat)
def QS.sv (j:Nat):QS->SV
 | .sc k=>.sc k (.var j [])
 | .agg ks=>.agg (iD j [] 0 ks)
 | .os b sz=>.os b sz 0 (.rlen (.var j []))
inductive Tb where
 |rows (sz:Nat)
 |map (m:MSh)
instance (n : Nat):OfNat Tb n:=⟨.rows n⟩
def Tb.sb (j:Nat):Tb->SB
 | .rows sz=>.fO sz (.var j [])
 | .map m=>.Ad m (.var j [])
structure BK where
 fr:List (Nat×QS)
 bl:List (Nat×List Kd)
 tb:List (Nat×Tb)
 nx:Nat
def BK.m (p:BK):Nat:=p.fr.length+(p.bl.length+p.tb.length)
def amf : Nat->List (Nat×QS)->Tr pI->Tr pI
 |_,[],tr=>tr
 |j,(t,p)::r,tr=>(amf (j+1) r tr).upd yG t (some ⟨[],p.sv j⟩)
def adh : Nat->List (Nat×QS)->Tr SB->Tr SB
 |_,[],th=>th
 |j,(_,.os b sz)::r,th=>(adh (j+1) r th).upd yG b (some (.fO sz (.var j [])))
 |j,_::r,th=>adh (j+1) r th
def amg : Nat->List (Nat×List Kd)->Tr SB->Tr SB
 |_,[],th=>th
 |j,(b,ks)::r,th=>(amg (j+1) r th).upd yG b (some (.rows ks.length [iD j [] 0 ks]))
def amh : Nat->List (Nat×Tb)->Tr SB->Tr SB
 |_,[],th=>th
 |j,(b,sz)::r,th=>(amh (j+1) r th).upd yG b (some (sz.sb j))
def ayR (p:BK)(j:Nat)(c:sK):sK:=
 ⟨amf j p.fr c.fr,adh j p.fr (amg (j+p.fr.length) p.bl (amh (j+(p.fr.length+p.bl.length)) p.tb c.ah)),p.nx⟩
theorem aar : ∀{l:List (Nat×QS)} {j:Nat} {tr:Tr pI} {t:Nat} {e:pI},(amf j l tr).get t=some e->(∃(i:Nat) (p:QS),l[i]?=some (t,p)/\e=⟨[],p.sv (j+i)⟩)\/((∀p,(t,p)∉l)/\tr.get t=some e)
 |[],j,tr,t,e,h=>.inr ⟨by simp,h⟩
 |(s,p)::r,j,tr,t,e,h=>by
  simp only [amf] at h
  rcases Tr.o7 _ _ _ _ _ _ h with ⟨rfl,h1⟩|⟨hne,h1⟩
  .simp only [au] at h1;exact .inl ⟨0,p,rfl,by simpa using h1.symm⟩
  .rcases aar h1 with ⟨i,q,h2,h3⟩|⟨h2,h3⟩
   .exact .inl ⟨i+1,q,by simpa using h2,by rw [h3];congr 2;omega⟩
   .refine .inr ⟨fun q hq=>?_,h3⟩
    cases hq with
    |head=>exact hne rfl
    |tail _ hq=>exact h2 q hq
theorem NH : ∀{l:List (Nat×QS)} {j:Nat} {th:Tr SB} {b:Nat} {k:SB},(adh j l th).get b=some k->(∃(i t sz:Nat),l[i]?=some (t,.os b sz)/\k=.fO sz (.var (j+i) []))\/((∀t sz,(t,.os b sz)∉l)/\th.get b=some k)
 |[],j,th,b,k,h=>.inr ⟨by simp,h⟩
 |(s,.os b' sz)::r,j,th,b,k,h=>by
  simp only [adh] at h
  rcases Tr.o7 _ _ _ _ _ _ h with ⟨rfl,h1⟩|⟨hne,h1⟩
  .simp only [au] at h1;exact .inl ⟨0,s,sz,rfl,by simpa using h1.symm⟩
  .rcases NH h1 with ⟨i,t,sz',h2,h3⟩|⟨h2,h3⟩
   .exact .inl ⟨i+1,t,sz',by simpa using h2,by rw [h3];congr 2;omega⟩
   .refine .inr ⟨fun t sz' hq=>?_,h3⟩
    cases hq with
    |head=>exact hne rfl
    |tail _ hq=>exact h2 _ _ hq
 |(s,.sc kd)::r,j,th,b,k,h=>by
  simp only [adh] at h
  rcases NH h with ⟨i,t,sz',h2,h3⟩|⟨h2,h3⟩
  .exact .inl ⟨i+1,t,sz',by simpa using h2,by rw [h3];congr 2;omega⟩
  .exact .inr ⟨fun t sz' hq=>by cases hq with|tail _ hq=>exact h2 _ _ hq,h3⟩
 |(s,.agg kd)::r,j,th,b,k,h=>by
  simp only [adh] at h
  rcases NH h with ⟨i,t,sz',h2,h3⟩|⟨h2,h3⟩
  .exact .inl ⟨i+1,t,sz',by simpa using h2,by rw [h3];congr 2;omega⟩
  .exact .inr ⟨fun t sz' hq=>by cases hq with|tail _ hq=>exact h2 _ _ hq,h3⟩
theorem aas : ∀{l:List (Nat×List Kd)} {j:Nat} {th:Tr SB} {b:Nat} {k:SB},(amg j l th).get b=some k->(∃(i:Nat) (ks:List Kd),l[i]?=some (b,ks)/\k=.rows ks.length [iD (j+i) [] 0 ks])\/((∀ks,(b,ks)∉l)/\th.get b=some k)
 |[],j,th,b,k,h=>.inr ⟨by simp,h⟩
 |(b',ks)::r,j,th,b,k,h=>by
  simp only [amg] at h
  rcases Tr.o7 _ _ _ _ _ _ h with ⟨rfl,h1⟩|⟨hne,h1⟩
  .simp only [au] at h1;exact .inl ⟨0,ks,rfl,by simpa using h1.symm⟩
  .rcases aas h1 with ⟨i,q,h2,h3⟩|⟨h2,h3⟩
   .exact .inl ⟨i+1,q,by simpa using h2,by rw [h3,Nat.add_assoc,Nat.add_comm 1 i]⟩
   .refine .inr ⟨fun q hq=>?_,h3⟩
    cases hq with
    |head=>exact hne rfl
    |tail _ hq=>exact h2 q hq
theorem aat : ∀{l:List (Nat×Tb)} {j:Nat} {th:Tr SB} {b:Nat} {k:SB},(amh j l th).get b=some k->(∃(i:Nat) (sz:Tb),l[i]?=some (b,sz)/\k=sz.sb (j+i))\/((∀sz,(b,sz)∉l)/\th.get b=some k)
 |[],j,th,b,k,h=>.inr ⟨by simp,h⟩
 |(b',sz)::r,j,th,b,k,h=>by
  simp only [amh] at h
  rcases Tr.o7 _ _ _ _ _ _ h with ⟨rfl,h1⟩|⟨hne,h1⟩
  .simp only [au] at h1;exact .inl ⟨0,sz,rfl,by simpa using h1.symm⟩
  .rcases aat h1 with ⟨i,q,h2,h3⟩|⟨h2,h3⟩
   .exact .inl ⟨i+1,q,by simpa using h2,by rw [h3];rw [Nat.add_assoc,Nat.add_comm 1 i]⟩
   .refine .inr ⟨fun q hq=>?_,h3⟩
    cases hq with
    |head=>exact hne rfl
    |tail _ hq=>exact h2 q hq
def YE (k:Kd):SV->Bool
 | .sc k' _=>decide (k=k')
 | .nil=>decide (k=.sl)
 | .sf _=>decide (k=.sl)
 | .slc r _=>decide (k=.sl)
 |_=>false
def KR : List Kd->List SV->Bool
 |[],[]=>true
 |k::r,x::s=>YE k x&&KR r s
 |_,_=>false
inductive Src where
 |no
 |empty
 |at (b:Nat)
def xU (sz:Nat):SB->Option SV
 | .fO sz' t=>bif Nat.beq sz sz' then some (.sc .sl t) else none
 | .rows sz' rs=>bif Nat.beq sz sz' then some (.slc (aeN rs) false) else none
 |_=>none
def lenOf : SB->Tm->Bool
 | .fO _ t,l=>l.beq (.rlen t)
 | .rows _ rs,l=>match yB l with|some n=>Nat.beq n rs.length|none=>false
 |_,_=>false
def QT : SB->Tm->Bool
 | .fO _ _,_=>true
 | .rows _ rs,l=>match yB l with|some n=>Nat.beq n rs.length|none=>false
 |_,_=>false
def WW : SB->Tm->List Side
 | .fO _ t,l=>acI l t
 |_,_=>[]
def adi (th:Tr SB)(v:SV):QS->Option (SV×Src)
 | .sc k=>bif YE k v then some (v.nrm,.no) else none
 | .agg ks=>match v with | .agg l=>bif KR ks l then some (.agg (yC l),.no) else none|_=>none
 | .os _ sz=>match v with
  | .nil=>some (.sc .sl .nl,.empty)
  | .os b' sz' off l=>match th.get b' with
   |some k=>bif Nat.beq sz sz'&&(Nat.beq off 0&&QT k l) then (match xU sz k with|some r=>some (r,.at b')|none=>none) else none
   |none=>none
  |_=>none
def aau (pc:Pc)(xu:sK):List (Nat×QS)->Option (List (SV×Src))
 |[]=>some []
 |(t,p)::r=>match xu.fr.get t with
  |none=>none
  |some e=>bif e.sure pc then (match adi xu.ah e.v p,aau pc xu r with|some x,some l=>some (x::l)|_,_=>none) else none
def G9 (xu:sK):List (Nat×QS)->List Side
 |[]=>[]
 |(t,.os _ _)::r=>(match xu.fr.get t with
  |some e=>match e.v with
   | .os b' _ _ l=>match xu.ah.get b' with
    |some k=>WW k l
    |none=>[]
   |_=>[]
  |none=>[])++G9 xu r
 |_::r=>G9 xu r
def aav (xu:sK):List (Nat×List Kd)->Option (List SV)
 |[]=>some []
 |(b,ks)::r=>match xu.ah.get b with
  |some (.rows sz [row])=>bif Nat.beq sz ks.length&&KR ks row then (match aav xu r with|some l=>some (.agg (yC row)::l)|none=>none) else none
  |_=>none
def sc1 : SV->Bool
 | .sc .sl _=>false
 | .sc _ _=>true
 |_=>false
def Pm (a:Bool)(n:Nat)(v:SV):Bool:=match a,v with
 |true,.agg l=>Nat.beq l.length n&&l.all sc1
 |false,v=>Nat.beq n 1&&sc1 v
 |_,_=>false
def I5 (m:MSh):SB->Option SV
 | .Ad m' t=>bif decide (m=m') then some (.sc .sl t) else none
 | .map es=>bif es.all fun e=>Pm m.ka m.kn e.1&&Pm m.va m.vn e.2 then some (.slc (es.map fun e=>e.1.cells++e.2.cells) false) else none
 |_=>none
def Tb.of : Tb->SB->Option SV
 | .rows sz,k=>xU sz k
 | .map m,k=>I5 m k
def aaw (xu:sK):List (Nat×Tb)->Option (List SV)
 |[]=>some []
 |(b,sz)::r=>match xu.ah.get b with
  |some k=>match sz.of k,aaw xu r with|some x,some l=>some (x::l)|_,_=>none
  |none=>none
end Go.Fw
end
section
namespace Go.Fw
variable [jU]
def aeZ : Pc->Pc->Bool
 |[],[]=>true
 |x::r,y::s=>x.1.beq y.1&&(x.2 == y.2&&aeZ r s)
 |_,_=>false
theorem aax : ∀{x y:Pc},aeZ x y=true->x=y
 |[],[],_=>rfl
 |(a,b)::r,(c,d)::s,h=>by
  simp only [aeZ,ay,beq_iff_eq] at h
  rw [Tm.beq_eq h.1,h.2.1,aax h.2.2]
def pI.beq (x y:pI):Bool:=aeZ x.h y.h&&x.v.beq y.v
theorem pI.beq_eq {x y:pI}(h:x.beq y=true):x=y:=by
 simp only [pI.beq,ay] at h
 cases x;cases y
 simp only at h
 rw [aax h.1,SV.beq_eq h.2]
def SB.beq : SB->SB->Bool
 | .rows a r,.rows b s=>Nat.beq a b&&Qo r s
 | .fO a r,.fO b s=>Nat.beq a b&&r.beq s
 |_,_=>false
theorem SB.beq_eq {x y:SB}(h:x.beq y=true):x=y:=by
 unfold SB.beq at h
 split at h
 .simp only [ay] at h
  rw [aA h.1,IJ h.2]
 .simp only [ay] at h
  rw [aA h.1,Tm.beq_eq h.2]
 .cases h
def below (n:Nat)(l:List Nat):Bool:=l.all fun b=>Nat.ble (b+1) n
theorem I7 {n:Nat}{l:List Nat}(h:below n l=true):∀b∈l,b<n:=fun b hb=>by
 unfold below at h
 rw [aH] at h
 exact aG (h b hb)
def ag4 (base nE:Nat)(ins:List Nat)(p:BK)(c xu:sK):Bool:=
 (ins.all fun t=>(p.fr.any fun x=>Nat.beq x.1 t)||match c.fr.get t with
  |none=>true
  |some e=>e.lt base&&(below nE e.v.FZ&&match xu.fr.get t with|some e'=>e'.beq e|none=>false))&&
 ((List.range nE).all fun b=>((p.bl.any fun x=>Nat.beq x.1 b)||(p.tb.any fun x=>Nat.beq x.1 b))||match c.ah.get b with
  |none=>true
  |some k=>k.lt base&&(below nE k.FZ&&match xu.ah.get b with|some k'=>k'.beq k|none=>false))
def vg : List (Nat×QS)->List (SV×Src)->List (Nat×Src)
 |(_,.os b _)::r,(_,s)::l=>(b,s)::vg r l
 |_::r,_::l=>vg r l
 |_,_=>[]
def Ua (nE nx:Nat)(p:BK)(c:sK):List (Nat×Src)->Bool
 |[]=>true
 |(b,s)::r=>Nat.ble nE b&&(Nat.ble (b+1) nx&&((r.all fun x=>!Nat.beq x.1 b)&&(Ua nE nx p c r&&
  match s with
  | .no=>false
  | .empty=>true
  | .at b'=>(r.all fun x=>match x.2 with | .at b2=>!Nat.beq b2 b' | _=>true)&&
   (Nat.ble nE b'||(!(p.bl.any fun x=>Nat.beq x.1 b')&&(!(p.tb.any fun x=>Nat.beq x.1 b')&&(c.ah.get b').isNone))))))
def I8 : List SV->Bool
 |[]=>true
 |x::r=>(match x.FZ with | []=>true|_=>false)&&I8 r
def aay (pc:Pc)(base nE:Nat)(ins:List Nat)(p:BK)(c xu:sK):Option (List SV):=
 match aau pc xu p.fr,aav xu p.bl,aaw xu p.tb with
 |some f,some b,some t=>
  let vals:=f.map (·.1)++(b++t)
  bif ag4 base nE ins p c xu&&(Ua nE p.nx p c (vg p.fr f)&&(I8 vals&&(Nat.ble nE p.nx&&(below nE (p.bl.map (·.1))&&below nE (p.tb.map (·.1)))))) then some vals else none
 |_,_,_=>none
theorem ajw {ρ:List AV}{k:Kd}{v:SV}(h:YE k v=true):k.av ((v.nrm.den ρ).D)=v.nrm.den ρ:=by
 cases v with
 |sc k' t=>simp only [YE,decide_eq_true_eq] at h;subst h;cases k<;>rfl
 |nil=>simp only [YE,decide_eq_true_eq] at h;subst h;rfl
 |sf t=>simp only [YE,decide_eq_true_eq] at h;subst h;rfl
 |slc r f=>simp only [YE,decide_eq_true_eq] at h;subst h;rfl
 |_=>simp [YE] at h
theorem Ub {ρ σ:List AV}{j:Nat}:∀{ks:List Kd} {l:List SV} {pre:List AV},KR ks l=true->σ.getD j eX=.agg (pre++dQ ρ (yC l))->dQ σ (iD j [] pre.length ks)=dQ ρ (yC l)
 |[],[],pre,_,_=>rfl
 |k::r,x::s,pre,h,hj=>by
  simp only [KR,ay] at h
  simp only [iD,dQ,yC]
  have e1:SV.den σ (.sc k (.var j ([]++[pre.length])))=x.nrm.den ρ:=by
   simp only [SV.den,Tm.den,hj]
   have:ax8 (.agg (pre++dQ ρ (yC (x::s)))) ([]++[pre.length])=x.nrm.den ρ:=by
    simp [ax8,yC,dQ,aF]
   rw [this]
   exact ajw h.1
  have e2:=Ub (σ:=σ) (ρ:=ρ) (j:=j) (pre:=pre++[x.nrm.den ρ]) h.2 (by rw [hj];simp [yC,dQ])
  rw [e1]
  simp only [bI,Nat.zero_add,dB,List.length_nil] at e2
  rw [e2]
 |[],_::_,pre,h,_=>by simp [KR] at h
 |_::_,[],pre,h,_=>by simp [KR] at h
theorem ae0 {ρ σ:List AV}{th:Tr SB}{v x:SV}{p:QS}{s:Src}{j:Nat}(h:adi th v p=some (x,s))(hp:∀b sz,p≠.os b sz)(hj:σ.getD j eX=x.den ρ):Weak (v.den ρ) ((p.sv j).den σ)/\(p.sv j).den σ=x.den ρ:=by
 cases p with
 |os b sz=>exact absurd rfl (hp b sz)
 |sc k=>
  simp only [adi] at h
  cases hk:YE k v
  .simp [hk] at h
  .simp only [hk,cond_true,au,aN] at h
   obtain ⟨rfl,rfl⟩:=h
   have e:(QS.sv j (.sc k)).den σ=v.nrm.den ρ:=by
    simp only [QS.sv,SV.den,Tm.den,ax8,hj]
    exact ajw hk
   exact ⟨by rw [e];exact Es,e⟩
 |agg ks=>
  simp only [adi] at h
  split at h
  .rename_i l
   cases hk:KR ks l
   .simp [hk] at h
   .simp only [hk,cond_true,au,aN] at h
    obtain ⟨rfl,rfl⟩:=h
    have e:(QS.sv j (.agg ks)).den σ=(SV.agg (yC l)).den ρ:=by
     simp only [QS.sv,SV.den]
     have:=Ub (σ:=σ) (ρ:=ρ) (j:=j) (pre:=[]) hk (by rw [hj];rfl)
     simp only [List.length_nil] at this
     rw [this]
    refine ⟨?_,e⟩
    rw [e]
    exact Es (x:=.agg l)
  .cases h
theorem Du {ρ:List AV}{sz:Nat}{k:SB}{r:SV}(h:xU sz k=some r):∃rs R,k.den ρ=.rows sz rs/\r.den ρ=.sl R false/\tZ rs R/\rs.length=R.length:=by
 cases k with
 |fO sz' t=>
  simp only [xU] at h
  cases hc:Nat.beq sz sz'
  .simp [hc] at h
  .simp only [hc,cond_true,au] at h;subst h
   have:=aA hc;subst this
   exact ⟨_,_,rfl,rfl,tZ.refl _,rfl⟩
 |rows sz' rs=>
  simp only [xU] at h
  cases hc:Nat.beq sz sz'
  .simp [hc] at h
  .simp only [hc,cond_true,au] at h;subst h
   have:=aA hc;subst this
   exact ⟨_,_,rfl,rfl,F5,(F5 (ρ:=ρ)).length⟩
 |map es=>simp [xU] at h
 |Ad m t=>simp [xU] at h
 |it m n k=>simp [xU] at h
 |kL ty sz rs=>simp [xU] at h
theorem ajx {v:SV}(h:sc1 v=true):∃k t,v=.sc k t/\k≠.sl:=by
 cases v with
 |sc k t=>refine ⟨k,t,rfl,fun e=>?_⟩;subst e;simp [sc1] at h
 |_=>simp [sc1] at h
theorem aaz {ρ:List AV}{v:SV}(h:sc1 v=true):(v.den ρ).refs=[]:=by
 obtain ⟨k,t,rfl,hk⟩:=ajx h
 cases k<;>first|rfl|exact absurd rfl hk
theorem Uc {ρ:List AV}{a:Bool}{n:Nat}{v:SV}(h:Pm a n v=true):v.cells.length=n/\nJ a (dQ ρ v.cells)=v.den ρ/\(v.den ρ).refs=[]:=by
 unfold Pm at h
 split at h
 .rename_i l
  simp only [ay] at h
  refine ⟨aA h.1,rfl,?_⟩
  have h2:=aH.1 h.2
  simp only [SV.den,AV.refs]
  clear h
  induction l with
  |nil=>rfl
  |cons x r ih=>simp only [dQ,mO,aaz (h2 x (by simp)),ih (fun y hy=>h2 y (by simp [hy])),cZ]
 .simp only [ay] at h
  have e:=aA h.1
  obtain ⟨k,t,rfl,hk⟩:=ajx h.2
  exact ⟨e.symm,rfl,aaz h.2⟩
 .cases h
theorem adk {ρ:List AV}{m:MSh}{k:SB}{r:SV}(h:I5 m k=some r):∃es R,k.den ρ=.map es/\r.den ρ=.sl R false/\R.map (qY m)=es:=by
 cases k with
 |Ad m' t=>
  simp only [I5] at h
  cases hc:decide (m=m')
  .simp [hc] at h
  .simp only [hc,cond_true,au] at h;subst h
   have:=of_decide_eq_true hc;subst this
   exact ⟨_,_,rfl,rfl,rfl⟩
 |map es=>
  simp only [I5] at h
  cases hc:(es.all fun e=>Pm m.ka m.kn e.1&&Pm m.va m.vn e.2)
  .simp [hc] at h
  .simp only [hc,cond_true,au] at h;subst h
   refine ⟨_,_,rfl,rfl,?_⟩
   rw [lV,List.map_map,List.map_map]
   apply List.map_congr_left
   intro e he
   have:=aH.1 hc e he
   simp only [ay] at this
   obtain ⟨a1,a2,-⟩:=Uc (ρ:=ρ) this.1
   obtain ⟨b1,b2,-⟩:=Uc (ρ:=ρ) this.2
   simp only [Function.comp,qY,l7]
   have hl:(dQ ρ e.1.cells).length=m.kn:=by rw [fZ,a1]
   rw [show (dQ ρ e.1.cells++dQ ρ e.2.cells).take m.kn=dQ ρ e.1.cells by rw [<- hl];simp,show (dQ ρ e.1.cells++dQ ρ e.2.cells).drop m.kn=dQ ρ e.2.cells by rw [<- hl];simp,a2,b2]
 |rows sz rs=>simp [I5] at h
 |fO sz t=>simp [I5] at h
 |it m n k=>simp [I5] at h
 |kL ty sz rs=>simp [I5] at h
theorem Ud {P:Program}{ρ:List AV}{k:SB}{l:Tm}{sz:Nat}{rs:List (List AV)}(h:QT k l=true)(hs:∀s∈WW k l,s.holds P ρ)(hk:k.den ρ=.rows sz rs):(l.den ρ).I.toNat=rs.length:=by
 cases k with
 |fO sz' t=>
  simp only [SB.den,vH.rows.injEq] at hk
  rw [Q_ hs,<- hk.2]
 |rows sz' rs'=>
  simp only [SB.den,vH.rows.injEq] at hk
  simp only [QT] at h
  split at h
  .rename_i n hn
   rw [(fU hn).2,aA h,<- hk.2,lV];simp
  .cases h
 |map es=>simp [QT] at h
 |Ad m t=>simp [QT] at h
 |it m n k=>simp [QT] at h
 |kL ty sz rs=>simp [QT] at h
theorem WX {P:Program}{ρ:List AV}{xu:sK}:∀{l:List (Nat×QS)},(∀s∈G9 xu l,s.holds P ρ)->∀{i t b sz:Nat},l[i]?=some (t,.os b sz)->∀{e:pI} {b' sz' off:Nat} {len:Tm} {k:SB},xu.fr.get t=some e->e.v=.os b' sz' off len->xu.ah.get b'=some k->∀s∈WW k len,s.holds P ρ
 |(t0,p0)::r,h,0,t,b,sz,hi,e,b',sz',off,len,k,he,hv,hk,s,hs=>by
  simp at hi
  obtain ⟨rfl,rfl⟩:=hi
  refine h s ?_
  simp only [G9,he,hv,hk,aK]
  exact .inl hs
 |(t0,p0)::r,h,i+1,t,b,sz,hi,e,b',sz',off,len,k,he,hv,hk,s,hs=>by
  refine WX (l:=r) (fun s hs=>h s ?_) (by simpa using hi) he hv hk s hs
  cases p0<;>simp [G9,hs]
 |[],h,i,t,b,sz,hi,_,_,_,_,_,_,_,_,_,_,_=>by simp at hi
theorem WY {pc:Pc}{xu:sK}:∀{l:List (Nat×QS)} {f:List (SV×Src)},aau pc xu l=some f->f.length=l.length/\∀(i t:Nat) (p:QS),l[i]?=some (t,p)->∃e x s,xu.fr.get t=some e/\e.sure pc=true/\adi xu.ah e.v p=some (x,s)/\f[i]?=some (x,s)
 |[],f,h=>by simp only [aau,au] at h;subst h;exact ⟨rfl,by simp⟩
 |(t0,p0)::r,f,h=>by
  simp only [aau] at h
  split at h
  .cases h
  .rename_i e he
   cases hs:e.sure pc
   .simp [hs] at h
   .simp only [hs,cond_true] at h
    split at h
    .rename_i x l hx hl
     simp only [au] at h;subst h
     obtain ⟨h1,h2⟩:=WY hl
     refine ⟨by simp [h1],fun i t p hi=>?_⟩
     cases i with
     |zero=>
      simp only [List.getElem?_cons_zero,au,aN] at hi
      obtain ⟨rfl,rfl⟩:=hi
      exact ⟨e,x.1,x.2,he,hs,hx,rfl⟩
     |succ i=>
      obtain ⟨e,x,s,q1,q2,q3,q4⟩:=h2 i t p (by simpa using hi)
      exact ⟨e,x,s,q1,q2,q3,by simpa using q4⟩
    .cases h
theorem WZ {xu:sK}:∀{l:List (Nat×List Kd)} {f:List SV},aav xu l=some f->f.length=l.length/\∀(i b:Nat) (ks:List Kd),l[i]?=some (b,ks)->∃row,xu.ah.get b=some (.rows ks.length [row])/\KR ks row=true/\f[i]?=some (.agg (yC row))
 |[],f,h=>by simp only [aav,au] at h;subst h;exact ⟨rfl,by simp⟩
 |(b0,k0)::r,f,h=>by
  simp only [aav] at h
  split at h
  .rename_i sz row hrow
   cases hc:Nat.beq sz k0.length&&KR k0 row
   .simp [hc] at h
   .simp only [hc,cond_true] at h
    split at h
    .rename_i l hl
     simp only [au] at h;subst h
     simp only [ay] at hc
     have hsz:=aA hc.1
     subst hsz
     obtain ⟨h1,h2⟩:=WZ hl
     refine ⟨by simp [h1],fun i b ks hi=>?_⟩
     cases i with
     |zero=>
      simp only [List.getElem?_cons_zero,au,aN] at hi
      obtain ⟨rfl,rfl⟩:=hi
      exact ⟨row,hrow,hc.2,rfl⟩
     |succ i=>
      obtain ⟨row,q1,q2,q3⟩:=h2 i b ks (by simpa using hi)
      exact ⟨row,q1,q2,by simpa using q3⟩
    .cases h
  .cases h
theorem W9 {xu:sK}:∀{l:List (Nat×Tb)} {f:List SV},aaw xu l=some f->f.length=l.length/\∀(i b:Nat) (sz:Tb),l[i]?=some (b,sz)->∃k x,xu.ah.get b=some k/\sz.of k=some x/\f[i]?=some x
 |[],f,h=>by simp only [aaw,au] at h;subst h;exact ⟨rfl,by simp⟩
 |(b0,k0)::r,f,h=>by
  simp only [aaw] at h
  split at h
  .rename_i k hk
   split at h
   .rename_i x l hx hl
    simp only [au] at h;subst h
    obtain ⟨h1,h2⟩:=W9 hl
    refine ⟨by simp [h1],fun i b sz hi=>?_⟩
    cases i with
    |zero=>
     simp only [List.getElem?_cons_zero,au,aN] at hi
     obtain ⟨rfl,rfl⟩:=hi
     exact ⟨k,x,hk,hx,rfl⟩
    |succ i=>
     obtain ⟨row,x,q1,q2,q3⟩:=h2 i b sz (by simpa using hi)
     exact ⟨row,x,q1,q2,by simpa using q3⟩
   .cases h
  .cases h
theorem t_ : ∀{l:List SV} {i:Nat} {x:SV},I8 l=true->l[i]?=some x->x.FZ=[]
 |y::r,0,x,h,hi=>by
  simp at hi;subst hi
  simp only [I8,ay] at h
  have:=h.1
  split at this
  .assumption
  .cases this
 |y::r,i+1,x,h,hi=>by
  simp only [I8,ay] at h
  exact t_ h.2 (by simpa using hi)
 |[],i,x,h,hi=>by simp at hi
def Ue (E:Env):Src->Own
 | .no=>.free
 | .empty=>.empty
 | .at b'=>E.own b'
def I9 (E:Env):List (Nat×Src)->Nat->Own
 |[],_=>.free
 |(b,s)::r,x=>if b=x then Ue E s else I9 E r x
theorem y7 {E:Env}{nE nx:Nat}{p:BK}{c:sK}:∀{l:List (Nat×Src)} {b:Nat} {s:Src},Ua nE nx p c l=true->(b,s)∈l->I9 E l b=Ue E s/\nE<=b/\b<nx/\(∀b',s=.at b'->nE<=b'\/((∀ks,(b',ks)∉p.bl)/\(∀sz,(b',sz)∉p.tb)/\c.ah.get b'=none))
 |(b0,s0)::r,b,s,h,hm=>by
  simp only [Ua,ay] at h
  obtain ⟨h1,h2,h3,h4,h5⟩:=h
  cases hm with
  |head=>
   refine ⟨by simp [I9],aG h1,aG h2,fun b' e=>?_⟩
   subst e
   simp only [ay,bf,Bool.not_eq_true',List.any_eq_false,Option.isNone_iff_eq_none] at h5
   rcases h5.2 with h6|⟨h6,h7,h8⟩
   .exact .inl (aG h6)
   .exact .inr ⟨fun ks hk=>by have:=h6 _ hk;simp at this,fun ks hk=>by have:=h7 _ hk;simp at this,h8⟩
  |tail _ hm=>
   have ih:=y7 (E:=E) h4 hm
   have hne:b0≠b:=by
    rw [aH] at h3
    have:=h3 _ hm
    intro e;subst e;simp at this
   simp only [I9,if_neg hne]
   exact ih
theorem Gn {E:Env}:∀{l:List (Nat×Src)} {b:Nat},(∀s,(b,s)∉l)->I9 E l b=.free
 |[],b,_=>rfl
 |(b0,s0)::r,b,h=>by
  have hne:b0≠b:=by intro e;subst e;exact h s0 (by simp)
  simp only [I9,if_neg hne]
  exact Gn (fun s hs=>h s (by simp [hs]))
theorem aaA {nE nx:Nat}{p:BK}{c:sK}:∀{l:List (Nat×Src)} {b1 b2 b':Nat},Ua nE nx p c l=true->(b1,.at b')∈l->(b2,.at b')∈l->b1=b2
 |(b0,s0)::r,b1,b2,b',h,h1,h2=>by
  simp only [Ua,ay] at h
  obtain ⟨_,_,_,q4,q5⟩:=h
  cases h1 with
  |head=>
   cases h2 with
   |head=>rfl
   |tail _ h2=>
    simp only [ay,aH] at q5
    have:=q5.1 _ h2
    simp at this
  |tail _ h1=>
   cases h2 with
   |head=>
    simp only [ay,aH] at q5
    have:=q5.1 _ h1
    simp at this
   |tail _ h2=>exact aaA q4 h1 h2
theorem Uf : ∀{l:List (Nat×QS)} {f:List (SV×Src)} {i t b sz:Nat} {x:SV} {s:Src},l[i]?=some (t,.os b sz)->f[i]?=some (x,s)->(b,s)∈vg l f
 |(t0,p0)::r,(x0,s0)::g,0,t,b,sz,x,s,h1,h2=>by
  simp at h1 h2
  obtain ⟨rfl,rfl⟩:=h1
  obtain ⟨rfl,rfl⟩:=h2
  simp [vg]
 |(t0,p0)::r,(x0,s0)::g,i+1,t,b,sz,x,s,h1,h2=>by
  have ih:=Uf (l:=r) (f:=g) (i:=i) (by simpa using h1) (by simpa using h2)
  cases p0<;>simp [vg,ih]
 |[],f,i,t,b,sz,x,s,h1,h2=>by simp at h1
 |_::_,[],i,t,b,sz,x,s,h1,h2=>by simp at h2
def Tr.only (tr:Tr pI):List Nat->Tr pI
 |[]=>.e
 |t::r=>match tr.get t with|some x=>(Tr.only tr r).upd yG t (some x)|none=>Tr.only tr r
def ayc (th:Tr SB):Nat->List Nat->Tr SB->Tr SB
 |0,_,acc=>acc
 |n+1,[],acc=>acc
 |n+1,b::r,acc=>match acc.get b with
  |some _=>ayc th n r acc
  |none=>match th.get b with
   |none=>ayc th n r acc
   |some k=>ayc th n ((match k with | .rows _ rs=>Dl rs | .fO _ _=>[] | .Ad _ _=>[] | .map es=>Ep (es.map (·.1))++Ep (es.map (·.2)) | .it m _ _=>[m] | .kL _ _ rs=>Dl rs)++r) (acc.upd yG b (some k))
def sK.only (st:sK)(l:List Nat):sK:=
 ⟨st.fr.only l,ayc st.ah 60 (l.flatMap fun t=>match st.fr.get t with|some e=>e.v.FZ|none=>[]) .e,st.nx⟩
def Tr.Ug {α:Type}(tr:Tr α):List Nat->Tr α
 |[]=>.e
 |t::r=>match tr.get t with|some x=>(Tr.Ug tr r).upd yG t (some x)|none=>Tr.Ug tr r
theorem Tr.ED {α:Type}{tr:Tr α}:∀{l:List Nat} {t:Nat} {y:α},(Tr.Ug tr l).get t=some y->t∈l/\tr.get t=some y
 |[],t,y,h=>by simp [Tr.Ug,Tr.get] at h
 |s::r,t,y,h=>by
  simp only [Tr.Ug] at h
  split at h
  .rename_i x hx
   rcases Tr.o7 _ _ _ _ _ _ h with ⟨rfl,h1⟩|⟨-,h1⟩
   .simp only [au] at h1;subst h1;exact ⟨by simp,hx⟩
   .have:=Tr.ED h1;exact ⟨by simp [this.1],this.2⟩
  .have:=Tr.ED h;exact ⟨by simp [this.1],this.2⟩
def aaB (th:Tr SB)(b:Nat):Bool:=match th.get b with|some (.map _)=>false|some (.Ad _ _)=>false|some (.it _ _ _)=>false|some (.kL _ _ _)=>false|_=>true
def sK.cut (st:sK)(l:List Nat):sK:=⟨st.fr.Ug l,(st.only l).ah.Ug ((List.range st.nx).filter (aaB (st.only l).ah)),st.nx⟩
structure KT where
 ins:List Nat
 p:BK
 xs:List (Exit×BK)
def SV.slT (th:Tr SB):SV->List Tm
 | .sc .sl t=>[t]
 | .agg l=>l.filterMap fun x=>match x with | .sc .sl t=>some t|_=>none
 | .os b _ _ l=>match th.get b with
  |some (.fO _ t)=>bif l.beq (.rlen t) then [t] else []
  |_=>[]
 |_=>[]
def ami (l:List Tm)(t:Tm):List Tm:=bif l.any fun x=>x.beq t then l else l++[t]
def an7 (st:sK)(t:Nat):List Tm:=match st.fr.get t with
 |some e=>(match e.h with | []=>e.v.slT st.ah|_=>[])
 |none=>[]
def amj (st:sK)(ins:List Nat):List Tm:=(ins.flatMap (an7 st)).foldl ami []
inductive Lo where
 |mk (pc:Pc) (base m:Nat) (entry:List SV) (outs:List (Tm×Nat×List SV)) (sd:List (Pc×Side)) (aw:List Lo) (ms:List Nat) (bn:List Tm)
def ayo (base:Nat)(ms:List Nat)(k:Nat):Nat:=(bif Nat.ble ms.length 1 then base else base+1)+(ms.take k).sum
def CJ (ρ:List AV):List (Tm×Nat×List SV)->Option (Nat×List SV)
 |[]=>none
 |[o]=>some o.2
 |o::o'::r=>bif (o.1.den ρ).B then some o.2 else CJ ρ (o'::r)
def amk (id:Nat):Exit->Exit->Bool
 | .normal,.exit j=>Nat.beq j id
 | .exit i,.exit j=>Nat.beq i j&&!Nat.beq j id
 | .ret,.ret=>true
 |_,_=>false
def Uh (id:Nat)(e:Exit):Nat->List (Exit×BK)->Option (Nat×BK)
 |_,[]=>none
 |k,x::r=>bif amk id x.1 e then some (k,x.2) else Uh id e (k+1) r
def ag5 (h:KT)(id base nE:Nat)(cs:sK)(pc:Pc)(o:Out):Option (Tm×Nat×List SV):=
 match o.e with
 | .normal=>match aay pc base nE h.ins h.p cs o.st with|some v=>some (o.g,0,v)|none=>none
 |e=>match Uh id e 0 h.xs with
  |some (k,p)=>match aay pc base nE h.ins p cs o.st with|some v=>some (o.g,k+1,v)|none=>none
  |none=>none
def aaC (h:KT)(id base nE:Nat)(cs:sK):Pc->List Out->Option (List (Tm×Nat×List SV))
 |_,[]=>some []
 |pc,[o]=>match ag5 h id base nE cs pc o with|some x=>some [x]|none=>none
 |pc,o::o'::r=>match ag5 h id base nE cs (jG o.g true pc) o with
  |none=>none
  |some x=>match aaC h id base nE cs (jG o.g false pc) (o'::r) with|some l=>some (x::l)|none=>none
def aaD (h:KT)(id:Nat)(o:Out):List Side:=
 match o.e with
 | .normal=>G9 o.st h.p.fr
 |e=>match Uh id e 0 h.xs with
  |some (_,p)=>G9 o.st p.fr
  |none=>[]
def ae1 (h:KT)(id:Nat):Pc->List Out->List (Pc×Side)
 |_,[]=>[]
 |pc,[o]=>(aaD h id o).map fun s=>(pc,s)
 |pc,o::o'::r=>(aaD h id o).map (fun s=>(jG o.g true pc,s))++ae1 h id (jG o.g false pc) (o'::r)
def Dv (cs:sK)(nv:Nat):Nat->Nat->List (Exit×BK)->List Out
 |_,_,[]=>[]
 |k,q,[x]=>[⟨.lb true,x.1,ayR x.2 q cs⟩]
 |k,q,x::y::r=>⟨.bin .eql (.int .i64) (.var nv []) (.li k),x.1,ayR x.2 q cs⟩::Dv cs nv (k+1) (q+x.2.m) (y::r)
def adl (S:List AV->Prop)(outs:List (Tm×Nat×List SV))(ρ0:List AV)(m:Nat):Nat->List AV->Nat->List AV->Prop
 |0,_,_,_=>False
 |n+1,vs,k,us=>∃cs,vs.length=m/\iT (ρ0++vs++cs)=true/\S (ρ0++vs++cs)/\
  match CJ (ρ0++vs++cs) outs with
  |none=>False
  |some (0,l)=>adl S outs ρ0 m n (dQ (ρ0++vs++cs) l) k us
  |some (j+1,l)=>k=j/\us=dQ (ρ0++vs++cs) l
def ajy (ρ:List AV)(base:Nat)(ms:List Nat)(k:Nat)(us:List AV):Prop:=
 (1<ms.length->(ρ.getD base eX).D.I=(k:Int))/\∀(i:Nat) (u:AV),us[i]?=some u->ρ.getD (ayo base ms k+i) eX=u
 mutual
def Lo.holds (P:Program):Lo->List AV->Prop
  | .mk pc base m entry outs sd aw ms bn=>fun ρ=>Pc.holds ρ pc->(∀t∈bn,(t.den ρ).R.length<=4294967296)->base<=ρ.length/\∃n k us,adl (fun σ=>jw P σ sd/\Zn P aw σ) outs (ρ.take base) m n (dQ ρ entry) k us/\ajy ρ base ms k us
def Zn (P:Program):List Lo->List AV->Prop
  |[]=>fun _=>True
  |x::r=>fun σ=>x.holds P σ/\Zn P r σ
end
theorem YF {P:Program}{ρ:List AV}:∀{a b:List Lo},Zn P (a++b) ρ↔Zn P a ρ/\Zn P b ρ
 |[],b=>by simp [Zn]
 |x::a,b=>by simp only [bZ,Zn,YF (a:=a) (b:=b),and_assoc]
end Go.Fw
end
section
namespace Go.Fw
variable [jU]
section
variable {P : Program} {base:Nat} {w w':World} {E:Env} {ah:AH} {F:Nat->Prop}
theorem ajz (hh:dU base w E ah F){q c:Nat}{o0:Obj}(o1:Obj)(ho:E.own q=.at c 0)(hsep:∀b k c' o',ah b=some k->E.own b=.at c' o'->c'≠c)(hnf:∀off,¬E.fix c off)
  (hc:w.heap[c]?=some o0) (hnc:∀arr t f,o0≠.cells arr t f) (d:Nat) :
  Step base w E {w with drawn:=d,heap:=w.heap.setIfInBounds c o1} E/\dU base {w with drawn:=d,heap:=w.heap.setIfInBounds c o1} E ah F:=by
 obtain ⟨hbase,hlt⟩:=hh.kJ q c 0 ho
 obtain ⟨g1,g2⟩:=Ee (o':=o1) hc
 have hx:Ext w E {w with drawn:=d,heap:=w.heap.setIfInBounds c o1} E:=by
  refine ⟨fun _ _ h=>h,fun c' off h=>?_,fun _ _=>rfl,fun c' ar t fz h=>?_⟩
  .have:c'≠c:=fun e=>hnf off (e▸h)
   simp only [World.cell?]
   rw [g2 c' this]
  .have:c'≠c:=fun e=>by subst e;rw [hc] at h;cases h;exact hnc _ _ _ rfl
   exact ⟨ar,fz,by show (w.heap.setIfInBounds c _)[c']?=_;rw [g2 c' this];exact h,rfl⟩
 refine ⟨⟨hx,⟨rfl,rfl,rfl,by simp,fun j hj=>g2 j (by omega)⟩,fun _ _ _ h=>h,fun c' _ hno=>g2 c' (fun e=>hno q 0 (e▸ho)),fun b c o h _=>⟨b,o,h⟩,fun _ _ h _=>.inl h⟩,?_⟩
 refine ⟨fun b' k' hb'=>?_,hh.sep,hh.fresh,fun c' off h=>?_,by simpa using hh.bs,fun b c o h=>by simpa using hh.kJ b c o h⟩
 .exact (hh.blk b' k' hb').keep hx (fun c' o' ho'=>g2 c' (hsep b' k' c' o' hb' ho')) (fun _ _ _ _ h=>h)
 .have:=hh.kF c' off h;simpa using this
theorem Bd : ∀{l m:List Nat},l.Nodup->(∀x∈l,x∈m)->l.length<=m.length
 |[],m,_,_=>by simp
 |a::l,m,h,hs=>by
  obtain ⟨h1,h2⟩:=List.nodup_cons.1 h
  have ha:a∈m:=hs a (by simp)
  have ih:=Bd (l:=l) (m:=m.erase a) h2 (fun x hx=>by
   have:x≠a:=fun e=>h1 (e▸hx)
   exact (List.mem_erase_of_ne this).2 (hs x (by simp [hx])))
  rw [List.length_erase_of_mem ha] at ih
  have:0<m.length:=List.length_pos_of_mem ha
  simp;omega
theorem W_ {n:Nat}{s:List Nat}(hs:s.Nodup)(hlt:∀j∈s,j<n)(hl:s.length=n):∀j,j<n->j∈s:=by
 intro j hj
 apply Classical.byContradiction
 intro hno
 have:=Bd (l:=j::s) (m:=List.range n) (List.nodup_cons.2 ⟨hno,hs⟩) (fun x hx=>by
  cases hx with
  |head=>exact List.mem_range.2 hj
  |tail _ hx=>exact List.mem_range.2 (hlt x hx))
 simp at this;omega
theorem ajA {cq cm n:Nat}{s:List Nat}{lJ:Array MapEntry}{ty:TypeId}(hq:w.heap[cq]?=some (.mapIter (some cm) n s.toArray n))(hm:w.heap[cm]?=some (.map lJ n))
  (hb:∀(i:Nat) (a:MapEntry),lJ[i]?=some a->a.born=i) (hn:lJ.size=n) (hs:s.Nodup) (hlt:∀j∈s,j<n) :
  (s.length=n/\(Instr.next (.pointer (some ⟨cq,0,none⟩)) false ty).run P w=.ok (.tuple #[.bool false]) w)\/
  ∃j ce d,lJ[j]?=some ce/\j∉s/\(Instr.next (.pointer (some ⟨cq,0,none⟩)) false ty).run P w =
   .ok (.tuple #[.bool true,ce.key,ce.val]) {w with drawn:=d,heap:=w.heap.setIfInBounds cq (.mapIter (some cm) n (s++[j]).toArray n)}:=by
 have hgi:(getObj cq).run P w=.ok (.mapIter (some cm) n s.toArray n) w:=by simp [getObj,Sem.run,hq]
 have hgm:(getObj cm).run P w=.ok (.map lJ n) w:=by simp [getObj,Sem.run,hm]
 have hcond:(!s.toArray.isEmpty&&!lJ.isEmpty&&lJ.all (·.born>=n))=false:=by
  cases he:lJ.isEmpty
  .have h0:0<lJ.size:=by
    rcases Nat.eq_zero_or_pos lJ.size with e|e
    .have:lJ=#[]:=Array.eq_empty_of_size_eq_zero e
     subst this;simp at he
    .exact e
   have:lJ.all (·.born>=n)=false:=by
    rw [Array.all_eq_false]
    refine ⟨0,h0,?_⟩
    have:=hb 0 lJ[0] (by simp [h0])
    simp [this];omega
   rw [this];simp
  .simp
 have hin:∀x∈lJ.toList,x.born<n/\lJ[x.born]?=some x:=by
  intro x hx
  obtain ⟨i,hi⟩:=bH.1 hx
  have hi':lJ[i]?=some x:=by simpa using hi
  have:=hb i x hi'
  have hlt':=(bG.1 hi').1
  rw [this];exact ⟨by omega,hi'⟩
 obtain ⟨left,hleft⟩:∃left,left=lJ.filter fun e=>!s.toArray.contains e.born:=⟨_,rfl⟩
 have hlm:∀x,x∈left.toList↔x∈lJ.toList/\x.born∉s:=by
  intro x
  rw [hleft,Array.toList_filter,List.mem_filter]
  simp
 have hold:left.filter (fun e=>decide (e.born<n))=left:=by
  apply Array.ext'
  rw [Array.toList_filter,List.filter_eq_self]
  intro x hx
  simpa using (hin x ((hlm x).1 hx).1).1
 have hnew:left.filter (fun e=>decide (e.born>=n))=#[]:=by
  apply Array.ext'
  rw [Array.toList_filter]
  simp only [List.filter_eq_nil_iff,decide_eq_true_eq]
  intro x hx
  have:=(hin x ((hlm x).1 hx).1).1
  omega
 rcases Nat.lt_or_ge s.length n with hlen|hlen
 .right
  
  obtain ⟨j0,hj0,atu⟩:∃j,j<n/\j∉s:=by
   apply Classical.byContradiction
   intro hno
   have hsub:∀j∈List.range n,j∈s:=fun j hj=>Classical.byContradiction fun h=>hno ⟨j,List.mem_range.1 hj,h⟩
   have:=Bd (List.nodup_range (n:=n)) hsub
   simp at this;omega
  have hne:left.size≠0:=by
   have:lJ[j0]∈left.toList:=(hlm _).2 ⟨by simp,by rw [hb j0 lJ[j0] (by simp [hn,hj0])];exact atu⟩
   intro h0
   have h1:left.toList.length=0:=by simpa using h0
   rw [List.length_eq_zero_iff] at h1
   rw [h1] at this;cases this
  have hempty:left.isEmpty=false:=by
   cases hh:left.isEmpty
   .rfl
   .rw [Array.isEmpty_iff_size_eq_zero] at hh;exact absurd hh hne
  
  obtain ⟨i,w2,hch,hi,hw2⟩:∃i w2,(choose (.mapNext left.size)).run P w=.ok i w2/\i<left.size/\∃d,w2={w with drawn:=d}:=by
   rw [run_choose_drew]
   split
   .rename_i hf
    refine ⟨0,w,rfl,by omega,w.drawn,rfl⟩
   .refine ⟨_,_,rfl,?_,w.drawn+1,rfl⟩
    show _ % _<_
    exact Nat.mod_lt _ (by omega)
  obtain ⟨d,rfl⟩:=hw2
  have hce:left[i]∈left.toList:=by simp
  obtain ⟨h1,h2⟩:=(hlm _).1 hce
  obtain ⟨h3,h4⟩:=hin _ h1
  refine ⟨left[i].born,left[i],d,h4,h2,?_⟩
  have hset:∀o,(setObj cq o).run P {w with drawn:=d}=.ok () {w with drawn:=d,heap:=w.heap.setIfInBounds cq o}:=fun o=>by simp [setObj,Sem.run,hq]
  simp only [Instr.next,Sem.run_bind,hgi,hgm,Result.andThen_ok]
  simp only [hcond,<- hleft,aU,if_false,Sem.run_pure,Result.andThen_ok,hold,hnew]
  simp only [hempty,aU,if_false,Array.append_empty,Array.empty_append,Array.size_map,hch,Result.andThen_ok]
  rw [Sem.run_bind,hch]
  simp [hi,hset,Result.andThen]
 .left
  have hl:s.length=n:=by
   have:=Bd hs (m:=List.range n) fun x hx=>List.mem_range.2 (hlt x hx)
   simp at this;omega
  refine ⟨hl,?_⟩
  have hemp:left=#[]:=by
   apply Array.ext'
   rw [show (#[]:Array MapEntry).toList=[] from rfl,List.eq_nil_iff_forall_not_mem]
   intro x hx
   obtain ⟨h1,h2⟩:=(hlm x).1 hx
   exact h2 (W_ hs hlt hl _ (hin x h1).1)
  simp only [Instr.next,Sem.run_bind,hgi,hgm,Result.andThen_ok]
  simp only [hcond,<- hleft,hemp,aU,if_false,Sem.run_pure,Result.andThen_ok]
  simp [Question.forced]
theorem ag6 {cq cm n j:Nat}{s:List Nat}{lJ:Array MapEntry}{ce:MapEntry}(hq:w.heap[cq]?=some (.mapIter (some cm) n (s++[j]).toArray n))(hm:w.heap[cm]?=some (.map lJ n))
  (hb:∀(i:Nat) (a:MapEntry),lJ[i]?=some a->a.born=i) (hj:lJ[j]?=some ce) :
  (Instr.entry (.pointer (some ⟨cq,0,none⟩))).run P w=.ok (.tuple #[ce.key,ce.val]) w:=by
 have hgi:(getObj cq).run P w=.ok (.mapIter (some cm) n (s++[j]).toArray n) w:=by simp [getObj,Sem.run,hq]
 have hgm:(getObj cm).run P w=.ok (.map lJ n) w:=by simp [getObj,Sem.run,hm]
 have hf:lJ.find? (fun e=>e.born == j)=some ce:=by
  rw [<- Array.find?_toList,OO (g:=fun e:MapEntry=>e.born) lJ.toList 0 j (dF _) (fun i a h=>by simpa using hb i a (by simpa using h))]
  simpa using hj
 have hbk:(s++[j]).toArray.back?=some j:=by simp
 simp only [Instr.entry,Sem.run_bind,hgi,Result.andThen_ok,hbk,hgm]
 simp [hf]
theorem I_ {ops:Array Oper}{i:Nat}{o:Oper}{rest:List Nat}{Q:Exit->Act->World->Prop}{a:Act}(ho:ops[i]?=some o)(hg:o.guard=none)(h:o.wp P a w (wpOps P ops Q rest) Q):wpOps P ops Q (i::rest) a w:=by
 rw [wpOps_cons]
 unfold wpOp
 rw [ho]
 have:Region.wanted o (yielded ops a.tmps)=true:=by unfold Region.wanted;rw [hg]
 dsimp only
 rw [if_pos this]
 exact .inl h
theorem y8 {ops:Array Oper}{i:Nat}{o:Oper}{rest:List Nat}{Q:Exit->Act->World->Prop}{a:Act}{fr:lY}{x:AV}{d:Nat}(hh:dU base w E ah F)(hfr:vV w E fr a.tmps)(ho:ops[i]?=some o)(hg:o.guard=none)(hd:o.dst=some d)
  (hpu:Ef o.op=true) (h:Zl P 0 fr ah o.op (fun r=>r.v=x)) (hn:∀a':Act,a'.defers=a.defers->vV w E (xk fr d x) a'.tmps->wpOps P ops Q rest a' w):wpOps P ops Q (i::rest) a w:=by
 refine I_ ho hg (aiu hh hfr hpu h fun r v hK _ hv=>?_)
 rw [hK] at hv
 have:=hfr.put o.dst hv
 rw [hd] at this
 exact hn _ (ax6 _ _ _) (by rw [hd];exact this)
def ayQ (es:List (AV×AV))(i j:Nat):Bool:=match es[j]? with|some e=>Nat.beq (kOf e.1) i|none=>false
def Marked (es:List (AV×AV))(s:List Nat)(rs rs':List (List AV)):Prop:=rs'.length=rs.length/\∀i,i<rs.length->rs'[i]?=if s.any (ayQ es i)=true then some TT else rs[i]?
theorem Marked.set {es:List (AV×AV)}{s:List Nat}{rs rs':List (List AV)}(h:Marked es s rs rs'){j:Nat}{e:AV×AV}(hj:es[j]?=some e):Marked es (s++[j]) rs (rs'.set (kOf e.1) TT):=by
 refine ⟨by rw [List.length_set];exact h.1,fun i hi=>?_⟩
 rw [List.getElem?_set]
 have hkey:ayQ es i j=Nat.beq (kOf e.1) i:=by unfold ayQ;rw [hj]
 rw [List.any_append,List.any_cons,List.any_nil,Bool.or_false,hkey]
 by_cases hk:kOf e.1=i
 .subst hk
  have:kOf e.1<rs'.length:=by rw [h.1];exact hi
  have hb:Nat.beq (kOf e.1) (kOf e.1)=true:=by simp
  rw [if_pos rfl,if_pos this,hb,Bool.or_true,if_pos rfl]
 .have hb:Nat.beq (kOf e.1) i=false:=by
   cases hbb:Nat.beq (kOf e.1) i
   .rfl
   .exact absurd (aA hbb) hk
  rw [if_neg hk,hb,Bool.or_false]
  exact h.2 i hi
theorem Marked.all {es:List (AV×AV)}{s:List Nat}{rs rs':List (List AV)}(h:Marked es s rs rs')(hs:s.Nodup)(hlt:∀j∈s,j<es.length)(hl:s.length=es.length) :
  ∀i,i<rs.length->rs'[i]?=if es.any (fun e=>Nat.beq (kOf e.1) i)=true then some TT else rs[i]?:=by
 intro i hi
 rw [h.2 i hi]
 have:s.any (ayQ es i)=es.any (fun e=>Nat.beq (kOf e.1) i):=by
  rw [Bool.eq_iff_iff,List.any_eq_true,List.any_eq_true]
  constructor
  .rintro ⟨j,hj,hk⟩
   unfold ayQ at hk
   split at hk
   .rename_i e he
    exact ⟨e,aJ he,hk⟩
   .cases hk
  .rintro ⟨e,he,hk⟩
   obtain ⟨j,hj⟩:=bH.1 he
   have hjl:=(aC.1 hj).1
   exact ⟨j,W_ hs hlt hl j hjl,by unfold ayQ;rw [hj];exact hk⟩
 rw [this]
structure vI where
 (it tn tb te tk t8 tD d1 d2 d3:Nat)
 (T TB:TypeId)
def vI.ts (m:vI):List Nat:=[m.tn,m.tb,m.te,m.tk,m.t8,m.d1,m.d2,m.d3]
structure an8 (m:vI)(o1 o2 p1 p2 p3 q1 q2 q3 q4:Oper):Prop where
 o1:o1.op=.next (.tmp m.it) false/\o1.dst=some m.tn/\o1.guard=none
 o2:o2.op=.extract (.tmp m.tn) 0/\o2.dst=some m.tb/\o2.guard=none
 p1:p1.op=.entry (.tmp m.it)/\p1.dst=some m.te/\p1.guard=none
 p2:p2.op=.extract (.tmp m.te) 0/\p2.dst=some m.tk/\p2.guard=none
 p3:p3.op=.assign (.tmp m.tk)/\p3.dst=some m.t8/\p3.guard=none
 q1:q1.op=.move (.tmp m.tD)/\q1.dst=some m.d1/\q1.guard=none
 q2:q2.op=.move (.tmp m.t8)/\q2.dst=some m.d2/\q2.guard=none
 q3:q3.op=.indexAddr m.T (.tmp m.d1) (.tmp m.d2)/\q3.dst=some m.d3/\q3.guard=none
 q4:q4.op=.store m.TB (.tmp m.d3) (.const (.bool true))/\q4.dst=none/\q4.guard=none
theorem ayw {fr:lY}{d:Nat}{x:AV}(h:d<fr.length):jm (xk fr d x) d=some x:=by rw [uF,if_pos ⟨rfl,h⟩]
theorem xW {fr:lY}{d t:Nat}{x:AV}(h:t≠d):jm (xk fr d x) t=jm fr t:=by rw [uF,if_neg (fun e=>h e.1)]
theorem aml {m:vI}{o1 o2 p1 p2 p3 q1 q2 q3 q4:Oper}(hm:an8 m o1 o2 p1 p2 p3 q1 q2 q3 q4){r1 r2 r3 id id5:Nat}{fr:lY}{nx:Nat}{Q:AQ}
  {q sq mb bd len:Nat} {es:List (AV×AV)} {rs:List (List AV)} {tb:Nat}
  (hN:∀t∈m.ts,t<fr.length) (hit:m.it∉m.ts) (htD:m.tD∉m.ts) (hd1:m.t8≠m.d1) (hd2:m.d1≠m.d2)
  (hq:jm fr m.it=some (.op q sq 0 0)) (hqa:ah q=some (.it mb es.length 0)) (hma:ah mb=some (.map es)) (hD:jm fr m.tD=some (.os bd 1 0 len)) (hbd:ah bd=some (.rows 1 rs)) (hlen:len<=rs.length)
  (hT:mQ P m.T=some (1,tb)) (hTB:Bj P m.TB=some (false,1)) (hks:∀e∈es,∃kk n,e.1=.p (.int kk n)/\0<=n/\n.toNat<len) (hne1:q≠mb) (hne2:q≠bd) (atv:mb≠bd)
  (hQ:∀fr' rs',fr'.length=fr.length->(∀t,t∉m.ts->jm fr' t=jm fr t)->rs'.length=rs.length->(∀i,i<rs.length->rs'[i]?=if es.any (fun e=>Nat.beq (kOf e.1) i)=true then some TT else rs[i]?)->
   Q .normal fr' (upd (upd ah q none) bd (some (.rows 1 rs'))) nx) :
  AW P (.block id (.loop (.seq (.region r1 #[o1,o2] false) (.seq (.cond (.tmp m.tb) .skip (.exit id)) (.block id5 (.seq (.region r2 #[p1,p2,p3] false) (.region r3 #[q1,q2,q3,q4] false))))))) fr ah nx Q:=by
 intro base w E a hs
 obtain ⟨cq,cm,g1,g2,g3,g4,g5⟩:=hs.heap.blk q _ hqa
 obtain ⟨cm',avX,atw,f1,f2,f3,f4,f5⟩:=hs.heap.blk mb _ hma
 rw [g5] at f1;cases f1
 have ajB:∀b k c o,b≠q->ah b=some k->E.own b=.at c o->c≠cq:=fun b k c o hb hk ho=>hs.heap.sep b q k _ c o cq 0 hb hk hqa ho g1
 have htn:=hN m.tn (by simp [vI.ts])
 have htb:=hN m.tb (by simp [vI.ts])
 have hte:=hN m.te (by simp [vI.ts])
 have htk:=hN m.tk (by simp [vI.ts])
 have ht8:=hN m.t8 (by simp [vI.ts])
 have avY:=hN m.d1 (by simp [vI.ts])
 have avZ:=hN m.d2 (by simp [vI.ts])
 have av1:=hN m.d3 (by simp [vI.ts])
 simp only [vI.ts,bF,List.not_mem_nil,or_false,not_or] at hit htD
 let DU:List (List AV)->AH:=fun rs'=>upd (upd ah q none) bd (some (.rows 1 rs'))
 have hAm:∀rs',DU rs' mb=some (.map es):=fun rs'=>by show upd (upd ah q none) bd _ mb=_;rw [ax7 atv,ax7 (fun e=>hne1 e.symm)];exact hma
 have hAb:∀rs',DU rs' bd=some (.rows 1 rs'):=fun rs'=>qy rfl
 have an9:∀rs' b k c o,DU rs' b=some k->E.own b=.at c o->c≠cq:=by
  intro rs' b k c o hk ho
  by_cases e:b=bd
  .subst e;exact ajB b _ c o (fun e=>hne2 e.symm) hbd ho
  .have hk2:upd (upd ah q none) bd (some (.rows 1 rs')) b=some k:=hk
   rw [ax7 e] at hk2
   by_cases e2:b=q
   .rw [qy e2] at hk2;cases hk2
   .rw [ax7 e2] at hk2;exact ajB b k c o e2 hk2 ho
 let J:Nat->Act->World->Prop:=fun n a' w'=>∃s fr' rs',s.Nodup/\(∀j∈s,j<es.length)/\n+s.length=es.length/\fr'.length=fr.length/\(∀t,t∉m.ts->jm fr' t=jm fr t)/\Marked es s rs rs'/\
  dU base w' E (DU rs') (fun b=>nx<=b)/\w'.heap[cq]?=some (.mapIter (some cm) es.length s.toArray es.length)/\vV w' E fr' a'.tmps/\a'.defers=[]/\Step base w E w' E
 refine wp_block (wp_loop_ghost J es.length ?_ ?_)
 .refine ⟨[],fr,rs,List.nodup_nil,by simp,by simp,rfl,fun _ _=>rfl,⟨rfl,fun i hi=>by simp⟩,?_,by rw [g4,show Array.range 0=#[] from by simp],hs.fr,hs.defers,Step.refl _ _ _⟩
  have:=(hs.heap.drop q).XV (b:=bd) (k:=.rows 1 rs) (k':=.rows 1 rs) (by rw [ax7 (fun e=>hne2 e.symm)];exact hbd) (hs.heap.blk bd _ hbd)
  exact this
 .intro n a1 w1 hJ
  obtain ⟨s,fr1,Zz,j1,j2,j3,j4,j5,j6,j7,j8,j9,j10,j11⟩:=hJ
  obtain ⟨cm',lJ,clock,f1,f2,f3,f4,f5⟩:=j7.blk mb _ (hAm Zz)
  rw [g5] at f1;cases f1
  obtain ⟨m1,m2,m3,m4⟩:=f5
  have hcl:clock=es.length:=by omega
  subst hcl
  have atx:cm≠cq:=ajB mb _ cm 0 (fun e=>hne1 e.symm) hma g5
  have hfit:jm fr1 m.it=some (.op q sq 0 0):=by rw [j5 _ (by simp only [vI.ts,bF,List.not_mem_nil,or_false,not_or];exact hit)];exact hq
  have aty:jm fr1 m.tD=some (.os bd 1 0 len):=by rw [j5 _ (by simp only [vI.ts,bF,List.not_mem_nil,or_false,not_or];exact htD)];exact hD
  have apv:∀(fr':lY) (a':Act) (w':World),vV w' E fr' a'.tmps->jm fr' m.it=some (.op q sq 0 0)->a'.eval (.tmp m.it)=.pointer (some ⟨cq,0,none⟩):=by
   intro fr' a' w' atz hf
   obtain ⟨c,o,h1,h2⟩:=(fM (x:=.tmp m.it) atz hf).R_
   rw [g1] at h2;cases h2
   simpa using h1
  refine wp_seq (wp_region ?_)
  have hr2:List.range (#[o1,o2]:Array Oper).size=[0,1]:=rfl
  rw [hr2]
  rcases ajA (P:=P) (ty:=o1.type) j8 f4 m4 m3.symm j1 j2 with ⟨hall,hrun⟩|⟨j,ce,d,hce,hjs,hrun⟩
  ·
   refine I_ (o:=o1) rfl hm.o1.2.2 (ayb (s:=do pure (.value (<- Instr.next (a1.eval (.tmp m.it)) false o1.type))) (v:=.tuple #[.bool false]) (w':=w1) (by simp [execOp,hm.o1.1]) (by rw [apv fr1 a1 w1 j9 hfit];simp [hrun]) ?_)
   have hfr2:=j9.put o1.dst (x:=.fA [.p (.bool false)]) (v:=.tuple #[.bool false]) (.fA _ _ rfl (fun i x y h1 h2=>by
    match i,h1,h2 with
    |0,h1,h2=>cases h1;cases h2;exact .p rfl))
   rw [hm.o1.2.1] at hfr2
   refine y8 (x:=.p (.bool false)) (fr:=xk fr1 m.tn (.fA [.p (.bool false)])) (o:=o2) j7 (by rw [hm.o1.2.1];exact hfr2) rfl hm.o2.2.2 hm.o2.2.1 (by rw [hm.o2.1];rfl)
    (by rw [hm.o2.1];exact dH.2 ⟨_,ayw (by omega),dH.2 ⟨_,rfl,rfl⟩⟩) fun a2 apw hfr3=>?_
   show (Code.seq _ _).wp P _ a2 w1
   refine wp_seq (wp_cond (t:=false) ?_ ?_)
   .exact (fM (x:=.tmp m.tb) hfr3 (ayw (by rw [iy];omega))).iw
   .refine wp_exit ?_
    show Exit.inBlock id (G5 base w E Q) (.exit id) a2 w1
    simp only [Exit.inBlock,if_true]
    refine ⟨E,_,DU Zz,nx,hQ _ Zz ?_ ?_ j6.1 (j6.all j1 j2 hall),⟨j7,hfr3,by rw [apw,ax6];exact j10⟩,j11⟩
    .rw [iy,iy];exact j4
    .intro t ht
     simp only [vI.ts,bF,List.not_mem_nil,or_false,not_or] at ht
     rw [xW ht.2.1,xW ht.1]
     exact j5 t (by simp only [vI.ts,bF,List.not_mem_nil,or_false,not_or];exact ht)
  ·
   have hjl:j<es.length:=by have:=(bG.1 hce).1;omega
   obtain ⟨e,he⟩:∃e,es[j]?=some e:=⟨es[j],by simp [hjl]⟩
   obtain ⟨re1,re2,-⟩:=m2 j e ce he hce
   obtain ⟨kk,kn,hke,hk0,hkl⟩:=hks e (aJ he)
   obtain ⟨s1,s2⟩:=ajz (o0:=.mapIter (some cm) es.length s.toArray es.length) j7 (.mapIter (some cm) es.length (s++[j]).toArray es.length) g1 (an9 Zz) g3 j8 (fun _ _ _ h=>by cases h) d
   obtain ⟨w2,hw2⟩:∃w2,w2={w1 with drawn:=d,heap:=w1.heap.setIfInBounds cq (.mapIter (some cm) es.length (s++[j]).toArray es.length)}:=⟨_,rfl⟩
   have hhq:w2.heap[cq]?=some (.mapIter (some cm) es.length (s++[j]).toArray es.length):=by rw [hw2];exact (Ee j8).1
   have hhm:w2.heap[cm]?=some (.map lJ es.length):=by rw [hw2];exact ((Ee j8).2 cm atx).trans f4
   rw [<- hw2] at s1 s2 hrun
   rw [hke] at re1
   refine I_ (o:=o1) rfl hm.o1.2.2 (ayb (s:=do pure (.value (<- Instr.next (a1.eval (.tmp m.it)) false o1.type))) (v:=.tuple #[.bool true,ce.key,ce.val]) (w':=w2) (by simp [execOp,hm.o1.1]) (by rw [apv fr1 a1 w1 j9 hfit];simp [hrun]) ?_)
   have hfr2:=(j9.mono s1.ext).put o1.dst (x:=.fA [.p (.bool true),.p (.int kk kn),e.2]) (v:=.tuple #[.bool true,ce.key,ce.val]) (.fA _ _ rfl (fun i x y h1 h2=>by
    match i,h1,h2 with
    |0,h1,h2=>cases h1;cases h2;exact .p rfl
    |1,h1,h2=>cases h1;cases h2;exact re1.mono s1.ext
    |2,h1,h2=>cases h1;cases h2;exact re2.mono s1.ext))
   rw [hm.o1.2.1] at hfr2
   refine y8 (x:=.p (.bool true)) (fr:=xk fr1 m.tn (.fA [.p (.bool true),.p (.int kk kn),e.2])) (o:=o2) s2 (by rw [hm.o1.2.1];exact hfr2) rfl hm.o2.2.2 hm.o2.2.1 (by rw [hm.o2.1];rfl)
    (by rw [hm.o2.1];exact dH.2 ⟨_,ayw (by omega),dH.2 ⟨_,rfl,rfl⟩⟩) fun a2 apw hfr3=>?_
   show (Code.seq _ _).wp P _ a2 w2
   refine wp_seq (wp_cond (t:=true) ?_ ?_)
   .exact (fM (x:=.tmp m.tb) hfr3 (ayw (by rw [iy];omega))).iw
   refine wp_skip ?_
   show (Code.block _ _).wp P _ a2 w2
   refine wp_block (wp_seq (wp_region ?_))
   have hr3:List.range (#[p1,p2,p3]:Array Oper).size=[0,1,2]:=rfl
   rw [hr3]
   have arz:jm (xk (xk fr1 m.tn (.fA [.p (.bool true),.p (.int kk kn),e.2])) m.tb (.p (.bool true))) m.it=some (.op q sq 0 0):=by rw [xW hit.2.1,xW hit.1];exact hfit
   refine I_ (o:=p1) rfl hm.p1.2.2 (ayb (s:=do pure (.value (<- Instr.entry (a2.eval (.tmp m.it))))) (v:=.tuple #[ce.key,ce.val]) (w':=w2) (by simp [execOp,hm.p1.1]) (by rw [apv _ a2 w2 hfr3 arz];simp [ag6 hhq hhm m4 hce]) ?_)
   have apx:=hfr3.put p1.dst (x:=.fA [.p (.int kk kn),e.2]) (v:=.tuple #[ce.key,ce.val]) (.fA _ _ rfl (fun i x y h1 h2=>by
    match i,h1,h2 with
    |0,h1,h2=>cases h1;cases h2;exact re1.mono s1.ext
    |1,h1,h2=>cases h1;cases h2;exact re2.mono s1.ext))
   rw [hm.p1.2.1] at apx
   obtain ⟨fr3,ae3⟩:∃fr3,fr3=xk (xk fr1 m.tn (.fA [.p (.bool true),.p (.int kk kn),e.2])) m.tb (.p (.bool true)):=⟨_,rfl⟩
   rw [<- ae3] at apx
   have l3:fr3.length=fr.length:=by rw [ae3,iy,iy];exact j4
   refine y8 (x:=.p (.int kk kn)) (fr:=xk fr3 m.te (.fA [.p (.int kk kn),e.2])) (o:=p2) s2 (by rw [hm.p1.2.1];exact apx) rfl hm.p2.2.2 hm.p2.2.1 (by rw [hm.p2.1];rfl)
    (by rw [hm.p2.1];exact dH.2 ⟨_,ayw (by omega),dH.2 ⟨_,rfl,rfl⟩⟩) fun a3 atA atB=>?_
   refine y8 (x:=.p (.int kk kn)) (o:=p3) s2 atB rfl hm.p3.2.2 hm.p3.2.1 (by rw [hm.p3.1];rfl)
    (by rw [hm.p3.1];exact dH.2 ⟨_,ayw (by rw [iy];omega),rfl⟩) fun a4 atC arA=>?_
   show (Code.region _ _ _).wp P _ a4 w2
   refine wp_region ?_
   have hr4:List.range (#[q1,q2,q3,q4]:Array Oper).size=[0,1,2,3]:=rfl
   rw [hr4]
   obtain ⟨fr6,aaE⟩:∃fr6,fr6=xk (xk (xk fr3 m.te (.fA [.p (.int kk kn),e.2])) m.tk (.p (.int kk kn))) m.t8 (.p (.int kk kn)):=⟨_,rfl⟩
   rw [<- aaE] at arA
   have l6:fr6.length=fr.length:=by rw [aaE,iy,iy,iy];exact l3
   have arB:jm fr6 m.tD=some (.os bd 1 0 len):=by
    rw [aaE,xW htD.2.2.2.2.1,xW htD.2.2.2.1,xW htD.2.2.1,ae3,xW htD.2.1,xW htD.1];exact aty
   have atD:jm fr6 m.t8=some (.p (.int kk kn)):=by rw [aaE];exact ayw (by rw [iy,iy];omega)
   refine y8 (x:=.os bd 1 0 len) (o:=q1) s2 arA rfl hm.q1.2.2 hm.q1.2.1 (by rw [hm.q1.1];rfl)
    (by rw [hm.q1.1];exact dH.2 ⟨_,arB,rfl⟩) fun a5 atE atF=>?_
   refine y8 (x:=.p (.int kk kn)) (o:=q2) s2 atF rfl hm.q2.2.2 hm.q2.2.1 (by rw [hm.q2.1];rfl)
    (by rw [hm.q2.1];exact dH.2 ⟨_,by show jm _ _=_;rw [xW hd1];exact atD,rfl⟩) fun a6 atG atH=>?_
   refine y8 (x:=.op bd 1 kn.toNat 0) (o:=q3) s2 atH rfl hm.q3.2.2 hm.q3.2.1 (by rw [hm.q3.1];rfl)
    (by
     rw [hm.q3.1]
     refine dH.2 ⟨.os bd 1 0 len,by show jm _ _=_;rw [xW hd2];exact ayw (by omega),dH.2 ⟨.p (.int kk kn),ayw (by rw [iy];omega),?_⟩⟩
     show gu (mQ P m.T) _
     rw [hT]
     exact ⟨hk0,hkl,rfl,by simp [rP.val]⟩) fun a7 atJ amm=>?_
   
   obtain ⟨fr9,ae4⟩:∃fr9,fr9=xk (xk (xk fr6 m.d1 (.os bd 1 0 len)) m.d2 (.p (.int kk kn))) m.d3 (.op bd 1 kn.toNat 0):=⟨_,rfl⟩
   rw [<- ae4] at amm
   have l9:fr9.length=fr.length:=by rw [ae4,iy,iy,iy];exact l6
   have atK:jm fr9 m.d3=some (.op bd 1 kn.toNat 0):=by rw [ae4];exact ayw (by rw [iy,iy];omega)
   have hilt:kn.toNat<Zz.length:=by rw [j6.1];omega
   obtain ⟨row,hrow⟩:∃row,Zz[kn.toNat]?=some row:=⟨Zz[kn.toNat],by simp [hilt]⟩
   have hrl:row.length=1:=by
    rcases s2.blk bd _ (hAb Zz) with ⟨_,h0⟩|⟨c',o',arr,tt,h1,h2,h3,h4,h5⟩
    .rw [h0] at hrow;simp at hrow
    .exact h5.2.1 _ row hrow
   have hst:Fv P (DU Zz) m.TB (.op bd 1 kn.toNat 0) (.p (.bool true)) (fun r=>r=⟨.p undef,[(bd,some (.rows 1 (Zz.set kn.toNat TT)))],[bd]⟩):=by
    refine dH.2 ⟨_,hTB,?_⟩
    show (match DU Zz bd with|some (.rows sz' rs)=>_|_=>False)
    rw [hAb]
    refine ⟨rfl,rfl,rfl,dH.2 ⟨row,hrow,by rw [hrl];exact dG _,?_⟩⟩
    have:lay row 0 (AV.p (.bool true)).cells=TT:=by
     show row.take 0++[AV.p (.bool true)]++row.drop 1=_
     rw [List.drop_eq_nil_iff.2 (by omega)];simp [TT]
    rw [this]
   obtain ⟨r,w3,hr,hrun3,st3,hh3,-,hkeep⟩:=Si s2 hst (fM (x:=.tmp m.d3) amm atK) (fM (x:=.const (.bool true)) (av:=.p (.bool true)) amm rfl)
   subst hr
   refine I_ (o:=q4) rfl hm.q4.2.2 ?_
   unfold Oper.wp
   have e4:(execOp a7.eval q4).run P w2=.ok .skip w3:=by simp [execOp,hm.q4.1,hrun3]
   rw [e4]
   show (∃n',n' < n/\J n' (a7.put q4.dst undef) w3)
   rw [hm.q4.2.1]
   refine ⟨n-1,?_,s++[j],fr9,Zz.set kn.toNat TT,?_,?_,?_,l9,?_,?_,?_,?_,amm.mono st3.ext,?_,(j11.trans s1).trans st3⟩
   .have:=Bd (l:=j::s) (m:=List.range es.length) (List.nodup_cons.2 ⟨hjs,j1⟩) (fun x hx=>by
     cases hx with
     |head=>exact List.mem_range.2 hjl
     |tail _ hx=>exact List.mem_range.2 (j2 x hx))
    simp at this
    omega
   .rw [List.nodup_append]
    refine ⟨j1,by simp,fun x hx y hy=>?_⟩
    simp at hy;subst hy
    intro e;subst e;exact hjs hx
   .intro x hx
    simp only [aK,bV] at hx
    rcases hx with hx|rfl
    .exact j2 x hx
    .exact hjl
   .have:=Bd (l:=j::s) (m:=List.range es.length) (List.nodup_cons.2 ⟨hjs,j1⟩) (fun x hx=>by
     cases hx with
     |head=>exact List.mem_range.2 hjl
     |tail _ hx=>exact List.mem_range.2 (j2 x hx))
    simp at this ⊢
    omega
   .intro t ht
    have ht':=ht
    simp only [vI.ts,bF,List.not_mem_nil,or_false,not_or] at ht
    rw [ae4,xW ht.2.2.2.2.2.2.2,xW ht.2.2.2.2.2.2.1,xW ht.2.2.2.2.2.1,aaE,xW ht.2.2.2.2.1,xW ht.2.2.2.1,xW ht.2.2.1,ae3,xW ht.2.1,xW ht.1]
    exact j5 t ht'
   .have:=j6.set he
    rw [hke] at this
    exact this
   .have e5:qU (DU Zz) [(bd,some (vH.rows 1 (Zz.set kn.toNat TT)))]=DU (Zz.set kn.toNat TT):=by
     show upd (upd (upd ah q none) bd _) bd _=upd (upd ah q none) bd _
     rw [JI]
    rw [<- e5];exact hh3
   .rw [hkeep cq ?_];exact hhq
    intro b ⟨k,hk⟩ hb o ho
    exact an9 Zz b k cq o hk ho rfl
   .show a7.defers=[]
    rw [atJ,atG,atE,atC,atA,ax6,apw,ax6];exact j10
end
end Go.Fw
end
section
namespace Go.Fw
variable [jU]
section
variable {P : Program} {ρ:List AV} {pc:Pc} {N:Nat} {fr:lY} {ah:AH} {nx:Nat}
def Ui (ρ:List AV)(N:Nat)(tr:Tr pI):lY:=(List.range N).map fun t=>(tr.get t).map (pI.den ρ)
theorem aaF (f:Nat->Option AV):∀(n s t:Nat),jm ((List.range' s n).map f) t=if t<n then f (s+t) else none
 |0,s,t=>by simp [jm]
 |n+1,s,0=>by simp [List.range'_succ,jm]
 |n+1,s,t+1=>by
  simp only [List.range'_succ,aZ,jm]
  rw [aaF f n (s+1) t]
  have e:s+1+t=s+(t+1):=by omega
  rw [e]
  by_cases h:t<n
  .rw [if_pos h,if_pos (by omega)]
  .rw [if_neg h,if_neg (by omega)]
theorem Bf {tr:Tr pI}{t:Nat}:jm (Ui ρ N tr) t=if t<N then (tr.get t).map (pI.den ρ) else none:=by
 unfold Ui
 rw [List.range_eq_range',aaF]
 simp
theorem Uj {c:Code}{Q:AQ}{st:sK}(hs:Ic ρ N st fr ah nx)(h:∀Fp oq,WA ρ st.fr Fp->Fq ρ st.ah oq->Fp.length=N->AW P c Fp oq st.nx Q):AW P c fr ah nx Q:=by
 have hf:WA ρ st.fr (Ui ρ N st.fr):=by
  intro t e he
  obtain ⟨a,ha,-⟩:=hs.fr t e he
  have:=C9 ha
  rw [hs.len] at this
  rw [Bf,if_pos this,he];rfl
 have ha:Fq ρ st.ah (iO ρ st.ah):=fun b k hk=>by unfold iO;rw [hk];rfl
 have h':=h _ _ hf ha (by simp [Ui])
 intro base w E a jB
 refine h' base w E a ⟨⟨fun b k hb=>?_,fun b b' k k' c o c' o' hne h1 h2=>?_,fun b hb=>jB.heap.fresh b (b_ hs.nx hb),jB.heap.kF,jB.heap.bs,jB.heap.kJ⟩,⟨?_,fun i x hx=>?_,jB.fr.Lm⟩,jB.defers⟩
 .unfold iO at hb
  simp only [aB] at hb
  obtain ⟨k1,hk1,rfl⟩:=hb
  obtain ⟨k0,h0,hw⟩:=hs.ah b k1 hk1
  exact hw _ _ _ _ (jB.heap.blk b k0 h0)
 .unfold iO at h1 h2
  simp only [aB] at h1 h2
  obtain ⟨k1,hk1,rfl⟩:=h1
  obtain ⟨k2,hk2,rfl⟩:=h2
  obtain ⟨j1,q1,-⟩:=hs.ah b k1 hk1
  obtain ⟨j2,q2,-⟩:=hs.ah b' k2 hk2
  exact jB.heap.sep b b' j1 j2 c o c' o' hne q1 q2
 .have:=jB.fr.size
  rw [hs.len] at this
  simpa [Ui] using this
 .rw [Bf] at hx
  split at hx
  .simp only [aB] at hx
   obtain ⟨e,he,rfl⟩:=hx
   obtain ⟨y,hy,hw⟩:=hs.fr i e he
   obtain ⟨v,hv,hr⟩:=jB.fr.get i y hy
   exact ⟨v,hv,hw _ _ _ hr⟩
  .cases hx
theorem Ic.of {tr:Tr pI}{th:Tr SB}{n:Nat}(hf:WA ρ tr fr)(ha:Fq ρ th ah)(hN:fr.length=N)(hn:nx<=n):Ic ρ N ⟨tr,th,n⟩ fr ah nx:=
 ⟨fun t e he=>⟨_,hf t e he,Weak.refl _⟩,fun b k hk=>⟨_,ha b k hk,qA.refl _⟩,hN,hn⟩
end
structure zT where
 N:Nat
 keep:Kp
 loops:Nat->Option KT
structure y9 where
 outs:List Out
 nv:Nat
 sd:List (Pc×Side)
 aw:List Lo
abbrev Pn (P:Program)(ρ:List AV)(l:List Lo):Prop:=Zn P l ρ
def EF (k:Pc->sK->Nat->Option y9):Pc->List Out->Nat->Option y9
 |_,[],_=>none
 |pc,[o],nv=>bif Zm o.e then k pc o.st nv else some ⟨[o],nv,[],[]⟩
 |pc,o::o'::r,nv=>
  bif Zm o.e then
   match k (jG o.g true pc) o.st nv with
   |none=>none
   |some x=>match EF k (jG o.g false pc) (o'::r) x.nv with
    |none=>none
    |some y=>some ⟨Ae o.g x.outs++y.outs,y.nv,x.sd++y.sd,x.aw++y.aw⟩
  else match EF k (jG o.g false pc) (o'::r) nv with
   |none=>none
   |some y=>some ⟨o::y.outs,y.nv,y.sd,y.aw⟩
def lvE (id:Nat):Exit->Exit
 | .exit j=>bif Nat.beq j id then .normal else .exit j
 |e=>e
def leave (id:Nat)(l:List Out):List Out:=l.map fun o=>⟨o.g,lvE id o.e,o.st⟩
def amn (P:Program)(X:ql)(inl:Ew)(Ia:FuncId->Bool)(N:Nat)(pc:Pc)(st:sK)(nv:Nat)(ops:Array Oper)(draw:Bool):Option y9:=
 match (bif draw then
   let M:=ax_ ops.toList []
   bif Df ops&&FQ ops M then Dp P X inl Ia N ops M 0 ops.toList pc [] [] [] ⟨st.fr,st.ah,st.nx⟩ nv else none
  else Ph P X inl Ia N ops ops.toList pc ⟨st.fr,st.ah,st.nx⟩ nv) with
 |none=>none
 |some S=>some ⟨S.outs.map fun x=>⟨x.1,.normal,⟨x.2.tr,x.2.th,x.2.nx⟩⟩,S.nv,S.sd,[]⟩
def NI (body:Pc->sK->Nat->Option y9):Nat->Pc->sK->Nat->Option y9
 |0,_,_,_=>none
 |m+1,pc,st,nv=>match body pc st nv with
  |none=>none
  |some x=>match EF (NI body m) pc x.outs x.nv with
   |none=>none
   |some y=>some ⟨y.outs,y.nv,x.sd++y.sd,x.aw++y.aw⟩
def ay0 (F:zT)(id:Nat):Code->Option (Code×KT)
 | .loop c=>match F.loops id with|some h=>some (c,h)|none=>none
 |_=>none
theorem ag7 {F:zT}{id:Nat}{b c:Code}{h:KT}(e:ay0 F id b=some (c,h)):b=.loop c/\F.loops id=some h:=by
 unfold ay0 at e
 split at e
 .split at e
  .rename_i h' hh
   simp only [au,aN] at e
   obtain ⟨rfl,rfl⟩:=e
   exact ⟨rfl,hh⟩
  .cases e
 .cases e
def swE (l:Nat):Exit->Exit
 | .normal=>.goto l
 | .goto m=>bif Nat.beq m l then .normal else .goto m
 |e=>e
def swO (l:Nat)(o:List Out):List Out:=o.map fun x=>⟨x.g,swE l x.e,x.st⟩
def Po : List Out->Option Nat
 |[]=>none
 |o::r=>match o.e with | .goto l=>some l|_=>Po r
def aaG (run:Pc->sK->Nat->Code->Option y9)(c:Code):Nat->Pc->List Out->Nat->Option y9
 |0,_,_,_=>none
 |n+1,pc,outs,nv=>match Po outs with
  |none=>some ⟨outs,nv,[],[]⟩
  |some l=>match findLabel c l with
   |none=>none
   |some rest=>match EF (fun pc st nv=>match run pc st nv rest with
     |none=>none
     |some x=>match aaG run c n pc x.outs x.nv with
      |none=>none
      |some y=>some ⟨swO l y.outs,y.nv,x.sd++y.sd,x.aw++y.aw⟩) pc (swO l outs) nv with
    |none=>none
    |some y=>match Po (swO l y.outs) with|none=>some ⟨swO l y.outs,y.nv,y.sd,y.aw⟩|some _=>none
structure Cfg where
 X:ql
 Ia:FuncId->Bool
 inl:Ew
 uJ:Nat
def mk1 : List Oper->Option (Nat×Nat×Nat)
 |[o1,o2]=>match o1.guard,o1.dst,o1.op,o2.guard,o2.dst,o2.op with
  |none,some tn,.next (.tmp it) false,none,some tb,.extract (.tmp x) 0=>bif Nat.beq x tn then some (it,tn,tb) else none
  |_,_,_,_,_,_=>none
 |_=>none
def mk2 : List Oper->Option (Nat×Nat×Nat×Nat)
 |[p1,p2,p3]=>match p1.guard,p1.dst,p1.op,p2.guard,p2.dst,p2.op with
  |none,some te,.entry (.tmp it),none,some tk,.extract (.tmp x) 0=>(match p3.guard,p3.dst,p3.op with
   |none,some t8,.assign (.tmp y)=>bif Nat.beq x te&&Nat.beq y tk then some (it,te,tk,t8) else none
   |_,_,_=>none)
  |_,_,_,_,_,_=>none
 |_=>none
def mk3 : List Oper->Option (Nat×Nat×Nat×Nat×Nat×Nat×Nat)
 |[q1,q2,q3,q4]=>match q1.guard,q1.dst,q1.op,q2.guard,q2.dst,q2.op with
  |none,some d1,.move (.tmp tD),none,some d2,.move (.tmp t8)=>(match q3.guard,q3.dst,q3.op,q4.guard,q4.dst,q4.op with
   |none,some d3,.indexAddr T (.tmp x) (.tmp y),none,none,.store TB (.tmp z) (.const (.bool true))=>
    bif Nat.beq x d1&&(Nat.beq y d2&&Nat.beq z d3) then some (tD,d1,t8,d2,d3,T,TB) else none
   |_,_,_,_,_,_=>none)
  |_,_,_,_,_,_=>none
 |_=>none
theorem apy {l:List Oper}{it tn tb:Nat}(h:mk1 l=some (it,tn,tb)):∃o1 o2,l=[o1,o2]/\(o1.op=.next (.tmp it) false/\o1.dst=some tn/\o1.guard=none)/\(o2.op=.extract (.tmp tn) 0/\o2.dst=some tb/\o2.guard=none):=by
 unfold mk1 at h
 split at h
 .rename_i o1 o2
  split at h
  .rename_i tn' it' tb' x e1 e2 e3 e4 e5 e6
   cases hx:Nat.beq x tn'
   .simp [hx] at h
   .simp only [hx,cond_true,au,aN] at h
    obtain ⟨rfl,rfl,rfl⟩:=h
    obtain rfl:=aA hx
    exact ⟨o1,o2,rfl,⟨e3,e2,e1⟩,⟨e6,e5,e4⟩⟩
  .cases h
 .cases h
theorem apz {l:List Oper}{it te tk t8:Nat}(h:mk2 l=some (it,te,tk,t8)):∃p1 p2 p3,l=[p1,p2,p3]/\(p1.op=.entry (.tmp it)/\p1.dst=some te/\p1.guard=none)/\(p2.op=.extract (.tmp te) 0/\p2.dst=some tk/\p2.guard=none)/\
  (p3.op=.assign (.tmp tk)/\p3.dst=some t8/\p3.guard=none):=by
 unfold mk2 at h
 split at h
 .rename_i p1 p2 p3
  split at h
  .rename_i te' it' tk' x e1 e2 e3 e4 e5 e6
   split at h
   .rename_i t8' y e7 e8 e9
    cases hx:Nat.beq x te'&&Nat.beq y tk'
    .simp [hx] at h
    .simp only [hx,cond_true,au,aN] at h
     obtain ⟨rfl,rfl,rfl,rfl⟩:=h
     simp only [ay] at hx
     obtain rfl:=aA hx.1
     obtain rfl:=aA hx.2
     exact ⟨p1,p2,p3,rfl,⟨e3,e2,e1⟩,⟨e6,e5,e4⟩,⟨e9,e8,e7⟩⟩
   .cases h
  .cases h
 .cases h
theorem apA {l:List Oper}{tD d1 t8 d2 d3 T TB:Nat}(h:mk3 l=some (tD,d1,t8,d2,d3,T,TB)):∃q1 q2 q3 q4,l=[q1,q2,q3,q4]/\(q1.op=.move (.tmp tD)/\q1.dst=some d1/\q1.guard=none)/\(q2.op=.move (.tmp t8)/\q2.dst=some d2/\q2.guard=none)/\
  (q3.op=.indexAddr T (.tmp d1) (.tmp d2)/\q3.dst=some d3/\q3.guard=none)/\(q4.op=.store TB (.tmp d3) (.const (.bool true))/\q4.dst=none/\q4.guard=none):=by
 unfold mk3 at h
 split at h
 .rename_i q1 q2 q3 q4
  split at h
  .rename_i d1' tD' d2' t8' e1 e2 e3 e4 e5 e6
   split at h
   .rename_i d3' T' x y TB' z e7 e8 e9 e10 e11 e12
    cases hx:Nat.beq x d1'&&(Nat.beq y d2'&&Nat.beq z d3')
    .simp [hx] at h
    .simp only [hx,cond_true,au,aN] at h
     obtain ⟨rfl,rfl,rfl,rfl,rfl,rfl,rfl⟩:=h
     simp only [ay] at hx
     obtain rfl:=aA hx.1
     obtain rfl:=aA hx.2.1
     obtain rfl:=aA hx.2.2
     exact ⟨q1,q2,q3,q4,rfl,⟨e3,e2,e1⟩,⟨e6,e5,e4⟩,⟨e9,e8,e7⟩,⟨e12,e11,e10⟩⟩
   .cases h
  .cases h
 .cases h
def Uk (id:Nat):Code->Option vI
 | .loop (.seq (.region _ r1 false) (.seq (.cond (.tmp tb) .skip (.exit i)) (.block _ (.seq (.region _ r2 false) (.region _ r3 false)))))=>
  bif Nat.beq i id then (match mk1 r1.toList,mk2 r2.toList,mk3 r3.toList with
   |some (it,tn,tb'),some (it',te,tk,t8),some (tD,d1,t8',d2,d3,T,TB)=>
    bif Nat.beq tb tb'&&(Nat.beq it it'&&Nat.beq t8 t8') then some ⟨it,tn,tb,te,tk,t8,tD,d1,d2,d3,T,TB⟩ else none
   |_,_,_=>none) else none
 |_=>none
theorem aaH {id:Nat}{b:Code}{m:vI}(h:Uk id b=some m):∃r1 r2 r3 id5 o1 o2 p1 p2 p3 q1 q2 q3 q4,an8 m o1 o2 p1 p2 p3 q1 q2 q3 q4/\
  b=.loop (.seq (.region r1 #[o1,o2] false) (.seq (.cond (.tmp m.tb) .skip (.exit id)) (.block id5 (.seq (.region r2 #[p1,p2,p3] false) (.region r3 #[q1,q2,q3,q4] false))))):=by
 unfold Uk at h
 split at h
 .rename_i r1 a1 tb i id5 r2 a2 r3 a3
  cases hi:Nat.beq i id
  .simp [hi] at h
  .simp only [hi,cond_true] at h
   obtain rfl:=aA hi
   split at h
   .rename_i it tn tb' it' te tk t8 tD d1 t8' d2 d3 T TB h1 h2 h3
    cases hx:Nat.beq tb tb'&&(Nat.beq it it'&&Nat.beq t8 t8')
    .simp [hx] at h
    .simp only [hx,cond_true,au] at h
     subst h
     simp only [ay] at hx
     obtain rfl:=aA hx.1
     obtain rfl:=aA hx.2.1
     obtain rfl:=aA hx.2.2
     obtain ⟨o1,o2,k1,k2,k3⟩:=apy h1
     obtain ⟨p1,p2,p3,k4,k5,k6,k7⟩:=apz h2
     obtain ⟨q1,q2,q3,q4,k8,k9,k10,k11,k12⟩:=apA h3
     have e1:a1=#[o1,o2]:=Array.ext' k1
     have e2:a2=#[p1,p2,p3]:=Array.ext' k4
     have e3:a3=#[q1,q2,q3,q4]:=Array.ext' k8
     subst e1 e2 e3
     exact ⟨r1,r2,r3,id5,o1,o2,p1,p2,p3,q1,q2,q3,q4,⟨k2,k3,k5,k6,k7,k9,k10,k11,k12⟩,rfl⟩
   .cases h
 .cases h
def YG (tr:Tr pI):List Nat->Tr pI
 |[]=>tr
 |t::r=>(YG tr r).upd yG t none
theorem Ul {tr:Tr pI}:∀{l:List Nat} {t:Nat} {e:pI},(YG tr l).get t=some e->t∉l/\tr.get t=some e
 |[],t,e,h=>⟨by simp,h⟩
 |s::r,t,e,h=>by
  simp only [YG] at h
  rcases Tr.o7 _ _ _ _ _ _ h with ⟨_,h1⟩|⟨hne,h1⟩
  .cases h1
  .obtain ⟨h2,h3⟩:=Ul h1
   exact ⟨by simp [hne,h2],h3⟩
def adn (P:Program)(N:Nat)(pc:Pc)(st:sK)(nv:Nat)(m:vI):Option y9:=
 match Ai pc st.fr (.tmp m.it),Ai pc st.fr (.tmp m.tD) with
 |some (.op q _ (.li 0) 0),some (.os bd 1 0 len)=>(match st.ah.get q,st.ah.get bd with
  |some (.it mb n 0),some (.fO 1 d)=>(match st.ah.get mb with
   |some (.Ad mk t)=>
    bif n.beq (.rlen t)&&((m.ts.all fun x=>Nat.blt x N)&&(!m.ts.contains m.it&&(!m.ts.contains m.tD&&(!Nat.beq m.t8 m.d1&&(!Nat.beq m.d1 m.d2&&(!Nat.beq q mb&&(!Nat.beq q bd&&!Nat.beq mb bd))))))) then
     (match mQ P m.T,Bj P m.TB with
     |some (1,_),some (false,1)=>some ⟨[⟨.lb true,.normal,⟨YG st.fr m.ts,(st.ah.upd yG q none).upd yG bd (some (.fO 1 (.var nv []))),st.nx⟩⟩],nv+1,[(pc,.mark mk t d len (.var nv []))],[]⟩
     |_,_=>none) else none
   |_=>none)
  |_,_=>none)
 |_,_=>none
def aaI (P:Program)(N:Nat)(pc:Pc)(st:sK)(nv:Nat)(id:Nat)(b:Code):Option y9:=
 match Uk id b with
 |none=>none
 |some m=>adn P N pc st nv m
def uf (P:Program)(G:Cfg)(F:zT):Nat->Pc->sK->Nat->Code->Option y9
 |0,_,_,_,_=>none
 |n+1,pc,st,nv,c=>
  match c with
  | .skip=>some ⟨[⟨.lb true,.normal,st⟩],nv,[],[]⟩
  | .exit id=>some ⟨[⟨.lb true,.exit id,st⟩],nv,[],[]⟩
  | .ret=>some ⟨[⟨.lb true,.ret,st⟩],nv,[],[]⟩
  | .region _ ops draw=>amn P G.X G.inl G.Ia F.N pc st nv ops draw
  | .seq a b=>match uf P G F n pc st nv a with
   |none=>none
   |some x=>match EF (fun pc st nv=>uf P G F n pc st nv b) pc x.outs x.nv with
    |none=>none
    |some y=>some ⟨Mc F.keep y.outs,y.nv,x.sd++y.sd,x.aw++y.aw⟩
  | .cond c a b=>match Ai pc st.fr c with
   |some (.sc .bool t)=>match pc.known t with
    |some true=>uf P G F n pc st nv a
    |some false=>uf P G F n pc st nv b
    |none=>match uf P G F n (jG t true pc) st nv a with
     |none=>none
     |some x=>match uf P G F n (jG t false pc) st x.nv b with
      |none=>none
      |some y=>some ⟨Mc F.keep (Rl t x.outs y.outs),y.nv,x.sd++y.sd,x.aw++y.aw⟩
   |_=>none
  | .block id b=>match ay0 F id b with
   |some (c,h)=>
    let cs:=st.cut h.ins
    match aay pc nv st.nx h.ins h.p cs st with
    |none=>none
    |some ent=>match uf P G F n (pc.old nv) (ayR h.p nv cs) (nv+h.p.m) c with
     |none=>none
     |some x=>match aaC h id nv st.nx cs (pc.old nv) x.outs,h.xs with
      |some outs,_::_=>some ⟨Dv cs nv 0 (ayo nv (h.xs.map fun y=>y.2.m) 0) h.xs,ayo nv (h.xs.map fun y=>y.2.m) h.xs.length,(G9 st h.p.fr).map fun s=>(pc,s),[.mk pc nv h.p.m ent outs (x.sd++ae1 h id (pc.old nv) x.outs) x.aw (h.xs.map fun y=>y.2.m) (amj st h.ins)]⟩
      |_,_=>none
   |none=>match aaI P F.N pc st nv id b with
    |some x=>some x
    |none=>match uf P G F n pc st nv b with
     |none=>none
     |some x=>some ⟨Mc F.keep (leave id x.outs),x.nv,x.sd,x.aw⟩
  | .label _=>some ⟨[⟨.lb true,.normal,st⟩],nv,[],[]⟩
  | .goto l=>some ⟨[⟨.lb true,.goto l,st⟩],nv,[],[]⟩
  | .scope b=>match uf P G F n pc st nv b with
   |none=>none
   |some x=>match aaG (fun pc st nv c=>uf P G F n pc st nv c) b 60 pc x.outs x.nv with
    |none=>none
    |some y=>some ⟨Mc F.keep y.outs,y.nv,x.sd++y.sd,x.aw++y.aw⟩
  | .loop b=>NI (fun pc st nv=>uf P G F n pc st nv b) G.uJ pc st nv
  |_=>none
end Go.Fw
end
section
namespace Go.Fw
variable [jU]
section
variable {ρ σ:List AV} {N:Nat}
theorem amo {base nE:Nat}{ins:List Nat}{p:BK}{c xu:sK}(h:ag4 base nE ins p c xu=true){t:Nat}{e:pI}(ht:t∈ins)(hp:∀q,(t,q)∉p.fr)(he:c.fr.get t=some e):e.lt base=true/\(∀b∈e.v.FZ,b<nE)/\xu.fr.get t=some e:=by
 unfold ag4 at h
 simp only [ay,aH] at h
 have:=h.1 t ht
 rw [he] at this
 simp only [bf,List.any_eq_true,ay] at this
 rcases this with ⟨x,hx,hxt⟩|⟨h1,h2,h3⟩
 .have:=aA hxt
  subst this
  exact absurd hx (hp x.2)
 .refine ⟨h1,I7 h2,?_⟩
  split at h3
  .rename_i e' he';rw [he',pI.beq_eq h3]
  .cases h3
theorem amq {base nE:Nat}{ins:List Nat}{p:BK}{c xu:sK}(h:ag4 base nE ins p c xu=true){b:Nat}{k:SB}(hb:b<nE)(h1:∀ks,(b,ks)∉p.bl)(h2:∀sz,(b,sz)∉p.tb)(hk:c.ah.get b=some k):k.lt base=true/\(∀b∈k.FZ,b<nE)/\xu.ah.get b=some k:=by
 unfold ag4 at h
 simp only [ay,aH] at h
 have:=h.2 b (List.mem_range.2 hb)
 rw [hk] at this
 simp only [bf,List.any_eq_true,ay] at this
 rcases this with (⟨x,hx,hxt⟩|⟨x,hx,hxt⟩)|⟨q1,q2,q3⟩
 .have:=aA hxt;subst this;exact absurd hx (h1 x.2)
 .have:=aA hxt;subst this;exact absurd hx (h2 x.2)
 .refine ⟨q1,I7 q2,?_⟩
  split at q3
  .rename_i k' hk';rw [hk',SB.beq_eq q3]
  .cases q3
def arE (E:Env)(nE:Nat)(srcs:List (Nat×Src)):Env:=⟨E.fix,fun b=>if b<nE then E.own b else I9 E srcs b⟩
theorem ado {w:World}{E E':Env}(hf:∀c o,E.fix c o->E'.fix c o){arr:Array Value}{o sz:Nat}{rs:List (List AV)}(h:RowsIn w E arr o sz rs)(hr:∀b∈mW rs,E'.own b=E.own b):RowsIn w E' arr o sz rs:=by
 obtain ⟨h1,h2,h3,h4⟩:=h
 refine ⟨h1,h2,h3,fun i row j x hi hj=>?_⟩
 obtain ⟨v,hv,hx⟩:=h4 i row j x hi hj
 exact ⟨v,hv,vO hf hx (fun b hb=>hr b (vZ i row hi (jv j x hj hb)))⟩
theorem J3 {base:Nat}{w:World}{E E':Env}(hf:E'.fix=E.fix){b b':Nat}{sz:Nat}{rs:List (List AV)}(h:qW base w E b (.rows sz rs))(hb:E'.own b'=E.own b)(hr:∀x∈mW rs,E'.own x=E.own x):qW base w E' b' (.rows sz rs):=by
 rcases h with ⟨h1,h2⟩|⟨c,o,arr,ty,h1,h2,h3,h4,h5⟩
 .exact .inl ⟨by rw [hb,h1],h2⟩
 .exact .inr ⟨c,o,arr,ty,by rw [hb,h1],h2,by rw [hf];exact h3,h4,ado (by rw [hf];exact fun _ _ h=>h) h5 hr⟩
theorem J4 {f:List (SV×Src)}{b t:List SV}{i:Nat}{x:SV}{s:Src}(h:f[i]?=some (x,s)):(f.map (·.1)++(b++t))[i]?=some x:=by
 have hlt:=(aC.1 h).1
 rw [bC (by simpa using hlt)]
 simp [h]
theorem ae5 {f:List (SV×Src)}{b t:List SV}{i:Nat}{x:SV}(h:b[i]?=some x):(f.map (·.1)++(b++t))[f.length+i]?=some x:=by
 have hlt:=(aC.1 h).1
 rw [bK (by simp)]
 simp only [dA,Nat.add_sub_cancel_left]
 rw [bC hlt]
 exact h
theorem Rn {f:List (SV×Src)}{b t:List SV}{i:Nat}{x:SV}(h:t[i]?=some x):(f.map (·.1)++(b++t))[f.length+(b.length+i)]?=some x:=by
 rw [bK (by simp)]
 simp only [dA,Nat.add_sub_cancel_left]
 rw [bK (by simp)]
 simp only [Nat.add_sub_cancel_left]
 exact h
theorem Pq : ∀{l:List AV},(∀x∈l,x.refs=[])->mO l=[]
 |[],_=>rfl
 |x::r,h=>by rw [mO,h x (by simp),Pq fun y hy=>h y (by simp [hy])];rfl
theorem KU : ∀{l:List AV},mO l=[]->∀x∈l,x.refs=[]
 |y::r,h,x,hx=>by
  rw [mO,List.append_eq_nil_iff] at h
  cases hx with
  |head=>exact h.1
  |tail _ hx=>exact KU h.2 x hx
theorem Ja : ∀{l:List (List AV)},mW l=[]->∀x∈l,mO x=[]
 |y::r,h,x,hx=>by
  rw [mW,List.append_eq_nil_iff] at h
  cases hx with
  |head=>exact h.1
  |tail _ hx=>exact Ja h.2 x hx
theorem Um {a:Bool}{f:List AV->List AV}(hf:∀row,∀x∈f row,x∈row){l:List (List AV)}(h:mW l=[]):mO (l.map fun row=>nJ a (f row))=[]:=by
 refine Pq fun x hx=>?_
 obtain ⟨row,hr,rfl⟩:=aW.1 hx
 have hrow:=Ja h row hr
 have hfr:∀y∈f row,y.refs=[]:=fun y hy=>KU hrow y (hf row y hy)
 cases a with
 |true=>exact Pq hfr
 |false=>
  show (match f row with|x::_=>x | []=>eX).refs=[]
  generalize hg:f row=q at hfr
  cases q with
  |nil=>rfl
  |cons x r=>exact hfr x (by simp)
theorem ayM {P:Program}{pc:Pc}{base nE j:Nat}{ins:List Nat}{p:BK}{cs xu:sK}{vals:List SV}(hρ:iT ρ=true)(hag:AgreeV base ρ σ)(hfit:aay pc base nE ins p cs xu=some vals)
  (hcf:∀t e,cs.fr.get t=some e->t∈ins) (hcb:∀b k,cs.ah.get b=some k->b<nE) (hcm:∀b k,cs.ah.get b=some k->∃sz rs,k.den ρ=.rows sz rs/\mW rs=k.FZ) (hp:pc.holds ρ) (hsd:∀s∈G9 xu p.fr,s.holds P ρ)
  (hv:∀(i:Nat) (v:SV),vals[i]?=some v->σ.getD (j+i) eX=v.den ρ) {bs:Nat} {w:World} {E:Env} {fr:lY} {ah:AH} {nx:Nat} {a:Act} (hst:Ic ρ N xu fr ah nx) (jB:OD bs w E fr ah nx a) :
  ∃E' fr' fV,Ic σ N (ayR p j cs) fr' fV p.nx/\OD bs w E' fr' fV p.nx a/\E'.fix=E.fix/\(∀b,b<nE->E'.own b=E.own b)/\∀b c o,E'.own b=.at c o->∃b',E.own b'=.at c o:=by
 unfold aay at hfit
 split at hfit
 rotate_left
 .cases hfit
 rename_i f fb ft hf hb ht
 dsimp only at hfit
 cases hc:(ag4 base nE ins p cs xu&&(Ua nE p.nx p cs (vg p.fr f)&&(I8 (f.map (·.1)++(fb++ft))&&(Nat.ble nE p.nx&&(below nE (p.bl.map (·.1))&&below nE (p.tb.map (·.1)))))))
 .simp [hc] at hfit
 simp only [hc,cond_true,au] at hfit
 subst hfit
 simp only [ay] at hc
 obtain ⟨hC,hS,hR,hN,hbl,htb⟩:=hc
 have hN:=aG hN
 obtain ⟨fl,ajC⟩:=WY hf
 obtain ⟨bl,arF⟩:=WZ hb
 obtain ⟨tl,arG⟩:=W9 ht
 let E':=arE E nE (vg p.fr f)
 have hfix:E'.fix=E.fix:=rfl
 have hfx:∀c o,E.fix c o->E'.fix c o:=fun _ _ h=>h
 have hown:∀b,b<nE->E'.own b=E.own b:=fun b hb=>by show (if b<nE then _ else _)=_;rw [if_pos hb]
 have ae6:∀{b:Nat} {s:Src},(b,s)∈vg p.fr f->E'.own b=Ue E s:=fun {b s} hm=>by
  obtain ⟨q1,q2,-,-⟩:=y7 (E:=E) hS hm
  show (if b<nE then _ else I9 E _ b)=_
  rw [if_neg (by omega),q1]
 have blk:∀{b:Nat} {k:SB},xu.ah.get b=some k->qW bs w E b (k.den ρ):=fun {b k} hk=>by
  obtain ⟨k0,h0,hw⟩:=hst.ah b k hk
  exact hw _ _ _ _ (jB.heap.blk b k0 h0)
 
 have osI:∀{i t b sz:Nat},p.fr[i]?=some (t,.os b sz)->∃e x s,xu.fr.get t=some e/\e.sure pc=true/\(b,s)∈vg p.fr f/\σ.getD (j+i) eX=x.den ρ/\
   ((e.v=.nil/\x=.sc .sl .nl/\s=.empty)\/(∃b' l k,e.v=.os b' sz 0 l/\xu.ah.get b'=some k/\(QT k l=true/\∀s∈WW k l,s.holds P ρ)/\xU sz k=some x/\s=.at b')):=by
  intro i t b sz hi
  obtain ⟨e,x,s,q1,q2,q3,q4⟩:=ajC i t _ hi
  refine ⟨e,x,s,q1,q2,Uf hi q4,hv i x (J4 q4),?_⟩
  simp only [adi] at q3
  split at q3
  .rename_i hev
   simp only [au,aN] at q3
   exact .inl ⟨hev,q3.1.symm,q3.2.symm⟩
  .rename_i b' sz' off l hev
   split at q3
   .rename_i k hk
    cases hcc:(Nat.beq sz sz'&&(Nat.beq off 0&&QT k l))
    .simp [hcc] at q3
    .simp only [hcc,cond_true] at q3
     simp only [ay] at hcc
     have e1:=aA hcc.1
     have e2:=aA hcc.2.1
     subst e1;subst e2
     split at q3
     .rename_i r hr
      simp only [au,aN] at q3
      obtain ⟨rfl,rfl⟩:=q3
      exact .inr ⟨b',l,k,hev,hk,⟨hcc.2.2,WX hsd hi q1 hev hk⟩,hr,rfl⟩
     .cases q3
   .cases q3
  .cases q3
 
 have hframe:∀t e,(ayR p j cs).fr.get t=some e->∃v,a.tmps[t]?=some v/\Rep w E' (e.den σ) v/\t<N:=by
  intro t e he
  rcases aar he with ⟨i,q,hi,rfl⟩|⟨hnp,he⟩
  .obtain ⟨e0,x,s,q1,q2,q3,q4⟩:=ajC i t q hi
   obtain ⟨a0,ha0,hw0⟩:=hst.fr t e0 q1
   obtain ⟨v,hv',hr⟩:=jB.fr.get t a0 ha0
   have hlt:t<N:=by rw [<- hst.len];exact C9 ha0
   have hr0:Rep w E (e0.v.den ρ) v:=by rw [<- pI.ZQ hp q2];exact hw0 _ _ _ hr
   refine ⟨v,hv',?_,hlt⟩
   show Rep w E' ((q.sv (j+i)).den σ) v
   cases q with
   |os b sz=>
    obtain ⟨e1,x1,s1,r1,r2,r3,r4,r5⟩:=osI hi
    rw [q1] at r1
    simp only [au] at r1;subst r1
    rcases r5 with ⟨hev,rfl,rfl⟩|⟨b',l,k,hev,hk,hl,hrw,rfl⟩
    .have e2:(QS.sv (j+i) (.os b sz)).den σ=.os b sz 0 0:=by
      simp only [QS.sv,SV.den,Tm.den,ax8,r4];rfl
     rw [e2]
     rw [hev] at hr0
     have:∃a1,v=.slice a1 0 0:=by
      cases hr0 with
      |slnil full a1=>exact ⟨a1,rfl⟩
      |sl _ _ _ _ _ cap _ _ hfull=>have:=hfull rfl;subst this;exact ⟨_,rfl⟩
     obtain ⟨a1,rfl⟩:=this
     exact .mM b sz 0 a1 (by rw [ae6 r3];simp [Ue])
    .obtain ⟨rs,R,d1,d2,d3,d4⟩:=Du (ρ:=ρ) hrw
     have hlen:=Ud hl.1 hl.2 d1
     have e2:(QS.sv (j+i) (.os b sz)).den σ=.os b sz 0 ((l.den ρ).I.toNat):=by
      have e9:(Tm.den σ (.rlen (.var (j+i) []))).I.toNat=R.length:=by
       simp only [Tm.den,ax8,r4,d2]
       simp [AV.D,D.R,m_,D.I]
      simp only [QS.sv,SV.den]
      rw [e9,hlen,d4]
     rw [e2]
     rw [hev] at hr0
     simp only [SV.den] at hr0
     have ho:=ae6 r3
     simp only [Ue] at ho
     generalize (l.den ρ).I.toNat=len at hr0 ⊢
     cases hr0 with
     |mM _ _ _ a1 hb1=>exact .mM b sz 0 a1 (by rw [ho];exact hb1)
     |os _ _ _ _ c o cap hb1 hcap hsize=>exact .os b sz 0 len c o cap (by rw [ho];exact hb1) hcap hsize
   |sc k=>
    obtain ⟨hwk,he2⟩:=ae0 (σ:=σ) (ρ:=ρ) (j:=j+i) q3 (fun _ _ h=>by cases h) (hv i x (J4 q4))
    refine vO hfx (hwk _ _ _ hr0) (fun b hb=>?_)
    rw [he2,xM hρ,t_ hR (J4 q4)] at hb
    cases hb
   |agg ks=>
    obtain ⟨hwk,he2⟩:=ae0 (σ:=σ) (ρ:=ρ) (j:=j+i) q3 (fun _ _ h=>by cases h) (hv i x (J4 q4))
    refine vO hfx (hwk _ _ _ hr0) (fun b hb=>?_)
    rw [he2,xM hρ,t_ hR (J4 q4)] at hb
    cases hb
  .obtain ⟨h1,h2,h3⟩:=amo hC (hcf t e he) hnp he
   obtain ⟨a0,ha0,hw0⟩:=hst.fr t e h3
   obtain ⟨v,hv',hr⟩:=jB.fr.get t a0 ha0
   have hlt:t<N:=by rw [<- hst.len];exact C9 ha0
   refine ⟨v,hv',?_,hlt⟩
   rw [<- pI.qm hag h1]
   refine vO hfx (hw0 _ _ _ hr) (fun b hb=>hown b (h2 b ?_))
   unfold pI.den at hb
   cases hcnd:(e.h.all fun x=>(x.1.den ρ).B == x.2)
   .rw [hcnd] at hb;simp [eX,AV.refs] at hb
   .rw [hcnd] at hb;simp only [cond_true] at hb;rwa [xM hρ] at hb
 
 have hheap:∀b k,(ayR p j cs).ah.get b=some k->qW bs w E' b (k.den σ)/\((b<nE/\(∃k',xu.ah.get b=some k')/\((∃ks,(b,ks)∈p.bl)\/(∃sz,(b,sz)∈p.tb)\/(cs.ah.get b).isSome=true))\/(∃s,(b,s)∈vg p.fr f/\∀b',s=.at b'->∃k',xu.ah.get b'=some k')):=by
  intro b k hk
  rcases NH hk with ⟨i,t,sz,hi,rfl⟩|⟨hno,hk⟩
  .obtain ⟨e1,x1,s1,r1,r2,r3,r4,r5⟩:=osI hi
   have ho:=ae6 r3
   have e3:(SB.fO sz (.var (j+i) [])).den σ=.rows sz (x1.den ρ).D.R:=by simp only [SB.den,Tm.den,ax8,r4]
   rw [e3]
   rcases r5 with ⟨hev,rfl,rfl⟩|⟨b',l,k,hev,hk',hl,hrw,rfl⟩
   .exact ⟨.inl ⟨ho,rfl⟩,.inr ⟨_,r3,fun b' h=>by cases h⟩⟩
   .obtain ⟨rs,R,d1,d2,d3,d4⟩:=Du (ρ:=ρ) hrw
    have hb1:=blk hk'
    rw [d1] at hb1
    have hb2:=qA.rows (sz:=sz) d3 _ _ _ _ hb1
    refine ⟨?_,.inr ⟨_,r3,fun b2 h=>by cases h;exact ⟨k,hk'⟩⟩⟩
    rw [d2]
    refine J3 hfix hb2 ho (fun x hx=>?_)
    have hri:x1.FZ=[]:=by
     obtain ⟨e,x,s,q1,q2,q3,q4⟩:=ajC i t _ hi
     rw [r1] at q1;simp only [au] at q1;subst q1
     simp only [adi,hev,hk'] at q3
     have hcc:(Nat.beq sz sz&&(Nat.beq 0 0&&QT k l))=true:=by simp [hl.1]
     rw [hcc] at q3
     simp only [cond_true,hrw,au,aN] at q3
     obtain ⟨rfl,-⟩:=q3
     exact t_ hR (J4 q4)
    have:(x1.den ρ).refs=[]:=by rw [xM hρ,hri]
    rw [d2] at this
    simp only [AV.refs] at this
    simp only [AV.D,D.R] at hx
    rw [this] at hx;cases hx
  .rcases aas hk with ⟨i,ks,hi,rfl⟩|⟨hnb,hk⟩
   .obtain ⟨row,q1,q2,q3⟩:=arF i b ks hi
    have hbn:b<nE:=I7 hbl b (aW.2 ⟨_,aJ hi,rfl⟩)
    have hval:=hv _ _ (ae5 (f:=f) (t:=ft) q3)
    have e4:dQ σ (iD (j+p.fr.length+i) [] 0 ks)=dQ ρ (yC row):=by
     have:=Ub (σ:=σ) (ρ:=ρ) (j:=j+p.fr.length+i) (pre:=[]) q2 (by rw [<- fl,Nat.add_assoc,hval];rfl)
     simpa using this
    have hb1:=blk q1
    refine ⟨?_,.inl ⟨hbn,⟨_,q1⟩,.inl ⟨ks,aJ hi⟩⟩⟩
    simp only [SB.den,iL] at hb1 ⊢
    rw [e4]
    have hb2:=qA.rows (sz:=ks.length) (az:=[dQ ρ row]) (bs:=[dQ ρ (yC row)]) (.cons sJ .nil) _ _ _ _ hb1
    refine J3 hfix hb2 (hown b hbn) (fun x hx=>?_)
    have hri:=t_ hR (ae5 (f:=f) (t:=ft) q3)
    simp only [SV.FZ] at hri
    simp only [mW,cZ,r_ hρ,hri] at hx
    cases hx
   .rcases aat hk with ⟨i,sz,hi,rfl⟩|⟨hnt,hk⟩
    .obtain ⟨k0,x,q1,q2,q3⟩:=arG i b sz hi
     cases sz with
     |map msh=>
      have hbn:b<nE:=I7 htb b (aW.2 ⟨_,aJ hi,rfl⟩)
      have hval:=hv _ _ (Rn (f:=f) (b:=fb) q3)
      have e4:σ.getD (j+(p.fr.length+p.bl.length)+i) eX=x.den ρ:=by
       rw [<- fl,<- bl,<- hval];congr 1;omega
      obtain ⟨es,R,d1,d2,d3⟩:=adk (ρ:=ρ) q2
      have hb1:=blk q1
      rw [d1] at hb1
      refine ⟨?_,.inl ⟨hbn,⟨_,q1⟩,.inr (.inl ⟨_,aJ hi⟩)⟩⟩
      have e5:((Tb.map msh).sb (j+(p.fr.length+p.bl.length)+i)).den σ=.map es:=by
       simp only [Tb.sb,SB.den,Tm.den,ax8,e4,d2];rw [<- d3];rfl
      rw [e5]
      have hri:=t_ hR (Rn (f:=f) (b:=fb) q3)
      have hrr:mW R=[]:=by
       have:(x.den ρ).refs=[]:=by rw [xM hρ,hri]
       rw [d2] at this
       exact this
      refine hb1.env hfx (fun c o off _ h=>h) (hown b hbn) (fun y hy=>?_)
      rw [<- d3] at hy
      simp only [vH.wH,List.map_map] at hy
      rw [show ((fun x:AV×AV=>x.1)∘qY msh)=fun row=>nJ msh.ka (row.take msh.kn) from rfl,show ((fun x:AV×AV=>x.2)∘qY msh)=fun row=>nJ msh.va (row.drop msh.kn) from rfl] at hy
      rw [Um (f:=fun row=>row.take msh.kn) (fun row x hx=>bM hx) hrr,Um (f:=fun row=>row.drop msh.kn) (fun row x hx=>List.mem_of_mem_drop hx) hrr] at hy
      cases hy
     |rows sz=>
     have hbn:b<nE:=I7 htb b (aW.2 ⟨_,aJ hi,rfl⟩)
     have hval:=hv _ _ (Rn (f:=f) (b:=fb) q3)
     have e4:σ.getD (j+(p.fr.length+p.bl.length)+i) eX=x.den ρ:=by
      rw [<- fl,<- bl,<- hval];congr 1;omega
     obtain ⟨rs,R,d1,d2,d3,d4⟩:=Du (ρ:=ρ) q2
     have hb1:=blk q1
     rw [d1] at hb1
     have hb2:=qA.rows (sz:=sz) d3 _ _ _ _ hb1
     refine ⟨?_,.inl ⟨hbn,⟨_,q1⟩,.inr (.inl ⟨_,aJ hi⟩)⟩⟩
     have e5:(SB.fO sz (.var (j+(p.fr.length+p.bl.length)+i) [])).den σ=.rows sz R:=by
      simp only [SB.den,Tm.den,ax8,e4,d2];rfl
     rw [show (Tb.rows sz).sb (j+(p.fr.length+p.bl.length)+i)=SB.fO sz (.var (j+(p.fr.length+p.bl.length)+i) []) from rfl,e5]
     refine J3 hfix hb2 (hown b hbn) (fun y hy=>?_)
     have hri:=t_ hR (Rn (f:=f) (b:=fb) q3)
     have:(x.den ρ).refs=[]:=by rw [xM hρ,hri]
     rw [d2] at this
     simp only [AV.refs] at this
     rw [this] at hy;cases hy
    .have hbn:=hcb b k hk
     obtain ⟨q1,q2,q3⟩:=amq hC hbn hnb hnt hk
     obtain ⟨sz,rs,d1,d2⟩:=hcm b k hk
     refine ⟨?_,.inl ⟨hbn,⟨_,q3⟩,.inr (.inr (by rw [hk];rfl))⟩⟩
     rw [<- SB.qm hag q1,d1]
     have hb1:=blk q3
     rw [d1] at hb1
     exact J3 hfix hb1 (hown b hbn) (fun x hx=>hown x (q2 x (by rw [<- d2];exact hx)))
 have arH:∀{b b':Nat} {k k':SB} {c o c' o':Nat},b≠b'->xu.ah.get b=some k->xu.ah.get b'=some k'->E.own b=.at c o->E.own b'=.at c' o'->c≠c':=by
  intro b b' k k' c o c' o' hne h1 h2 h3 h4
  obtain ⟨k0,q0,-⟩:=hst.ah b k h1
  obtain ⟨k1,q1,-⟩:=hst.ah b' k' h2
  exact jB.heap.sep b b' k0 k1 c o c' o' hne q0 q1 h3 h4
 
 have hsrc:∀{b:Nat} {k:SB} {c o:Nat},(ayR p j cs).ah.get b=some k->E'.own b=.at c o->∃b0 k0,xu.ah.get b0=some k0/\E.own b0=.at c o/\((b0=b/\b<nE/\((∃ks,(b,ks)∈p.bl)\/(∃sz,(b,sz)∈p.tb)\/(cs.ah.get b).isSome=true))\/(b,.at b0)∈vg p.fr f):=by
  intro b k c o hk ho
  rcases (hheap b k hk).2 with ⟨q1,⟨k',q2⟩,q3⟩|⟨s,q1,q2⟩
  .exact ⟨b,k',q2,by rw [<- hown b q1];exact ho,.inl ⟨rfl,q1,q3⟩⟩
  .have h2:=ae6 q1
   rw [ho] at h2
   cases s with
   |no=>cases h2
   |empty=>cases h2
   |«at» b0=>
    obtain ⟨k',hk'⟩:=q2 b0 rfl
    exact ⟨b0,k',hk',h2.symm,.inr q1⟩
 refine ⟨E',Ui σ N (ayR p j cs).fr,iO σ (ayR p j cs).ah,?_,⟨⟨?_,?_,?_,jB.heap.kF,jB.heap.bs,?_⟩,⟨?_,?_,jB.fr.Lm⟩,jB.defers⟩,rfl,hown,fun b c o hb=>?_⟩
 rotate_right
 .change (if b<nE then E.own b else I9 E (vg p.fr f) b)=.at c o at hb
  split at hb
  .exact ⟨b,hb⟩
  .by_cases hm:∃s,(b,s)∈vg p.fr f
   .obtain ⟨s,hm⟩:=hm
    rw [(y7 (E:=E) hS hm).1] at hb
    cases s with
    |no=>cases hb
    |empty=>cases hb
    |«at» b0=>exact ⟨b0,hb⟩
   .rw [Gn (fun s hs=>hm ⟨s,hs⟩)] at hb;cases hb
 .refine ⟨fun t e he=>?_,fun b k hk=>⟨k.den σ,by unfold iO;rw [hk];rfl,qA.refl _⟩,by simp [Ui],dG _⟩
  obtain ⟨v,-,-,hlt⟩:=hframe t e he
  exact ⟨e.den σ,by rw [Bf,if_pos hlt,he];rfl,Weak.refl _⟩
 .intro b k hb
  unfold iO at hb
  simp only [aB] at hb
  obtain ⟨k1,hk1,rfl⟩:=hb
  exact (hheap b k1 hk1).1
 .intro b b' k k' c o c' o' hne h1 h2 h3 h4
  unfold iO at h1 h2
  simp only [aB] at h1 h2
  obtain ⟨k1,hk1,-⟩:=h1
  obtain ⟨k2,hk2,-⟩:=h2
  obtain ⟨x,kx,x1,x2,x3⟩:=hsrc hk1 h3
  obtain ⟨y,ky,y1,y2,y3⟩:=hsrc hk2 h4
  by_cases hxy:x=y
  .subst hxy
   rcases x3 with ⟨rfl,x4,x5⟩|x3
   .rcases y3 with ⟨rfl,-,-⟩|y3
    .exact absurd rfl hne
    .obtain ⟨-,-,-,q⟩:=y7 (E:=E) hS y3
     rcases q x rfl with q|⟨q1,q2,q3⟩
     .omega
     .rcases x5 with ⟨ks,h⟩|⟨sz,h⟩|h
      .exact absurd h (q1 ks)
      .exact absurd h (q2 sz)
      .rw [q3] at h;cases h
   .rcases y3 with ⟨rfl,y4,y5⟩|y3
    .obtain ⟨-,-,-,q⟩:=y7 (E:=E) hS x3
     rcases q x rfl with q|⟨q1,q2,q3⟩
     .omega
     .rcases y5 with ⟨ks,h⟩|⟨sz,h⟩|h
      .exact absurd h (q1 ks)
      .exact absurd h (q2 sz)
      .rw [q3] at h;cases h
    .exact absurd (aaA hS x3 y3) hne
  .exact arH hxy x1 y1 x2 y2
 .intro b hb
  show (if b<nE then _ else I9 E _ b)=_
  rw [if_neg (by omega)]
  refine Gn (fun s hs=>?_)
  have:=(y7 (E:=E) hS hs).2.2.1
  omega
 .intro b c o hb
  change (if b<nE then E.own b else I9 E (vg p.fr f) b)=.at c o at hb
  split at hb
  .exact jB.heap.kJ b c o hb
  .by_cases hm:∃s,(b,s)∈vg p.fr f
   .obtain ⟨s,hm⟩:=hm
    rw [(y7 (E:=E) hS hm).1] at hb
    cases s with
    |no=>cases hb
    |empty=>cases hb
    |«at» b0=>exact jB.heap.kJ b0 c o hb
   .rw [Gn (fun s hs=>hm ⟨s,hs⟩)] at hb;cases hb
 .have:=jB.fr.size
  rw [hst.len] at this
  simpa [Ui] using this
 .intro i x hx
  rw [Bf] at hx
  split at hx
  .simp only [aB] at hx
   obtain ⟨e,he,rfl⟩:=hx
   obtain ⟨v,q1,q2,-⟩:=hframe i e he
   exact ⟨v,q1,q2⟩
  .cases hx
end
end Go.Fw
end
section
namespace Go.Fw
variable [jU]
 mutual
def AV.bnd : AV->Prop
  | .p _ | .str _=>True
  | .agg cs=>KG cs
  | .fA cs=>KG cs
  | .sl rows _=>rows.length<=4294967296/\ajD rows
  | .vp row _=>KG row
  | .fn _ x y=>KG x/\KG y
  | .mP _ v=>v.bnd
  | .os _ _ _ n=>n<=4294967296
  | .op .. | .mp _=>True
def KG : List AV->Prop
  |[]=>True
  |a::r=>a.bnd/\KG r
def ajD : List (List AV)->Prop
  |[]=>True
  |a::r=>KG a/\ajD r
end
theorem Gp : ∀{l:List AV},(∀a∈l,a.bnd)->KG l
 |[],_=>trivial
 |a::r,h=>⟨h a (by simp),Gp fun b hb=>h b (by simp [hb])⟩
theorem aaJ : ∀{l:List (List AV)},(∀a∈l,KG a)->ajD l
 |[],_=>trivial
 |a::r,h=>⟨h a (by simp),aaJ fun b hb=>h b (by simp [hb])⟩
theorem Ro {w:World}{E:Env}{a:AV}{v:Value}(h:Rep w E a v):a.bnd:=by
 have mem:∀{l:List AV} {vs:List Value},l.length=vs.length->(∀(i:Nat) (c:AV) (v:Value),l[i]?=some c->vs[i]?=some v->c.bnd)->KG l:=by
  intro l vs hl hh
  refine Gp fun c hc=>?_
  obtain ⟨i,hi⟩:=bH.1 hc
  have hlt:i<vs.length:=by rw [<- hl];exact (aC.1 hi).1
  exact hh i c vs[i] hi (by simp [hlt])
 induction h with
 |p h=>trivial
 |str s l h=>trivial
 |agg cs vs hl hs _ ih=>exact mem (vs:=vs.toList) (by simpa using hl) (fun i c v h1 h2=>ih i c v h1 (by simpa using h2))
 |fA cs vs hl _ ih=>exact mem (vs:=vs.toList) (by simpa using hl) (fun i c v h1 h2=>ih i c v h1 (by simpa using h2))
 |slnil full a=>exact ⟨by simp,trivial⟩
 |sl rows full sz c o cap g hcap hfull hsz hfix hcell jO _ ih=>
  refine ⟨hcap.2,aaJ fun row hr=>Gp fun x hx=>?_⟩
  obtain ⟨i,hi⟩:=bH.1 hr
  obtain ⟨j,hj⟩:=bH.1 hx
  exact ih i row j x hi hj
 |vp row off c o g hfix hcell jO _ ih=>
  refine Gp fun x hx=>?_
  obtain ⟨j,hj⟩:=bH.1 hx
  exact ih j x hj
 |mM b sz off a hb=>exact dF _
 |os b sz off len c o cap hb hcap hsize=>exact hcap.2
 |op b sz row off c o hb=>trivial
 |fn f first captured vs us hl hl' _ _ ih ih'=>exact ⟨mem (vs:=vs.toList) (by simpa using hl) (fun i c v h1 h2=>ih i c v h1 (by simpa using h2)),mem (vs:=us.toList) (by simpa using hl') (fun i c v h1 h2=>ih' i c v h1 (by simpa using h2))⟩
 |mP t a v _ ih=>exact ih
 |mp b c hb=>trivial
end Go.Fw
namespace Go.Fw
variable [jU]
theorem apB {P:Program}{f:FuncId}{args:List AV}{r:AV}(h:KG args->PC P f args r):PC P f args r:=by
 intro w fix vs hfix hG hargs
 refine h (Gp fun a ha=>?_) w fix vs hfix hG hargs
 obtain ⟨i,hi⟩:=bH.1 ha
 have hlt:i<vs.length:=by rw [<- hargs.1];exact (aC.1 hi).1
 exact Ro (hargs.2 i a vs[i] hi (by simp [hlt]))
end Go.Fw
end
section
namespace Go.Fw
variable [jU]
section
variable {P : Program} {ρ:List AV} {N:Nat}
theorem aaK {base:Nat}{w0 w:World}{E0 E E':Env}(h:Step base w0 E0 w E)(hf:E'.fix=E.fix)(ho:∀b,E0.own b≠.free->E'.own b=E.own b)(hs:∀b c o,E'.own b=.at c o->∃b',E.own b'=.at c o):Step base w0 E0 w E':=
 ⟨⟨fun c o h0=>by rw [hf];exact h.ext.fix c o h0,h.ext.cell,fun b hb=>(ho b hb).trans (h.ext.own b hb),h.ext.arr⟩,h.below,fun c o hc h0=>h.yK c o hc (by rw [<- hf];exact h0),h.keep,
  fun b c o h0 hc=>let ⟨b',h1⟩:=hs b c o h0;h.DN b' c o h1 hc,fun c o h0 hc=>h.yL c o (by rw [<- hf];exact h0) hc⟩
theorem aaL {h:KT}{id base nE:Nat}{cs:sK}:∀{l:List Out} {pc:Pc} {outs:List (Tm×Nat×List SV)} {e:Exit} {st:sK},aaC h id base nE cs pc l=some outs->pc.holds ρ->sel ρ l=some (e,st)->
  ∃kk vals pc' g,CJ ρ outs=some (kk,vals)/\Pc.holds ρ pc'/\ag5 h id base nE cs pc' ⟨g,e,st⟩=some (g,kk,vals)/\∀s∈aaD h id ⟨g,e,st⟩,(pc',s)∈ae1 h id pc l
 |[],pc,outs,e,st,hc,hp,hs=>by simp [sel] at hs
 |[o],pc,outs,e,st,hc,hp,hs=>by
  simp only [sel,au,aN] at hs
  obtain ⟨rfl,rfl⟩:=hs
  simp only [aaC] at hc
  split at hc
  .rename_i x hx
   simp only [au] at hc;subst hc
   obtain ⟨g,kk,vals⟩:=x
   have hg:o.g=g:=by
    unfold ag5 at hx
    split at hx
    .split at hx
     .simp only [au,aN] at hx;exact hx.1
     .cases hx
    .split at hx
     .split at hx
      .simp only [au,aN] at hx;exact hx.1
      .cases hx
     .cases hx
   subst hg
   exact ⟨kk,vals,pc,o.g,rfl,hp,hx,fun s hm=>aW.2 ⟨s,hm,rfl⟩⟩
  .cases hc
 |o::o'::r,pc,outs,e,st,hc,hp,hs=>by
  simp only [aaC] at hc
  split at hc
  .cases hc
  .rename_i x hx
   split at hc
   .rename_i l hl
    simp only [au] at hc;subst hc
    obtain ⟨g,kk,vals⟩:=x
    have hg:o.g=g:=by
     unfold ag5 at hx
     split at hx
     .split at hx
      .simp only [au,aN] at hx;exact hx.1
      .cases hx
     .split at hx
      .split at hx
       .simp only [au,aN] at hx;exact hx.1
       .cases hx
      .cases hx
    subst hg
    have aaM:∃y s,l=y::s:=by
     cases l with
     |cons y s=>exact ⟨y,s,rfl⟩
     |nil=>
      cases r with
      |nil=>
       simp only [aaC] at hl
       split at hl
       .simp at hl
       .cases hl
      |cons o2 r2=>
       simp only [aaC] at hl
       split at hl
       .cases hl
       .split at hl
        .simp at hl
        .cases hl
    obtain ⟨y,s,rfl⟩:=aaM
    simp only [sel] at hs
    cases hb:(o.g.den ρ).B
    .rw [hb] at hs
     obtain ⟨kk',vals',pc',g',q1,q2,q3,q4⟩:=aaL hl (gq hb hp) hs
     exact ⟨kk',vals',pc',g',by simp only [CJ,hb,cond_false];exact q1,q2,q3,fun s hm=>dh _ (q4 s hm)⟩
    .rw [hb] at hs
     simp only [cond_true,au,aN] at hs
     obtain ⟨rfl,rfl⟩:=hs
     exact ⟨kk,vals,_,o.g,by simp only [CJ,hb,cond_true],gq hb hp,hx,fun s hm=>cO _ (aW.2 ⟨s,hm,rfl⟩)⟩
   .cases hc
theorem Xa {id:Nat}{e:Exit}:∀{l:List (Exit×BK)} {k0 k:Nat} {p:BK},Uh id e k0 l=some (k,p)->∃i x,k=k0+i/\l[i]?=some (x,p)/\amk id x e=true
 |[],k0,k,p,h=>by simp [Uh] at h
 |x::r,k0,k,p,h=>by
  simp only [Uh] at h
  cases hx:amk id x.1 e
  .simp only [hx,cond_false] at h
   obtain ⟨i,y,q1,q2,q3⟩:=Xa h
   exact ⟨i+1,y,by omega,by simpa using q2,q3⟩
  .simp only [hx,cond_true,au,aN] at h
   obtain ⟨rfl,rfl⟩:=h
   exact ⟨0,x.1,rfl,rfl,hx⟩
theorem Xb {cs:sK}{nv:Nat}:∀{l:List (Exit×BK)} {k0 q i:Nat} {x:Exit} {p:BK},l[i]?=some (x,p)->(1<l.length->(ρ.getD nv eX).D.I=((k0+i:Nat):Int))->
  sel ρ (Dv cs nv k0 q l)=some (x,ayR p (q+((l.map fun y=>y.2.m).take i).sum) cs)
 |[],k0,q,i,x,p,h,hs=>by simp at h
 |[y],k0,q,i,x,p,h,hs=>by
  cases i with
  |zero=>simp at h;subst h;simp [Dv,sel]
  |succ i=>simp at h
 |y::z::r,k0,q,i,x,p,h,hs=>by
  have hsel:=hs (by simp)
  have hg:(Tm.den ρ (.bin .eql (.int .i64) (.var nv []) (.li k0))).B=decide (i=0):=by
   simp only [Tm.den,qh,D.B,ax8,hsel,dW]
   show ((((k0+i:Nat)):Int) == (k0:Int))=_
   by_cases hi:i=0
   .subst hi;simp
   .simp [hi];omega
  cases i with
  |zero=>
   simp at h;subst h
   cases r<;>simp [Dv,sel,hg]
  |succ i=>
   have ih:=Xb (cs:=cs) (nv:=nv) (l:=z::r) (k0:=k0+1) (q:=q+y.2.m) (i:=i) (x:=x) (p:=p) (by simpa using h) (fun _=>by rw [hsel];congr 1;omega)
   have e1:sel ρ (Dv cs nv k0 q (y::z::r))=sel ρ (Dv cs nv (k0+1) (q+y.2.m) (z::r)):=by
    have hne:∃o s,Dv cs nv (k0+1) (q+y.2.m) (z::r)=o::s:=by cases r<;>exact ⟨_,_,rfl⟩
    obtain ⟨o,s,hos⟩:=hne
    simp only [Dv,hos,sel,hg]
    simp
   rw [e1,ih]
   simp only [aZ,List.take_succ_cons,List.sum_cons,Nat.add_assoc]
theorem ajE {st:sK}{l:List Nat}{t:Nat}{e:pI}(h:(st.cut l).fr.get t=some e):t∈l:=(Tr.ED h).1
theorem ajF {st:sK}{l:List Nat}{b:Nat}{k:SB}(h:(st.cut l).ah.get b=some k):b<st.nx:=by
 have:=(Tr.ED h).1
 rw [List.mem_filter,List.mem_range] at this
 exact this.1
theorem aaN {st:sK}{l:List Nat}{b:Nat}{k:SB}(hρ:iT ρ=true)(h:(st.cut l).ah.get b=some k):∃sz rs,k.den ρ=.rows sz rs/\mW rs=k.FZ:=by
 obtain ⟨h1,h2⟩:=Tr.ED h
 rw [List.mem_filter] at h1
 cases k with
 |rows sz rs=>exact ⟨sz,_,rfl,yX hρ⟩
 |fO sz t=>exact ⟨sz,_,rfl,oG (jV (Tm.qj hρ t))⟩
 |map es=>
  have:=h1.2
  unfold aaB at this
  rw [h2] at this
  cases this
 |Ad m t=>
  have:=h1.2
  unfold aaB at this
  rw [h2] at this
  cases this
 |it m n k=>
  have:=h1.2
  unfold aaB at this
  rw [h2] at this
  cases this
 |kL ty sz rs=>
  have:=h1.2
  unfold aaB at this
  rw [h2] at this
  cases this
theorem ajG {a b:List AV}{i:Nat}(h:i<a.length):(a++b).getD i eX=a.getD i eX:=by
 simp [aF,bC h]
theorem Un {base:Nat}{vs cs:List AV}(h:base<=ρ.length):AgreeV base ρ (ρ.take base++vs++cs):=by
 intro i hi
 have hl:(ρ.take base).length=base:=by simp;omega
 rw [dw,ajG (by omega)]
 simp [aF,bJ,hi]
theorem AgreeV.symm {n:Nat}{a b:List AV}(h:AgreeV n a b):AgreeV n b a:=fun i hi=>(h i hi).symm
theorem AgreeV.trans {n:Nat}{a b c:List AV}(h:AgreeV n a b)(k:AgreeV n b c):AgreeV n a c:=fun i hi=>(h i hi).trans (k i hi)
theorem ajH {base i:Nat}{vs cs:List AV}{v:AV}(h:base<=ρ.length)(hv:vs[i]?=some v):(ρ.take base++vs++cs).getD (base+i) eX=v:=by
 have hl:(ρ.take base).length=base:=by simp;omega
 have hi:=(aC.1 hv).1
 rw [dw]
 simp only [aF]
 rw [bK (by omega),hl,Nat.add_sub_cancel_left,bC hi,hv]
 rfl
theorem Xc {l:List SV}{i:Nat}{v:SV}(h:l[i]?=some v):(dQ ρ l)[i]?=some (v.den ρ):=by
 rw [nN];simp [h]
theorem ajI {t x:Tm}:∀{l:List Tm},x∈ami l t->x∈l\/x=t:=by
 intro l h
 unfold ami at h
 cases hc:(l.any fun x=>x.beq t)
 .simp only [hc,cond_false,aK,bV] at h;exact h
 .simp only [hc,cond_true] at h;exact .inl h
theorem Uo {x:Tm}:∀{l acc:List Tm},x∈l.foldl ami acc->x∈acc\/x∈l
 |[],acc,h=>.inl h
 |y::r,acc,h=>by
  simp only [List.foldl_cons] at h
  rcases Uo h with h|h
  .rcases ajI h with h|h
   .exact .inl h
   .exact .inr (by simp [h])
  .exact .inr (by simp [h])
theorem aaO : ∀{l:List AV},KG l->∀x∈l,x.bnd
 |a::r,h,x,hx=>by
  cases hx with
  |head=>exact h.1
  |tail _ hx=>exact aaO h.2 x hx
theorem ams {st:sK}{v:SV}(h:(v.den ρ).bnd):∀t∈v.slT st.ah,(t.den ρ).R.length<=4294967296:=by
 intro t ht
 cases v with
 |sc k tm=>
  cases k with
  |sl=>
   simp only [SV.slT,bV] at ht
   subst ht;exact h.1
  |_=>simp [SV.slT] at ht
 |agg l=>
  simp only [SV.slT,List.mem_filterMap] at ht
  obtain ⟨x,hx,he⟩:=ht
  split at he
  .rename_i tm
   simp only [au] at he;subst he
   have:(AV.sl (Tm.den ρ tm).R false).bnd:=by
    refine aaO (l:=dQ ρ l) h _ ?_
    rw [nN];exact aW.2 ⟨_,hx,rfl⟩
   exact this.1
  .cases he
 |os b sz off len=>
  simp only [SV.slT] at ht
  split at ht
  .rename_i sz' tm hb
   cases hc:len.beq (.rlen tm)
   .simp [hc] at ht
   .simp only [hc,cond_true,bV] at ht
    subst ht
    have e:=Tm.beq_eq hc
    subst e
    exact h
  .cases ht
 |_=>simp [SV.slT] at ht
theorem amu {st:sK}{ins:List Nat}{fr:lY}{ah:AH}{nx:Nat}(hst:Ic ρ N st fr ah nx){bs:Nat}{w:World}{E:Env}{a:Act}(jB:OD bs w E fr ah nx a):∀t∈amj st ins,(t.den ρ).R.length<=4294967296:=by
 intro t ht
 unfold amj at ht
 rcases Uo ht with h|h
 .cases h
 .obtain ⟨s,-,h⟩:=List.mem_flatMap.1 h
  unfold an7 at h
  split at h
  .rename_i e he
   obtain ⟨a0,ha0,hw⟩:=hst.fr s e he
   obtain ⟨v,-,hr⟩:=jB.fr.get s a0 ha0
   have hb:=Ro (hw _ _ _ hr)
   split at h
   .rename_i hh
    have:e.den ρ=e.v.den ρ:=by unfold pI.den;rw [hh];rfl
    rw [this] at hb
    exact ams hb t h
   .cases h
  .cases h
theorem ag8 {c:Code}{id:Nat}{h:KT}{pc:Pc}{base:Nat}{st:sK}{ent:List SV}{xo:List Out}{outs:List (Tm×Nat×List SV)}{sd:List (Pc×Side)}{aw:List Lo}{bn:List Tm}(hρ:iT ρ=true)(hp:pc.holds ρ)
  (hent:aay pc base st.nx h.ins h.p (st.cut h.ins) st=some ent) (hcls:aaC h id base st.nx (st.cut h.ins) (pc.old base) xo=some outs) (arI:∀s∈G9 st h.p.fr,s.holds P ρ) (arJ:∀x∈ae1 h id (pc.old base) xo,x∈sd)
  (hbody:∀σ,iT σ=true->Pc.holds σ (pc.old base)->jw P σ sd->Zn P aw σ->∀fr ah nx,Ic σ N (ayR h.p base (st.cut h.ins)) fr ah nx->AW P c fr ah nx (Gl σ N xo))
  (hlo:Lo.holds P (.mk pc base h.p.m ent outs sd aw (h.xs.map fun y=>y.2.m) bn) ρ) (hbn:bn=amj st h.ins) {fr:lY} {ah:AH} {nx:Nat} (hst:Ic ρ N st fr ah nx) :
  AW P (.block id (.loop c)) fr ah nx (Gl ρ N (Dv (st.cut h.ins) base 0 (ayo base (h.xs.map fun y=>y.2.m) 0) h.xs)):=by
 unfold Lo.holds at hlo
 subst hbn
 refine ZJ ?_
 intro bs w E a jB
 obtain ⟨hbl,n,k,us,hrun,hres⟩:=hlo hp (amu hst jB)
 have hE0:∀b,E.own b≠.free->b<st.nx:=fun b hb=>Nat.lt_of_not_le fun hle=>hb (jB.heap.fresh b (b_ hst.nx hle))
 let J:Nat->Act->World->Prop:=fun n a' w'=>∃n' vs cs' E' fr' fV,n=n'+1/\iT (ρ.take base++vs++cs')=true/\(jw P (ρ.take base++vs++cs') sd/\Zn P aw (ρ.take base++vs++cs'))/\
  (match CJ (ρ.take base++vs++cs') outs with
   |none=>False
   |some (0,l)=>adl (fun σ=>jw P σ sd/\Zn P aw σ) outs (ρ.take base) h.p.m n' (dQ (ρ.take base++vs++cs') l) k us
   |some (j+1,l)=>k=j/\us=dQ (ρ.take base++vs++cs') l)/\
  Ic (ρ.take base++vs++cs') N (ayR h.p base (st.cut h.ins)) fr' fV h.p.nx/\OD bs w' E' fr' fV h.p.nx a'/\Step bs w E w' E'
 
 have enter:∀{n vals τ pcτ xu fr1 ah1 nx1 w1 E1 a1},adl (fun σ=>jw P σ sd/\Zn P aw σ) outs (ρ.take base) h.p.m n (dQ τ vals) k us->iT τ=true->AgreeV base ρ τ->Pc.holds τ pcτ->(∀s∈G9 xu h.p.fr,s.holds P τ)->aay pcτ base st.nx h.ins h.p (st.cut h.ins) xu=some vals->
   Ic τ N xu fr1 ah1 nx1->OD bs w1 E1 fr1 ah1 nx1 a1->Step bs w E w1 E1->J n a1 w1:=by
  intro n vals τ pcτ xu fr1 ah1 nx1 w1 E1 a1 hr hτ hag hpτ atP hfit hs1 ajJ adp
  cases n with
  |zero=>exact hr.elim
  |succ n=>
   obtain ⟨cs',h1,h2,h3,h4⟩:=hr
   obtain ⟨E2,fr2,ah2,q1,q2,q3,q4,q5⟩:=ayM (j:=base) hτ (hag.symm.trans (Un (vs:=dQ τ vals) (cs:=cs') hbl)) hfit (fun t e he=>ajE he) (fun b k hk=>ajF hk) (fun b k hk=>aaN hτ hk) hpτ atP
    (fun i v hv=>ajH hbl (Xc hv)) hs1 ajJ
   exact ⟨n,_,cs',E2,fr2,ah2,rfl,h2,h3,h4,q1,q2,aaK adp q3 (fun b hb=>q4 b (hE0 b hb)) q5⟩
 refine wp_loop_ghost J n (enter hrun hρ (fun _ _=>rfl) hp arI hent hst jB (Step.refl _ _ _)) ?_
 intro n0 a1 w1 ⟨n',vs,cs',E1,fr1,ah1,hn,hfz,hS,hmatch,hst1,ajJ,adp⟩
 subst hn
 have hag:=Un (ρ:=ρ) (vs:=vs) (cs:=cs') hbl
 generalize hσ:ρ.take base++vs++cs'=σ at *
 have hpo:Pc.holds σ (pc.old base):=Pc.ag3 hag hp
 refine wp_mono (hbody σ hfz hpo hS.1 hS.2 fr1 ah1 _ hst1 bs w1 E1 a1 ajJ) fun e a2 w2 hpost=>?_
 obtain ⟨E2,fr2,ah2,nx2,⟨st2,hsel,hst2⟩,aoa,hstep2⟩:=hpost
 have hstep:=adp.trans hstep2
 obtain ⟨kk,vals,pc',g,q1,q2,q3,q4⟩:=aaL hcls hpo hsel
 have hsd2:∀s∈aaD h id ⟨g,e,st2⟩,s.holds P σ:=fun s hm=>hS.1 (pc',s) (arJ _ (q4 s hm)) q2
 rw [q1] at hmatch
 
 have leave:∀(k':Nat) (p:BK),Uh id e 0 h.xs=some (k',p)->(∀s∈G9 st2 p.fr,s.holds P σ)->aay pc' base st.nx h.ins p (st.cut h.ins) st2=some vals->kk=k'+1->G5 bs w E (AIn id (Gl ρ N (Dv (st.cut h.ins) base 0 (ayo base (h.xs.map fun y=>y.2.m) 0) h.xs))) e a2 w2:=by
  intro k' p hf atQ hfit hkk
  subst hkk
  obtain ⟨rfl,rfl⟩:=hmatch
  obtain ⟨i,x,hi,hx,hex⟩:=Xa hf
  rw [Nat.zero_add] at hi
  subst hi
  have hpos:ayo base (h.xs.map fun y=>y.2.m) k=ayo base (h.xs.map fun y=>y.2.m) 0+((h.xs.map fun y=>y.2.m).take k).sum:=by
   unfold ayo;simp
  obtain ⟨E3,fr3,ah3,r1,r2,r3,r4,r5⟩:=ayM (j:=ayo base (h.xs.map fun y=>y.2.m) k) hfz hag.symm hfit (fun t e he=>ajE he) (fun b k hk=>ajF hk) (fun b k hk=>aaN hfz hk) q2 atQ
    (fun i v hv=>hres.2 i _ (Xc hv)) hst2 aoa
  have hs3:=aaK hstep r3 (fun b hb=>r4 b (hE0 b hb)) r5
  have hQ:Gl ρ N (Dv (st.cut h.ins) base 0 (ayo base (h.xs.map fun y=>y.2.m) 0) h.xs) x fr3 ah3 p.nx:=by
   refine ⟨_,Xb hx (fun hl=>?_),?_⟩
   .rw [Nat.zero_add];exact hres.1 (by simpa using hl)
   .rw [<- hpos];exact r1
  refine ⟨E3,fr3,ah3,p.nx,?_,r2,hs3⟩
  cases x<;>cases e<;>simp only [amk,ay,Bool.not_eq_true'] at hex
  all_goals first
   |(cases hex;done)
   |exact hQ
   |(have:=aA hex;subst this;simp only [AIn,if_true];exact hQ)
   |(
     obtain ⟨g1,g2⟩:=hex
     have:=aA g1
     subst this
     simp only [AIn]
     split
     .rename_i hj;subst hj;simp at g2
     .exact hQ)
 unfold ag5 at q3
 cases e with
 |normal=>
  dsimp only at q3
  split at q3
  .rename_i v hv
   simp only [au,aN,true_and] at q3
   obtain ⟨rfl,rfl⟩:=q3
   exact ⟨n',Nat.lt_succ_self _,enter hmatch hfz hag q2 hsd2 hv hst2 aoa hstep⟩
  .cases q3
 |_=>
  dsimp only at q3
  split at q3
  .rename_i k' p hf
   split at q3
   .rename_i v hv
    simp only [au,aN,true_and] at q3
    obtain ⟨rfl,rfl⟩:=q3
    exact leave k' p hf (by simpa only [aaD,hf] using hsd2) hv rfl
   .cases q3
  .cases q3
end
end Go.Fw
end
