
import Derived.Test.YtookhagokgenhaaFwC
import Derived.Test.YtookhagokgenhaaFwB
set_option linter.unusedVariables false
set_option linter.unusedSimpArgs false
set_option linter.unusedSectionVars false
set_option linter.unnecessarySimpa false
section
namespace Go.Fw
variable [jY]
def jK : Tm->Bool->Pc->Pc
 | .lb _,_,pc=>pc
 | .not t,b,pc=>jK t (!b) pc
 | .and x y,true,pc=>jK x true (jK y true pc)
 | .or x y,false,pc=>jK x false (jK y false pc)
 |t,b,pc=>(t,b)::pc
theorem gq {ρ:List AV}:∀{t:Tm} {b:Bool} {pc:Pc},(t.den ρ).B=b->Pc.holds ρ pc->Pc.holds ρ (jK t b pc):=by
 intro t
 induction t with
 |lb v=>intro b pc _ hp;exact hp
 |not t ih=>
  intro b pc h hp
  exact ih (by simp only [Tm.den,D.EH] at h;rw [<- h];simp) hp
 |and x y sU ihy=>
  intro b pc h hp
  cases b with
  |true=>
   simp only [Tm.den,D.EH,Bool.and_eq_true] at h
   exact sU h.1 (ihy h.2 hp)
  |false=>exact Pc.jy h hp
 |or x y sU ihy=>
  intro b pc h hp
  cases b with
  |false=>
   simp only [Tm.den,D.EH,Bool.or_eq_false_iff] at h
   exact sU h.1 (ihy h.2 hp)
  |true=>exact Pc.jy h hp
 |_=>intro b pc h hp;exact Pc.jy h hp
def tJ {α:Type}(ρ:List AV):List (Tm×α)->Option α
 |[]=>none
 |[x]=>some x.2
 |x::y::r=>bif (x.1.den ρ).B then some x.2 else tJ ρ (y::r)
def gdA {α:Type}(g:Tm):List (Tm×α)->List (Tm×α)
 |[]=>[]
 |[x]=>[(g,x.2)]
 |x::y::r=>(aDU g x.1,x.2)::gdA g (y::r)
theorem ahP {α:Type}{ρ:List AV}:∀{l:List (Tm×α)},l≠[]->∃x,tJ ρ l=some x
 |[],h=>absurd rfl h
 |[x],_=>⟨_,rfl⟩
 |x::y::r,_=>by
  simp only [tJ]
  cases (x.1.den ρ).B
  .exact ahP (l:=y::r) (by simp)
  .exact ⟨_,rfl⟩
theorem at6 {α:Type}{g:Tm}:∀{l:List (Tm×α)},l≠[]->gdA g l≠[]
 |[],h=>absurd rfl h
 |[x],_=>by simp [gdA]
 |x::y::r,_=>by simp [gdA]
theorem PO {α:Type}{ρ:List AV}{g:Tm}:∀{l rest:List (Tm×α)},rest≠[]->l≠[]->tJ ρ (gdA g l++rest)=bif (g.den ρ).B then tJ ρ l else tJ ρ rest
 |[],rest,hr,hl=>absurd rfl hl
 |[x],rest,hr,_=>by
  obtain ⟨z,s,rfl⟩:=List.exists_cons_of_ne_nil hr
  simp only [gdA,List.cons_append,List.nil_append,tJ]
 |x::y::r,rest,hr,_=>by
  have ih:=PO (ρ:=ρ) (g:=g) (l:=y::r) hr (by simp)
  obtain ⟨u,v,huv⟩:=List.exists_cons_of_ne_nil (at6 (g:=g) (l:=y::r) (by simp))
  simp only [gdA,List.cons_append]
  rw [huv] at ih ⊢
  simp only [List.cons_append] at ih ⊢
  simp only [tJ,xP,ih]
  cases (g.den ρ).B<;>cases (x.1.den ρ).B<;>rfl
structure CO where
 v:SV
 th:Tr SB
 nx:Nat
structure CR where
 outs:List (Tm×CO)
 nv:Nat
 sd:List (Pc×Side)
abbrev Gv :=Pc->Tr SB->Nat->Nat->FuncId->List SV->Option CR
def oH (P:Program)(ρ:List AV)(inl:Gv):Prop:=
 ∀pc th nx nv f args R,inl pc th nx nv f args=some R->Pc.holds ρ pc->jD P ρ R.sd->
  ∀base w E ah vs,Ig ρ th ah->dX base w E ah (fun b=>nx<=b)->GOk w E.fix->iy w E (dU ρ args) vs->
   ∀(o:Oper) (a:Act),(∀w',(execOp a.eval o).run P w'=(callFunc f vs.toArray).run P w')->∀(next:Act->World->Prop) (Q:Exit->Act->World->Prop),
    (∀c,tJ ρ R.outs=some c->∀v w' E' fV,Ig ρ c.th fV->Step base w E w' E'->dX base w' E' fV (fun b=>c.nx<=b)->Rep w' E' (c.v.den ρ) v->next (a.put o.dst v) w')->o.wp P a w next Q
def afW (P:Program)(t:TypeId)(name:String):Option FuncId:=
 match P.info? t with
 |none=>none
 |some i=>match i.methods.find? (·.name == name) with
  |none=>none
  |some m=>match m.path.toList,m.func,P.underlying t with
   |[],some (f,true),some (.pointer _)=>some f
   |_,_,_=>none
def KO (P:Program)(yB:FuncId->Bool)(pc:Pc)(tr:Tr qo)(op:Op):Option (FuncId×List SV):=
 match op with
 | .call ⟨.value x,args,_⟩=>match CJ pc tr x with
  |some (.fn f first captured)=>bif (match x with | .func _=>yB f|_=>true) then
    (match Oz pc tr args.toList with|some l=>some (f,first++l++captured)|none=>none) else none
  |_=>none
 | .call ⟨.invoke x name,args,_⟩=>match CJ pc tr x with
  |some (.mV t v)=>match afW P t name with
   |some f=>(match Oz pc tr args.toList with|some l=>some (f,v::l)|none=>none)
   |none=>none
  |_=>none
 |_=>none
structure RQ where
 tr:Tr qo
 th:Tr SB
 nx:Nat
structure SQ where
 outs:List (Tm×RQ)
 nv:Nat
 sd:List (Pc×Side)
def EL (k:Pc->CO->Nat->Option SQ):Pc->List (Tm×CO)->Nat->Option SQ
 |_,[],_=>none
 |pc,[x],nv=>k pc x.2 nv
 |pc,x::y::r,nv=>match k (jK x.1 true pc) x.2 nv with
  |none=>none
  |some a=>match EL k (jK x.1 false pc) (y::r) a.nv with
   |none=>none
   |some b=>some ⟨gdA x.1 a.outs++b.outs,b.nv,a.sd++b.sd⟩
def RG (P:Program)(X:qO)(inl:Gv)(yB:FuncId->Bool)(N:Nat)(ops:Array Oper):List Oper->Pc->RQ->Nat->Option SQ
 |[],_,R,nv=>some ⟨[(.lb true,R)],nv,[]⟩
 |o::rest,pc,R,nv=>
  bif V8 N o.dst then
   match ahO ops pc R.tr o with
   |none=>none
   |some .no=>RG P X inl yB N ops rest pc {R with tr:=PK R.tr o.dst ⟨[],.c .undef⟩} nv
   |some .yes=>match KO P yB pc R.tr o.op with
    |some (f,args)=>match inl pc R.th R.nx nv f args with
     |none=>none
     |some C=>match EL (fun pc c nv=>RG P X inl yB N ops rest pc ⟨PK R.tr o.dst ⟨[],c.v⟩,c.th,c.nx⟩ nv) pc C.outs C.nv with
      |none=>none
      |some y=>some ⟨y.outs,y.nv,C.sd++y.sd⟩
    |none=>match sOp P X pc R.tr R.th R.nx nv o.op with
     |none=>none
     |some r=>match RG P X inl yB N ops rest pc ⟨PK R.tr o.dst ⟨[],r.v⟩,wrT R.th r.wr,R.nx+1⟩ r.nv with
      |none=>none
      |some y=>some ⟨y.outs,y.nv,tag pc r.sd y.sd⟩
   |some (.maybe l)=>match sOp P X (l++pc) R.tr R.th R.nx nv o.op with
    |none=>match l with
     |[(t,b)]=>match KO P yB (jK t b pc) R.tr o.op with
      |none=>none
      |some (f,args)=>match inl (jK t b pc) R.th R.nx nv f args with
       |none=>none
       |some C=>match EL (fun pc c nv=>RG P X inl yB N ops rest pc ⟨PK R.tr o.dst ⟨[],c.v⟩,c.th,c.nx⟩ nv) (jK t b pc) C.outs C.nv with
        |none=>none
        |some y=>match RG P X inl yB N ops rest (jK t (!b) pc) {R with tr:=PK R.tr o.dst ⟨[],.c .undef⟩} y.nv with
         |none=>none
         |some z=>some ⟨bif b then gdA t y.outs++z.outs else gdA t z.outs++y.outs,z.nv,C.sd++(y.sd++z.sd)⟩
     |_=>none
    |some r=>bif r.wr.isEmpty then match RG P X inl yB N ops rest pc ⟨PK R.tr o.dst ⟨l,r.v⟩,R.th,R.nx+1⟩ r.nv with
      |none=>none
      |some y=>some ⟨y.outs,y.nv,tag (l++pc) r.sd y.sd⟩
     else match l with
     |[(t,b)]=>match sOp P X (jK t b pc) R.tr R.th R.nx nv o.op with
      |none=>none
      |some r=>match RG P X inl yB N ops rest (jK t b pc) ⟨PK R.tr o.dst ⟨[],r.v⟩,wrT R.th r.wr,R.nx+1⟩ r.nv with
       |none=>none
       |some y=>match RG P X inl yB N ops rest (jK t (!b) pc) {R with tr:=PK R.tr o.dst ⟨[],.c .undef⟩} y.nv with
        |none=>none
        |some z=>some ⟨bif b then gdA t y.outs++z.outs else gdA t z.outs++y.outs,z.nv,tag (jK t b pc) r.sd (y.sd++z.sd)⟩
     |_=>none
  else none
def amo (M:List Nat)(i:Nat)(l:List Nat):Bool:=l.all fun k=>(M.getD i 0).testBit k
def ajU (fs:List KA)(i:Nat)(rd wr:List Nat):List KA:=bif rd.isEmpty&&wr.isEmpty then fs else ⟨i,rd,wr⟩::fs
def amq : Option SB->Option SB->Bool
 |some (.rows a r),some (.rows b s)=>Nat.beq a b&&TG r s
 |some (.fK a t),some (.fK b u)=>Nat.beq a b&&t.beq u
 |_,_=>false
theorem amr {x y:Option SB}(h:amq x y=true):∃k,x=some k/\y=some k:=by
 unfold amq at h
 split at h
 .simp only [Bool.and_eq_true] at h;rw [Nat.eq_of_beq_eq_true h.1,KE h.2];exact ⟨_,rfl,rfl⟩
 .simp only [Bool.and_eq_true] at h;rw [Nat.eq_of_beq_eq_true h.1,Tm.beq_eq h.2];exact ⟨_,rfl,rfl⟩
 .cases h
def DU (th:Tr SB)(outs:List (Tm×CO))(b:Nat):Bool:=outs.all fun x=>amq (x.2.th.get b) (th.get b)
def KP (M:List Nat)(i:Nat)(qs:List Nat)(fs:List KA)(th:Tr SB)(outs:List (Tm×CO)):Bool:=
 amo M i qs&&fs.all (fun f=>(M.getD i 0).testBit f.i||(f.wr.isEmpty&&f.rd.all (fun b=>DU th outs b)))
abbrev CS :=List (Nat×(Nat->Bool)×(Unit->Bool))
def MI (th:Tr SB)(nx:Nat)(args:List SV)(outs:List (Tm×CO))(_:Unit):Bool:=aa4 th nx args&&outs.all fun x=>aa5 th nx x.2.nx x.2.th x.2.v
def TN (M:List Nat)(i:Nat)(cs:CS):Bool:=cs.all fun c=>(M.getD i 0).testBit c.1
def acU (M:List Nat)(i:Nat)(pu:Bool)(own:Nat)(rd wr:List Nat)(cs:CS):Bool:=cs.all fun c=>(M.getD i 0).testBit c.1||(rd.all c.2.1&&((pu&&wr.isEmpty)||(wr.all (Nat.beq own)&&c.2.2 ())))
def Tr.ajV {α:Type}:Tr α->(Nat->α->Bool)->Tr α
 | .e,_=>.e
 | .n l x r,f=>.n (Tr.ajV l (fun j=>f (2*j+1))) (match x with|none=>none|some a=>bif f 0 a then some a else none) (Tr.ajV r (fun j=>f (2*j+2)))
theorem Tr.V_ {α:Type}:∀{t:Tr α} {f:Nat->α->Bool} {k:Nat} {a:α},(t.ajV f).get k=some a->t.get k=some a
 | .e,f,k,a,h=>by simp [Tr.ajV,Tr.get] at h
 | .n l x r,f,k,a,h=>by
  simp only [Tr.ajV,Tr.get] at h ⊢
  cases h1:Nat.beq k 0
  .simp only [h1,cond_false] at h ⊢
   cases h2:Nat.beq (k % 2) 1
   .simp only [h2,cond_false] at h ⊢;exact Tr.V_ h
   .simp only [h2,cond_true] at h ⊢;exact Tr.V_ h
  .simp only [h1,cond_true] at h ⊢
   cases x with
   |none=>cases h
   |some y=>
    simp only at h
    cases hf:f 0 y
    .simp [hf] at h
    .simpa [hf] using h
def aa6 (nx:Nat):Nat->Tr SB->Tr SB
 |0,th=>th
 |n+1,th=>aa6 nx n (th.ajV fun b k=>Nat.ble (b+1) nx&&k.IG.all (aEm th))
theorem Wh {nx:Nat}:∀{n:Nat} {th:Tr SB} {b:Nat} {k:SB},(aa6 nx n th).get b=some k->th.get b=some k
 |0,th,b,k,h=>h
 |n+1,th,b,k,h=>Tr.V_ (Wh (n:=n) h)
def afX {α:Type}(a:Option α)(b:Unit->Option α):Option α:=match a with|some y=>some y|none=>b ()
theorem TP {α:Type}{a:Option α}{b:Unit->Option α}{y:α}(h:afX a b=some y):a=some y\/b ()=some y:=by
 unfold afX at h
 split at h
 .exact .inl h
 .exact .inr h
def afY (i:Nat)(op:Op)(qs:List Nat):List Nat:=bif Gh op then qs else i::qs
def EM (P:Program)(X:qO)(inl:Gv)(yB:FuncId->Bool)(N:Nat)(ops:Array Oper)(M:List Nat):Nat->List Oper->Pc->List Nat->CS->List KA->RQ->Nat->Option SQ
 |_,[],_,_,_,_,R,nv=>some ⟨[(.lb true,R)],nv,[]⟩
 |i,o::rest,pc,qs,cs,fs,R,nv=>
  bif V8 N o.dst then
   match ahO ops pc R.tr o with
   |none=>none
   |some .no=>EM P X inl yB N ops M (i+1) rest pc qs cs fs {R with tr:=PK R.tr o.dst ⟨[],.c .undef⟩} nv
   |some .yes=>match KO P yB pc R.tr o.op with
    |some (f,args)=>
      afX ((fun JX=>
      match inl pc JX R.nx nv f args with
      |none=>none
      |some C=>bif TN M i cs&&KP M i qs fs JX C.outs then match EL (fun pc c nv=>EM P X inl yB N ops M (i+1) rest pc qs ((i,DU JX C.outs,MI JX R.nx args C.outs)::cs) fs ⟨PK R.tr o.dst ⟨[],c.v⟩,c.th,Nat.max c.nx R.nx⟩ nv) pc C.outs C.nv with
       |none=>none
       |some y=>some ⟨y.outs,y.nv,C.sd++y.sd⟩
       else none) R.th) (fun _=>(fun JX=>
      match inl pc JX R.nx nv f args with
      |none=>none
      |some C=>bif TN M i cs&&KP M i qs fs JX C.outs then match EL (fun pc c nv=>EM P X inl yB N ops M (i+1) rest pc qs ((i,DU JX C.outs,MI JX R.nx args C.outs)::cs) fs ⟨PK R.tr o.dst ⟨[],c.v⟩,c.th,Nat.max c.nx R.nx⟩ nv) pc C.outs C.nv with
       |none=>none
       |some y=>some ⟨y.outs,y.nv,C.sd++y.sd⟩
       else none) (aa6 R.nx 4 R.th))
    |none=>match sOp P X pc R.tr R.th R.nx nv o.op with
     |none=>none
     |some r=>bif acU M i (Gh o.op) R.nx r.rd (r.wr.map (·.1)) cs&&fs.all (fun f=>aDT M i r.rd (r.wr.map (·.1)) f) then
       match EM P X inl yB N ops M (i+1) rest pc (afY i o.op qs) cs (ajU fs i r.rd (r.wr.map (·.1))) ⟨PK R.tr o.dst ⟨[],r.v⟩,wrT R.th r.wr,R.nx+1⟩ r.nv with
       |none=>none
       |some y=>some ⟨y.outs,y.nv,tag pc r.sd y.sd⟩
      else none
   |some (.maybe l)=>match sOp P X (l++pc) R.tr R.th R.nx nv o.op with
    |none=>none
    |some r=>bif r.wr.isEmpty&&(acU M i (Gh o.op) R.nx r.rd [] cs&&fs.all (fun f=>aDT M i r.rd (r.wr.map (·.1)) f)) then
      match EM P X inl yB N ops M (i+1) rest pc (afY i o.op qs) cs (ajU fs i r.rd []) ⟨PK R.tr o.dst ⟨l,r.v⟩,R.th,R.nx+1⟩ r.nv with
      |none=>none
      |some y=>some ⟨y.outs,y.nv,tag (l++pc) r.sd y.sd⟩
     else match l with
     |[(t,b)]=>match sOp P X (jK t b pc) R.tr R.th R.nx nv o.op with
      |none=>none
      |some r=>bif acU M i (Gh o.op) R.nx r.rd (r.wr.map (·.1)) cs&&fs.all (fun f=>aDT M i r.rd (r.wr.map (·.1)) f) then
        match EM P X inl yB N ops M (i+1) rest (jK t b pc) (afY i o.op qs) cs (ajU fs i r.rd (r.wr.map (·.1))) ⟨PK R.tr o.dst ⟨[],r.v⟩,wrT R.th r.wr,R.nx+1⟩ r.nv with
        |none=>none
        |some y=>match EM P X inl yB N ops M (i+1) rest (jK t (!b) pc) qs cs fs {R with tr:=PK R.tr o.dst ⟨[],.c .undef⟩} y.nv with
         |none=>none
         |some z=>some ⟨bif b then gdA t y.outs++z.outs else gdA t z.outs++y.outs,z.nv,tag (jK t b pc) r.sd (y.sd++z.sd)⟩
       else none
     |_=>none
  else none
section
variable {P : Program} {ρ:List AV} {pc:Pc} {X:qO} {inl:Gv} {yB:FuncId->Bool}
theorem afZ {w:World}{E:Env}{fr:mg}{o:Oper}{a:Act}{f:FuncId}(hfr:wZ w E fr a.tmps){x:Operand}{l:Array Operand}{ts:Array TypeId}{first captured m:List AV}(hop:o.op=.call ⟨.value x,l,ts⟩)
  (hx:ev fr x=some (.fn (.func f) first captured)) (hm:YT fr l.toList=some m):∃vs,iy w E (first++m++captured) vs/\∀w',(execOp a.eval o).run P w'=(callFunc f vs.toArray).run P w':=by
 have hv:=fJ hfr hx
 have hl:=sS hfr hm
 obtain ⟨vs,us,h1,h2,hval⟩:∃vs us:Array Value,iy w E first vs.toList/\iy w E captured us.toList/\a.eval x=.func (.func f) vs us:=by
  generalize a.eval x=val at hv
  cases hv with
  |fn _ _ _ vs us q1 q2 q3 q4=>exact ⟨vs,us,⟨by simpa using q1,fun i c v e1 e2=>q3 i c v e1 (by simpa using e2)⟩,⟨by simpa using q2,fun i c v e1 e2=>q4 i c v e1 (by simpa using e2)⟩,rfl⟩
 refine ⟨vs.toList++l.toList.map a.eval++us.toList,iy.append (iy.append h1 hl) h2,?_⟩
 have e:vs++l.map a.eval++us=(vs.toList++l.toList.map a.eval++us.toList).toArray:=by apply Array.ext';simp
 intro w'
 congr 1
 simp only [execOp,hop,resolve,hval,Deferred.ofValue,invoke]
 rw [<- e]
 rfl
def ajW (P:Program)(fr:mg)(op:Op)(f:FuncId)(args:List AV):Prop:=
 ∀(w:World) (E:Env) (fr':mg) (a:Act) (o:Oper),o.op=op->aEb fr fr' op.operands.toList->wZ w E fr' a.tmps->∃vs,iy w E args vs/\∀w',(execOp a.eval o).run P w'=(callFunc f vs.toArray).run P w'
theorem af0 {t:TypeId}{name:String}{f:FuncId}(h:afW P t name=some f)(v:Value)(w:World)(n:Nat):(method (n+1) t v name).run P w=.ok (f,v) w:=by
 unfold afW at h
 split at h
 .cases h
 .rename_i i hi
  split at h
  .cases h
  .rename_i m hm
   split at h
   .rename_i f' e hp hf hu
    simp only [Option.some.injEq] at h;subst h
    simp [method,typeInfo,hi,hm,hp,hf,follow,receiverAt,run_underlying hu,Place.get]
   .cases h
theorem EN {fr:mg}{tr:Tr qo}{op:Op}{f:FuncId}{args:List SV}(hp:pc.holds ρ)(hf:Zg ρ tr fr)(h:KO P yB pc tr op=some (f,args)):ajW P fr op f (dU ρ args):=by
 unfold KO at h
 split at h
 .rename_i x l ts
  split at h
  .rename_i f' first captured hx
   generalize (match x with | .func _=>yB f' | _=>true)=g at h
   cases g
   .cases h
   .simp only [cond_true] at h
    split at h
    .rename_i m hm
     simp only [Option.some.injEq,Prod.mk.injEq] at h
     obtain ⟨rfl,rfl⟩:=h
     intro w E fr' a o hop hag hfr
     rw [mF,mF]
     have hx':ev fr' x=_:=(gG hag (by simp [Op.operands,Call.operands])).trans (iV hp hf hx)
     have hm':YT fr' l.toList=_:=(qh hag (by intro z hz;simp [Op.operands,Call.operands];exact .inr (by simpa using hz))).trans (wL hp hf hm)
     exact afZ (P:=P) hfr hop hx' hm'
    .cases h
  .cases h
 .rename_i x name l ts
  split at h
  .rename_i t v hx
   split at h
   .rename_i f' aws
    split at h
    .rename_i m hm
     simp only [Option.some.injEq,Prod.mk.injEq] at h
     obtain ⟨rfl,rfl⟩:=h
     intro w E fr' a o hop hag hfr
     have hx':ev fr' x=some (.mV t (v.den ρ)):=(gG hag (by simp [Op.operands,Call.operands])).trans (iV hp hf hx)
     have hm':YT fr' l.toList=_:=(qh hag (by intro z hz;simp [Op.operands,Call.operands];exact .inr (by simpa using hz))).trans (wL hp hf hm)
     have hv:=fJ hfr hx'
     have hl:=sS hfr hm'
     obtain ⟨u,hu,hval⟩:∃u,Rep w E (v.den ρ) u/\a.eval x=.iface t u:=by
      generalize a.eval x=val at hv
      cases hv with
      |mV _ _ u q=>exact ⟨u,q,rfl⟩
     refine ⟨u::l.toList.map a.eval,iy.cons hu hl,?_⟩
     intro w'
     have e:(#[u]++(#[Value.iface t u]++l.map a.eval).extract 1 (#[Value.iface t u]++l.map a.eval).size)=(u::l.toList.map a.eval).toArray:=by
      apply Array.ext';simp [List.take_of_length_le]
     obtain ⟨n,hn⟩:∃n,P.types.size+Made.depth=n+1:=⟨P.types.size+99,rfl⟩
     have e0:(#[Value.iface t u]++l.map a.eval)[0]?=some (.iface t u):=by rw [Array.getElem?_append_left (by simp)];rfl
     simp only [execOp,hop,resolve,hval,Sem.run_bind,Sem.run_pure,Result.andThen_ok,invoke,e0,callMethod,run_program,hn,af0 aws,e]
    .cases h
   .cases h
  .cases h
 .cases h
def arW (P:Program)(ρ:List AV)(N base:Nat)(w:World)(E:Env)(a:Act)(R:RQ)(a':Act)(w':World):Prop:=
 ∃E' fr' fV,Zg ρ R.tr fr'/\Ig ρ R.th fV/\fr'.length=N/\Step base w E w' E'/\dX base w' E' fV (fun b=>R.nx<=b)/\wZ w' E' fr' a'.tmps/\a'.defers=a.defers
theorem Gw {k:Pc->CO->Nat->Option SQ}(hk:∀pc c nv y,k pc c nv=some y->y.outs≠[]):∀{l:List (Tm×CO)} {pc:Pc} {nv:Nat} {y:SQ},EL k pc l nv=some y->y.outs≠[]
 |[],pc,nv,y,h=>by simp [EL] at h
 |[x],pc,nv,y,h=>hk _ _ _ _ h
 |x::z::r,pc,nv,y,h=>by
  simp only [EL] at h
  split at h
  .cases h
  .split at h
   .cases h
   .rename_i b hb
    simp only [Option.some.injEq] at h;subst h
    have:=Gw hk hb
    simp [this]
theorem PS {k:Pc->CO->Nat->Option SQ}(hk:∀pc c nv y,k pc c nv=some y->y.outs≠[]):∀{l:List (Tm×CO)} {pc:Pc} {nv:Nat} {y:SQ},EL k pc l nv=some y->Pc.holds ρ pc->jD P ρ y.sd->
  ∀c,tJ ρ l=some c->∃pc' vX y',k pc' c vX=some y'/\Pc.holds ρ pc'/\jD P ρ y'.sd/\∀R,tJ ρ y'.outs=some R->tJ ρ y.outs=some R
 |[],pc,nv,y,h,hp,hs,c,hc=>by simp [EL] at h
 |[x],pc,nv,y,h,hp,hs,c,hc=>by
  simp only [tJ,Option.some.injEq] at hc;subst hc
  exact ⟨pc,nv,y,h,hp,hs,fun R h=>h⟩
 |x::z::r,pc,nv,y,h,hp,hs,c,hc=>by
  simp only [EL] at h
  split at h
  .cases h
  .rename_i a ha
   split at h
   .cases h
   .rename_i b hb
    simp only [Option.some.injEq] at h;subst h
    have ayj:=hk _ _ _ _ ha
    have hbne:=Gw hk hb
    have hsel:=PO (ρ:=ρ) (g:=x.1) (l:=a.outs) hbne ayj
    simp only [tJ] at hc
    cases hg:(x.1.den ρ).B
    .rw [hg] at hc hsel
     obtain ⟨pc',vX,y',q1,q2,q3,q4⟩:=PS hk hb (gq hg hp) (fun s hm=>hs s (by simp [hm])) c hc
     exact ⟨pc',vX,y',q1,q2,q3,fun R hR=>by rw [hsel];exact q4 R hR⟩
    .rw [hg] at hc hsel
     simp only [cond_true,Option.some.injEq] at hc;subst hc
     exact ⟨_,_,a,ha,gq hg hp,fun s hm=>hs s (by simp [hm]),fun R hR=>by rw [hsel];exact hR⟩
theorem yP {N:Nat}{ops:Array Oper}:∀{l:List Oper} {pc:Pc} {R:RQ} {nv:Nat} {y:SQ},RG P X inl yB N ops l pc R nv=some y->y.outs≠[]
 |[],pc,R,nv,y,h=>by simp only [RG,Option.some.injEq] at h;subst h;simp
 |o::rest,pc,R,nv,y,h=>by
  unfold RG at h
  cases hd:V8 N o.dst
  .simp [hd] at h
  .simp only [hd,cond_true] at h
   split at h
   .cases h
   .exact yP h
   .split at h
    .split at h
     .cases h
     .split at h
      .cases h
      .rename_i z hz
       simp only [Option.some.injEq] at h;subst h
       exact (Gw (fun _ _ _ _ h=>yP h) hz:z.outs≠[])
    .split at h
     .cases h
     .split at h
      .cases h
      .rename_i z hz
       simp only [Option.some.injEq] at h;subst h
       exact (yP hz:z.outs≠[])
   .split at h
    .split at h
     .split at h
      .cases h
      .split at h
       .cases h
       .split at h
        .cases h
        .rename_i y hy
         split at h
         .cases h
         .rename_i z hz
          simp only [Option.some.injEq] at h;subst h
          have n1:y.outs≠[]:=Gw (fun _ _ _ _ h=>yP h) hy
          have n2:z.outs≠[]:=yP hz
          dsimp only
          rw [Bool.cond_eq_ite]
          split
          .intro e;exact n2 (List.append_eq_nil_iff.1 e).2
          .intro e;exact n1 (List.append_eq_nil_iff.1 e).2
     .cases h
    .rename_i r hr
     cases hE:r.wr.isEmpty
     .simp only [hE,cond_false] at h
      split at h
      .split at h
       .cases h
       .split at h
        .cases h
        .rename_i y hy
         split at h
         .cases h
         .rename_i z hz
          simp only [Option.some.injEq] at h;subst h
          have n1:y.outs≠[]:=yP hy
          have n2:z.outs≠[]:=yP hz
          dsimp only
          rw [Bool.cond_eq_ite]
          split
          .intro e;exact n2 (List.append_eq_nil_iff.1 e).2
          .intro e;exact n1 (List.append_eq_nil_iff.1 e).2
      .cases h
     .simp only [hE,cond_true] at h
      split at h
      .cases h
      .rename_i z hz
       simp only [Option.some.injEq] at h;subst h
       exact (yP hz:z.outs≠[])
theorem EO {N:Nat}{ops:Array Oper}(hρ:iW ρ=true)(hX:o7 P ρ X)(hI:oH P ρ inl){Q:Exit->Act->World->Prop}{base:Nat}:∀(l:List Oper) (i:Nat) {pc:Pc} {R:RQ} {nv:Nat} {S:SQ} (fr:mg) (ah:AH) (w:World) (E:Env) (a:Act),
  RG P X inl yB N ops l pc R nv=some S->Pc.holds ρ pc->jD P ρ S.sd->Zg ρ R.tr fr->Ig ρ R.th ah->fr.length=N->(∀j:Nat,l[j]?=ops[i+j]?)->
  dX base w E ah (fun b=>R.nx<=b)->wZ w E fr a.tmps->(∀R',tJ ρ S.outs=some R'->∀a' w',arW P ρ N base w E a R' a' w'->Q .normal a' w')->wpOps P ops Q (List.range' i l.length) a w
 |[],i,pc,R,nv,S,fr,ah,w,E,a,h,hp,hs,hf,ha,hN,hl,hh,hfr,hQ=>by
  simp only [RG,Option.some.injEq] at h;subst h
  simp only [List.length_nil,List.range'_zero,wpOps]
  exact hQ R rfl a w ⟨E,fr,ah,hf,ha,hN,Step.refl _ _ _,hh,hfr,rfl⟩
 |o::rest,i,pc,R,nv,S,fr,ah,w,E,a,h,hp,hs,hf,ha,hN,hl,hh,hfr,hQ=>by
  have ho:ops[i]?=some o:=by simpa using (hl 0).symm
  simp only [List.length_cons,List.range'_succ]
  rw [wpOps_cons]
  unfold wpOp
  rw [ho]
  dsimp only
  have hl':∀j:Nat,rest[j]?=ops[i+1+j]?:=fun j=>by have:=hl (j+1);simp at this;rw [this];congr 1;omega
  have lift:∀{w1:World} {E1:Env} {a1:Act},Step base w E w1 E1->a1.defers=a.defers->∀R',tJ ρ S.outs=some R'->∀a' w',arW P ρ N base w1 E1 a1 R' a' w'->Q .normal a' w':=by
   intro w1 E1 a1 hst hdf R' hR' a' w' hpost
   obtain ⟨E2,fr2,ah2,q1,q2,q3,q4,q5,q6,q7⟩:=hpost
   exact hQ R' hR' a' w' ⟨E2,fr2,ah2,q1,q2,q3,hst.trans q4,q5,q6,by rw [q7,hdf]⟩
  unfold RG at h
  cases hd:V8 N o.dst
  .simp [hd] at h
  .simp only [hd,cond_true] at h
   split at h
   .cases h
   .rename_i hw
    obtain ⟨wt,hk,hwt⟩:=oG (ops:=ops) hfr (DR hp hf hw (k:=fun b=>When.sem ρ .no b) fun b hb=>hb)
    simp only [When.sem] at hk;subst hk
    rw [if_neg (by rw [hwt];simp)]
    exact EO hρ hX hI rest (i+1) _ _ w E _ h hp hs (yO (e:=⟨[],.c .undef⟩) hf hd hN) ha (by rw [mG,hN]) hl' hh (hfr.put o.dst (.p rfl)) (lift (Step.refl _ _ _) (aDr _ _ _))
   .rename_i hw
    obtain ⟨wt,hk,hwt⟩:=oG (ops:=ops) hfr (DR hp hf hw (k:=fun b=>When.sem ρ .yes b) fun b hb=>hb)
    simp only [When.sem] at hk;subst hk
    rw [if_pos hwt]
    split at h
    .rename_i f args hc
     split at h
     .cases h
     .rename_i C hC
      split at h
      .cases h
      .rename_i y hy
       simp only [Option.some.injEq] at h;subst h
       obtain ⟨vs,hvs,he⟩:=EN (P:=P) hp hf hc w E fr a o rfl (fun _ _=>rfl) hfr
       refine .inl (hI _ _ _ _ _ _ _ hC hp (fun x hx=>hs x (by simp [hx])) base w E ah vs ha hh hfr.Oe hvs o a he _ _ (fun c hc v w' E' fV q1 q2 q3 q4=>?_))
       obtain ⟨pc',vX,y',g1,g2,g3,g4⟩:=PS (P:=P) (fun _ _ _ _ h=>yP h) hy hp (fun x hx=>hs x (by simp [hx])) c hc
       exact EO hρ hX hI rest (i+1) _ _ w' E' _ g1 g2 g3 (yO (e:=⟨[],c.v⟩) hf hd hN) q1 (by rw [mG,hN]) hl' q3 ((hfr.mono q2.ext).put o.dst q4) (fun R' hR'=>lift q2 (aDr _ _ _) R' (g4 R' hR'))
    .split at h
     .cases h
     .rename_i r hr
      split at h
      .cases h
      .rename_i y hy
       simp only [Option.some.injEq] at h;subst h
       have hsd:=IU hs
       refine .inl (aaA (id:=R.nx) (K:=fun r'=>r'=r.den ρ) hh (Nat.le_refl _) hfr (aa3 hρ hX hp hf ha hr (hsd.1 hp) rfl) (fun r' v w' E' hr' hst hh' hv=>?_))
       subst hr'
       exact EO hρ hX hI rest (i+1) _ _ w' E' _ hy hp hsd.2 (yO (e:=⟨[],r.v⟩) hf hd hN) (Rz ha) (by rw [mG,hN]) hl' (hh'.weaken fun b hb=>⟨Nat.le_of_succ_le hb,Nat.ne_of_gt hb⟩) ((hfr.mono hst.ext).put o.dst hv) (lift hst (aDr _ _ _))
   .rename_i l hw
    split at h
    .split at h
     .rename_i t b hno
      split at h
      .cases h
      .rename_i f args hc
       split at h
       .cases h
       .rename_i C hC
        split at h
        .cases h
        .rename_i y hy
         split at h
         .cases h
         .rename_i z hz
          simp only [Option.some.injEq] at h;subst h
          have n1:y.outs≠[]:=Gw (fun _ _ _ _ h=>yP h) hy
          have n2:z.outs≠[]:=yP hz
          obtain ⟨wt,hk,hwt⟩:=oG (ops:=ops) hfr (DR hp hf hw (k:=fun q=>When.sem ρ (.maybe [(t,b)]) q) fun q hq=>hq)
          simp only [When.sem,List.all_cons,List.all_nil,Bool.and_true] at hk
          have hsel:∀R',tJ ρ (bif b then gdA t y.outs++z.outs else gdA t z.outs++y.outs)=some R'↔tJ ρ (bif (t.den ρ).B == b then y.outs else z.outs)=some R':=by
           intro R'
           cases b
           .simp only [cond_false]
            rw [PO n1 n2]
            cases (t.den ρ).B<;>rfl
           .simp only [cond_true]
            rw [PO n2 n1]
            cases (t.den ρ).B<;>rfl
          cases wt with
          |true=>
           rw [if_pos hwt]
           have hB:(t.den ρ).B=b:=by simpa using hk.symm
           have hp1:=gq hB hp
           obtain ⟨vs,hvs,he⟩:=EN (P:=P) hp1 hf hc w E fr a o rfl (fun _ _=>rfl) hfr
           refine .inl (hI _ _ _ _ _ _ _ hC hp1 (fun x hx=>hs x (by simp [hx])) base w E ah vs ha hh hfr.Oe hvs o a he _ _ (fun c hc v w' E' fV q1 q2 q3 q4=>?_))
           obtain ⟨pc',vX,y',g1,g2,g3,g4⟩:=PS (P:=P) (fun _ _ _ _ h=>yP h) hy hp1 (fun x hx=>hs x (by simp [hx])) c hc
           exact EO hρ hX hI rest (i+1) _ _ w' E' _ g1 g2 g3 (yO (e:=⟨[],c.v⟩) hf hd hN) q1 (by rw [mG,hN]) hl' q3 ((hfr.mono q2.ext).put o.dst q4) (fun R' hR'=>lift q2 (aDr _ _ _) R' ((hsel R').2 (by rw [<- hk];exact g4 R' hR')))
          |false=>
           rw [if_neg (by rw [hwt];simp)]
           have hB:(t.den ρ).B=!b:=by cases hb:(t.den ρ).B<;>cases b<;>simp [hb] at hk ⊢
           exact EO hρ hX hI rest (i+1) _ _ w E _ hz (gq hB hp) (fun x hx=>hs x (by simp [hx])) (yO (e:=⟨[],.c .undef⟩) hf hd hN) ha (by rw [mG,hN]) hl' hh (hfr.put o.dst (.p rfl)) (fun R' hR'=>lift (Step.refl _ _ _) (aDr _ _ _) R' ((hsel R').2 (by rw [<- hk];exact hR')))
     .cases h
    .rename_i r hr
     cases hE:r.wr.isEmpty
     .simp only [hE,cond_false] at h
      split at h
      .rename_i t b
       split at h
       .cases h
       .rename_i r hr
        split at h
        .cases h
        .rename_i y hy
         split at h
         .cases h
         .rename_i z hz
          simp only [Option.some.injEq] at h;subst h
          have n1:y.outs≠[]:=yP hy
          have n2:z.outs≠[]:=yP hz
          have hsd:=IU hs
          obtain ⟨wt,hk,hwt⟩:=oG (ops:=ops) hfr (DR hp hf hw (k:=fun q=>When.sem ρ (.maybe [(t,b)]) q) fun q hq=>hq)
          simp only [When.sem,List.all_cons,List.all_nil,Bool.and_true] at hk
          have hsel:∀R',tJ ρ (bif b then gdA t y.outs++z.outs else gdA t z.outs++y.outs)=some R'↔tJ ρ (bif (t.den ρ).B == b then y.outs else z.outs)=some R':=by
           intro R'
           cases b
           .simp only [cond_false]
            rw [PO n1 n2]
            cases (t.den ρ).B<;>rfl
           .simp only [cond_true]
            rw [PO n2 n1]
            cases (t.den ρ).B<;>rfl
          cases wt with
          |true=>
           rw [if_pos hwt]
           have hB:(t.den ρ).B=b:=by simpa using hk.symm
           have hp1:=gq hB hp
           refine .inl (aaA (id:=R.nx) (K:=fun r'=>r'=r.den ρ) hh (Nat.le_refl _) hfr (aa3 hρ hX hp1 hf ha hr (hsd.1 hp1) rfl) (fun r' v w' E' hr' hst hh' hv=>?_))
           subst hr'
           exact EO hρ hX hI rest (i+1) _ _ w' E' _ hy hp1 (fun x hx=>hsd.2 x (by simp [hx])) (yO (e:=⟨[],r.v⟩) hf hd hN) (Rz ha) (by rw [mG,hN]) hl' (hh'.weaken fun b hb=>⟨Nat.le_of_succ_le hb,Nat.ne_of_gt hb⟩) ((hfr.mono hst.ext).put o.dst hv)
            (fun R' hR'=>lift hst (aDr _ _ _) R' ((hsel R').2 (by rw [<- hk];exact hR')))
          |false=>
           rw [if_neg (by rw [hwt];simp)]
           have hB:(t.den ρ).B=!b:=by cases hb:(t.den ρ).B<;>cases b<;>simp [hb] at hk ⊢
           exact EO hρ hX hI rest (i+1) _ _ w E _ hz (gq hB hp) (fun x hx=>hsd.2 x (by simp [hx])) (yO (e:=⟨[],.c .undef⟩) hf hd hN) ha (by rw [mG,hN]) hl' hh (hfr.put o.dst (.p rfl)) (fun R' hR'=>lift (Step.refl _ _ _) (aDr _ _ _) R' ((hsel R').2 (by rw [<- hk];exact hR')))
      .cases h
     .simp only [hE,cond_true] at h
      split at h
      .cases h
      .rename_i y hy
       simp only [Option.some.injEq] at h;subst h
       have hwr:r.wr=[]:=by simpa using hE
       have hsd:=IU hs
       obtain ⟨wt,hk,hwt⟩:=oG (ops:=ops) hfr (DR hp hf hw (k:=fun b=>When.sem ρ (.maybe l) b) fun b hb=>hb)
       simp only [When.sem] at hk
       have hput:=yO (e:=⟨l,r.v⟩) hf hd hN
       cases wt with
       |true=>
        rw [if_pos hwt]
        have hpl:=Pc.IV hk.symm hp
        have e2:(⟨l,r.v⟩:qo).den ρ=r.v.den ρ:=by simp only [qo.den,<- hk];rfl
        rw [e2] at hput
        refine .inl (aaA (id:=R.nx) (K:=fun r'=>r'=r.den ρ) hh (Nat.le_refl _) hfr (aa3 hρ hX hpl hf ha hr (hsd.1 hpl) rfl) (fun r' v w' E' hr' hst hh' hv=>?_))
        subst hr'
        have e3:rP ah (SR.den ρ r).wr=ah:=by simp [SR.den,hwr,rP]
        rw [e3] at hh'
        exact EO hρ hX hI rest (i+1) _ _ w' E' _ hy hp hsd.2 hput ha (by rw [mG];exact hN) hl' (hh'.weaken fun b hb=>⟨Nat.le_of_succ_le hb,Nat.ne_of_gt hb⟩) ((hfr.mono hst.ext).put o.dst hv) (lift hst (aDr _ _ _))
       |false=>
        rw [if_neg (by rw [hwt];simp)]
        have e1:(⟨l,r.v⟩:qo).den ρ=eP:=by simp only [qo.den,<- hk];rfl
        rw [e1] at hput
        exact EO hρ hX hI rest (i+1) _ _ w E _ hy hp hsd.2 hput ha (by rw [mG];exact hN) hl' (hh.weaken fun b hb=>Nat.le_of_succ_le hb) (hfr.put o.dst (.p rfl)) (lift (Step.refl _ _ _) (aDr _ _ _))
structure DV where
 fr:mg
 ah:AH
 rv:AV
 WR:Nat->Bool
 RD:Nat->Bool
 NEW:Nat->Prop
 oO:Nat->Prop
 nx:Nat
 call:Bool
def ams (P:Program)(ops:Array Oper)(base j:Nat)(o:Oper)(r:DV)(ahn:AH):Prop:=
 ∀(JR:mg) (rV:AH) (w:World) (E:Env) (a:Act) (F:Nat->Prop),Oo r.fr JR (o.looksAt ops)->(∀b,r.RD b=true->rV b=r.ah b)->
  dX base w E rV F->(∀b,r.oO b->F b)->wZ w E JR a.tmps->∀(Q:Exit->Act->World->Prop) (K:Act->World->Prop),
   (∀v w' E' yA,(∀b,yA b=if r.WR b=true then ahn b else rV b)->Step base w E w' E'->dX base w' E' yA (fun b=>F b/\¬r.NEW b)->Rep w' E' r.rv v->K (a.put o.dst v) w')->wpOp P ops Q j K a w
def IX {α:Type}(f:DV->α)(L:List DV)(e:α)(k:Nat):α:=match L[k]? with|some r=>f r|none=>e
def amu (r' r:DV):Prop:=(∀b,r'.WR b=true->r.RD b=false/\r.WR b=false)/\∀b,r'.RD b=true->r.WR b=false
def arX (f:KA)(r:DV):Prop:=(∀b∈f.wr,r.RD b=false/\r.WR b=false)/\∀b∈f.rd,r.WR b=false
structure KQ (P:Program)(ops:Array Oper)(base:Nat)(M:List Nat)(i:Nat)(l:List Oper)(L:List DV)(TQ:mg)(TR:AH)(nxE:Nat)(qs:List Nat)(cs:CS)(fs:List KA)(k:Nat)(o:Oper)(r:DV):Prop where
 step:ams P ops base (i+k) o r (IX (·.ah) L TR (k+1))
 fr:IX (·.fr) L TQ (k+1)=zK r.fr o.dst r.rv
 ah:∀b,r.WR b=false->IX (·.ah) L TR (k+1) b=r.ah b
 nx:r.nx<=IX (·.nx) L nxE (k+1)
 req:∀b,r.oO b->r.nx<=b
 new:∀b,r.NEW b->b<IX (·.nx) L nxE (k+1)
 plain:r.call=false->(∀b,r.oO b->b<IX (·.nx) L nxE (k+1))/\∀b,r.NEW b->r.nx<=b
 aAI:r.call=true->∀m∈qs,(M.getD (i+k) 0).testBit m=true
 calls:∀c∈cs,(M.getD (i+k) 0).testBit c.1=true\/((∀b,r.WR b=false)/\(∀b,r.RD b=true->c.2.1 b=true)/\∀b,¬r.NEW b)\/(c.2.2 ()=true/\(∀b,r.WR b=true->r.nx<=b)/\(∀b,r.RD b=true->c.2.1 b=true)/\∀b,r.NEW b->r.nx<=b)
 ccs:r.call=true->∀c∈cs,(M.getD (i+k) 0).testBit c.1=true
 foots:∀f∈fs,(M.getD (i+k) 0).testBit f.i=true\/arX f r
 prev:∀k' r',k' < k->L[k']?=some r'->((M.getD (i+k) 0).testBit (i+k')=true\/amu r' r)/\(r'.call=true->(M.getD (i+k) 0).testBit (i+k')=true\/∀b,r'.oO b->¬r.NEW b)/\(r.call=true->(M.getD (i+k) 0).testBit (i+k')=true\/∀b,¬r'.oO b)
theorem dX.sub {base:Nat}{w:World}{E:Env}{ah oJ:AH}{F:Nat->Prop}(h:dX base w E ah F)(hs:∀b k,oJ b=some k->ah b=some k):dX base w E oJ F:=
 ⟨fun b k hb=>h.blk b k (hs b k hb),fun b b' k k' c o c' o' hne h1 h2=>h.sep b b' k k' c o c' o' hne (hs _ _ h1) (hs _ _ h2),h.fresh,h.kJ,h.bs,h.kL⟩
theorem jL {α:Type}{f:DV->α}{r:DV}{L:List DV}{e:α}{k:Nat}:IX f (r::L) e (k+1)=IX f L e k:=rfl
theorem KQ.cons {P:Program}{ops:Array Oper}{base:Nat}{M:List Nat}{i:Nat}{l:List Oper}{L:List DV}{TQ:mg}{TR:AH}{nxE:Nat}{qs qs':List Nat}{cs cs':CS}{fs fs':List KA}{o:Oper}{r:DV}
  (hl:L.length=l.length) (h0:KQ P ops base M i (o::l) (r::L) TQ TR nxE qs cs fs 0 o r) (ht:∀k o' r',l[k]?=some o'->L[k]?=some r'->KQ P ops base M (i+1) l L TQ TR nxE qs' cs' fs' k o' r')
  (hqs:∀c∈qs,c∈qs') (hq:r.call=false->i∈qs'\/∀b,¬r.oO b) (hcs:∀c∈cs,c∈cs') (hfs:∀f∈fs,f∈fs') (hc:r.call=true->∃S G,(i,S,G)∈cs'/\(∀b,S b=true->r.WR b=false)/\(G ()=true->∀b,(r.WR b=true\/r.RD b=true\/r.oO b)->b<IX (·.nx) L nxE 0)) (hf:r.call=false->(∃f∈fs',f.i=i/\∀r',arX f r'->amu r r')\/∀r',amu r r') :
  ∀k o' r',(o::l)[k]?=some o'->(r::L)[k]?=some r'->KQ P ops base M i (o::l) (r::L) TQ TR nxE qs cs fs k o' r':=by
 intro k o' r' h1 h2
 cases k with
 |zero=>simp at h1 h2;subst h1;subst h2;exact h0
 |succ k=>
  simp at h1 h2
  obtain ⟨q1,q2,q3,q4,q5,q6,q7,q8,q9,qc,q10,q11⟩:=ht k o' r' h1 h2
  have e:i+1+k=i+(k+1):=by omega
  rw [e] at q1 q8 q9 qc q10 q11
  refine ⟨q1,q2,q3,q4,q5,q6,q7,fun hcl m hm=>q8 hcl m (hqs m hm),fun c hm=>q9 c (hcs c hm),fun hcl c hm=>qc hcl c (hcs c hm),fun f hm=>q10 f (hfs f hm),fun k' s hk hs=>?_⟩
  have hnx:∀m,m<=k->IX (·.nx) L nxE 0<=IX (·.nx) L nxE m:=by
   intro m
   induction m with
   |zero=>intro _;exact Nat.le_refl _
   |succ m ih=>
    intro hm
    have h3:=(List.getElem?_eq_some_iff.1 h2).1
    have hm1:m<L.length:=by omega
    have:=(ht m l[m] L[m] (by simp [<- hl,hm1]) (by simp [hm1])).nx
    refine Nat.le_trans (ih (by omega)) ?_
    have e:IX (·.nx) L nxE m=L[m].nx:=by unfold IX;simp [hm1]
    rw [e];exact this
  have aBf:IX (·.nx) L nxE 0<=r'.nx:=by
   have:=hnx k (Nat.le_refl _)
   have e:IX (·.nx) L nxE k=r'.nx:=by unfold IX;rw [h2]
   rwa [e] at this
  cases k' with
  |zero=>
   simp at hs;subst hs
   refine ⟨?_,fun hcall=>?_,fun hcl=>?_⟩
   rotate_left
   .obtain ⟨S,G,hm,hS,hG⟩:=hc hcall
    rcases q9 _ hm with h|⟨-,-,h⟩|⟨h0,-,-,h⟩
    .exact .inl (by simpa using h)
    .exact .inr fun b _=>h b
    .refine .inr fun b hb hn=>?_
     have e1:=hG h0 b (.inr (.inr hb))
     have e2:=h b hn
     omega
   .cases hcall:r.call with
    |true=>
     obtain ⟨S,G,hm,hS,hG⟩:=hc hcall
     exact .inl (by simpa using qc hcl _ hm)
    |false=>
     rcases hq hcall with h|h
     .exact .inl (by simpa using q8 hcl i h)
     .exact .inr h
   cases hcall:r.call with
   |true=>
    obtain ⟨S,G,hm,hS,hG⟩:=hc hcall
    rcases q9 _ hm with h|⟨h1,h2,-⟩|⟨h0,h1,h2,-⟩
    .exact .inl (by simpa using h)
    .refine .inr ⟨fun b hb=>⟨?_,h1 b⟩,fun b _=>h1 b⟩
     cases hd:r'.RD b
     .rfl
     .have:=hS b (h2 b hd);rw [hb] at this;cases this
    .have lo:∀b,(r.WR b=true\/r.RD b=true\/r.oO b)->r'.WR b=false:=fun b hb=>by
      cases hd:r'.WR b
      .rfl
      .have e1:=hG h0 b hb
       have e2:=h1 b hd
       omega
     refine .inr ⟨fun b hb=>⟨?_,lo b (.inl hb)⟩,fun b hb=>lo b (.inr (.inl hb))⟩
     cases hd:r'.RD b
     .rfl
     .have:=hS b (h2 b hd);rw [hb] at this;cases this
   |false=>
    rcases hf hcall with ⟨f,hm,rfl,hff⟩|hff
    .rcases q10 f hm with h|h
     .exact .inl h
     .exact .inr (hff _ h)
    .exact .inr (hff _)
  |succ k'=>
   simp at hs
   have:=q11 k' s (by omega) hs
   have e2:i+1+k'=i+(k'+1):=by omega
   rw [e2] at this
   exact this
theorem Gx {N:Nat}{ops:Array Oper}{M:List Nat}:∀{l:List Oper} {i:Nat} {pc:Pc} {qs:List Nat} {cs:CS} {fs:List KA} {R:RQ} {nv:Nat} {y:SQ},EM P X inl yB N ops M i l pc qs cs fs R nv=some y->y.outs≠[]
 |[],i,pc,qs,cs,fs,R,nv,y,h=>by simp only [EM,Option.some.injEq] at h;subst h;simp
 |o::rest,i,pc,qs,cs,fs,R,nv,y,h=>by
  unfold EM at h
  generalize (V8 N o.dst)=g at h
  cases g
  .cases h
  .simp only [cond_true] at h
   split at h
   .cases h
   .exact Gx h
   .split at h
    .obtain ⟨JX,h⟩:∃JX,(match inl pc JX R.nx nv _ _ with
       |none=>none
       |some C=>bif TN M i cs&&KP M i qs fs JX C.outs then match EL (fun pc c nv=>EM P X inl yB N ops M (i+1) rest pc qs ((i,DU JX C.outs,MI JX R.nx _ C.outs)::cs) fs ⟨PK R.tr o.dst ⟨[],c.v⟩,c.th,Nat.max c.nx R.nx⟩ nv) pc C.outs C.nv with
        |none=>none
        |some y=>some ⟨y.outs,y.nv,C.sd++y.sd⟩
        else none)=some y:=(TP h).elim (fun h=>⟨_,h⟩) (fun h=>⟨_,h⟩)
     split at h
     .cases h
     .generalize (TN _ _ _&&KP _ _ _ _ _ _)=g at h
      cases g
      .cases h
      .simp only [cond_true] at h
       split at h
       .cases h
       .rename_i z hz
        simp only [Option.some.injEq] at h;subst h
        exact (Gw (fun _ _ _ _ h=>Gx h) hz:z.outs≠[])
    .split at h
     .cases h
     .rename_i r hr
      generalize (acU _ _ _ _ _ _ _&&fs.all _)=g at h
      cases g
      .cases h
      .simp only [cond_true] at h
       split at h
       .cases h
       .rename_i z hz
        simp only [Option.some.injEq] at h;subst h
        exact (Gx hz:z.outs≠[])
   .split at h
    .cases h
    .rename_i r hr
     generalize (r.wr.isEmpty&&(acU _ _ _ _ _ _ _&&fs.all _))=g at h
     cases g
     .simp only [cond_false] at h
      split at h
      .split at h
       .cases h
       .rename_i r hr
        generalize (acU _ _ _ _ _ _ _&&fs.all _)=g at h
        cases g
        .cases h
        .simp only [cond_true] at h
         split at h
         .cases h
         .rename_i y hy
          split at h
          .cases h
          .rename_i z hz
           simp only [Option.some.injEq] at h;subst h
           have n1:y.outs≠[]:=Gx hy
           have n2:z.outs≠[]:=Gx hz
           dsimp only
           rw [Bool.cond_eq_ite]
           split
           .intro e;exact n2 (List.append_eq_nil_iff.1 e).2
           .intro e;exact n1 (List.append_eq_nil_iff.1 e).2
      .cases h
     .simp only [cond_true] at h
      split at h
      .cases h
      .rename_i z hz
       simp only [Option.some.injEq] at h;subst h
       exact (Gx hz:z.outs≠[])
theorem amv {M:List Nat}{i:Nat}{l:List Nat}(h:amo M i l=true):∀c∈l,(M.getD i 0).testBit c=true:=by
 unfold amo at h
 rw [List.all_eq_true] at h
 exact h
theorem amw {ah rV:AH}{wr:List (Nat×Option wB)}(b:Nat):rP rV wr b=if decide (b∈wr.map (·.1))=true then rP ah wr b else rV b:=by
 by_cases h:b∈wr.map (·.1)
 .rw [if_pos (by simpa using h)];exact ahu h
 .rw [if_neg (by simpa using h)];exact KC h
theorem amx {ops:Array Oper}{base j:Nat}{o:Oper}(ho:ops[j]?=some o){fr:mg}{ah:AH}{nx:Nat}{RD:Nat->Bool}{v:AV}(hv:v=.p undef)(h:nN ops fr o (fun b=>b=false)) :
  ams P ops base j o ⟨fr,ah,v,fun _=>false,RD,fun b=>Gh o.op=false/\b=nx,fun b=>Gh o.op=false/\b=nx,nx,false⟩ ah:=by
 intro JR rV w E a F hag hrd hh af2 hfr Q K hK
 obtain ⟨wt,hk,hloc⟩:=BA h
 obtain ⟨wt',hk',hw⟩:=oG hfr (hloc JR hag (fun b=>b=wt) rfl)
 subst hk';subst hk
 unfold wpOp
 rw [ho]
 dsimp only
 rw [if_neg (by rw [hw];simp)]
 exact hK undef w E rV (fun b=>by simp) (Step.refl _ _ _) (hh.weaken fun b hb=>hb.1) (by rw [hv];exact .p rfl)
theorem acV {ops:Array Oper}{base j:Nat}{o:Oper}(ho:ops[j]?=some o){fr:mg}{ah:AH}{nx:Nat}{r:sQ}(h:nN ops fr o (fun b=>b=true))(hop:aOp P nx fr ah o.op fun r'=>r'=r) :
  ams P ops base j o ⟨fr,ah,r.v,fun b=>decide (b∈r.wr.map (·.1)),fun b=>decide (b∈r.rd),fun b=>Gh o.op=false/\b=nx,fun b=>Gh o.op=false/\b=nx,nx,false⟩ (rP ah r.wr):=by
 intro JR rV w E a F hag hrd hh af2 hfr Q K hK
 obtain ⟨wt,hk,hloc⟩:=BA h
 obtain ⟨wt',hk',hw⟩:=oG hfr (hloc JR hag (fun b=>b=wt) rfl)
 subst hk';subst hk
 obtain ⟨r',rfl,hl⟩:=apo hop
 unfold wpOp
 rw [ho]
 dsimp only
 rw [if_pos hw]
 cases hpu:Gh o.op with
 |false=>
  refine .inl (aaA (id:=nx) hh (af2 nx ⟨hpu,rfl⟩) hfr (hl JR rV (EG hag) (fun b hb=>hrd b (by simpa using hb))) (fun r2 v w' E' hr hst hh' hv=>?_))
  subst hr
  exact hK v w' E' _ (fun b=>amw b) hst (hh'.weaken fun b hb=>⟨hb.1,fun e=>hb.2 ⟨hpu,e⟩⟩) hv
 |true=>
  refine .inl (aly (id:=nx) hh hfr hpu (hl JR rV (EG hag) (fun b hb=>hrd b (by simpa using hb))) (fun r2 v hr hwr hv=>?_))
  subst hr
  exact hK v w E rV (fun b=>by simp [hwr]) (Step.refl _ _ _) (hh.weaken fun b hb=>hb.1) hv
theorem acW {α:Type}:∀{l:List (Tm×α)} {c:α},tJ ρ l=some c->∃x∈l,x.2=c
 |[],c,h=>by simp [tJ] at h
 |[x],c,h=>by simp only [tJ,Option.some.injEq] at h;exact ⟨x,by simp,h⟩
 |x::y::r,c,h=>by
  simp only [tJ] at h
  cases hg:(x.1.den ρ).B
  .rw [hg] at h
   obtain ⟨z,hz,e⟩:=acW (l:=y::r) h
   exact ⟨z,List.mem_cons_of_mem _ hz,e⟩
  .rw [hg] at h
   simp only [cond_true,Option.some.injEq] at h
   exact ⟨x,by simp,h⟩
theorem ajY {M:List Nat}{i:Nat}{qs:List Nat}{fs:List KA}{th:Tr SB}{outs:List (Tm×CO)}(h:KP M i qs fs th outs=true) :
  (∀q∈qs,(M.getD i 0).testBit q=true)/\(∀f∈fs,(M.getD i 0).testBit f.i=true\/(f.wr=[]/\∀b∈f.rd,DU th outs b=true)):=by
 unfold KP at h
 simp only [Bool.and_eq_true,List.all_eq_true] at h
 obtain ⟨h1,h2⟩:=h
 refine ⟨amv h1,fun f hf=>?_⟩
 cases hbit:(M.getD i 0).testBit f.i with
 |true=>exact .inl rfl
 |false=>
  have:=h2 f hf
  simp only [hbit,Bool.false_or,Bool.and_eq_true,List.isEmpty_iff,List.all_eq_true] at this
  exact .inr this
theorem acX {th:Tr SB}{outs:List (Tm×CO)}{b:Nat}(h:DU th outs b=true){x:Tm×CO}(hx:x∈outs):∃k,x.2.th.get b=some k/\th.get b=some k:=by
 unfold DU at h
 rw [List.all_eq_true] at h
 exact amr (h x hx)
theorem amy {M:List Nat}{i:Nat}{cs:CS}(h:TN M i cs=true):∀c∈cs,(M.getD i 0).testBit c.1=true:=by
 unfold TN at h
 rw [List.all_eq_true] at h
 exact h
theorem ahQ {M:List Nat}{i own:Nat}{pu:Bool}{rd wr:List Nat}{cs:CS}(h:acU M i pu own rd wr cs=true):∀c∈cs,(M.getD i 0).testBit c.1=true\/((∀b∈rd,c.2.1 b=true)/\((pu=true/\wr=[])\/((∀b∈wr,own=b)/\c.2.2 ()=true))):=by
 unfold acU at h
 rw [List.all_eq_true] at h
 intro c hc
 cases hbit:(M.getD i 0).testBit c.1 with
 |true=>exact .inl rfl
 |false=>
  have:=h c hc
  simp only [hbit,Bool.false_or,Bool.and_eq_true,Bool.or_eq_true,List.isEmpty_iff,List.all_eq_true] at this
  exact .inr ⟨this.1,this.2.imp id fun h=>⟨fun b hb=>Nat.eq_of_beq_eq_true (h.1 b hb),h.2⟩⟩
theorem apO {i:Nat}{op:Op}{qs:List Nat}(h:Gh op=false):i∈afY i op qs:=by unfold afY;rw [h];exact List.mem_cons_self
theorem acY {i:Nat}{op:Op}{qs:List Nat}:∀c∈qs,c∈afY i op qs:=fun c hc=>by
 unfold afY
 cases Gh op
 .exact List.mem_cons_of_mem _ hc
 .exact hc
theorem ahR {i:Nat}{op:Op}{qs:List Nat}{nx:Nat}:i∈afY i op qs\/∀b,¬(Gh op=false/\b=nx):=by
 cases h:Gh op with
 |false=>exact .inl (apO h)
 |true=>exact .inr fun b hb=>by cases hb.1
def DOk (P:Program)(ρ:List AV)(N:Nat)(ops:Array Oper)(M:List Nat)(base i:Nat)(l:List Oper)(qs:List Nat)(cs:CS)(fs:List KA)(nx:Nat)(outs:List (Tm×RQ))(fr:mg)(ah:AH):Prop:=
 ∃(R':RQ) (L:List DV) (TQ:mg) (TR:AH),tJ ρ outs=some R'/\L.length=l.length/\Zg ρ R'.tr TQ/\Ig ρ R'.th TR/\TQ.length=N/\IX (·.fr) L TQ 0=fr/\IX (·.ah) L TR 0=ah/\IX (·.nx) L R'.nx 0=nx/\
  ∀k o r,l[k]?=some o->L[k]?=some r->KQ P ops base M i l L TQ TR R'.nx qs cs fs k o r
theorem axP {N:Nat}{ops:Array Oper}{M:List Nat}{base i:Nat}{o:Oper}{rest:List Oper}{qs:List Nat}{cs:CS}{fs:List KA}{nx:Nat}{outs:List (Tm×RQ)}{fr:mg}{ah:AH}(ho:ops[i]?=some o)(hwt:nN ops fr o (fun b=>b=false))
  (h:DOk P ρ N ops M base (i+1) rest qs cs fs nx outs (zK fr o.dst (.p undef)) ah):DOk P ρ N ops M base i (o::rest) qs cs fs nx outs fr ah:=by
 obtain ⟨R',L,TQ,TR,q1,q2,q3,q4,q5,q6,q7,q8,q9⟩:=h
 refine ⟨R',⟨fr,ah,.p undef,fun _=>false,fun _=>false,fun _=>False,fun _=>False,nx,false⟩::L,TQ,TR,q1,by simp [q2],q3,q4,q5,rfl,rfl,rfl,?_⟩
 refine KQ.cons q2 ⟨?_,?_,?_,?_,?_,?_,?_,?_,?_,?_,?_,?_⟩ q9 (fun _ h=>h) (fun _=>.inr fun b h=>h) (fun _ h=>h) (fun _ h=>h) (fun h=>by cases h) (fun _=>.inr fun r'=>⟨fun b h=>(by cases h),fun b h=>(by cases h)⟩)
 .rw [jL,q7]
  intro JR rV w E a F hag hrd hh af2 hfr Q K hK
  obtain ⟨wt,hk,hloc⟩:=BA hwt
  obtain ⟨wt',hk',hw⟩:=oG hfr (hloc JR hag (fun b=>b=wt) rfl)
  subst hk';subst hk
  unfold wpOp
  rw [show ops[i+0]?=some o from ho]
  dsimp only
  rw [if_neg (by rw [hw];simp)]
  exact hK undef w E rV (fun b=>by simp) (Step.refl _ _ _) (hh.weaken fun b hb=>hb.1) (.p rfl)
 .rw [jL,q6];try rfl
 .intro b _;rw [jL,q7]
 .rw [jL,q8];exact Nat.le_refl _
 .intro b h;exact h.elim
 .intro b h;exact h.elim
 .intro _;exact ⟨fun b h=>h.elim,fun b h=>h.elim⟩
 .intro h;cases h
 .intro c _;exact .inr (.inl ⟨fun _=>rfl,fun b hb=>(by cases hb),fun b hb=>hb⟩)
 .intro h;cases h
 .intro f _;exact .inr ⟨fun b _=>⟨rfl,rfl⟩,fun b _=>rfl⟩
 .intro k' r' hk;omega
theorem axQ {N:Nat}{ops:Array Oper}{M:List Nat}{base i:Nat}{o:Oper}{rest:List Oper}{qs:List Nat}{cs:CS}{fs:List KA}{R:RQ}{outs:List (Tm×RQ)}{fr:mg}{ah:AH}{r:SR}(ho:ops[i]?=some o)(hwt:nN ops fr o (fun b=>b=true))
  (hop:aOp P R.nx fr ah o.op (fun r'=>r'=r.den ρ)) (hcs0:acU M i (Gh o.op) R.nx r.rd (r.wr.map (·.1)) cs=true) (hap:fs.all (fun f=>aDT M i r.rd (r.wr.map (·.1)) f)=true)
  (h:DOk P ρ N ops M base (i+1) rest (afY i o.op qs) cs (ajU fs i r.rd (r.wr.map (·.1))) (R.nx+1) outs (zK fr o.dst (r.v.den ρ)) (rP ah (r.den ρ).wr)):DOk P ρ N ops M base i (o::rest) qs cs fs R.nx outs fr ah:=by
 have hcs:=ahQ hcs0
 have ajZ:(r.den ρ).wr.map (·.1)=r.wr.map (·.1):=by simp [SR.den]
 have amz:(r.den ρ).rd=r.rd:=rfl
 obtain ⟨R',L,TQ,TR,q1,q2,q3,q4,q5,q6,q7,q8,q9⟩:=h
 refine ⟨R',⟨fr,ah,(r.den ρ).v,fun b=>decide (b∈(r.den ρ).wr.map (·.1)),fun b=>decide (b∈(r.den ρ).rd),fun b=>Gh o.op=false/\b=R.nx,fun b=>Gh o.op=false/\b=R.nx,R.nx,false⟩::L,TQ,TR,q1,by simp [q2],q3,q4,q5,rfl,rfl,rfl,?_⟩
 refine KQ.cons q2 ⟨?_,?_,?_,?_,?_,?_,?_,?_,?_,?_,?_,?_⟩ q9 acY (fun _=>ahR) (fun _ h=>h) (fun f hm=>?_) (fun h=>by cases h) (fun _=>?_)
 .rw [jL,q7]
  exact acV (show ops[i+0]?=some o from ho) hwt hop
 .rw [jL,q6];try rfl
 .intro b hb;rw [jL,q7]
  have hb':b∉(r.den ρ).wr.map (·.1):=by simpa using hb
  exact KC hb'
 .rw [jL,q8];exact Nat.le_succ _
 .intro b h;exact Nat.le_of_eq h.2.symm
 .intro b h;rw [jL,q8,h.2];exact Nat.lt_succ_self _
 .intro _;exact ⟨fun b h=>by rw [jL,q8,h.2];exact Nat.lt_succ_self _,fun b h=>Nat.le_of_eq h.2.symm⟩
 .intro h;cases h
 .intro c hc
  rcases hcs c hc with h|⟨h3,⟨h1,h2⟩|⟨h1,h2⟩⟩
  .exact .inl h
  .refine .inr (.inl ⟨fun b=>?_,fun b hb=>?_,fun b hb=>?_⟩)
   .simp only [ajZ,h2];simp
   .exact h3 b (by simpa [amz] using hb)
   .rw [h1] at hb;cases hb.1
  .refine .inr (.inr ⟨h2,fun b hb=>?_,fun b hb=>?_,fun b hb=>Nat.le_of_eq hb.2.symm⟩)
   .simp only [ajZ,decide_eq_true_eq] at hb
    exact Nat.le_of_eq (h1 b hb)
   .exact h3 b (by simpa [amz] using hb)
 .intro h;cases h
 .intro f hm
  rcases Zv (List.all_eq_true.1 hap f hm) with h|⟨h1,h2⟩
  .exact .inl (by simpa using h)
  .refine .inr ⟨fun b hb=>?_,fun b hb=>?_⟩
   .have:=h1 b hb
    rw [ajZ,amz]
    exact ⟨by simpa using this.1,by simpa using this.2⟩
   .have:=h2 b hb
    simp only [ajZ]
    simpa using this
 .intro k' r' hk;omega
 .unfold ajU
  cases (r.rd.isEmpty&&(r.wr.map (·.1)).isEmpty)
  .exact List.mem_cons_of_mem _ hm
  .exact hm
 .cases hE:(r.rd.isEmpty&&(r.wr.map (·.1)).isEmpty)
  .refine .inl ⟨⟨i,r.rd,r.wr.map (·.1)⟩,by unfold ajU;rw [hE];simp,rfl,fun r' h=>⟨fun b hb=>h.1 b ?_,fun b hb=>h.2 b ?_⟩⟩
   .rw [ajZ] at hb;simpa using hb
   .rw [amz] at hb;simpa using hb
  .simp only [Bool.and_eq_true,List.isEmpty_iff] at hE
   refine .inr fun r'=>⟨fun b hb=>?_,fun b hb=>?_⟩
   .simp only [ajZ,hE.2] at hb;simp at hb
   .simp only [amz,hE.1] at hb;simp at hb
theorem Gy {N:Nat}{ops:Array Oper}{M:List Nat}{base:Nat}(hρ:iW ρ=true)(hX:o7 P ρ X)(hI:oH P ρ inl):∀(l:List Oper) (i:Nat) {pc:Pc} {qs:List Nat} {cs:CS} {fs:List KA} {R:RQ} {nv:Nat} {S:SQ} (fr:mg) (ah:AH),
  EM P X inl yB N ops M i l pc qs cs fs R nv=some S->Pc.holds ρ pc->jD P ρ S.sd->Zg ρ R.tr fr->Ig ρ R.th ah->fr.length=N->(∀j:Nat,l[j]?=ops[i+j]?)->
  ∃(R':RQ) (L:List DV) (TQ:mg) (TR:AH),tJ ρ S.outs=some R'/\L.length=l.length/\Zg ρ R'.tr TQ/\Ig ρ R'.th TR/\TQ.length=N/\IX (·.fr) L TQ 0=fr/\IX (·.ah) L TR 0=ah/\IX (·.nx) L R'.nx 0=R.nx/\
   ∀k o r,l[k]?=some o->L[k]?=some r->KQ P ops base M i l L TQ TR R'.nx qs cs fs k o r
 |[],i,pc,qs,cs,fs,R,nv,S,fr,ah,h,hp,hs,hf,ha,hN,hl=>by
  simp only [EM,Option.some.injEq] at h;subst h
  exact ⟨R,[],fr,ah,rfl,rfl,hf,ha,hN,rfl,rfl,rfl,fun k o r h=>by simp at h⟩
 |o::rest,i,pc,qs,cs,fs,R,nv,S,fr,ah,h,hp,hs,hf,ha,hN,hl=>by
  have ho:ops[i]?=some o:=by simpa using (hl 0).symm
  have hl':∀j:Nat,rest[j]?=ops[i+1+j]?:=fun j=>by have:=hl (j+1);simp at this;rw [this];congr 1;omega
  unfold EM at h
  cases hd:V8 N o.dst
  .simp [hd] at h
  .simp only [hd,cond_true] at h
   split at h
   .cases h
   .rename_i hw
    have hwt:nN ops fr o (fun b=>b=false):=DR hp hf hw fun b hb=>hb
    have ih:=Gy hρ hX hI rest (i+1) (base:=base) _ _ h hp hs (yO (e:=⟨[],.c .undef⟩) hf hd hN) ha (by rw [mG,hN]) hl'
    exact axP ho hwt ih
   .rename_i hw
    have hwt:nN ops fr o (fun b=>b=true):=DR hp hf hw fun b hb=>hb
    split at h
    .rename_i f args hc
     obtain ⟨JX,ha0,h⟩:∃JX,Ig ρ JX ah/\(match inl pc JX R.nx nv f args with
       |none=>none
       |some C=>bif TN M i cs&&KP M i qs fs JX C.outs then match EL (fun pc c nv=>EM P X inl yB N ops M (i+1) rest pc qs ((i,DU JX C.outs,MI JX R.nx args C.outs)::cs) fs ⟨PK R.tr o.dst ⟨[],c.v⟩,c.th,Nat.max c.nx R.nx⟩ nv) pc C.outs C.nv with
        |none=>none
        |some y=>some ⟨y.outs,y.nv,C.sd++y.sd⟩
        else none)=some S:=(TP h).elim (fun h=>⟨R.th,ha,h⟩) (fun h=>⟨aa6 R.nx 4 R.th,fun b k hk=>ha b k (Wh hk),h⟩)
     clear ha
     have ha:=ha0
     split at h
     .cases h
     .rename_i C hC
      cases hb:TN M i cs&&KP M i qs fs JX C.outs
      .simp [hb] at h
      .simp only [hb,cond_true] at h
       simp only [Bool.and_eq_true] at hb
       have hcs:=amy hb.1
       obtain ⟨hq1,hq2⟩:=ajY hb.2
       split at h
       .cases h
       .rename_i y hy
        simp only [Option.some.injEq] at h;subst h
        have aym:∃c,tJ ρ C.outs=some c:=by
         refine ahP ?_
         intro e;rw [e] at hy;simp [EL] at hy
        obtain ⟨c,hc0⟩:=aym
        obtain ⟨xc,hxc,exc⟩:=acW hc0
        have hsame:∀b,DU JX C.outs b=true->iQ ρ c.th b=ah b:=fun b hb=>by
         obtain ⟨k,k1,k2⟩:=acX hb hxc
         rw [exc] at k1
         rw [ha b k k2]
         unfold iQ
         rw [k1];rfl
        obtain ⟨pc',vX,y',g1,g2,g3,g4⟩:=PS (P:=P) (fun _ _ _ _ h=>Gx h) hy hp (fun x hx=>hs x (by simp [hx])) c hc0
        cases hfm:MI JX R.nx args C.outs ()
        case false=>
         obtain ⟨R',L,TQ,TR,q1,q2,q3,q4,q5,q6,q7,q8,q9⟩:=Gy hρ hX hI rest (i+1) (base:=base) (zK fr o.dst (c.v.den ρ)) (iQ ρ c.th) g1 g2 g3 (yO (e:=⟨[],c.v⟩) hf hd hN) (fun b k hk=>by unfold iQ;rw [hk];rfl) (by rw [mG,hN]) hl'
         refine ⟨R',⟨fr,ah,c.v.den ρ,fun b=>!DU JX C.outs b,fun _=>true,fun b=>b<Nat.max c.nx R.nx,fun b=>R.nx<=b,R.nx,true⟩::L,TQ,TR,g4 _ q1,by simp [q2],q3,q4,q5,rfl,rfl,rfl,?_⟩
         refine KQ.cons q2 ⟨?_,?_,?_,?_,?_,?_,?_,?_,?_,?_,?_,?_⟩ q9 (fun _ h=>h) (fun h=>by cases h) (fun _ h=>List.mem_cons_of_mem _ h) (fun _ h=>h) (fun _=>⟨_,_,List.mem_cons_self,fun b hb=>by simp [hb],fun hg=>by rw [hfm] at hg;cases hg⟩) (fun h=>by cases h)
         .rw [jL,q7]
          intro JR rV w E a F hag hrd hh af2 hfr Q K hK
          obtain ⟨wt,hk,hloc⟩:=BA hwt
          obtain ⟨wt',hk',hw⟩:=oG hfr (hloc JR hag (fun b=>b=wt) rfl)
          subst hk';subst hk
          have e0:rV=ah:=funext fun b=>hrd b rfl
          subst e0
          obtain ⟨vs,hvs,he⟩:=EN hp hf hc w E JR a o rfl (EG hag) hfr
          unfold wpOp
          rw [show ops[i+0]?=some o from ho]
          dsimp only
          rw [if_pos hw]
          refine .inl (hI _ _ _ _ _ _ _ hC hp (fun x hx=>hs x (by simp [hx])) base w E _ vs ha (hh.weaken af2) hfr.Oe hvs o a he _ _ (fun c' hc' v w' E' fV r1 r2 r3 r4=>?_))
          rw [hc0] at hc'
          cases hc'
          refine hK v w' E' (iQ ρ c.th) (fun b=>?_) r2 ((r3.sub (oJ:=iQ ρ c.th) (fun b k hk=>?_)).weaken fun b hb=>?_) r4
          .cases hbu:DU JX C.outs b
           .simp [hbu]
           .simp [hbu,hsame b hbu]
          .unfold iQ at hk
           simp only [Option.map_eq_some_iff] at hk
           obtain ⟨z,hz,rfl⟩:=hk
           exact r1 b z hz
          .have:=hb.2
           have h2:Nat.max c.nx R.nx<=b:=Nat.le_of_not_lt this
           exact Nat.le_trans (Nat.le_max_left _ _) h2
         .rw [jL,q6]
         .intro b hb
          rw [jL,q7]
          exact hsame b (by simpa using hb)
         .rw [jL,q8];exact Nat.le_max_right _ _
         .intro b h;exact h
         .intro b h;rw [jL,q8];exact h
         .intro h;cases h
         .intro _ m hm;exact hq1 m hm
         .exact fun c hc=>.inl (hcs c hc)
         .exact fun _ c hc=>hcs c hc
         .intro f hm
          rcases hq2 f hm with h|⟨h1,h2⟩
          .exact .inl h
          .exact .inr ⟨fun b hb=>(by rw [h1] at hb;cases hb),fun b hb=>by simpa using h2 b hb⟩
         .intro k' r' hk;omega
        case true=>
         have hfm0:=hfm
         unfold MI at hfm0
         simp only [Bool.and_eq_true,List.all_eq_true] at hfm0
         obtain ⟨f1,f2,f3⟩:=afU hρ hfm0.1
         have hfx:=hfm0.2 xc hxc
         rw [exc] at hfx
         obtain ⟨f4,f5,f6⟩:=afV hρ hfx
         have awt:∀b k,iQ ρ JX b=some k->ah b=some k:=fun b k hk=>by
          obtain ⟨z,hz,rfl⟩:=Aq hk
          exact ha b z hz
         have at7:∀b,DU JX C.outs b=true->b<R.nx:=fun b hb=>by
          obtain ⟨k,k1,k2⟩:=acX hb hxc
          exact f1 b (k.den ρ) (by unfold iQ;rw [k2];rfl)
         obtain ⟨R',L,TQ,TR,q1,q2,q3,q4,q5,q6,q7,q8,q9⟩:=Gy hρ hX hI rest (i+1) (base:=base) (zK fr o.dst (c.v.den ρ)) (fun b=>if c.nx<=b then ah b else iQ ρ c.th b) g1 g2 g3 (yO (e:=⟨[],c.v⟩) hf hd hN) (fun b k hk=>by
          have h1:iQ ρ c.th b=some (k.den ρ):=by unfold iQ;rw [hk];rfl
          have h2:=(f5 b _ h1).1
          show (if c.nx<=b then ah b else iQ ρ c.th b)=_
          rw [if_neg (by omega)];exact h1) (by rw [mG,hN]) hl'
         refine ⟨R',⟨fr,ah,c.v.den ρ,fun b=>!DU JX C.outs b&&decide (b<c.nx),fun b=>decide (b<R.nx),fun b=>R.nx<=b/\b<c.nx,fun b=>R.nx<=b/\b<c.nx,R.nx,true⟩::L,TQ,TR,g4 _ q1,by simp [q2],q3,q4,q5,rfl,rfl,rfl,?_⟩
         have hnext:c.nx<=IX (·.nx) L R'.nx 0:=by rw [q8];exact Nat.le_max_left _ _
         refine KQ.cons q2 ⟨?_,?_,?_,?_,?_,?_,?_,?_,?_,?_,?_,?_⟩ q9 (fun _ h=>h) (fun h=>by cases h) (fun _ h=>List.mem_cons_of_mem _ h) (fun _ h=>h) (fun _=>⟨_,_,List.mem_cons_self,fun b hb=>by simp [hb],fun _ b hb=>?_⟩) (fun h=>by cases h)
         rotate_right
         .rcases hb with hb|hb|hb
          .simp only [Bool.and_eq_true,decide_eq_true_eq] at hb;omega
          .simp only [decide_eq_true_eq] at hb;omega
          .have:=hb.2;omega
         .rw [jL,q7]
          intro JR rV w E a F hag hrd hh af2 hfr Q K hK
          obtain ⟨wt,hk,hloc⟩:=BA hwt
          obtain ⟨wt',hk',hw⟩:=oG hfr (hloc JR hag (fun b=>b=wt) rfl)
          subst hk';subst hk
          obtain ⟨vs,hvs,he⟩:=EN hp hf hc w E JR a o rfl (EG hag) hfr
          unfold wpOp
          rw [show ops[i+0]?=some o from ho]
          dsimp only
          rw [if_pos hw]
          have hsub:∀b k,iQ ρ JX b=some k->rV b=some k:=fun b k hk=>by
           rw [hrd b (by simpa using f1 b k hk)];exact awt b k hk
          have hvs':iy w (E.part (iQ ρ JX)) (dU ρ args) vs:=
           ⟨hvs.1,fun i a v h1 h2=>V9 (hvs.2 i a v h1 h2) fun x hx=>f3 x (jB i a h1 hx)⟩
          refine .inl (hI _ _ _ _ _ _ _ hC hp (fun x hx=>hs x (by simp [hx])) base w (E.part (iQ ρ JX)) (iQ ρ JX) vs (fun b k hk=>by unfold iQ;rw [hk];rfl) (RF hh hsub f1 f2) hfr.Oe hvs' o a he _ _ (fun c' hc' v w' E' fV r1 r2 r3 r4=>?_))
          rw [hc0] at hc'
          cases hc'
          obtain ⟨u1,u2,u3⟩:=ajT hh hsub f1 f4 (fun b h1 h2=>af2 b ⟨h1,h2⟩) r2 (r3.sub (oJ:=iQ ρ c.th) (fun b k hk=>by
           obtain ⟨z,hz,rfl⟩:=Aq hk
           exact r1 b z hz)) f5 (yA:=fun b=>if c.nx<=b then rV b else iQ ρ c.th b) (fun b=>rfl)
          refine hK v w' _ _ (fun b=>?_) u1 u2 (u3 _ _ r4 f6)
          dsimp only
          by_cases hle:c.nx<=b
          .rw [if_pos hle,if_neg (by simp;omega)]
          .rw [if_neg hle]
           rcases Bool.eq_false_or_eq_true (DU JX C.outs b) with hbu|hbu
           .rw [if_neg (by simp [hbu]),hsame b hbu,hrd b (by simpa using at7 b hbu)]
           .rw [if_pos (by simp [hbu,show b<c.nx by omega]),if_neg hle]
         .rw [jL,q6]
         .intro b hb
          rw [jL,q7]
          dsimp only
          by_cases hle:c.nx<=b
          .rw [if_pos hle]
          .rw [if_neg hle]
           refine hsame b ?_
           cases hbu:DU JX C.outs b
           .simp [hbu,show b<c.nx by omega] at hb
           .rfl
         .rw [jL,q8];exact Nat.le_max_right _ _
         .intro b h;exact h.1
         .intro b h;rw [jL];exact Nat.lt_of_lt_of_le h.2 hnext
         .intro h;cases h
         .intro _ m hm;exact hq1 m hm
         .exact fun c hc=>.inl (hcs c hc)
         .exact fun _ c hc=>hcs c hc
         .intro f hm
          rcases hq2 f hm with h|⟨h1,h2⟩
          .exact .inl h
          .exact .inr ⟨fun b hb=>(by rw [h1] at hb;cases hb),fun b hb=>by simp [h2 b hb]⟩
         .intro k' r' hk;omega
    .split at h
     .cases h
     .rename_i r hr
      cases hap:acU M i (Gh o.op) R.nx r.rd (r.wr.map (·.1)) cs&&fs.all (fun f=>aDT M i r.rd (r.wr.map (·.1)) f)
      .simp [hap] at h
      .simp only [hap,cond_true] at h
       simp only [Bool.and_eq_true] at hap
       obtain ⟨hcs,hap⟩:=hap
       split at h
       .cases h
       .rename_i y hy
        simp only [Option.some.injEq] at h;subst h
        have hsd:=IU hs
        have hop:=aa3 hρ hX hp hf ha hr (hsd.1 hp) (K:=fun r'=>r'=r.den ρ) rfl
        have ih:=Gy hρ hX hI rest (i+1) (base:=base) _ _ hy hp hsd.2 (yO (e:=⟨[],r.v⟩) hf hd hN) (Rz ha) (by rw [mG,hN]) hl'
        exact axQ ho hwt hop hcs hap ih
   .rename_i l hw
    split at h
    .cases h
    .rename_i r hr
     cases hap:r.wr.isEmpty&&(acU M i (Gh o.op) R.nx r.rd [] cs&&fs.all (fun f=>aDT M i r.rd (r.wr.map (·.1)) f))
     .simp only [hap,cond_false] at h
      clear hap
      split at h
      .rename_i t b
       split at h
       .cases h
       .clear hr r
        rename_i r hr
        cases hap:acU M i (Gh o.op) R.nx r.rd (r.wr.map (·.1)) cs&&fs.all (fun f=>aDT M i r.rd (r.wr.map (·.1)) f)
        .simp [hap] at h
        .simp only [hap,cond_true] at h
         simp only [Bool.and_eq_true] at hap
         split at h
         .cases h
         .rename_i y hy
          split at h
          .cases h
          .rename_i z hz
           simp only [Option.some.injEq] at h;subst h
           have n1:y.outs≠[]:=Gx hy
           have n2:z.outs≠[]:=Gx hz
           have hsd:=IU hs
           have hwt:nN ops fr o (fun q=>q=((t.den ρ).B == b)):=DR hp hf hw fun q hq=>by simpa [When.sem] using hq
           have hsel:∀R',tJ ρ (bif b then gdA t y.outs++z.outs else gdA t z.outs++y.outs)=some R'↔tJ ρ (bif (t.den ρ).B == b then y.outs else z.outs)=some R':=by
            intro R'
            cases b
            .simp only [cond_false]
             rw [PO n1 n2]
             cases (t.den ρ).B<;>rfl
            .simp only [cond_true]
             rw [PO n2 n1]
             cases (t.den ρ).B<;>rfl
           cases hB:((t.den ρ).B == b) with
           |true=>
            rw [hB] at hwt hsel
            have hp1:=gq (by simpa using hB) hp
            have ih:=Gy hρ hX hI rest (i+1) (base:=base) _ _ hy hp1 (fun x hx=>hsd.2 x (by simp [hx])) (yO (e:=⟨[],r.v⟩) hf hd hN) (Rz ha) (by rw [mG,hN]) hl'
            obtain ⟨R',L,TQ,TR,q1,q2⟩:=axQ ho hwt (aa3 hρ hX hp1 hf ha hr (hsd.1 hp1) (K:=fun r'=>r'=r.den ρ) rfl) hap.1 hap.2 ih
            exact ⟨R',L,TQ,TR,(hsel R').2 q1,q2⟩
           |false=>
            rw [hB] at hwt hsel
            have hB2:(t.den ρ).B=!b:=by cases hb:(t.den ρ).B<;>cases b<;>simp [hb] at hB ⊢
            have ih:=Gy hρ hX hI rest (i+1) (base:=base) _ _ hz (gq hB2 hp) (fun x hx=>hsd.2 x (by simp [hx])) (yO (e:=⟨[],.c .undef⟩) hf hd hN) ha (by rw [mG,hN]) hl'
            obtain ⟨R',L,TQ,TR,q1,q2⟩:=axP ho hwt ih
            exact ⟨R',L,TQ,TR,(hsel R').2 q1,q2⟩
      .cases h
     .simp only [hap,cond_true] at h
      simp only [Bool.and_eq_true] at hap
      obtain ⟨hE,hcs,hap⟩:=hap
      have hcs:=ahQ hcs
      have hwr:r.wr=[]:=by simpa using hE
      split at h
      .cases h
      .rename_i y hy
       simp only [Option.some.injEq] at h;subst h
       have hsd:=IU hs
       have hwt:nN ops fr o (fun b=>b=l.all (fun x=>(x.1.den ρ).B == x.2)):=DR hp hf hw fun b hb=>hb
       have hput:=yO (e:=⟨l,r.v⟩) hf hd hN
       obtain ⟨R',L,TQ,TR,q1,q2,q3,q4,q5,q6,q7,q8,q9⟩:=Gy hρ hX hI rest (i+1) (base:=base) _ ah hy hp hsd.2 hput ha (by rw [mG,hN]) hl'
       refine ⟨R',⟨fr,ah,(⟨l,r.v⟩:qo).den ρ,fun _=>false,fun b=>decide (b∈r.rd),fun b=>Gh o.op=false/\b=R.nx,fun b=>Gh o.op=false/\b=R.nx,R.nx,false⟩::L,TQ,TR,q1,by simp [q2],q3,q4,q5,rfl,rfl,rfl,?_⟩
       refine KQ.cons q2 ⟨?_,?_,?_,?_,?_,?_,?_,?_,?_,?_,?_,?_⟩ q9 acY (fun _=>ahR) (fun _ h=>h) (fun f hm=>?_) (fun h=>by cases h) (fun _=>?_)
       .rw [jL,q7]
        cases hb:l.all (fun x=>(x.1.den ρ).B == x.2)
        .rw [hb] at hwt
         exact amx (show ops[i+0]?=some o from ho) (by simp only [qo.den,hb];rfl) hwt
        .rw [hb] at hwt
         have hpl:=Pc.IV hb hp
         have hop:=aa3 hρ hX hpl hf ha hr (hsd.1 hpl) (K:=fun r'=>r'=r.den ρ) rfl
         have:=acV (base:=base) (show ops[i+0]?=some o from ho) hwt hop
         have e1:(r.den ρ).wr=[]:=by simp [SR.den,hwr]
         have e2:(⟨l,r.v⟩:qo).den ρ=(r.den ρ).v:=by simp only [qo.den,hb];rfl
         rw [e2]
         rw [e1] at this
         have e3:(r.den ρ).rd=r.rd:=rfl
         rw [e3] at this
         simpa [rP] using this
       .rw [jL,q6]
       .intro b hb;rw [jL,q7]
       .rw [jL,q8];exact Nat.le_succ _
       .intro b h;exact Nat.le_of_eq h.2.symm
       .intro b h;rw [jL,q8,h.2];exact Nat.lt_succ_self _
       .intro _;exact ⟨fun b h=>by rw [jL,q8,h.2];exact Nat.lt_succ_self _,fun b h=>Nat.le_of_eq h.2.symm⟩
       .intro h;cases h
       .intro c hc
        rcases hcs c hc with h|⟨h3,⟨h1,-⟩|⟨-,h2⟩⟩
        .exact .inl h
        .exact .inr (.inl ⟨fun b=>rfl,fun b hb=>h3 b (by simpa using hb),fun b hb=>by rw [h1] at hb;cases hb.1⟩)
        .exact .inr (.inr ⟨h2,fun b hb=>(by cases hb),fun b hb=>h3 b (by simpa using hb),fun b hb=>Nat.le_of_eq hb.2.symm⟩)
       .intro h;cases h
       .intro f hm
        rcases Zv (List.all_eq_true.1 hap f hm) with h|⟨h1,h2⟩
        .exact .inl (by simpa using h)
        .exact .inr ⟨fun b hb=>⟨by simpa using (h1 b hb).1,rfl⟩,fun b hb=>rfl⟩
       .intro k' r' hk;omega
       .unfold ajU
        cases (r.rd.isEmpty&&([]:List Nat).isEmpty)
        .exact List.mem_cons_of_mem _ hm
        .exact hm
       .cases hE:(r.rd.isEmpty&&([]:List Nat).isEmpty)
        .exact .inl ⟨⟨i,r.rd,[]⟩,by unfold ajU;rw [hE];simp,rfl,fun r' h=>⟨fun b hb=>(by cases hb),fun b hb=>h.2 b (by simpa using hb)⟩⟩
        .simp only [Bool.and_eq_true,List.isEmpty_iff] at hE
         exact .inr fun r'=>⟨fun b hb=>(by cases hb),fun b hb=>(by simp only [hE.1] at hb;simp at hb)⟩
end
end Go.Fw
end
section
namespace Go.Fw
variable [jY]
structure t_ where
 fr:Tr qo
 ah:Tr SB
 nx:Nat
structure Out where
 g:Tm
 e:Exit
 st:t_
def sel (ρ:List AV):List Out->Option (Exit×t_)
 |[]=>none
 |[o]=>some (o.e,o.st)
 |o::o'::r=>bif (o.g.den ρ).B then some (o.e,o.st) else sel ρ (o'::r)
def arY : Kd->Bool | .sl=>false|_=>true
def aua (g:Tm)(x y:SV):Option SV:=
 match x,y with
 | .sc k x,.sc k' y=>bif decide (k=k') then bif arY k||x.beq y then some (.sc k (VI k g x y)) else none else none
 | .os b s o l,.os b' s' o' l'=>bif Nat.beq b b'&&(Nat.beq s s'&&Nat.beq o o') then some (.os b s o (aDP g l l')) else none
 | .op b s r o,.op b' s' r' o'=>bif Nat.beq b b'&&(Nat.beq s s'&&Nat.beq o o') then some (.op b s (aDP g r r') o) else none
 |x,y=>bif x.beq y then some x else none
 mutual
def aj0 (g:Tm):SV->SV->Option SV
  | .agg x,.agg y=>match aa7 g x y with|some z=>some (.agg z)|none=>none
  | .fD x,.fD y=>match aa7 g x y with|some z=>some (.fD z)|none=>none
  |x,y=>aua g x y
def aa7 (g:Tm):List SV->List SV->Option (List SV)
  |[],[]=>some []
  |x::r,y::s=>match aj0 g x y,aa7 g r s with|some z,some l=>some (z::l)|_,_=>none
  |_,_=>none
end
section
variable {P : Program} {ρ:List AV} {pc:Pc}
theorem Weak.of_eq {a b:AV}(h:a=b):Weak a b:=by subst h;exact Weak.refl a
theorem awu {a b c:Bool}(h:(a&&(b&&c))=true):a=true/\b=true/\c=true:=by simpa using h
theorem apP {g:Tm}{x y z:SV}(h:aua g x y=some z):Weak (bif (g.den ρ).B then x.den ρ else y.den ρ) (z.den ρ)/\(z.den ρ).jR=(x.den ρ).jR/\(z.den ρ).jR=(y.den ρ).jR:=by
 unfold aua at h
 split at h
 .rename_i k x k' y
  by_cases hk:k=k'
  .subst hk
   simp only [decide_true,cond_true] at h
   cases hq:arY k||x.beq y
   .simp [hq] at h
   .simp only [hq,cond_true,Option.some.injEq] at h;subst h
    exact ⟨Weak.of_eq VJ.symm,by cases k<;>exact ⟨rfl,rfl⟩⟩
  .simp [hk] at h
 .rename_i b s o l b' s' o' l'
  cases hc:(Nat.beq b b'&&(Nat.beq s s'&&Nat.beq o o'))
  .simp [hc] at h
  .simp only [hc,cond_true,Option.some.injEq] at h;subst h
   obtain ⟨h1,h2,h3⟩:=awu hc
   have e1:=Nat.eq_of_beq_eq_true h1
   have e2:=Nat.eq_of_beq_eq_true h2
   have e3:=Nat.eq_of_beq_eq_true h3
   subst e1;subst e2;subst e3
   refine ⟨?_,rfl,rfl⟩
   simp only [SV.den,Ah]
   cases (g.den ρ).B<;>exact Weak.refl _
 .rename_i b s r o b' s' r' o'
  cases hc:(Nat.beq b b'&&(Nat.beq s s'&&Nat.beq o o'))
  .simp [hc] at h
  .simp only [hc,cond_true,Option.some.injEq] at h;subst h
   obtain ⟨h1,h2,h3⟩:=awu hc
   have e1:=Nat.eq_of_beq_eq_true h1
   have e2:=Nat.eq_of_beq_eq_true h2
   have e3:=Nat.eq_of_beq_eq_true h3
   subst e1;subst e2;subst e3
   refine ⟨?_,rfl,rfl⟩
   simp only [SV.den,Ah]
   cases (g.den ρ).B<;>exact Weak.refl _
 .cases hb:x.beq y
  .simp [hb] at h
  .simp only [hb,cond_true,Option.some.injEq] at h;subst h
   rw [SV.beq_eq hb]
   refine ⟨?_,rfl,rfl⟩
   cases (g.den ρ).B<;>exact Weak.refl _
 mutual
theorem UQ {g:Tm}{x y z:SV}(h:aj0 g x y=some z):Weak (bif (g.den ρ).B then x.den ρ else y.den ρ) (z.den ρ)/\(z.den ρ).jR=(x.den ρ).jR/\(z.den ρ).jR=(y.den ρ).jR:=by
   unfold aj0 at h
   split at h
   .split at h
    .rename_i l hl;simp only [Option.some.injEq] at h;subst h
     have:=MJ hl
     refine ⟨?_,rfl,rfl⟩
     cases hg:(g.den ρ).B<;>rw [hg] at this<;>exact Weak.agg this
    .cases h
   .split at h
    .rename_i l hl;simp only [Option.some.injEq] at h;subst h
     have:=MJ hl
     refine ⟨?_,rfl,rfl⟩
     cases hg:(g.den ρ).B<;>rw [hg] at this<;>exact Weak.fD this
    .cases h
   .exact apP h
  termination_by SizeOf.sizeOf x
theorem MJ {g:Tm}{x y z:List SV}(h:aa7 g x y=some z):zY (bif (g.den ρ).B then dU ρ x else dU ρ y) (dU ρ z):=by
   match x,y with
   |[],[]=>simp only [aa7,Option.some.injEq] at h;subst h;cases (g.den ρ).B<;>exact .nil
   |x::r,y::s=>
    simp only [aa7] at h
    split at h
    .rename_i a l ha hl
     simp only [Option.some.injEq] at h;subst h
     have h1:=UQ ha
     have h2:=MJ hl
     cases hg:(g.den ρ).B
     .rw [hg] at h1 h2;exact .cons h1.1 h1.2.2 h2
     .rw [hg] at h1 h2;exact .cons h1.1 h1.2.1 h2
    .cases h
   |[],_::_=>simp [aa7] at h
   |_::_,[]=>simp [aa7] at h
  termination_by SizeOf.sizeOf x
end
end
end Go.Fw
end
section
namespace Go.Fw
variable [jY]
def Wi (g:Tm):List (List SV)->List (List SV)->Option (List (List SV))
 |[],[]=>some []
 |x::r,y::s=>match aa7 g x y,Wi g r s with|some z,some l=>some (z::l)|_,_=>none
 |_,_=>none
def acZ (g:Tm)(x y:SB):Option SB:=
 match x,y with
 | .rows sz rs,.rows sz' rs'=>bif Nat.beq sz sz' then (match Wi g rs rs' with|some l=>some (.rows sz l)|none=>none) else none
 | .fK sz t,.fK sz' t'=>bif Nat.beq sz sz'&&t.beq t' then some (.fK sz t) else none
 | .BZ m t,.BZ m' t'=>bif decide (m=m') then some (.BZ m (aDP g t t')) else none
 | .map es,.map es'=>bif Ri (es.map (·.1)) (es'.map (·.1))&&Ri (es.map (·.2)) (es'.map (·.2)) then some (.map es) else none
 | .it m n k,.it m' n' k'=>bif Nat.beq m m'&&(n.beq n'&&Nat.beq k k') then some (.it m n k) else none
 | .kN ty sz rs,.kN ty' sz' rs'=>bif (Nat.beq ty ty'&&Nat.beq sz sz')&&TG rs rs' then some (.kN ty sz rs) else none
 |_,_=>none
def rD (k k':wB):Prop:=∀base w E b,rU base w E b k->rU base w E b k'
theorem rD.refl (k:wB):rD k k:=fun _ _ _ _ h=>h
def Tr.mrg {α:Type}(f:α->α->Option α):Tr α->Tr α->Tr α
 | .n l x r,.n l' x' r'=>.n (Tr.mrg f l l') (match x,x' with|some a,some b=>f a b|_,_=>none) (Tr.mrg f r r')
 |_,_=>.e
theorem Tr.IY {α:Type}{f:α->α->Option α}:∀{a b:Tr α} {t:Nat} {x:α},(Tr.mrg f a b).get t=some x->∃y z,a.get t=some y/\b.get t=some z/\f y z=some x
 | .e,b,t,x,h=>by simp [Tr.mrg,Tr.get] at h
 | .n _ _ _,.e,t,x,h=>by simp [Tr.mrg,Tr.get] at h
 | .n l u r,.n l' u' r',t,x,h=>by
  simp only [Tr.mrg,Tr.get] at h
  cases h1:Nat.beq t 0
  .simp only [h1,cond_false] at h
   cases h2:Nat.beq (t % 2) 1
   .simp only [h2,cond_false] at h
    obtain ⟨y,z,q1,q2,q3⟩:=Tr.IY h
    exact ⟨y,z,by simpa [Tr.get,h1,h2] using q1,by simpa [Tr.get,h1,h2] using q2,q3⟩
   .simp only [h2,cond_true] at h
    obtain ⟨y,z,q1,q2,q3⟩:=Tr.IY h
    exact ⟨y,z,by simpa [Tr.get,h1,h2] using q1,by simpa [Tr.get,h1,h2] using q2,q3⟩
  .simp only [h1,cond_true] at h
   split at h
   .rename_i a b
    exact ⟨a,b,by simp [Tr.get,h1],by simp [Tr.get,h1],h⟩
   .cases h
def af4 (g:Tm)(a b:qo):Option qo:=
 match a.h,b.h with
 |[],[]=>match aj0 g a.v b.v with|some v=>some ⟨[],v⟩|none=>none
 |_,_=>none
def amA {α:Type}(a b c:Tr α)(t:Nat):Bool:=(a.get t).isSome&&((b.get t).isSome&&(c.get t).isNone)
structure Kp where
 ks:List Nat
 low:Nat
def RH (th:Tr SB):Nat->List Nat->List Nat->List Nat
 |0,_,acc=>acc
 |n+1,[],acc=>acc
 |n+1,b::r,acc=>bif afS b acc then RH th n r acc else
  match th.get b with
  |none=>RH th n r acc
  |some k=>RH th n ((match k with | .rows _ rs=>EK rs | .fK _ _=>[] | .BZ _ _=>[] | .map es=>Gq (es.map (·.1))++Gq (es.map (·.2)) | .it m _ _=>[m] | .kN _ _ rs=>EK rs)++r) (b::acc)
def arZ {α:Type}(a b c:Tr α):Nat->Bool
 |0=>false
 |n+1=>amA a b c n||arZ a b c n
def amB (low:Nat)(refs:List Nat)(a b c:Tr SB):Bool:=arZ a b c low||(RH a 1000 refs []).any (amA a b c)
def aEj (fr:Tr qo):List Nat->List Nat
 |[]=>[]
 |t::r=>match fr.get t with|some e=>e.v.IG++aEj fr r|none=>aEj fr r
def af5 (keep:Kp)(a b:t_)(fr:Tr qo)(th:Tr SB):Bool:=keep.ks.any (amA a.fr b.fr fr)||amB keep.low (aEj fr keep.ks) a.ah b.ah th
def ac0 (keep:Kp)(g:Tm)(a b:t_):Option t_:=
 let fr:=Tr.mrg (af4 g) a.fr b.fr
 let th:=Tr.mrg (acZ g) a.ah b.ah
 bif af5 keep a b fr th then none else
 some ⟨fr,th,Nat.max a.nx b.nx⟩
structure JY (ρ:List AV)(N:Nat)(st:t_)(Ie:mg)(oJ:AH)(nx0:Nat):Prop where
 fr:∀t e,st.fr.get t=some e->∃a,jw Ie t=some a/\Weak a (e.den ρ)
 ah:∀b k,st.ah.get b=some k->∃k0,oJ b=some k0/\rD k0 (k.den ρ)
 len:Ie.length=N
 nx:nx0<=st.nx
section
variable {P : Program} {ρ:List AV} {pc:Pc} {N:Nat} {fr:mg} {ah:AH} {nx:Nat}
theorem Wj {g:Tm}:∀{x y z:List (List SV)},Wi g x y=some z->uO (bif (g.den ρ).B then iM ρ x else iM ρ y) (iM ρ z)
 |[],[],z,h=>by simp only [Wi,Option.some.injEq] at h;subst h;cases (g.den ρ).B<;>exact .nil
 |x::r,y::s,z,h=>by
  simp only [Wi] at h
  split at h
  .rename_i a l ha hl
   simp only [Option.some.injEq] at h;subst h
   have h1:=MJ (ρ:=ρ) ha
   have h2:=Wj hl
   cases hg:(g.den ρ).B
   .rw [hg] at h1 h2;exact .cons h1 h2
   .rw [hg] at h1 h2;exact .cons h1 h2
  .cases h
 |[],_::_,z,h=>by simp [Wi] at h
 |_::_,[],z,h=>by simp [Wi] at h
theorem RowsIn.weak {w:World}{E:Env}{arr:Array Value}{o sz:Nat}{az bs:List (List AV)}(h5:RowsIn w E arr o sz az)(h:uO az bs):RowsIn w E arr o sz bs:=by
 obtain ⟨q1,q2,q3,q4⟩:=h5
 refine ⟨by rw [<- h.length];exact q1,fun i row hr=>?_,fun row hm x hx=>?_,fun i row j x hr hx=>?_⟩
 .obtain ⟨row',hr',hw⟩:=h.get i row hr
  rw [<- hw.length];exact q2 i row' hr'
 .obtain ⟨i,hi⟩:=wK hm
  obtain ⟨j,hj⟩:=wK hx
  obtain ⟨row',hr',hw⟩:=h.get i row hi
  have hlt:j<row'.length:=by rw [hw.length];exact (List.getElem?_eq_some_iff.1 hj).1
  have hx':row'[j]?=some row'[j]:=by simp [hlt]
  rw [(hw.get j _ x hx' hj).2]
  exact q3 row' (List.mem_of_getElem? hr') _ (List.mem_of_getElem? hx')
 .obtain ⟨row',hr',hw⟩:=h.get i row hr
  have hlt:j<row'.length:=by rw [hw.length];exact (List.getElem?_eq_some_iff.1 hx).1
  have hx':row'[j]?=some row'[j]:=by simp [hlt]
  obtain ⟨v,hv,hrep⟩:=q4 i row' j _ hr' hx'
  exact ⟨v,hv,(hw.get j _ x hx' hx).1 _ _ _ hrep⟩
theorem rD.rows {sz:Nat}{az bs:List (List AV)}(h:uO az bs):rD (.rows sz az) (.rows sz bs):=by
 intro base w E b hk
 rcases hk with ⟨h1,h2⟩|⟨c,o,arr,ty,h1,h2,h3,h4,h5⟩
 .subst h2
  refine .inl ⟨h1,?_⟩
  have:=h.length
  cases bs with|nil=>rfl|cons=>simp at this
 .exact .inr ⟨c,o,arr,ty,h1,h2,h3,h4,h5.weak h⟩
theorem OI {g:Tm}{x y z:SB}(h:acZ g x y=some z):rD (bif (g.den ρ).B then x.den ρ else y.den ρ) (z.den ρ):=by
 unfold acZ at h
 split at h
 .rename_i sz rs sz' rs'
  cases h1:Nat.beq sz sz'
  .simp [h1] at h
  .simp only [h1,cond_true] at h
   have e:=Nat.eq_of_beq_eq_true h1
   subst e
   split at h
   .rename_i l hl
    simp only [Option.some.injEq] at h;subst h
    have:=Wj (ρ:=ρ) hl
    cases hg:(g.den ρ).B<;>rw [hg] at this<;>exact rD.rows this
   .cases h
 .rename_i sz t sz' t'
  cases h1:Nat.beq sz sz'&&t.beq t'
  .simp [h1] at h
  .simp only [h1,cond_true,Option.some.injEq] at h
   simp only [Bool.and_eq_true] at h1
   have e:=Nat.eq_of_beq_eq_true h1.1
   have e2:=Tm.beq_eq h1.2
   subst e;subst e2;subst h
   cases (g.den ρ).B<;>exact rD.refl _
 .rename_i m t m' t'
  cases h1:decide (m=m')
  .simp [h1] at h
  .simp only [h1,cond_true,Option.some.injEq] at h
   have e:=of_decide_eq_true h1
   subst e;subst h
   simp only [SB.den,Ah]
   cases (g.den ρ).B<;>exact rD.refl _
 .rename_i es es'
  cases h1:Ri (es.map (·.1)) (es'.map (·.1))&&Ri (es.map (·.2)) (es'.map (·.2))
  .simp [h1] at h
  .simp only [h1,cond_true,Option.some.injEq] at h;subst h
   simp only [Bool.and_eq_true] at h1
   have e1:=CP h1.1
   have e2:=CP h1.2
   have:es=es':=by
    apply List.ext_getElem
    .have:=congrArg List.length e1;simpa using this
    .intro i hi hi'
     have a1:(es.map (·.1))[i]?=(es'.map (·.1))[i]?:=by rw [e1]
     have a2:(es.map (·.2))[i]?=(es'.map (·.2))[i]?:=by rw [e2]
     simp [hi,hi'] at a1 a2
     exact Prod.ext a1 a2
   subst this
   cases (g.den ρ).B<;>exact rD.refl _
 .rename_i m n k m' n' k'
  cases h1:Nat.beq m m'&&(n.beq n'&&Nat.beq k k')
  .simp [h1] at h
  .simp only [h1,cond_true,Option.some.injEq] at h;subst h
   simp only [Bool.and_eq_true] at h1
   obtain rfl:=Nat.eq_of_beq_eq_true h1.1
   obtain rfl:=Tm.beq_eq h1.2.1
   obtain rfl:=Nat.eq_of_beq_eq_true h1.2.2
   cases (g.den ρ).B<;>exact rD.refl _
 .rename_i ty sz rs ty' sz' rs'
  cases h1:(Nat.beq ty ty'&&Nat.beq sz sz')&&TG rs rs'
  .simp [h1] at h
  .simp only [h1,cond_true,Option.some.injEq] at h
   simp only [Bool.and_eq_true] at h1
   obtain rfl:=Nat.eq_of_beq_eq_true h1.1.1
   obtain rfl:=Nat.eq_of_beq_eq_true h1.1.2
   obtain rfl:=KE h1.2
   subst h
   cases (g.den ρ).B<;>exact rD.refl _
 .cases h
theorem Weak.trans {a b c:AV}(h:Weak a b)(k:Weak b c):Weak a c:=fun w E v hr=>k w E v (h w E v hr)
theorem rD.trans {a b c:wB}(h:rD a b)(k:rD b c):rD a c:=fun base w E x hr=>k base w E x (h base w E x hr)
theorem Zw {g:Tm}{a b c:qo}(h:af4 g a b=some c):Weak (bif (g.den ρ).B then a.den ρ else b.den ρ) (c.den ρ):=by
 obtain ⟨ah,av⟩:=a
 obtain ⟨bh,bv⟩:=b
 unfold af4 at h
 split at h
 .rename_i h1 h2
  dsimp only at h1 h2
  subst h1;subst h2
  split at h
  .rename_i v hv
   simp only [Option.some.injEq] at h;subst h
   exact (UQ hv).1
  .cases h
 .cases h
theorem apQ {keep:Kp}{g:Tm}{a b c:t_}(h:ac0 keep g a b=some c)(hg:(g.den ρ).B=true)(hs:JY ρ N a fr ah nx):JY ρ N c fr ah nx:=by
 unfold ac0 at h
 dsimp only at h
 generalize (af5 keep _ _ _ _)=q at h
 cases q
 .simp only [cond_false,Option.some.injEq] at h;subst h
  refine ⟨fun t e he=>?_,fun b k hk=>?_,hs.len,Nat.le_trans hs.nx (Nat.le_max_left _ _)⟩
  .obtain ⟨y,z,h1,h2,h3⟩:=Tr.IY he
   obtain ⟨x,hx,hw⟩:=hs.fr t y h1
   have:=Zw (ρ:=ρ) h3
   rw [hg] at this
   exact ⟨x,hx,hw.trans this⟩
  .obtain ⟨y,z,h1,h2,h3⟩:=Tr.IY hk
   obtain ⟨x,hx,hw⟩:=hs.ah b y h1
   have:=OI (ρ:=ρ) h3
   rw [hg] at this
   exact ⟨x,hx,hw.trans this⟩
 .cases h
theorem apR {keep:Kp}{g:Tm}{a b c:t_}(h:ac0 keep g a b=some c)(hg:(g.den ρ).B=false)(hs:JY ρ N b fr ah nx):JY ρ N c fr ah nx:=by
 unfold ac0 at h
 dsimp only at h
 generalize (af5 keep _ _ _ _)=q at h
 cases q
 .simp only [cond_false,Option.some.injEq] at h;subst h
  refine ⟨fun t e he=>?_,fun b k hk=>?_,hs.len,Nat.le_trans hs.nx (Nat.le_max_right _ _)⟩
  .obtain ⟨y,z,h1,h2,h3⟩:=Tr.IY he
   obtain ⟨x,hx,hw⟩:=hs.fr t z h2
   have:=Zw (ρ:=ρ) h3
   rw [hg] at this
   exact ⟨x,hx,hw.trans this⟩
  .obtain ⟨y,z,h1,h2,h3⟩:=Tr.IY hk
   obtain ⟨x,hx,hw⟩:=hs.ah b z h2
   have:=OI (ρ:=ρ) h3
   rw [hg] at this
   exact ⟨x,hx,hw.trans this⟩
 .cases h
def IZ (ρ:List AV)(N:Nat)(outs:List Out):AQ:=fun e fr ah nx=>∃st,sel ρ outs=some (e,st)/\JY ρ N st fr ah nx
def Wl (g:Tm)(l:List Out):List Out:=l.map fun o=>{o with g:=aDU g o.g}
def B_ (g:Tm):List Out->List Out
 |[]=>[]
 |[o]=>[{o with g:=g}]
 |o::o'::r=>{o with g:=aDU g o.g}::B_ g (o'::r)
theorem aj1 {g:Tm}:∀{l:List Out},l≠[]->B_ g l≠[]
 |[],h=>absurd rfl h
 |[o],_=>by simp [B_]
 |o::o'::r,_=>by simp [B_]
theorem Ar {g:Tm}:∀{l rest:List Out},rest≠[]->sel ρ (B_ g l++rest)=if (g.den ρ).B=true/\l≠[] then sel ρ l else sel ρ rest
 |[],rest,hr=>by simp [B_]
 |[o],rest,hr=>by
  obtain ⟨x,r,rfl⟩:=List.exists_cons_of_ne_nil hr
  simp only [B_,List.cons_append,List.nil_append,sel]
  cases (g.den ρ).B<;>simp
 |o::o'::r,rest,hr=>by
  have ih:=Ar (g:=g) (l:=o'::r) (rest:=rest) hr
  obtain ⟨x,s,hx⟩:=List.exists_cons_of_ne_nil (aj1 (g:=g) (l:=o'::r) (by simp))
  simp only [B_,List.cons_append]
  rw [hx] at ih ⊢
  simp only [List.cons_append,sel,xP] at ih ⊢
  rw [ih]
  cases hg:(g.den ρ).B
  .simp
  .cases (o.g.den ρ).B<;>simp
def UR (t:Tm)(x y:List Out):List Out:=B_ t x++y
theorem ahS {t:Tm}{x y:List Out}(hx:x≠[])(hy:y≠[]):sel ρ (UR t x y)=if (t.den ρ).B=true then sel ρ x else sel ρ y:=by
 unfold UR
 rw [Ar hy]
 simp [hx]
def rE : List Out->Option (List Out×Out)
 |[]=>none
 |[o]=>some ([],o)
 |o::o'::r=>match rE (o'::r) with|some (l,n)=>some (o::l,n)|none=>none
theorem PU : ∀{l r:List Out} {n:Out},rE l=some (r,n)->l=r++[n]
 |[],r,n,h=>by simp [rE] at h
 |[o],r,n,h=>by simp only [rE,Option.some.injEq,Prod.mk.injEq] at h;obtain ⟨rfl,rfl⟩:=h;rfl
 |o::o'::s,r,n,h=>by
  simp only [rE] at h
  split at h
  .rename_i l m hl
   simp only [Option.some.injEq,Prod.mk.injEq] at h;obtain ⟨rfl,rfl⟩:=h
   rw [PU hl];rfl
  .cases h
def isN : Exit->Bool | .normal=>true|_=>false
def OJ (keep:Kp):List Out->List Out
 |[]=>[]
 |o::r=>
  bif isN o.e then
   match rE (OJ keep r) with
   |none=>[o]
   |some (l,n)=>bif isN n.e then
     match ac0 keep o.g o.st n.st with
     |some m=>Wl (aDL o.g) l++[{n with st:=m}]
     |none=>o::(l++[n])
    else B_ (aDL o.g) (l++[n])++[o]
  else o::OJ keep r
theorem aub {l:List Out}{x:Exit×t_}(h:sel ρ l=some x):l≠[]:=by rintro rfl;cases h
theorem ac1 : ∀{l:List Out},l≠[]->∃x,sel ρ l=some x
 |[],h=>absurd rfl h
 |[o],_=>⟨_,rfl⟩
 |o::o'::r,_=>by
  simp only [sel]
  cases (o.g.den ρ).B
  .exact ac1 (l:=o'::r) (by simp)
  .exact ⟨_,rfl⟩
theorem TS {n m:Out}(he:m.e=n.e):∀{l:List Out} {x:Exit×t_},sel ρ (l++[n])=some x->(sel ρ (l++[m])=some x)\/(x=(n.e,n.st)/\sel ρ (l++[m])=some (m.e,m.st))
 |[],x,h=>by simp only [List.nil_append,sel,Option.some.injEq] at h ⊢;exact .inr ⟨h.symm,trivial⟩
 |[o],x,h=>by
  simp only [List.cons_append,List.nil_append,sel] at h ⊢
  cases hg:(o.g.den ρ).B
  .rw [hg] at h;simp only [cond_false,Option.some.injEq] at h ⊢;exact .inr ⟨h.symm,trivial⟩
  .rw [hg] at h;exact .inl h
 |o::o'::r,x,h=>by
  simp only [List.cons_append,sel] at h ⊢
  cases hg:(o.g.den ρ).B
  .rw [hg] at h;exact TS he (l:=o'::r) h
  .rw [hg] at h;exact .inl h
theorem I4 {g:Tm}{m:Out}:∀{l:List Out},sel ρ (Wl g l++[m])=if (g.den ρ).B=true then sel ρ (l++[m]) else some (m.e,m.st)
 |[]=>by simp [Wl,sel]
 |[o]=>by
  simp only [Wl,List.map_cons,List.map_nil,List.cons_append,List.nil_append,sel,xP]
  cases (g.den ρ).B<;>simp
 |o::o'::r=>by
  have ih:=I4 (g:=g) (m:=m) (l:=o'::r)
  simp only [Wl,List.map_cons,List.cons_append,sel,xP] at ih ⊢
  rw [ih]
  cases (g.den ρ).B<;>simp
theorem aa8 {e:Exit}(h:isN e=true):e=.normal:=by cases e<;>first|rfl|cases h
theorem yQ {keep:Kp}:∀{l:List Out} {e:Exit},IZ ρ N l e fr ah nx->IZ ρ N (OJ keep l) e fr ah nx
 |[],e,h=>h
 |o::r,e,h=>by
  obtain ⟨st,hsel,hst⟩:=h
  unfold OJ
  
  have rest:r≠[]->((o.g.den ρ).B=true/\e=o.e/\st=o.st)\/((o.g.den ρ).B=false/\IZ ρ N (OJ keep r) e fr ah nx):=by
   intro hr
   obtain ⟨o',r',rfl⟩:=List.exists_cons_of_ne_nil hr
   simp only [sel] at hsel
   cases hg:(o.g.den ρ).B
   .rw [hg] at hsel;exact .inr ⟨rfl,yQ ⟨st,hsel,hst⟩⟩
   .rw [hg] at hsel;simp only [cond_true,aj,aJ] at hsel;exact .inl ⟨rfl,hsel.1.symm,hsel.2.symm⟩
  have amC:∀{l':List Out},l'≠[]->((o.g.den ρ).B=true/\e=o.e/\st=o.st)\/((o.g.den ρ).B=false/\IZ ρ N l' e fr ah nx)->IZ ρ N (o::l') e fr ah nx:=by
   intro l' hl' hc
   obtain ⟨x,s,rfl⟩:=List.exists_cons_of_ne_nil hl'
   rcases hc with ⟨hg,rfl,rfl⟩|⟨hg,st',h1,h2⟩
   .exact ⟨o.st,by simp [sel,hg],hst⟩
   .exact ⟨st',by simp [sel,hg,h1],h2⟩
  by_cases hr:r=[]
  .subst hr
   have e1:OJ keep []=[]:=rfl
   rw [e1]
   cases hn:isN o.e
   .exact ⟨st,hsel,hst⟩
   .simp only [cond_true,rE];exact ⟨st,hsel,hst⟩
  .have hrest:=rest hr
   have hne:OJ keep r≠[]:=by
    obtain ⟨x,hx⟩:=ac1 (ρ:=ρ) hr
    
    intro he
    have:∀l:List Out,l≠[]->OJ keep l≠[]:=by
     intro l
     induction l with
     |nil=>intro h;exact absurd rfl h
     |cons o r ih=>
      intro _
      unfold OJ
      cases isN o.e
      .simp
      .simp only [cond_true]
       split
       .simp
       .rename_i l n _
        cases isN n.e
        .simp
        .simp only [cond_true];split<;>simp
    exact this r hr he
   cases hn:isN o.e
   .simp only [cond_false]
    exact amC hne hrest
   .simp only [cond_true]
    split
    .rename_i hs
     exfalso
     obtain ⟨x,s,hx⟩:=List.exists_cons_of_ne_nil hne
     rw [hx] at hs
     have:∀(s:List Out) (x:Out),rE (x::s)≠none:=by
      intro s
      induction s with
      |nil=>intro x;simp [rE]
      |cons y s ih=>
       intro x
       simp only [rE]
       cases hq:rE (y::s) with
       |none=>exact absurd hq (ih y)
       |some v=>simp
     exact this s x hs
    .rename_i l n hs
     have heq:=PU hs
     rw [heq] at hrest
     cases hn2:isN n.e
     .simp only [cond_false]
      rcases hrest with ⟨hg,rfl,rfl⟩|⟨hg,st',h1,h2⟩
      .refine ⟨o.st,?_,hst⟩
       rw [Ar (by simp),oL,hg]
       simp [sel]
      .refine ⟨st',?_,h2⟩
       rw [Ar (by simp),oL,hg]
       simp [h1]
     .simp only [cond_true]
      have e1:=aa8 hn
      have e2:=aa8 hn2
      split
      .rename_i m hm
       rcases hrest with ⟨hg,rfl,rfl⟩|⟨hg,st',h1,h2⟩
       .refine ⟨m,?_,apQ hm hg hst⟩
        rw [I4,oL,hg]
        simp [e1,e2]
       .rcases TS (n:=n) (m:={n with st:=m}) rfl h1 with h3|⟨h3,h4⟩
        .refine ⟨st',?_,h2⟩
         rw [I4,oL,hg]
         simpa using h3
        .simp only [aJ] at h3
         obtain ⟨h3,rfl⟩:=h3
         refine ⟨m,?_,apR hm hg h2⟩
         rw [I4,oL,hg]
         simp only [bg,if_true,h4,h3]
      .exact amC (by simp) hrest
end
end Go.Fw
end
section
namespace Go.Fw
variable [jY]
def Tm.lt (n:Nat):Tm->Bool
 | .lb _ | .li _ | .lf _ | .ls _ | .nl=>true
 | .var i _=>Nat.ble (i+1) n
 | .bin _ _ x y=>x.lt n&&y.lt n
 | .and x y=>x.lt n&&y.lt n
 | .or x y=>x.lt n&&y.lt n
 | .byte x y=>x.lt n&&y.lt n
 | .not x=>x.lt n
 | .neg _ x=>x.lt n
 | .com _ x=>x.lt n
 | .conv _ x=>x.lt n
 | .toF x=>x.lt n
 | .UJ x=>x.lt n
 | .slen x=>x.lt n
 | .rlen x=>x.lt n
 | .bts x=>x.lt n
 | .sbs x=>x.lt n
 | .alb _ x=>x.lt n
 | .ite c x y=>c.lt n&&(x.lt n&&y.lt n)
 | .Ef c x y=>c.lt n&&(x.lt n&&y.lt n)
def AgreeV (n:Nat)(ρ σ:List AV):Prop:=∀i,i<n->ρ.getD i eP=σ.getD i eP
theorem Tm.qP {n:Nat}{ρ σ:List AV}(h:AgreeV n ρ σ):∀{t:Tm},t.lt n=true->t.den ρ=t.den σ:=by
 intro t
 induction t with
 |lb|li|lf|ls|nl=>intro _;rfl
 |var i p=>intro hl;simp only [Tm.den];rw [h i (aC hl)]
 |bin o k x y sU ihy=>intro hl;simp only [Tm.lt,ak] at hl;simp only [Tm.den,sU hl.1,ihy hl.2]
 |and x y sU ihy=>intro hl;simp only [Tm.lt,ak] at hl;simp only [Tm.den,sU hl.1,ihy hl.2]
 |or x y sU ihy=>intro hl;simp only [Tm.lt,ak] at hl;simp only [Tm.den,sU hl.1,ihy hl.2]
 |byte x y sU ihy=>intro hl;simp only [Tm.lt,ak] at hl;simp only [Tm.den,sU hl.1,ihy hl.2]
 |ite c x y ihc sU ihy=>intro hl;simp only [Tm.lt,ak] at hl;simp only [Tm.den,ihc hl.1,sU hl.2.1,ihy hl.2.2]
 |Ef c x y ihc sU ihy=>intro hl;simp only [Tm.lt,ak] at hl;simp only [Tm.den,ihc hl.1,sU hl.2.1,ihy hl.2.2]
 |not x ih=>intro hl;simp only [Tm.den,ih hl]
 |neg k x ih=>intro hl;simp only [Tm.den,ih hl]
 |com k x ih=>intro hl;simp only [Tm.den,ih hl]
 |conv k x ih=>intro hl;simp only [Tm.den,ih hl]
 |toF x ih=>intro hl;simp only [Tm.den,ih hl]
 |UJ x ih=>intro hl;simp only [Tm.den,ih hl]
 |slen x ih=>intro hl;simp only [Tm.den,ih hl]
 |rlen x ih=>intro hl;simp only [Tm.den,ih hl]
 |bts x ih=>intro hl;simp only [Tm.den,ih hl]
 |sbs x ih=>intro hl;simp only [Tm.den,ih hl]
 |alb k x ih=>intro hl;simp only [Tm.den,ih hl]
 mutual
def SV.lt (n:Nat):SV->Bool
  | .sc _ t=>t.lt n
  | .c _ | .nil | .mp _=>true
  | .sf t=>t.lt n
  | .agg l=>ltL n l
  | .fD l=>ltL n l
  | .slc r _=>aj2 n r
  | .vp row _=>ltL n row
  | .os _ _ _ t=>t.lt n
  | .op _ _ t _=>t.lt n
  | .fn _ x y=>ltL n x&&ltL n y
  | .mV _ v=>v.lt n
def ltL (n:Nat):List SV->Bool
  |[]=>true
  |x::r=>x.lt n&&ltL n r
def aj2 (n:Nat):List (List SV)->Bool
  |[]=>true
  |x::r=>ltL n x&&aj2 n r
end
section
variable {n : Nat} {ρ σ:List AV} (h:AgreeV n ρ σ)
 include h
 mutual
theorem SV.qP : ∀{x:SV},x.lt n=true->x.den ρ=x.den σ
  | .sc k t,hl=>by simp only [SV.den];rw [Tm.qP h hl]
  | .c _,_=>rfl
  | .nil,_=>rfl
  | .mp _,_=>rfl
  | .sf t,hl=>by simp only [SV.den];rw [Tm.qP h hl]
  | .agg l,hl=>by simp only [SV.den];rw [CQ (l:=l) hl]
  | .fD l,hl=>by simp only [SV.den];rw [CQ (l:=l) hl]
  | .slc r _,hl=>by simp only [SV.den];rw [PV (l:=r) hl]
  | .vp row _,hl=>by simp only [SV.den];rw [CQ (l:=row) hl]
  | .os _ _ _ t,hl=>by simp only [SV.den];rw [Tm.qP h hl]
  | .op _ _ t _,hl=>by simp only [SV.den];rw [Tm.qP h hl]
  | .fn _ x y,hl=>by simp only [SV.lt,ak] at hl;simp only [SV.den];rw [CQ (l:=x) hl.1,CQ (l:=y) hl.2]
  | .mV _ v,hl=>by simp only [SV.den];rw [SV.qP (x:=v) hl]
theorem CQ : ∀{l:List SV},ltL n l=true->dU ρ l=dU σ l
  |[],_=>rfl
  |x::r,hl=>by simp only [ltL,ak] at hl;simp only [dU];rw [SV.qP (x:=x) hl.1,CQ (l:=r) hl.2]
theorem PV : ∀{l:List (List SV)},aj2 n l=true->iM ρ l=iM σ l
  |[],_=>rfl
  |x::r,hl=>by simp only [aj2,ak] at hl;simp only [iM];rw [CQ (l:=x) hl.1,PV (l:=r) hl.2]
end
end
def Pc.lt (n:Nat)(pc:Pc):Bool:=pc.all fun x=>x.1.lt n
def qo.lt (n:Nat)(e:qo):Bool:=Pc.lt n e.h&&e.v.lt n
theorem qo.qP {n:Nat}{ρ σ:List AV}(h:AgreeV n ρ σ){e:qo}(hl:e.lt n=true):e.den ρ=e.den σ:=by
 simp only [qo.lt,ak] at hl
 have:(e.h.all fun x=>(x.1.den ρ).B == x.2)=(e.h.all fun x=>(x.1.den σ).B == x.2):=by
  have h1:=hl.1
  unfold Pc.lt at h1
  rw [aF] at h1
  rw [Bool.eq_iff_iff,aF,aF]
  constructor
  .intro q x hx;rw [<- Tm.qP h (h1 x hx)];exact q x hx
  .intro q x hx;rw [Tm.qP h (h1 x hx)];exact q x hx
 unfold qo.den
 rw [this,SV.qP h hl.2]
def Pc.old (n:Nat)(pc:Pc):Pc:=pc.filter fun x=>x.1.lt n
theorem Pc.aj3 {n:Nat}{ρ σ:List AV}(h:AgreeV n ρ σ){pc:Pc}(hp:pc.holds ρ):(pc.old n).holds σ:=by
 intro x hx
 unfold Pc.old at hx
 rw [List.mem_filter] at hx
 rw [<- Tm.qP h hx.2]
 exact hp x hx.1
def SB.lt (n:Nat):SB->Bool
 | .rows _ rs=>aj2 n rs
 | .fK _ t=>t.lt n
 | .BZ _ t=>t.lt n
 | .map es=>ltL n (es.map (·.1))&&ltL n (es.map (·.2))
 | .it _ t _=>t.lt n
 | .kN _ _ rs=>aj2 n rs
theorem SB.qP {n:Nat}{ρ σ:List AV}(h:AgreeV n ρ σ){k:SB}(hl:k.lt n=true):k.den ρ=k.den σ:=by
 cases k with
 |rows sz rs=>simp only [SB.den];rw [PV h hl]
 |fK sz t=>simp only [SB.den];rw [Tm.qP h hl]
 |BZ m t=>simp only [SB.den];rw [Tm.qP h hl]
 |it m t k=>simp only [SB.den];rw [Tm.qP h hl]
 |kN ty sz rs=>simp only [SB.den];rw [PV h hl]
 |map es=>
  simp only [SB.lt,ak] at hl
  have h1:=CQ h hl.1
  have h2:=CQ h hl.2
  rw [nX,nX] at h1 h2
  simp only [SB.den]
  congr 1
  apply List.map_congr_left
  intro e he
  have a1:e.1.den ρ=e.1.den σ:=by
   have:=List.map_inj_left.1 h1 e.1 (aU.2 ⟨e,he,rfl⟩);exact this
  have a2:e.2.den ρ=e.2.den σ:=by
   have:=List.map_inj_left.1 h2 e.2 (aU.2 ⟨e,he,rfl⟩);exact this
  rw [a1,a2]
inductive Uj where
 |sc (k:Kd)
 |agg (ks:List Kd)
 |os (b sz:Nat)
def Uj.sv (j:Nat):Uj->SV
 | .sc k=>.sc k (.var j [])
 | .agg ks=>.agg (kQ j [] 0 ks)
 | .os b sz=>.os b sz 0 (.rlen (.var j []))
inductive Tb where
 |rows (sz:Nat)
 |map (m:MSh)
instance (n : Nat):OfNat Tb n:=⟨.rows n⟩
def Tb.sb (j:Nat):Tb->SB
 | .rows sz=>.fK sz (.var j [])
 | .map m=>.BZ m (.var j [])
structure Ob where
 pre:List Kd
 b:Nat
 sz:Nat
 post:List Kd
def Ob.n (o:Ob):Nat:=o.pre.length+(o.post.length+1)
def Ob.row (j:Nat)(o:Ob):List SV:=kQ j [] 0 o.pre++.os o.b o.sz 0 (.rlen (.var j [o.pre.length]))::kQ j [] (o.pre.length+1) o.post
structure DW where
 fr:List (Nat×Uj)
 bl:List (Nat×List Kd)
 tb:List (Nat×Tb)
 nx:Nat
 ob:List (Nat×Ob)
def DW.m (p:DW):Nat:=p.fr.length+(p.bl.length+(p.tb.length+p.ob.length))
def apS : Nat->List (Nat×Uj)->Tr qo->Tr qo
 |_,[],tr=>tr
 |j,(t,p)::r,tr=>(apS (j+1) r tr).upd zX t (some ⟨[],p.sv j⟩)
def af6 : Nat->List (Nat×Uj)->Tr SB->Tr SB
 |_,[],th=>th
 |j,(_,.os b sz)::r,th=>(af6 (j+1) r th).upd zX b (some (.fK sz (.var j [])))
 |j,_::r,th=>af6 (j+1) r th
def apT : Nat->List (Nat×List Kd)->Tr SB->Tr SB
 |_,[],th=>th
 |j,(b,ks)::r,th=>(apT (j+1) r th).upd zX b (some (.rows ks.length [kQ j [] 0 ks]))
def apU : Nat->List (Nat×Tb)->Tr SB->Tr SB
 |_,[],th=>th
 |j,(b,sz)::r,th=>(apU (j+1) r th).upd zX b (some (sz.sb j))
def aAZ : Nat->List (Nat×Ob)->Tr SB->Tr SB
 |_,[],th=>th
 |j,(b,o)::r,th=>((aAZ (j+1) r th).upd zX o.b (some (.fK o.sz (.var j [o.pre.length])))).upd zX b (some (.rows o.n [o.row j]))
def aEc (p:DW)(j:Nat)(c:t_):t_:=
 ⟨apS j p.fr c.fr,af6 j p.fr (apT (j+p.fr.length) p.bl (apU (j+(p.fr.length+p.bl.length)) p.tb (aAZ (j+(p.fr.length+(p.bl.length+p.tb.length))) p.ob c.ah))),p.nx⟩
theorem ac2 : ∀{l:List (Nat×Uj)} {j:Nat} {tr:Tr qo} {t:Nat} {e:qo},(apS j l tr).get t=some e->(∃(i:Nat) (p:Uj),l[i]?=some (t,p)/\e=⟨[],p.sv (j+i)⟩)\/((∀p,(t,p)∉l)/\tr.get t=some e)
 |[],j,tr,t,e,h=>.inr ⟨by simp,h⟩
 |(s,p)::r,j,tr,t,e,h=>by
  simp only [apS] at h
  rcases Tr.pW _ _ _ _ _ _ h with ⟨rfl,h1⟩|⟨hne,h1⟩
  .simp only [aj] at h1;exact .inl ⟨0,p,rfl,by simpa using h1.symm⟩
  .rcases ac2 h1 with ⟨i,q,h2,h3⟩|⟨h2,h3⟩
   .exact .inl ⟨i+1,q,by simpa using h2,by rw [h3];congr 2;omega⟩
   .refine .inr ⟨fun q hq=>?_,h3⟩
    cases hq with
    |head=>exact hne rfl
    |tail _ hq=>exact h2 q hq
theorem PW : ∀{l:List (Nat×Uj)} {j:Nat} {th:Tr SB} {b:Nat} {k:SB},(af6 j l th).get b=some k->(∃(i t sz:Nat),l[i]?=some (t,.os b sz)/\k=.fK sz (.var (j+i) []))\/((∀t sz,(t,.os b sz)∉l)/\th.get b=some k)
 |[],j,th,b,k,h=>.inr ⟨by simp,h⟩
 |(s,.os b' sz)::r,j,th,b,k,h=>by
  simp only [af6] at h
  rcases Tr.pW _ _ _ _ _ _ h with ⟨rfl,h1⟩|⟨hne,h1⟩
  .simp only [aj] at h1;exact .inl ⟨0,s,sz,rfl,by simpa using h1.symm⟩
  .rcases PW h1 with ⟨i,t,sz',h2,h3⟩|⟨h2,h3⟩
   .exact .inl ⟨i+1,t,sz',by simpa using h2,by rw [h3];congr 2;omega⟩
   .refine .inr ⟨fun t sz' hq=>?_,h3⟩
    cases hq with
    |head=>exact hne rfl
    |tail _ hq=>exact h2 _ _ hq
 |(s,.sc kd)::r,j,th,b,k,h=>by
  simp only [af6] at h
  rcases PW h with ⟨i,t,sz',h2,h3⟩|⟨h2,h3⟩
  .exact .inl ⟨i+1,t,sz',by simpa using h2,by rw [h3];congr 2;omega⟩
  .exact .inr ⟨fun t sz' hq=>by cases hq with|tail _ hq=>exact h2 _ _ hq,h3⟩
 |(s,.agg kd)::r,j,th,b,k,h=>by
  simp only [af6] at h
  rcases PW h with ⟨i,t,sz',h2,h3⟩|⟨h2,h3⟩
  .exact .inl ⟨i+1,t,sz',by simpa using h2,by rw [h3];congr 2;omega⟩
  .exact .inr ⟨fun t sz' hq=>by cases hq with|tail _ hq=>exact h2 _ _ hq,h3⟩
theorem ac3 : ∀{l:List (Nat×List Kd)} {j:Nat} {th:Tr SB} {b:Nat} {k:SB},(apT j l th).get b=some k->(∃(i:Nat) (ks:List Kd),l[i]?=some (b,ks)/\k=.rows ks.length [kQ (j+i) [] 0 ks])\/((∀ks,(b,ks)∉l)/\th.get b=some k)
 |[],j,th,b,k,h=>.inr ⟨by simp,h⟩
 |(b',ks)::r,j,th,b,k,h=>by
  simp only [apT] at h
  rcases Tr.pW _ _ _ _ _ _ h with ⟨rfl,h1⟩|⟨hne,h1⟩
  .simp only [aj] at h1;exact .inl ⟨0,ks,rfl,by simpa using h1.symm⟩
  .rcases ac3 h1 with ⟨i,q,h2,h3⟩|⟨h2,h3⟩
   .exact .inl ⟨i+1,q,by simpa using h2,by rw [h3,Nat.add_assoc,Nat.add_comm 1 i]⟩
   .refine .inr ⟨fun q hq=>?_,h3⟩
    cases hq with
    |head=>exact hne rfl
    |tail _ hq=>exact h2 q hq
theorem ac4 : ∀{l:List (Nat×Tb)} {j:Nat} {th:Tr SB} {b:Nat} {k:SB},(apU j l th).get b=some k->(∃(i:Nat) (sz:Tb),l[i]?=some (b,sz)/\k=sz.sb (j+i))\/((∀sz,(b,sz)∉l)/\th.get b=some k)
 |[],j,th,b,k,h=>.inr ⟨by simp,h⟩
 |(b',sz)::r,j,th,b,k,h=>by
  simp only [apU] at h
  rcases Tr.pW _ _ _ _ _ _ h with ⟨rfl,h1⟩|⟨hne,h1⟩
  .simp only [aj] at h1;exact .inl ⟨0,sz,rfl,by simpa using h1.symm⟩
  .rcases ac4 h1 with ⟨i,q,h2,h3⟩|⟨h2,h3⟩
   .exact .inl ⟨i+1,q,by simpa using h2,by rw [h3];rw [Nat.add_assoc,Nat.add_comm 1 i]⟩
   .refine .inr ⟨fun q hq=>?_,h3⟩
    cases hq with
    |head=>exact hne rfl
    |tail _ hq=>exact h2 q hq
theorem aw2 : ∀{l:List (Nat×Ob)} {j:Nat} {th:Tr SB} {b:Nat} {k:SB},(aAZ j l th).get b=some k->(∃(i:Nat) (o:Ob),l[i]?=some (b,o)/\k=.rows o.n [o.row (j+i)])\/
  (∃(i a:Nat) (o:Ob),l[i]?=some (a,o)/\b=o.b/\k=.fK o.sz (.var (j+i) [o.pre.length]))\/((∀o,(b,o)∉l)/\th.get b=some k)
 |[],j,th,b,k,h=>.inr (.inr ⟨by simp,h⟩)
 |(b',o)::r,j,th,b,k,h=>by
  simp only [aAZ] at h
  rcases Tr.pW _ _ _ _ _ _ h with ⟨rfl,h1⟩|⟨hne,h1⟩
  .simp only [aj] at h1;exact .inl ⟨0,o,rfl,h1.symm⟩
  .rcases Tr.pW _ _ _ _ _ _ h1 with ⟨rfl,h2⟩|⟨hne2,h2⟩
   .simp only [aj] at h2;exact .inr (.inl ⟨0,b',o,rfl,rfl,h2.symm⟩)
   .rcases aw2 h2 with ⟨i,q,h3,h4⟩|⟨i,a,q,h3,h4,h5⟩|⟨h3,h4⟩
    .exact .inl ⟨i+1,q,by simpa using h3,by rw [h4,Nat.add_assoc,Nat.add_comm 1 i]⟩
    .exact .inr (.inl ⟨i+1,a,q,by simpa using h3,h4,by rw [h5,Nat.add_assoc,Nat.add_comm 1 i]⟩)
    .refine .inr (.inr ⟨fun q hq=>?_,h4⟩)
     cases hq with
     |head=>exact hne rfl
     |tail _ hq=>exact h3 q hq
def aa9 (k:Kd):SV->Bool
 | .sc k' _=>decide (k=k')
 | .nil=>decide (k=.sl)
 | .sf _=>decide (k=.sl)
 | .slc r _=>decide (k=.sl)
 |_=>false
def NM : List Kd->List SV->Bool
 |[],[]=>true
 |k::r,x::s=>aa9 k x&&NM r s
 |_,_=>false
inductive Src where
 |no
 |empty
 |at (b k:Nat)
def yR (sz:Nat):SB->Option SV
 | .fK sz' t=>bif Nat.beq sz sz' then some (.sc .sl t) else none
 | .rows sz' rs=>bif Nat.beq sz sz' then some (.slc (ahF rs) false) else none
 |_=>none
def lenOf : SB->Tm->Bool
 | .fK _ t,l=>l.beq (.rlen t)
 | .rows _ rs,l=>match zN l with|some n=>Nat.beq n rs.length|none=>false
 |_,_=>false
def Uk : SB->Tm->Bool
 | .fK _ _,_=>true
 | .rows _ rs,l=>match zN l with|some n=>Nat.beq n rs.length|none=>false
 |_,_=>false
def Zx : SB->Tm->List Side
 | .fK _ t,l=>afw l t
 |_,_=>[]
def auU (k:SB)(off:Nat)(l:Tm):Bool:=bif Nat.beq off 0 then Uk k l else match k with
 | .fK _ t=>l.beq (.bin .sub (.int .i64) (.rlen t) (.li (.ofNat off)))
 | .rows _ rs=>(match zN l with|some n=>Nat.beq (n+off) rs.length|none=>false)
 |_=>false
def alk (k:SB)(off:Nat)(l:Tm):List Side:=bif Nat.beq off 0 then Zx k l else match k with
 | .fK _ t=>[.tm (.bin .leq (.int .i64) (.li (.ofNat off)) (.rlen t)),.tm (.bin .leq (.int .i64) (.rlen t) (.li 4294967296))]
 |_=>[]
def aG_ (sz:Nat)(k:SB)(off:Nat):Option SV:=bif Nat.beq off 0 then yR sz k else match k with
 | .fK sz' t=>bif Nat.beq sz sz' then some (.sc .sl (.alb off t)) else none
 | .rows sz' rs=>bif Nat.beq sz sz' then some (.slc (ahF (rs.drop off)) false) else none
 |_=>none
def af7 (th:Tr SB)(v:SV):Uj->Option (SV×Src)
 | .sc k=>bif aa9 k v then some (v.nrm,.no) else none
 | .agg ks=>match v with | .agg l=>bif NM ks l then some (.agg (zO l),.no) else none|_=>none
 | .os _ sz=>match v with
  | .nil=>some (.sc .sl .nl,.empty)
  | .os b' sz' off l=>match th.get b' with
   |some k=>bif Nat.beq sz sz'&&auU k off l then (match aG_ sz k off with|some r=>some (r,.at b' (off*sz))|none=>none) else none
   |none=>none
  |_=>none
def ac5 (pc:Pc)(yC:t_):List (Nat×Uj)->Option (List (SV×Src))
 |[]=>some []
 |(t,p)::r=>match yC.fr.get t with
  |none=>none
  |some e=>bif e.sure pc then (match af7 yC.ah e.v p,ac5 pc yC r with|some x,some l=>some (x::l)|_,_=>none) else none
def Jz (yC:t_):List (Nat×Uj)->List Side
 |[]=>[]
 |(t,.os _ _)::r=>(match yC.fr.get t with
  |some e=>match e.v with
   | .os b' _ off l=>match yC.ah.get b' with
    |some k=>alk k off l
    |none=>[]
   |_=>[]
  |none=>[])++Jz yC r
 |_::r=>Jz yC r
def ac6 (yC:t_):List (Nat×List Kd)->Option (List SV)
 |[]=>some []
 |(b,ks)::r=>match yC.ah.get b with
  |some (.rows sz [row])=>bif Nat.beq sz ks.length&&NM ks row then (match ac6 yC r with|some l=>some (.agg (zO row)::l)|none=>none) else none
  |_=>none
def sc1 : SV->Bool
 | .sc .sl _=>false
 | .sc _ _=>true
 |_=>false
def RI (a:Bool)(n:Nat)(v:SV):Bool:=match a,v with
 |true,.agg l=>Nat.beq l.length n&&l.all sc1
 |false,v=>Nat.beq n 1&&sc1 v
 |_,_=>false
def KR (m:MSh):SB->Option SV
 | .BZ m' t=>bif decide (m=m') then some (.sc .sl t) else none
 | .map es=>bif es.all fun e=>RI m.ka m.kn e.1&&RI m.va m.vn e.2 then some (.slc (es.map fun e=>e.1.cells++e.2.cells) false) else none
 |_=>none
def Tb.of : Tb->SB->Option SV
 | .rows sz,k=>yR sz k
 | .map m,k=>KR m k
def ac7 (yC:t_):List (Nat×Tb)->Option (List SV)
 |[]=>some []
 |(b,sz)::r=>match yC.ah.get b with
  |some k=>match sz.of k,ac7 yC r with|some x,some l=>some (x::l)|_,_=>none
  |none=>none
def aCo (th:Tr SB)(o:Ob)(row:List SV):Option (SV×Src):=
 match row.drop o.pre.length with
 |v::q=>bif NM o.pre (row.take o.pre.length)&&NM o.post q then (match af7 th v (.os o.b o.sz) with|some x=>some (.agg (zO (row.take o.pre.length)++x.1::zO q),x.2)|none=>none) else none
 |[]=>none
def aw7 (yC:t_):List (Nat×Ob)->Option (List (SV×Src))
 |[]=>some []
 |(b,o)::r=>match yC.ah.get b with
  |some (.rows sz [row])=>bif Nat.beq sz o.n then (match aCo yC.ah o row,aw7 yC r with|some x,some l=>some (x::l)|_,_=>none) else none
  |_=>none
def obV (yC:t_)(b:Nat)(o:Ob):Option SV:=match yC.ah.get b with
 |some (.rows _ [row])=>(row.drop o.pre.length).head?
 |_=>none
def ayf (yC:t_):List (Nat×Ob)->List Side
 |[]=>[]
 |(b,o)::r=>(match obV yC b o with
  |some (.os b' _ off l)=>(match yC.ah.get b' with|some k=>alk k off l|none=>[])
  |_=>[])++ayf yC r
def alQ (yC:t_)(p:DW):List Side:=Jz yC p.fr++ayf yC p.ob
def ay_ (yC:t_):List (Nat×Ob)->List Nat
 |[]=>[]
 |(b,o)::r=>(match obV yC b o with
  |some (.os b' _ _ _)=>[b']
  |_=>[])++ay_ yC r
end Go.Fw
end
section
namespace Go.Fw
variable [jY]
def ahT : Pc->Pc->Bool
 |[],[]=>true
 |x::r,y::s=>x.1.beq y.1&&(x.2 == y.2&&ahT r s)
 |_,_=>false
theorem ac8 : ∀{x y:Pc},ahT x y=true->x=y
 |[],[],_=>rfl
 |(a,b)::r,(c,d)::s,h=>by
  simp only [ahT,ak,beq_iff_eq] at h
  rw [Tm.beq_eq h.1,h.2.1,ac8 h.2.2]
def qo.beq (x y:qo):Bool:=ahT x.h y.h&&x.v.beq y.v
theorem qo.beq_eq {x y:qo}(h:x.beq y=true):x=y:=by
 simp only [qo.beq,ak] at h
 cases x;cases y
 simp only at h
 rw [ac8 h.1,SV.beq_eq h.2]
def SB.beq : SB->SB->Bool
 | .rows a r,.rows b s=>Nat.beq a b&&TG r s
 | .fK a r,.fK b s=>Nat.beq a b&&r.beq s
 |_,_=>false
theorem SB.beq_eq {x y:SB}(h:x.beq y=true):x=y:=by
 unfold SB.beq at h
 split at h
 .simp only [ak] at h
  rw [au h.1,KE h.2]
 .simp only [ak] at h
  rw [au h.1,Tm.beq_eq h.2]
 .cases h
def below (n:Nat)(l:List Nat):Bool:=l.all fun b=>Nat.ble (b+1) n
theorem KT {n:Nat}{l:List Nat}(h:below n l=true):∀b∈l,b<n:=fun b hb=>by
 unfold below at h
 rw [aF] at h
 exact aC (h b hb)
def aj6 (base nE:Nat)(ins:List Nat)(p:DW)(c yC:t_):Bool:=
 (ins.all fun t=>(p.fr.any fun x=>Nat.beq x.1 t)||match c.fr.get t with
  |none=>true
  |some e=>e.lt base&&(below nE e.v.IG&&match yC.fr.get t with|some e'=>e'.beq e|none=>false))&&
 ((List.range nE).all fun b=>((p.bl.any fun x=>Nat.beq x.1 b)||((p.tb.any fun x=>Nat.beq x.1 b)||(p.ob.any fun x=>Nat.beq x.1 b)))||match c.ah.get b with
  |none=>true
  |some k=>k.lt base&&(below nE k.IG&&match yC.ah.get b with|some k'=>k'.beq k|none=>false))
def vY : List (Nat×Uj)->List (SV×Src)->List (Nat×Src)
 |(_,.os b _)::r,(_,s)::l=>(b,s)::vY r l
 |_::r,_::l=>vY r l
 |_,_=>[]
def ale : List (Nat×Ob)->List (SV×Src)->List (Nat×Src)
 |(_,o)::r,(_,s)::l=>(o.b,s)::ale r l
 |_,_=>[]
def Wn (nE nx:Nat)(p:DW)(c:t_):List (Nat×Src)->Bool
 |[]=>true
 |(b,s)::r=>Nat.ble nE b&&(Nat.ble (b+1) nx&&((r.all fun x=>!Nat.beq x.1 b)&&(Wn nE nx p c r&&
  match s with
  | .no=>false
  | .empty=>true
  | .at b' _=>(r.all fun x=>match x.2 with | .at b2 _=>!Nat.beq b2 b' | _=>true)&&
   (Nat.ble nE b'||(!(p.bl.any fun x=>Nat.beq x.1 b')&&(!(p.tb.any fun x=>Nat.beq x.1 b')&&(!(p.ob.any fun x=>Nat.beq x.1 b')&&(c.ah.get b').isNone)))))))
def KU : List SV->Bool
 |[]=>true
 |x::r=>(match x.IG with | []=>true|_=>false)&&KU r
def ac9 (pc:Pc)(base nE:Nat)(ins:List Nat)(p:DW)(c yC:t_):Option (List SV):=
 match ac5 pc yC p.fr,ac6 yC p.bl,ac7 yC p.tb,aw7 yC p.ob with
 |some f,some b,some t,some o=>
  let vals:=f.map (·.1)++(b++(t++o.map (·.1)))
  bif aj6 base nE ins p c yC&&(Wn nE p.nx p c (vY p.fr f++ale p.ob o)&&(KU vals&&(Nat.ble nE p.nx&&(below nE (p.bl.map (·.1))&&(below nE (p.tb.map (·.1))&&below nE (p.ob.map (·.1))))))) then some vals else none
 |_,_,_,_=>none
theorem amE {ρ:List AV}{k:Kd}{v:SV}(h:aa9 k v=true):k.av ((v.nrm.den ρ).D)=v.nrm.den ρ:=by
 cases v with
 |sc k' t=>simp only [aa9,decide_eq_true_eq] at h;subst h;cases k<;>rfl
 |nil=>simp only [aa9,decide_eq_true_eq] at h;subst h;rfl
 |sf t=>simp only [aa9,decide_eq_true_eq] at h;subst h;rfl
 |slc r f=>simp only [aa9,decide_eq_true_eq] at h;subst h;rfl
 |_=>simp [aa9] at h
theorem Wp {ρ σ:List AV}{j:Nat}:∀{ks:List Kd} {l:List SV} {pre:List AV},NM ks l=true->σ.getD j eP=.agg (pre++dU ρ (zO l))->dU σ (kQ j [] pre.length ks)=dU ρ (zO l)
 |[],[],pre,_,_=>rfl
 |k::r,x::s,pre,h,hj=>by
  simp only [NM,ak] at h
  simp only [kQ,dU,zO]
  have e1:SV.den σ (.sc k (.var j ([]++[pre.length])))=x.nrm.den ρ:=by
   simp only [SV.den,Tm.den,hj]
   have:aDt (.agg (pre++dU ρ (zO (x::s)))) ([]++[pre.length])=x.nrm.den ρ:=by
    simp [aDt,zO,dU,aB]
   rw [this]
   exact amE h.1
  have e2:=Wp (σ:=σ) (ρ:=ρ) (j:=j) (pre:=pre++[x.nrm.den ρ]) h.2 (by rw [hj];simp [zO,dU])
  rw [e1]
  simp only [bG,Nat.zero_add,dw,List.length_nil] at e2
  rw [e2]
 |[],_::_,pre,h,_=>by simp [NM] at h
 |_::_,[],pre,h,_=>by simp [NM] at h
theorem apB {ρ σ:List AV}{j:Nat}{suf:List AV}:∀{ks:List Kd} {l:List SV} {pre:List AV},NM ks l=true->σ.getD j eP=.agg (pre++(dU ρ (zO l)++suf))->dU σ (kQ j [] pre.length ks)=dU ρ (zO l)
 |[],[],pre,_,_=>rfl
 |k::r,x::s,pre,h,hj=>by
  simp only [NM,ak] at h
  simp only [kQ,dU,zO]
  have e1:SV.den σ (.sc k (.var j ([]++[pre.length])))=x.nrm.den ρ:=by
   simp only [SV.den,Tm.den,hj]
   have:aDt (.agg (pre++(dU ρ (zO (x::s))++suf))) ([]++[pre.length])=x.nrm.den ρ:=by
    simp [aDt,zO,dU,aB]
   rw [this]
   exact amE h.1
  have e2:=apB (σ:=σ) (ρ:=ρ) (j:=j) (suf:=suf) (pre:=pre++[x.nrm.den ρ]) h.2 (by rw [hj];simp [zO,dU])
  rw [e1]
  simp only [bG,Nat.zero_add,dw,List.length_nil] at e2
  rw [e2]
 |[],_::_,pre,h,_=>by simp [NM] at h
 |_::_,[],pre,h,_=>by simp [NM] at h
theorem apI : ∀{ks:List Kd} {l:List SV},NM ks l=true->l.length=ks.length
 |[],[],_=>rfl
 |k::r,x::s,h=>by simp only [NM,ak] at h;simp [apI h.2]
 |[],_::_,h=>by simp [NM] at h
 |_::_,[],h=>by simp [NM] at h
theorem aiX : ∀{l:List SV},(zO l).length=l.length
 |[]=>rfl
 |x::r=>by simp [zO,aiX (l:=r)]
theorem ahU {ρ σ:List AV}{th:Tr SB}{v x:SV}{p:Uj}{s:Src}{j:Nat}(h:af7 th v p=some (x,s))(hp:∀b sz,p≠.os b sz)(hj:σ.getD j eP=x.den ρ):Weak (v.den ρ) ((p.sv j).den σ)/\(p.sv j).den σ=x.den ρ:=by
 cases p with
 |os b sz=>exact absurd rfl (hp b sz)
 |sc k=>
  simp only [af7] at h
  cases hk:aa9 k v
  .simp [hk] at h
  .simp only [hk,cond_true,aj,aJ] at h
   obtain ⟨rfl,rfl⟩:=h
   have e:(Uj.sv j (.sc k)).den σ=v.nrm.den ρ:=by
    simp only [Uj.sv,SV.den,Tm.den,aDt,hj]
    exact amE hk
   exact ⟨by rw [e];exact Gs,e⟩
 |agg ks=>
  simp only [af7] at h
  split at h
  .rename_i l
   cases hk:NM ks l
   .simp [hk] at h
   .simp only [hk,cond_true,aj,aJ] at h
    obtain ⟨rfl,rfl⟩:=h
    have e:(Uj.sv j (.agg ks)).den σ=(SV.agg (zO l)).den ρ:=by
     simp only [Uj.sv,SV.den]
     have:=Wp (σ:=σ) (ρ:=ρ) (j:=j) (pre:=[]) hk (by rw [hj];rfl)
     simp only [List.length_nil] at this
     rw [this]
    refine ⟨?_,e⟩
    rw [e]
    exact Gs (x:=.agg l)
  .cases h
theorem EP {ρ:List AV}{sz:Nat}{k:SB}{r:SV}(h:yR sz k=some r):∃rs R,k.den ρ=.rows sz rs/\r.den ρ=.sl R false/\uO rs R/\rs.length=R.length:=by
 cases k with
 |fK sz' t=>
  simp only [yR] at h
  cases hc:Nat.beq sz sz'
  .simp [hc] at h
  .simp only [hc,cond_true,aj] at h;subst h
   have:=au hc;subst this
   exact ⟨_,_,rfl,rfl,uO.refl _,rfl⟩
 |rows sz' rs=>
  simp only [yR] at h
  cases hc:Nat.beq sz sz'
  .simp [hc] at h
  .simp only [hc,cond_true,aj] at h;subst h
   have:=au hc;subst this
   exact ⟨_,_,rfl,rfl,II,(II (ρ:=ρ)).length⟩
 |map es=>simp [yR] at h
 |BZ m t=>simp [yR] at h
 |it m n k=>simp [yR] at h
 |kN ty sz rs=>simp [yR] at h
theorem amF {v:SV}(h:sc1 v=true):∃k t,v=.sc k t/\k≠.sl:=by
 cases v with
 |sc k t=>refine ⟨k,t,rfl,fun e=>?_⟩;subst e;simp [sc1] at h
 |_=>simp [sc1] at h
theorem ac_ {ρ:List AV}{v:SV}(h:sc1 v=true):(v.den ρ).refs=[]:=by
 obtain ⟨k,t,rfl,hk⟩:=amF h
 cases k<;>first|rfl|exact absurd rfl hk
theorem Wq {ρ:List AV}{a:Bool}{n:Nat}{v:SV}(h:RI a n v=true):v.cells.length=n/\nO a (dU ρ v.cells)=v.den ρ/\(v.den ρ).refs=[]:=by
 unfold RI at h
 split at h
 .rename_i l
  simp only [ak] at h
  refine ⟨au h.1,rfl,?_⟩
  have h2:=aF.1 h.2
  simp only [SV.den,AV.refs]
  clear h
  induction l with
  |nil=>rfl
  |cons x r ih=>simp only [dU,mQ,ac_ (h2 x (by simp)),ih (fun y hy=>h2 y (by simp [hy])),cu]
 .simp only [ak] at h
  have e:=au h.1
  obtain ⟨k,t,rfl,hk⟩:=amF h.2
  exact ⟨e.symm,rfl,ac_ h.2⟩
 .cases h
theorem af8 {ρ:List AV}{m:MSh}{k:SB}{r:SV}(h:KR m k=some r):∃es R,k.den ρ=.map es/\r.den ρ=.sl R false/\R.map (rW m)=es:=by
 cases k with
 |BZ m' t=>
  simp only [KR] at h
  cases hc:decide (m=m')
  .simp [hc] at h
  .simp only [hc,cond_true,aj] at h;subst h
   have:=of_decide_eq_true hc;subst this
   exact ⟨_,_,rfl,rfl,rfl⟩
 |map es=>
  simp only [KR] at h
  cases hc:(es.all fun e=>RI m.ka m.kn e.1&&RI m.va m.vn e.2)
  .simp [hc] at h
  .simp only [hc,cond_true,aj] at h;subst h
   refine ⟨_,_,rfl,rfl,?_⟩
   rw [l7,List.map_map,List.map_map]
   apply List.map_congr_left
   intro e he
   have:=aF.1 hc e he
   simp only [ak] at this
   obtain ⟨a1,a2,-⟩:=Wq (ρ:=ρ) this.1
   obtain ⟨b1,b2,-⟩:=Wq (ρ:=ρ) this.2
   simp only [Function.comp,rW,mF]
   have hl:(dU ρ e.1.cells).length=m.kn:=by rw [fZ,a1]
   rw [show (dU ρ e.1.cells++dU ρ e.2.cells).take m.kn=dU ρ e.1.cells by rw [<- hl];simp,show (dU ρ e.1.cells++dU ρ e.2.cells).drop m.kn=dU ρ e.2.cells by rw [<- hl];simp,a2,b2]
 |rows sz rs=>simp [KR] at h
 |fK sz t=>simp [KR] at h
 |it m n k=>simp [KR] at h
 |kN ty sz rs=>simp [KR] at h
theorem Ws {P:Program}{ρ:List AV}{k:SB}{l:Tm}{sz:Nat}{rs:List (List AV)}(h:Uk k l=true)(hs:∀s∈Zx k l,s.holds P ρ)(hk:k.den ρ=.rows sz rs):(l.den ρ).I.toNat=rs.length:=by
 cases k with
 |fK sz' t=>
  simp only [SB.den,wB.rows.injEq] at hk
  rw [UK hs,<- hk.2]
 |rows sz' rs'=>
  simp only [SB.den,wB.rows.injEq] at hk
  simp only [Uk] at h
  split at h
  .rename_i n hn
   rw [(fQ hn).2,au h,<- hk.2,l7];simp
  .cases h
 |map es=>simp [Uk] at h
 |BZ m t=>simp [Uk] at h
 |it m n k=>simp [Uk] at h
 |kN ty sz rs=>simp [Uk] at h
theorem aw8 {P:Program}{ρ:List AV}{k:SB}{off:Nat}{l:Tm}{sz:Nat}{rs:List (List AV)}(h:auU k off l=true)(hs:∀s∈alk k off l,s.holds P ρ)(hk:k.den ρ=.rows sz rs):off<=rs.length/\(l.den ρ).I.toNat=rs.length-off:=by
 unfold auU at h
 unfold alk at hs
 cases h0:Nat.beq off 0
 .simp only [h0,cond_false] at h hs
  cases k with
  |fK sz' t=>
   simp only [SB.den,wB.rows.injEq] at hk
   have e:=Tm.beq_eq h
   have h1:=hs _ (by simp:Side.tm (.bin .leq (.int .i64) (.li (.ofNat off)) (.rlen t))∈_)
   have h2:=hs _ (by simp:Side.tm (.bin .leq (.int .i64) (.rlen t) (.li 4294967296))∈_)
   have h1':(off:Int)<=rs.length:=by
    have:=of_decide_eq_true (show decide ((off:Int)<=mZ (t.den ρ).R)=true from h1)
    rw [hk.2] at this;exact this
   have h2':(rs.length:Int)<=4294967296:=by
    have:=of_decide_eq_true (show decide (mZ (t.den ρ).R<=(4294967296:Int))=true from h2)
    rw [hk.2] at this;exact this
   refine ⟨by omega,?_⟩
   rw [e]
   simp only [Tm.den,qJ,D.I,mZ,hk.2]
   show (iq .i64 (rs.length:Int) (off:Int)).toNat=_
   rw [uV (by omega) (by omega)]
   omega
  |rows sz' rs'=>
   simp only [SB.den,wB.rows.injEq] at hk
   dsimp only at h
   split at h
   .rename_i n hn
    have e:=au h
    have hl:rs.length=rs'.length:=by rw [<- hk.2,l7];simp
    rw [(fQ hn).2]
    omega
   .cases h
  |map es=>cases h
  |BZ m t=>cases h
  |it m n k=>cases h
  |kN ty sz rs=>cases h
 .simp only [h0,cond_true] at h hs
  have:=au h0
  subst this
  exact ⟨dB _,by rw [Ws h hs hk];rfl⟩
theorem arT {ρ:List AV}{sz off:Nat}{k:SB}{r:SV}(h:aG_ sz k off=some r):∃rs R,k.den ρ=.rows sz rs/\r.den ρ=.sl R false/\uO (rs.drop off) R/\(rs.drop off).length=R.length:=by
 unfold aG_ at h
 cases h0:Nat.beq off 0
 .simp only [h0,cond_false] at h
  cases k with
  |fK sz' t=>
   dsimp only at h
   cases hc:Nat.beq sz sz'
   .simp [hc] at h
   .simp only [hc,cond_true,aj] at h;subst h
    have:=au hc;subst this
    exact ⟨_,_,rfl,rfl,uO.refl _,rfl⟩
  |rows sz' rs=>
   dsimp only at h
   cases hc:Nat.beq sz sz'
   .simp [hc] at h
   .simp only [hc,cond_true,aj] at h;subst h
    have:=au hc;subst this
    refine ⟨_,_,rfl,rfl,?_,?_⟩
    .have e:(iM ρ rs).drop off=iM ρ (rs.drop off):=by rw [l7,l7,List.map_drop]
     rw [e];exact II
    .have e:(iM ρ rs).drop off=iM ρ (rs.drop off):=by rw [l7,l7,List.map_drop]
     rw [e];exact (II (ρ:=ρ)).length
  |map es=>cases h
  |BZ m t=>cases h
  |it m n k=>cases h
  |kN ty sz rs=>cases h
 .simp only [h0,cond_true] at h
  have:=au h0
  subst this
  exact EP h
theorem Zy {P:Program}{ρ:List AV}{yC:t_}:∀{l:List (Nat×Uj)},(∀s∈Jz yC l,s.holds P ρ)->∀{i t b sz:Nat},l[i]?=some (t,.os b sz)->∀{e:qo} {b' sz' off:Nat} {len:Tm} {k:SB},yC.fr.get t=some e->e.v=.os b' sz' off len->yC.ah.get b'=some k->∀s∈alk k off len,s.holds P ρ
 |(t0,p0)::r,h,0,t,b,sz,hi,e,b',sz',off,len,k,he,hv,hk,s,hs=>by
  simp at hi
  obtain ⟨rfl,rfl⟩:=hi
  refine h s ?_
  simp only [Jz,he,hv,hk,aH]
  exact .inl hs
 |(t0,p0)::r,h,i+1,t,b,sz,hi,e,b',sz',off,len,k,he,hv,hk,s,hs=>by
  refine Zy (l:=r) (fun s hs=>h s ?_) (by simpa using hi) he hv hk s hs
  cases p0<;>simp [Jz,hs]
 |[],h,i,t,b,sz,hi,_,_,_,_,_,_,_,_,_,_,_=>by simp at hi
theorem Zz {pc:Pc}{yC:t_}:∀{l:List (Nat×Uj)} {f:List (SV×Src)},ac5 pc yC l=some f->f.length=l.length/\∀(i t:Nat) (p:Uj),l[i]?=some (t,p)->∃e x s,yC.fr.get t=some e/\e.sure pc=true/\af7 yC.ah e.v p=some (x,s)/\f[i]?=some (x,s)
 |[],f,h=>by simp only [ac5,aj] at h;subst h;exact ⟨rfl,by simp⟩
 |(t0,p0)::r,f,h=>by
  simp only [ac5] at h
  split at h
  .cases h
  .rename_i e he
   cases hs:e.sure pc
   .simp [hs] at h
   .simp only [hs,cond_true] at h
    split at h
    .rename_i x l hx hl
     simp only [aj] at h;subst h
     obtain ⟨h1,h2⟩:=Zz hl
     refine ⟨by simp [h1],fun i t p hi=>?_⟩
     cases i with
     |zero=>
      simp only [List.getElem?_cons_zero,aj,aJ] at hi
      obtain ⟨rfl,rfl⟩:=hi
      exact ⟨e,x.1,x.2,he,hs,hx,rfl⟩
     |succ i=>
      obtain ⟨e,x,s,q1,q2,q3,q4⟩:=h2 i t p (by simpa using hi)
      exact ⟨e,x,s,q1,q2,q3,by simpa using q4⟩
    .cases h
theorem ZA {yC:t_}:∀{l:List (Nat×List Kd)} {f:List SV},ac6 yC l=some f->f.length=l.length/\∀(i b:Nat) (ks:List Kd),l[i]?=some (b,ks)->∃row,yC.ah.get b=some (.rows ks.length [row])/\NM ks row=true/\f[i]?=some (.agg (zO row))
 |[],f,h=>by simp only [ac6,aj] at h;subst h;exact ⟨rfl,by simp⟩
 |(b0,k0)::r,f,h=>by
  simp only [ac6] at h
  split at h
  .rename_i sz row hrow
   cases hc:Nat.beq sz k0.length&&NM k0 row
   .simp [hc] at h
   .simp only [hc,cond_true] at h
    split at h
    .rename_i l hl
     simp only [aj] at h;subst h
     simp only [ak] at hc
     have hsz:=au hc.1
     subst hsz
     obtain ⟨h1,h2⟩:=ZA hl
     refine ⟨by simp [h1],fun i b ks hi=>?_⟩
     cases i with
     |zero=>
      simp only [List.getElem?_cons_zero,aj,aJ] at hi
      obtain ⟨rfl,rfl⟩:=hi
      exact ⟨row,hrow,hc.2,rfl⟩
     |succ i=>
      obtain ⟨row,q1,q2,q3⟩:=h2 i b ks (by simpa using hi)
      exact ⟨row,q1,q2,by simpa using q3⟩
    .cases h
  .cases h
theorem ZB {yC:t_}:∀{l:List (Nat×Tb)} {f:List SV},ac7 yC l=some f->f.length=l.length/\∀(i b:Nat) (sz:Tb),l[i]?=some (b,sz)->∃k x,yC.ah.get b=some k/\sz.of k=some x/\f[i]?=some x
 |[],f,h=>by simp only [ac7,aj] at h;subst h;exact ⟨rfl,by simp⟩
 |(b0,k0)::r,f,h=>by
  simp only [ac7] at h
  split at h
  .rename_i k hk
   split at h
   .rename_i x l hx hl
    simp only [aj] at h;subst h
    obtain ⟨h1,h2⟩:=ZB hl
    refine ⟨by simp [h1],fun i b sz hi=>?_⟩
    cases i with
    |zero=>
     simp only [List.getElem?_cons_zero,aj,aJ] at hi
     obtain ⟨rfl,rfl⟩:=hi
     exact ⟨k,x,hk,hx,rfl⟩
    |succ i=>
     obtain ⟨row,x,q1,q2,q3⟩:=h2 i b sz (by simpa using hi)
     exact ⟨row,x,q1,q2,by simpa using q3⟩
   .cases h
  .cases h
theorem avV {yC:t_}:∀{l:List (Nat×Ob)} {f:List (SV×Src)},aw7 yC l=some f->f.length=l.length/\∀(i b:Nat) (o:Ob),l[i]?=some (b,o)->∃(u:List SV) (v:SV) (q:List SV) (x:SV) (s:Src),yC.ah.get b=some (.rows o.n [u++v::q])/\obV yC b o=some v/\
  NM o.pre u=true/\NM o.post q=true/\af7 yC.ah v (.os o.b o.sz)=some (x,s)/\f[i]?=some (.agg (zO u++x::zO q),s)
 |[],f,h=>by simp only [aw7,aj] at h;subst h;exact ⟨rfl,by simp⟩
 |(b0,o0)::r,f,h=>by
  simp only [aw7] at h
  split at h
  .rename_i sz row hrow
   cases hc:Nat.beq sz o0.n
   .simp [hc] at h
   .simp only [hc,cond_true] at h
    have hsz:=au hc
    subst hsz
    split at h
    .rename_i x l hx hl
     simp only [aj] at h;subst h
     obtain ⟨h1,h2⟩:=avV hl
     refine ⟨by simp [h1],fun i b o hi=>?_⟩
     cases i with
     |zero=>
      simp only [List.getElem?_cons_zero,aj,aJ] at hi
      obtain ⟨rfl,rfl⟩:=hi
      simp only [aCo] at hx
      split at hx
      .rename_i v q hv
       cases hk:(NM o0.pre (row.take o0.pre.length)&&NM o0.post q)
       .simp [hk] at hx
       .simp only [hk,cond_true] at hx
        simp only [ak] at hk
        split at hx
        .rename_i y hy
         simp only [aj] at hx;subst hx
         have hrow':row.take o0.pre.length++v::q=row:=by rw [<- hv];exact List.take_append_drop _ _
         refine ⟨row.take o0.pre.length,v,q,y.1,y.2,?_,?_,hk.1,hk.2,hy,rfl⟩
         .rw [hrow'];exact hrow
         .unfold obV;rw [hrow];simp [hv]
        .cases hx
      .cases hx
     |succ i=>
      obtain ⟨u,v,q,x,s,q1,q2⟩:=h2 i b o (by simpa using hi)
      exact ⟨u,v,q,x,s,q1,q2.1,q2.2.1,q2.2.2.1,q2.2.2.2.1,by simpa using q2.2.2.2.2⟩
    .cases h
  .cases h
theorem aw9 {P:Program}{ρ:List AV}{yC:t_}:∀{l:List (Nat×Ob)},(∀s∈ayf yC l,s.holds P ρ)->∀{i b:Nat} {o:Ob},l[i]?=some (b,o)->∀{b' sz' off:Nat} {len:Tm} {k:SB},obV yC b o=some (.os b' sz' off len)->yC.ah.get b'=some k->∀s∈alk k off len,s.holds P ρ
 |(b0,o0)::r,h,0,b,o,hi,b',sz',off,len,k,hv,hk,s,hs=>by
  simp at hi
  obtain ⟨rfl,rfl⟩:=hi
  refine h s ?_
  simp only [ayf,hv,hk,aH]
  exact .inl hs
 |(b0,o0)::r,h,i+1,b,o,hi,b',sz',off,len,k,hv,hk,s,hs=>
  aw9 (l:=r) (fun s hs=>h s (by simp [ayf,hs])) (by simpa using hi) hv hk s hs
 |[],h,i,b,o,hi,_,_,_,_,_,_,_,_,_=>by simp at hi
theorem aty : ∀{l:List (Nat×Ob)} {f:List (SV×Src)} {i b:Nat} {o:Ob} {x:SV} {s:Src},l[i]?=some (b,o)->f[i]?=some (x,s)->(o.b,s)∈ale l f
 |(b0,o0)::r,(x0,s0)::g,0,b,o,x,s,h1,h2=>by
  simp at h1 h2
  obtain ⟨rfl,rfl⟩:=h1
  obtain ⟨rfl,rfl⟩:=h2
  simp [ale]
 |(b0,o0)::r,(x0,s0)::g,i+1,b,o,x,s,h1,h2=>by
  have ih:=aty (l:=r) (f:=g) (i:=i) (by simpa using h1) (by simpa using h2)
  simp [ale,ih]
 |[],f,i,b,o,x,s,h1,h2=>by simp at h1
 |_::_,[],i,b,o,x,s,h1,h2=>by simp at h2
theorem uP : ∀{l:List SV} {i:Nat} {x:SV},KU l=true->l[i]?=some x->x.IG=[]
 |y::r,0,x,h,hi=>by
  simp at hi;subst hi
  simp only [KU,ak] at h
  have:=h.1
  split at this
  .assumption
  .cases this
 |y::r,i+1,x,h,hi=>by
  simp only [KU,ak] at h
  exact uP h.2 (by simpa using hi)
 |[],i,x,h,hi=>by simp at hi
def Own.shift (k:Nat):Own->Own
 | .at c o=>.at c (o+k)
 |x=>x
theorem Own.atB {x:Own}{k c o:Nat}(h:x.shift k=.at c o):∃o',x=.at c o':=by
 cases x with
 |«at» a b=>simp only [Own.shift,Own.at.injEq] at h;exact ⟨b,by rw [h.1]⟩
 |free=>cases h
 |empty=>cases h
def Wu (E:Env):Src->Own
 | .no=>.free
 | .empty=>.empty
 | .at b' k=>(E.own b').shift k
def KW (E:Env):List (Nat×Src)->Nat->Own
 |[],_=>.free
 |(b,s)::r,x=>if b=x then Wu E s else KW E r x
theorem Au {E:Env}{nE nx:Nat}{p:DW}{c:t_}:∀{l:List (Nat×Src)} {b:Nat} {s:Src},Wn nE nx p c l=true->(b,s)∈l->KW E l b=Wu E s/\nE<=b/\b<nx/\(∀b' k,s=.at b' k->nE<=b'\/((∀ks,(b',ks)∉p.bl)/\(∀sz,(b',sz)∉p.tb)/\(∀o,(b',o)∉p.ob)/\c.ah.get b'=none))
 |(b0,s0)::r,b,s,h,hm=>by
  simp only [Wn,ak] at h
  obtain ⟨h1,h2,h3,h4,h5⟩:=h
  cases hm with
  |head=>
   refine ⟨by simp [KW],aC h1,aC h2,fun b' k e=>?_⟩
   subst e
   simp only [ak,aY,Bool.not_eq_true',List.any_eq_false,Option.isNone_iff_eq_none] at h5
   rcases h5.2 with h6|⟨h6,h7,h9,h8⟩
   .exact .inl (aC h6)
   .exact .inr ⟨fun ks hk=>by have:=h6 _ hk;simp at this,fun ks hk=>by have:=h7 _ hk;simp at this,fun ks hk=>by have:=h9 _ hk;simp at this,h8⟩
  |tail _ hm=>
   have ih:=Au (E:=E) h4 hm
   have hne:b0≠b:=by
    rw [aF] at h3
    have:=h3 _ hm
    intro e;subst e;simp at this
   simp only [KW,if_neg hne]
   exact ih
theorem I5 {E:Env}:∀{l:List (Nat×Src)} {b:Nat},(∀s,(b,s)∉l)->KW E l b=.free
 |[],b,_=>rfl
 |(b0,s0)::r,b,h=>by
  have hne:b0≠b:=by intro e;subst e;exact h s0 (by simp)
  simp only [KW,if_neg hne]
  exact I5 (fun s hs=>h s (by simp [hs]))
theorem ada {nE nx:Nat}{p:DW}{c:t_}:∀{l:List (Nat×Src)} {b1 b2 b' k1 k2:Nat},Wn nE nx p c l=true->(b1,.at b' k1)∈l->(b2,.at b' k2)∈l->b1=b2
 |(b0,s0)::r,b1,b2,b',k1,k2,h,h1,h2=>by
  simp only [Wn,ak] at h
  obtain ⟨_,_,_,q4,q5⟩:=h
  cases h1 with
  |head=>
   cases h2 with
   |head=>rfl
   |tail _ h2=>
    simp only [ak,aF] at q5
    have:=q5.1 _ h2
    simp at this
  |tail _ h1=>
   cases h2 with
   |head=>
    simp only [ak,aF] at q5
    have:=q5.1 _ h1
    simp at this
   |tail _ h2=>exact ada q4 h1 h2
theorem Wv : ∀{l:List (Nat×Uj)} {f:List (SV×Src)} {i t b sz:Nat} {x:SV} {s:Src},l[i]?=some (t,.os b sz)->f[i]?=some (x,s)->(b,s)∈vY l f
 |(t0,p0)::r,(x0,s0)::g,0,t,b,sz,x,s,h1,h2=>by
  simp at h1 h2
  obtain ⟨rfl,rfl⟩:=h1
  obtain ⟨rfl,rfl⟩:=h2
  simp [vY]
 |(t0,p0)::r,(x0,s0)::g,i+1,t,b,sz,x,s,h1,h2=>by
  have ih:=Wv (l:=r) (f:=g) (i:=i) (by simpa using h1) (by simpa using h2)
  cases p0<;>simp [vY,ih]
 |[],f,i,t,b,sz,x,s,h1,h2=>by simp at h1
 |_::_,[],i,t,b,sz,x,s,h1,h2=>by simp at h2
def Tr.only (tr:Tr qo):List Nat->Tr qo
 |[]=>.e
 |t::r=>match tr.get t with|some x=>(Tr.only tr r).upd zX t (some x)|none=>Tr.only tr r
def aDy (th:Tr SB):Nat->List Nat->Tr SB->Tr SB
 |0,_,acc=>acc
 |n+1,[],acc=>acc
 |n+1,b::r,acc=>match acc.get b with
  |some _=>aDy th n r acc
  |none=>match th.get b with
   |none=>aDy th n r acc
   |some k=>aDy th n ((match k with | .rows _ rs=>EK rs | .fK _ _=>[] | .BZ _ _=>[] | .map es=>Gq (es.map (·.1))++Gq (es.map (·.2)) | .it m _ _=>[m] | .kN _ _ rs=>EK rs)++r) (acc.upd zX b (some k))
def t_.only (st:t_)(l:List Nat):t_:=
 ⟨st.fr.only l,aDy st.ah 60 (l.flatMap fun t=>match st.fr.get t with|some e=>e.v.IG|none=>[]) .e,st.nx⟩
def Tr.Wx {α:Type}(tr:Tr α):List Nat->Tr α
 |[]=>.e
 |t::r=>match tr.get t with|some x=>(Tr.Wx tr r).upd zX t (some x)|none=>Tr.Wx tr r
theorem Tr.Gz {α:Type}{tr:Tr α}:∀{l:List Nat} {t:Nat} {y:α},(Tr.Wx tr l).get t=some y->t∈l/\tr.get t=some y
 |[],t,y,h=>by simp [Tr.Wx,Tr.get] at h
 |s::r,t,y,h=>by
  simp only [Tr.Wx] at h
  split at h
  .rename_i x hx
   rcases Tr.pW _ _ _ _ _ _ h with ⟨rfl,h1⟩|⟨-,h1⟩
   .simp only [aj] at h1;subst h1;exact ⟨by simp,hx⟩
   .have:=Tr.Gz h1;exact ⟨by simp [this.1],this.2⟩
  .have:=Tr.Gz h;exact ⟨by simp [this.1],this.2⟩
def adb (th:Tr SB)(b:Nat):Bool:=match th.get b with|some (.map _)=>false|some (.BZ _ _)=>false|some (.it _ _ _)=>false|some (.kN _ _ _)=>false|_=>true
def t_.cut (st:t_)(l:List Nat):t_:=⟨st.fr.Wx l,(st.only l).ah.Wx ((List.range st.nx).filter (adb (st.only l).ah)),st.nx⟩
structure NP where
 ins:List Nat
 p:DW
 xs:List (Exit×DW)
def av5 : List Nat->Tr SB->Tr SB
 |[],th=>th
 |b::r,th=>(av5 r th).upd zX b none
theorem al7 : ∀{l:List Nat} {th:Tr SB} {b:Nat} {k:SB},(av5 l th).get b=some k->th.get b=some k
 |[],th,b,k,h=>h
 |c::r,th,b,k,h=>by
  simp only [av5] at h
  rcases Tr.pW _ _ _ _ _ _ h with ⟨_,h1⟩|⟨_,h1⟩
  .cases h1
  .exact al7 h1
def t_.ar4 (st:t_)(h:NP):t_:=⟨(st.cut h.ins).fr,av5 (ay_ st h.p.ob) (st.cut h.ins).ah,st.nx⟩
def SV.slT (th:Tr SB):SV->List Tm
 | .sc .sl t=>[t]
 | .agg l=>l.filterMap fun x=>match x with | .sc .sl t=>some t|_=>none
 | .os b _ _ l=>match th.get b with
  |some (.fK _ t)=>bif l.beq (.rlen t) then [t] else []
  |_=>[]
 |_=>[]
def apV (l:List Tm)(t:Tm):List Tm:=bif l.any fun x=>x.beq t then l else l++[t]
def ar0 (st:t_)(t:Nat):List Tm:=match st.fr.get t with
 |some e=>(match e.h with | []=>e.v.slT st.ah|_=>[])
 |none=>[]
def apW (st:t_)(ins:List Nat):List Tm:=(ins.flatMap (ar0 st)).foldl apV []
inductive Lo where
 |mk (pc:Pc) (base m:Nat) (entry:List SV) (outs:List (Tm×Nat×List SV)) (sd:List (Pc×Side)) (aw:List Lo) (ms:List Nat) (bn:List Tm)
def aDJ (base:Nat)(ms:List Nat)(k:Nat):Nat:=(bif Nat.ble ms.length 1 then base else base+1)+(ms.take k).sum
def Ei (ρ:List AV):List (Tm×Nat×List SV)->Option (Nat×List SV)
 |[]=>none
 |[o]=>some o.2
 |o::o'::r=>bif (o.1.den ρ).B then some o.2 else Ei ρ (o'::r)
def apX (id:Nat):Exit->Exit->Bool
 | .normal,.exit j=>Nat.beq j id
 | .exit i,.exit j=>Nat.beq i j&&!Nat.beq j id
 | .ret,.ret=>true
 |_,_=>false
def Wy (id:Nat)(e:Exit):Nat->List (Exit×DW)->Option (Nat×DW)
 |_,[]=>none
 |k,x::r=>bif apX id x.1 e then some (k,x.2) else Wy id e (k+1) r
def aj7 (h:NP)(id base nE:Nat)(cs:t_)(pc:Pc)(o:Out):Option (Tm×Nat×List SV):=
 match o.e with
 | .normal=>match ac9 pc base nE h.ins h.p cs o.st with|some v=>some (o.g,0,v)|none=>none
 |e=>match Wy id e 0 h.xs with
  |some (k,p)=>match ac9 pc base nE h.ins p cs o.st with|some v=>some (o.g,k+1,v)|none=>none
  |none=>none
def ade (h:NP)(id base nE:Nat)(cs:t_):Pc->List Out->Option (List (Tm×Nat×List SV))
 |_,[]=>some []
 |pc,[o]=>match aj7 h id base nE cs pc o with|some x=>some [x]|none=>none
 |pc,o::o'::r=>match aj7 h id base nE cs (jK o.g true pc) o with
  |none=>none
  |some x=>match ade h id base nE cs (jK o.g false pc) (o'::r) with|some l=>some (x::l)|none=>none
def adf (h:NP)(id:Nat)(o:Out):List Side:=
 match o.e with
 | .normal=>alQ o.st h.p
 |e=>match Wy id e 0 h.xs with
  |some (_,p)=>alQ o.st p
  |none=>[]
def ahV (h:NP)(id:Nat):Pc->List Out->List (Pc×Side)
 |_,[]=>[]
 |pc,[o]=>(adf h id o).map fun s=>(pc,s)
 |pc,o::o'::r=>(adf h id o).map (fun s=>(jK o.g true pc,s))++ahV h id (jK o.g false pc) (o'::r)
def ER (cs:t_)(nv:Nat):Nat->Nat->List (Exit×DW)->List Out
 |_,_,[]=>[]
 |k,q,[x]=>[⟨.lb true,x.1,aEc x.2 q cs⟩]
 |k,q,x::y::r=>⟨.bin .eql (.int .i64) (.var nv []) (.li k),x.1,aEc x.2 q cs⟩::ER cs nv (k+1) (q+x.2.m) (y::r)
def af9 (S:List AV->Prop)(outs:List (Tm×Nat×List SV))(ρ0:List AV)(m:Nat):Nat->List AV->Nat->List AV->Prop
 |0,_,_,_=>False
 |n+1,vs,k,us=>∃cs,vs.length=m/\iW (ρ0++vs++cs)=true/\S (ρ0++vs++cs)/\
  match Ei (ρ0++vs++cs) outs with
  |none=>False
  |some (0,l)=>af9 S outs ρ0 m n (dU (ρ0++vs++cs) l) k us
  |some (j+1,l)=>k=j/\us=dU (ρ0++vs++cs) l
def amG (ρ:List AV)(base:Nat)(ms:List Nat)(k:Nat)(us:List AV):Prop:=
 (1<ms.length->(ρ.getD base eP).D.I=(k:Int))/\∀(i:Nat) (u:AV),us[i]?=some u->ρ.getD (aDJ base ms k+i) eP=u
 mutual
def Lo.holds (P:Program):Lo->List AV->Prop
  | .mk pc base m entry outs sd aw ms bn=>fun ρ=>Pc.holds ρ pc->(∀t∈bn,(t.den ρ).R.length<=4294967296)->base<=ρ.length/\∃n k us,af9 (fun σ=>jD P σ sd/\LoL P aw σ) outs (ρ.take base) m n (dU ρ entry) k us/\amG ρ base ms k us
def LoL (P:Program):List Lo->List AV->Prop
  |[]=>fun _=>True
  |x::r=>fun σ=>x.holds P σ/\LoL P r σ
end
theorem aa_ {P:Program}{ρ:List AV}:∀{a b:List Lo},LoL P (a++b) ρ↔LoL P a ρ/\LoL P b ρ
 |[],b=>by simp [LoL]
 |x::a,b=>by simp only [bV,LoL,aa_ (a:=a) (b:=b),and_assoc]
end Go.Fw
end
section
namespace Go.Fw
variable [jY]
section
variable {P : Program} {base:Nat} {w w':World} {E:Env} {ah:AH} {F:Nat->Prop}
theorem amH (hh:dX base w E ah F){q c:Nat}{o0:Obj}(o1:Obj)(ho:E.own q=.at c 0)(hsep:∀b k c' o',ah b=some k->E.own b=.at c' o'->c'≠c)(hnf:∀off,¬E.fix c off)
  (hc:w.heap[c]?=some o0) (hnc:∀arr t f,o0≠.cells arr t f) (d:Nat) :
  Step base w E {w with drawn:=d,heap:=w.heap.setIfInBounds c o1} E/\dX base {w with drawn:=d,heap:=w.heap.setIfInBounds c o1} E ah F:=by
 obtain ⟨hbase,hlt⟩:=hh.kL q c 0 ho
 obtain ⟨g1,g2⟩:=Gg (o':=o1) hc
 have hx:Ext w E {w with drawn:=d,heap:=w.heap.setIfInBounds c o1} E:=by
  refine ⟨fun _ _ h=>h,fun c' off h=>?_,fun _ _=>rfl,fun c' ar t fz h=>?_⟩
  .have:c'≠c:=fun e=>hnf off (e▸h)
   simp only [World.cell?]
   rw [g2 c' this]
  .have:c'≠c:=fun e=>by subst e;rw [hc] at h;cases h;exact hnc _ _ _ rfl
   exact ⟨ar,fz,by show (w.heap.setIfInBounds c _)[c']?=_;rw [g2 c' this];exact h,rfl⟩
 refine ⟨⟨hx,⟨rfl,rfl,rfl,by simp,fun j hj=>g2 j (by omega)⟩,fun _ _ _ h=>h,fun c' _ hno=>g2 c' (fun e=>hno q 0 (e▸ho)),fun b c o h _=>⟨b,o,h⟩,fun _ _ h _=>.inl h⟩,?_⟩
 refine ⟨fun b' k' hb'=>?_,hh.sep,hh.fresh,fun c' off h=>?_,by simpa using hh.bs,fun b c o h=>by simpa using hh.kL b c o h⟩
 .exact (hh.blk b' k' hb').keep hx (fun c' o' ho'=>g2 c' (hsep b' k' c' o' hb' ho')) (fun _ _ _ _ h=>h)
 .have:=hh.kJ c' off h;simpa using this
theorem Dq : ∀{l m:List Nat},l.Nodup->(∀x∈l,x∈m)->l.length<=m.length
 |[],m,_,_=>by simp
 |a::l,m,h,hs=>by
  obtain ⟨h1,h2⟩:=List.nodup_cons.1 h
  have ha:a∈m:=hs a (by simp)
  have ih:=Dq (l:=l) (m:=m.erase a) h2 (fun x hx=>by
   have:x≠a:=fun e=>h1 (e▸hx)
   exact (List.mem_erase_of_ne this).2 (hs x (by simp [hx])))
  rw [List.length_erase_of_mem ha] at ih
  have:0<m.length:=List.length_pos_of_mem ha
  simp;omega
theorem ZC {n:Nat}{s:List Nat}(hs:s.Nodup)(hlt:∀j∈s,j<n)(hl:s.length=n):∀j,j<n->j∈s:=by
 intro j hj
 apply Classical.byContradiction
 intro hno
 have:=Dq (l:=j::s) (m:=List.range n) (List.nodup_cons.2 ⟨hno,hs⟩) (fun x hx=>by
  cases hx with
  |head=>exact List.mem_range.2 hj
  |tail _ hx=>exact List.mem_range.2 (hlt x hx))
 simp at this;omega
theorem amI {cq cm n:Nat}{s:List Nat}{lK:Array MapEntry}{ty:TypeId}(hq:w.heap[cq]?=some (.mapIter (some cm) n s.toArray n))(hm:w.heap[cm]?=some (.map lK n))
  (hb:∀(i:Nat) (a:MapEntry),lK[i]?=some a->a.born=i) (hn:lK.size=n) (hs:s.Nodup) (hlt:∀j∈s,j<n) :
  (s.length=n/\(Instr.next (.pointer (some ⟨cq,0,none⟩)) false ty).run P w=.ok (.tuple #[.bool false]) w)\/
  ∃j ce d,lK[j]?=some ce/\j∉s/\(Instr.next (.pointer (some ⟨cq,0,none⟩)) false ty).run P w =
   .ok (.tuple #[.bool true,ce.key,ce.val]) {w with drawn:=d,heap:=w.heap.setIfInBounds cq (.mapIter (some cm) n (s++[j]).toArray n)}:=by
 have hgi:(getObj cq).run P w=.ok (.mapIter (some cm) n s.toArray n) w:=by simp [getObj,Sem.run,hq]
 have hgm:(getObj cm).run P w=.ok (.map lK n) w:=by simp [getObj,Sem.run,hm]
 have hcond:(!s.toArray.isEmpty&&!lK.isEmpty&&lK.all (·.born>=n))=false:=by
  cases he:lK.isEmpty
  .have h0:0<lK.size:=by
    rcases Nat.eq_zero_or_pos lK.size with e|e
    .have:lK=#[]:=Array.eq_empty_of_size_eq_zero e
     subst this;simp at he
    .exact e
   have:lK.all (·.born>=n)=false:=by
    rw [Array.all_eq_false]
    refine ⟨0,h0,?_⟩
    have:=hb 0 lK[0] (by simp [h0])
    simp [this];omega
   rw [this];simp
  .simp
 have hin:∀x∈lK.toList,x.born<n/\lK[x.born]?=some x:=by
  intro x hx
  obtain ⟨i,hi⟩:=bF.1 hx
  have hi':lK[i]?=some x:=by simpa using hi
  have:=hb i x hi'
  have hlt':=(bD.1 hi').1
  rw [this];exact ⟨by omega,hi'⟩
 obtain ⟨left,hleft⟩:∃left,left=lK.filter fun e=>!s.toArray.contains e.born:=⟨_,rfl⟩
 have hlm:∀x,x∈left.toList↔x∈lK.toList/\x.born∉s:=by
  intro x
  rw [hleft,Array.toList_filter,List.mem_filter]
  simp
 have hold:left.filter (fun e=>decide (e.born<n))=left:=by
  apply Array.ext'
  rw [Array.toList_filter,List.filter_eq_self]
  intro x hx
  simpa using (hin x ((hlm x).1 hx).1).1
 have hnew:left.filter (fun e=>decide (e.born>=n))=#[]:=by
  apply Array.ext'
  rw [Array.toList_filter]
  simp only [List.filter_eq_nil_iff,decide_eq_true_eq]
  intro x hx
  have:=(hin x ((hlm x).1 hx).1).1
  omega
 rcases Nat.lt_or_ge s.length n with hlen|hlen
 .right
  
  obtain ⟨j0,hj0,ayn⟩:∃j,j<n/\j∉s:=by
   apply Classical.byContradiction
   intro hno
   have hsub:∀j∈List.range n,j∈s:=fun j hj=>Classical.byContradiction fun h=>hno ⟨j,List.mem_range.1 hj,h⟩
   have:=Dq (List.nodup_range (n:=n)) hsub
   simp at this;omega
  have hne:left.size≠0:=by
   have:lK[j0]∈left.toList:=(hlm _).2 ⟨by simp,by rw [hb j0 lK[j0] (by simp [hn,hj0])];exact ayn⟩
   intro h0
   have h1:left.toList.length=0:=by simpa using h0
   rw [List.length_eq_zero_iff] at h1
   rw [h1] at this;cases this
  have hempty:left.isEmpty=false:=by
   cases hh:left.isEmpty
   .rfl
   .rw [Array.isEmpty_iff_size_eq_zero] at hh;exact absurd hh hne
  
  obtain ⟨i,w2,hch,hi,hw2⟩:∃i w2,(choose (.mapNext left.size)).run P w=.ok i w2/\i<left.size/\∃d,w2={w with drawn:=d}:=by
   rw [run_choose_drew]
   split
   .rename_i hf
    refine ⟨0,w,rfl,by omega,w.drawn,rfl⟩
   .refine ⟨_,_,rfl,?_,w.drawn+1,rfl⟩
    show _ % _<_
    exact Nat.mod_lt _ (by omega)
  obtain ⟨d,rfl⟩:=hw2
  have hce:left[i]∈left.toList:=by simp
  obtain ⟨h1,h2⟩:=(hlm _).1 hce
  obtain ⟨h3,h4⟩:=hin _ h1
  refine ⟨left[i].born,left[i],d,h4,h2,?_⟩
  have hset:∀o,(setObj cq o).run P {w with drawn:=d}=.ok () {w with drawn:=d,heap:=w.heap.setIfInBounds cq o}:=fun o=>by simp [setObj,Sem.run,hq]
  simp only [Instr.next,Sem.run_bind,hgi,hgm,Result.andThen_ok]
  simp only [hcond,<- hleft,aP,if_false,Sem.run_pure,Result.andThen_ok,hold,hnew]
  simp only [hempty,aP,if_false,Array.append_empty,Array.empty_append,Array.size_map,hch,Result.andThen_ok]
  rw [Sem.run_bind,hch]
  simp [hi,hset,Result.andThen]
 .left
  have hl:s.length=n:=by
   have:=Dq hs (m:=List.range n) fun x hx=>List.mem_range.2 (hlt x hx)
   simp at this;omega
  refine ⟨hl,?_⟩
  have hemp:left=#[]:=by
   apply Array.ext'
   rw [show (#[]:Array MapEntry).toList=[] from rfl,List.eq_nil_iff_forall_not_mem]
   intro x hx
   obtain ⟨h1,h2⟩:=(hlm x).1 hx
   exact h2 (ZC hs hlt hl _ (hin x h1).1)
  simp only [Instr.next,Sem.run_bind,hgi,hgm,Result.andThen_ok]
  simp only [hcond,<- hleft,hemp,aP,if_false,Sem.run_pure,Result.andThen_ok]
  simp [Question.forced]
theorem aj8 {cq cm n j:Nat}{s:List Nat}{lK:Array MapEntry}{ce:MapEntry}(hq:w.heap[cq]?=some (.mapIter (some cm) n (s++[j]).toArray n))(hm:w.heap[cm]?=some (.map lK n))
  (hb:∀(i:Nat) (a:MapEntry),lK[i]?=some a->a.born=i) (hj:lK[j]?=some ce) :
  (Instr.entry (.pointer (some ⟨cq,0,none⟩))).run P w=.ok (.tuple #[ce.key,ce.val]) w:=by
 have hgi:(getObj cq).run P w=.ok (.mapIter (some cm) n (s++[j]).toArray n) w:=by simp [getObj,Sem.run,hq]
 have hgm:(getObj cm).run P w=.ok (.map lK n) w:=by simp [getObj,Sem.run,hm]
 have hf:lK.find? (fun e=>e.born == j)=some ce:=by
  rw [<- Array.find?_toList,Q7 (g:=fun e:MapEntry=>e.born) lK.toList 0 j (dB _) (fun i a h=>by simpa using hb i a (by simpa using h))]
  simpa using hj
 have hbk:(s++[j]).toArray.back?=some j:=by simp
 simp only [Instr.entry,Sem.run_bind,hgi,Result.andThen_ok,hbk,hgm]
 simp [hf]
theorem KX {ops:Array Oper}{i:Nat}{o:Oper}{rest:List Nat}{Q:Exit->Act->World->Prop}{a:Act}(ho:ops[i]?=some o)(hg:o.guard=none)(h:o.wp P a w (wpOps P ops Q rest) Q):wpOps P ops Q (i::rest) a w:=by
 rw [wpOps_cons]
 unfold wpOp
 rw [ho]
 have:Region.wanted o (yielded ops a.tmps)=true:=by unfold Region.wanted;rw [hg]
 dsimp only
 rw [if_pos this]
 exact .inl h
theorem Aw {ops:Array Oper}{i:Nat}{o:Oper}{rest:List Nat}{Q:Exit->Act->World->Prop}{a:Act}{fr:mg}{x:AV}{d:Nat}(hh:dX base w E ah F)(hfr:wZ w E fr a.tmps)(ho:ops[i]?=some o)(hg:o.guard=none)(hd:o.dst=some d)
  (hpu:Gh o.op=true) (h:aOp P 0 fr ah o.op (fun r=>r.v=x)) (hn:∀a':Act,a'.defers=a.defers->wZ w E (yx fr d x) a'.tmps->wpOps P ops Q rest a' w):wpOps P ops Q (i::rest) a w:=by
 refine KX ho hg (aly hh hfr hpu h fun r v hK _ hv=>?_)
 rw [hK] at hv
 have:=hfr.put o.dst hv
 rw [hd] at this
 exact hn _ (aDr _ _ _) (by rw [hd];exact this)
def aD_ (es:List (AV×AV))(i j:Nat):Bool:=match es[j]? with|some e=>Nat.beq (kOf e.1) i|none=>false
def Marked (es:List (AV×AV))(s:List Nat)(rs rs':List (List AV)):Prop:=rs'.length=rs.length/\∀i,i<rs.length->rs'[i]?=if s.any (aD_ es i)=true then some TT else rs[i]?
theorem Marked.set {es:List (AV×AV)}{s:List Nat}{rs rs':List (List AV)}(h:Marked es s rs rs'){j:Nat}{e:AV×AV}(hj:es[j]?=some e):Marked es (s++[j]) rs (rs'.set (kOf e.1) TT):=by
 refine ⟨by rw [List.length_set];exact h.1,fun i hi=>?_⟩
 rw [List.getElem?_set]
 have hkey:aD_ es i j=Nat.beq (kOf e.1) i:=by unfold aD_;rw [hj]
 rw [List.any_append,List.any_cons,List.any_nil,Bool.or_false,hkey]
 by_cases hk:kOf e.1=i
 .subst hk
  have:kOf e.1<rs'.length:=by rw [h.1];exact hi
  have hb:Nat.beq (kOf e.1) (kOf e.1)=true:=by simp
  rw [if_pos rfl,if_pos this,hb,Bool.or_true,if_pos rfl]
 .have hb:Nat.beq (kOf e.1) i=false:=by
   cases hbb:Nat.beq (kOf e.1) i
   .rfl
   .exact absurd (au hbb) hk
  rw [if_neg hk,hb,Bool.or_false]
  exact h.2 i hi
theorem Marked.all {es:List (AV×AV)}{s:List Nat}{rs rs':List (List AV)}(h:Marked es s rs rs')(hs:s.Nodup)(hlt:∀j∈s,j<es.length)(hl:s.length=es.length) :
  ∀i,i<rs.length->rs'[i]?=if es.any (fun e=>Nat.beq (kOf e.1) i)=true then some TT else rs[i]?:=by
 intro i hi
 rw [h.2 i hi]
 have:s.any (aD_ es i)=es.any (fun e=>Nat.beq (kOf e.1) i):=by
  rw [Bool.eq_iff_iff,List.any_eq_true,List.any_eq_true]
  constructor
  .rintro ⟨j,hj,hk⟩
   unfold aD_ at hk
   split at hk
   .rename_i e he
    exact ⟨e,aG he,hk⟩
   .cases hk
  .rintro ⟨e,he,hk⟩
   obtain ⟨j,hj⟩:=bF.1 he
   have hjl:=(aA.1 hj).1
   exact ⟨j,ZC hs hlt hl j hjl,by unfold aD_;rw [hj];exact hk⟩
 rw [this]
structure wE where
 (it tn tb te tk t8 tD d1 d2 d3:Nat)
 (T TB:TypeId)
def wE.ts (m:wE):List Nat:=[m.tn,m.tb,m.te,m.tk,m.t8,m.d1,m.d2,m.d3]
structure ar1 (m:wE)(o1 o2 p1 p2 p3 q1 q2 q3 q4:Oper):Prop where
 o1:o1.op=.next (.tmp m.it) false/\o1.dst=some m.tn/\o1.guard=none
 o2:o2.op=.extract (.tmp m.tn) 0/\o2.dst=some m.tb/\o2.guard=none
 p1:p1.op=.entry (.tmp m.it)/\p1.dst=some m.te/\p1.guard=none
 p2:p2.op=.extract (.tmp m.te) 0/\p2.dst=some m.tk/\p2.guard=none
 p3:p3.op=.assign (.tmp m.tk)/\p3.dst=some m.t8/\p3.guard=none
 q1:q1.op=.move (.tmp m.tD)/\q1.dst=some m.d1/\q1.guard=none
 q2:q2.op=.move (.tmp m.t8)/\q2.dst=some m.d2/\q2.guard=none
 q3:q3.op=.indexAddr m.T (.tmp m.d1) (.tmp m.d2)/\q3.dst=some m.d3/\q3.guard=none
 q4:q4.op=.store m.TB (.tmp m.d3) (.const (.bool true))/\q4.dst=none/\q4.guard=none
theorem aDR {fr:mg}{d:Nat}{x:AV}(h:d<fr.length):jw (yx fr d x) d=some x:=by rw [vG,if_pos ⟨rfl,h⟩]
theorem yS {fr:mg}{d t:Nat}{x:AV}(h:t≠d):jw (yx fr d x) t=jw fr t:=by rw [vG,if_neg (fun e=>h e.1)]
theorem apY {m:wE}{o1 o2 p1 p2 p3 q1 q2 q3 q4:Oper}(hm:ar1 m o1 o2 p1 p2 p3 q1 q2 q3 q4){r1 r2 r3 id id5:Nat}{fr:mg}{nx:Nat}{Q:AQ}
  {q sq mb bd len:Nat} {es:List (AV×AV)} {rs:List (List AV)} {tb:Nat}
  (hN:∀t∈m.ts,t<fr.length) (hit:m.it∉m.ts) (htD:m.tD∉m.ts) (hd1:m.t8≠m.d1) (hd2:m.d1≠m.d2)
  (hq:jw fr m.it=some (.op q sq 0 0)) (hqa:ah q=some (.it mb es.length 0)) (hma:ah mb=some (.map es)) (hD:jw fr m.tD=some (.os bd 1 0 len)) (hbd:ah bd=some (.rows 1 rs)) (hlen:len<=rs.length)
  (hT:mW P m.T=some (1,tb)) (hTB:Dy P m.TB=some (false,1)) (hks:∀e∈es,∃kk n,e.1=.p (.int kk n)/\0<=n/\n.toNat<len) (hne1:q≠mb) (hne2:q≠bd) (ayo:mb≠bd)
  (hQ:∀fr' rs',fr'.length=fr.length->(∀t,t∉m.ts->jw fr' t=jw fr t)->rs'.length=rs.length->(∀i,i<rs.length->rs'[i]?=if es.any (fun e=>Nat.beq (kOf e.1) i)=true then some TT else rs[i]?)->
   Q .normal fr' (upd (upd ah q none) bd (some (.rows 1 rs'))) nx) :
  AW P (.block id (.loop (.seq (.region r1 #[o1,o2] false) (.seq (.cond (.tmp m.tb) .skip (.exit id)) (.block id5 (.seq (.region r2 #[p1,p2,p3] false) (.region r3 #[q1,q2,q3,q4] false))))))) fr ah nx Q:=by
 intro base w E a hs
 obtain ⟨cq,cm,g1,g2,g3,g4,g5⟩:=hs.heap.blk q _ hqa
 obtain ⟨cm',aBi,ayp,f1,f2,f3,f4,f5⟩:=hs.heap.blk mb _ hma
 rw [g5] at f1;cases f1
 have amJ:∀b k c o,b≠q->ah b=some k->E.own b=.at c o->c≠cq:=fun b k c o hb hk ho=>hs.heap.sep b q k _ c o cq 0 hb hk hqa ho g1
 have htn:=hN m.tn (by simp [wE.ts])
 have htb:=hN m.tb (by simp [wE.ts])
 have hte:=hN m.te (by simp [wE.ts])
 have htk:=hN m.tk (by simp [wE.ts])
 have ht8:=hN m.t8 (by simp [wE.ts])
 have aBj:=hN m.d1 (by simp [wE.ts])
 have aBk:=hN m.d2 (by simp [wE.ts])
 have aBl:=hN m.d3 (by simp [wE.ts])
 simp only [wE.ts,bC,List.not_mem_nil,or_false,not_or] at hit htD
 let FN:List (List AV)->AH:=fun rs'=>upd (upd ah q none) bd (some (.rows 1 rs'))
 have hAm:∀rs',FN rs' mb=some (.map es):=fun rs'=>by show upd (upd ah q none) bd _ mb=_;rw [aDs ayo,aDs (fun e=>hne1 e.symm)];exact hma
 have hAb:∀rs',FN rs' bd=some (.rows 1 rs'):=fun rs'=>rC rfl
 have ar2:∀rs' b k c o,FN rs' b=some k->E.own b=.at c o->c≠cq:=by
  intro rs' b k c o hk ho
  by_cases e:b=bd
  .subst e;exact amJ b _ c o (fun e=>hne2 e.symm) hbd ho
  .have hk2:upd (upd ah q none) bd (some (.rows 1 rs')) b=some k:=hk
   rw [aDs e] at hk2
   by_cases e2:b=q
   .rw [rC e2] at hk2;cases hk2
   .rw [aDs e2] at hk2;exact amJ b k c o e2 hk2 ho
 let J:Nat->Act->World->Prop:=fun n a' w'=>∃s fr' rs',s.Nodup/\(∀j∈s,j<es.length)/\n+s.length=es.length/\fr'.length=fr.length/\(∀t,t∉m.ts->jw fr' t=jw fr t)/\Marked es s rs rs'/\
  dX base w' E (FN rs') (fun b=>nx<=b)/\w'.heap[cq]?=some (.mapIter (some cm) es.length s.toArray es.length)/\wZ w' E fr' a'.tmps/\a'.defers=[]/\Step base w E w' E
 refine wp_block (wp_loop_ghost J es.length ?_ ?_)
 .refine ⟨[],fr,rs,List.nodup_nil,by simp,by simp,rfl,fun _ _=>rfl,⟨rfl,fun i hi=>by simp⟩,?_,by rw [g4,show Array.range 0=#[] from by simp],hs.fr,hs.defers,Step.refl _ _ _⟩
  have:=(hs.heap.drop q).aav (b:=bd) (k:=.rows 1 rs) (k':=.rows 1 rs) (by rw [aDs (fun e=>hne2 e.symm)];exact hbd) (hs.heap.blk bd _ hbd)
  exact this
 .intro n a1 w1 hJ
  obtain ⟨s,fr1,rs1,j1,j2,j3,j4,j5,j6,j7,j8,j9,j10,j11⟩:=hJ
  obtain ⟨cm',lK,clock,f1,f2,f3,f4,f5⟩:=j7.blk mb _ (hAm rs1)
  rw [g5] at f1;cases f1
  obtain ⟨m1,m2,m3,m4⟩:=f5
  have hcl:clock=es.length:=by omega
  subst hcl
  have ayq:cm≠cq:=amJ mb _ cm 0 (fun e=>hne1 e.symm) hma g5
  have hfit:jw fr1 m.it=some (.op q sq 0 0):=by rw [j5 _ (by simp only [wE.ts,bC,List.not_mem_nil,or_false,not_or];exact hit)];exact hq
  have ayr:jw fr1 m.tD=some (.os bd 1 0 len):=by rw [j5 _ (by simp only [wE.ts,bC,List.not_mem_nil,or_false,not_or];exact htD)];exact hD
  have aue:∀(fr':mg) (a':Act) (w':World),wZ w' E fr' a'.tmps->jw fr' m.it=some (.op q sq 0 0)->a'.eval (.tmp m.it)=.pointer (some ⟨cq,0,none⟩):=by
   intro fr' a' w' ays hf
   obtain ⟨c,o,h1,h2⟩:=(fJ (x:=.tmp m.it) ays hf).Vg
   rw [g1] at h2;cases h2
   simpa using h1
  refine wp_seq (wp_region ?_)
  have hr2:List.range (#[o1,o2]:Array Oper).size=[0,1]:=rfl
  rw [hr2]
  rcases amI (P:=P) (ty:=o1.type) j8 f4 m4 m3.symm j1 j2 with ⟨hall,hrun⟩|⟨j,ce,d,hce,hjs,hrun⟩
  ·
   refine KX (o:=o1) rfl hm.o1.2.2 (aDx (s:=do pure (.value (<- Instr.next (a1.eval (.tmp m.it)) false o1.type))) (v:=.tuple #[.bool false]) (w':=w1) (by simp [execOp,hm.o1.1]) (by rw [aue fr1 a1 w1 j9 hfit];simp [hrun]) ?_)
   have hfr2:=j9.put o1.dst (x:=.fD [.p (.bool false)]) (v:=.tuple #[.bool false]) (.fD _ _ rfl (fun i x y h1 h2=>by
    match i,h1,h2 with
    |0,h1,h2=>cases h1;cases h2;exact .p rfl))
   rw [hm.o1.2.1] at hfr2
   refine Aw (x:=.p (.bool false)) (fr:=yx fr1 m.tn (.fD [.p (.bool false)])) (o:=o2) j7 (by rw [hm.o1.2.1];exact hfr2) rfl hm.o2.2.2 hm.o2.2.1 (by rw [hm.o2.1];rfl)
    (by rw [hm.o2.1];exact dH.2 ⟨_,aDR (by omega),dH.2 ⟨_,rfl,rfl⟩⟩) fun a2 auf hfr3=>?_
   show (Code.seq _ _).wp P _ a2 w1
   refine wp_seq (wp_cond (t:=false) ?_ ?_)
   .exact (fJ (x:=.tmp m.tb) hfr3 (aDR (by rw [h_];omega))).g_
   .refine wp_exit ?_
    show Exit.inBlock id (Ju base w E Q) (.exit id) a2 w1
    simp only [Exit.inBlock,if_true]
    refine ⟨E,_,FN rs1,nx,hQ _ rs1 ?_ ?_ j6.1 (j6.all j1 j2 hall),⟨j7,hfr3,by rw [auf,aDr];exact j10⟩,j11⟩
    .rw [h_,h_];exact j4
    .intro t ht
     simp only [wE.ts,bC,List.not_mem_nil,or_false,not_or] at ht
     rw [yS ht.2.1,yS ht.1]
     exact j5 t (by simp only [wE.ts,bC,List.not_mem_nil,or_false,not_or];exact ht)
  ·
   have hjl:j<es.length:=by have:=(bD.1 hce).1;omega
   obtain ⟨e,he⟩:∃e,es[j]?=some e:=⟨es[j],by simp [hjl]⟩
   obtain ⟨re1,re2,-⟩:=m2 j e ce he hce
   obtain ⟨kk,kn,hke,hk0,hkl⟩:=hks e (aG he)
   obtain ⟨s1,s2⟩:=amH (o0:=.mapIter (some cm) es.length s.toArray es.length) j7 (.mapIter (some cm) es.length (s++[j]).toArray es.length) g1 (ar2 rs1) g3 j8 (fun _ _ _ h=>by cases h) d
   obtain ⟨w2,hw2⟩:∃w2,w2={w1 with drawn:=d,heap:=w1.heap.setIfInBounds cq (.mapIter (some cm) es.length (s++[j]).toArray es.length)}:=⟨_,rfl⟩
   have hhq:w2.heap[cq]?=some (.mapIter (some cm) es.length (s++[j]).toArray es.length):=by rw [hw2];exact (Gg j8).1
   have hhm:w2.heap[cm]?=some (.map lK es.length):=by rw [hw2];exact ((Gg j8).2 cm ayq).trans f4
   rw [<- hw2] at s1 s2 hrun
   rw [hke] at re1
   refine KX (o:=o1) rfl hm.o1.2.2 (aDx (s:=do pure (.value (<- Instr.next (a1.eval (.tmp m.it)) false o1.type))) (v:=.tuple #[.bool true,ce.key,ce.val]) (w':=w2) (by simp [execOp,hm.o1.1]) (by rw [aue fr1 a1 w1 j9 hfit];simp [hrun]) ?_)
   have hfr2:=(j9.mono s1.ext).put o1.dst (x:=.fD [.p (.bool true),.p (.int kk kn),e.2]) (v:=.tuple #[.bool true,ce.key,ce.val]) (.fD _ _ rfl (fun i x y h1 h2=>by
    match i,h1,h2 with
    |0,h1,h2=>cases h1;cases h2;exact .p rfl
    |1,h1,h2=>cases h1;cases h2;exact re1.mono s1.ext
    |2,h1,h2=>cases h1;cases h2;exact re2.mono s1.ext))
   rw [hm.o1.2.1] at hfr2
   refine Aw (x:=.p (.bool true)) (fr:=yx fr1 m.tn (.fD [.p (.bool true),.p (.int kk kn),e.2])) (o:=o2) s2 (by rw [hm.o1.2.1];exact hfr2) rfl hm.o2.2.2 hm.o2.2.1 (by rw [hm.o2.1];rfl)
    (by rw [hm.o2.1];exact dH.2 ⟨_,aDR (by omega),dH.2 ⟨_,rfl,rfl⟩⟩) fun a2 auf hfr3=>?_
   show (Code.seq _ _).wp P _ a2 w2
   refine wp_seq (wp_cond (t:=true) ?_ ?_)
   .exact (fJ (x:=.tmp m.tb) hfr3 (aDR (by rw [h_];omega))).g_
   refine wp_skip ?_
   show (Code.block _ _).wp P _ a2 w2
   refine wp_block (wp_seq (wp_region ?_))
   have hr3:List.range (#[p1,p2,p3]:Array Oper).size=[0,1,2]:=rfl
   rw [hr3]
   have awv:jw (yx (yx fr1 m.tn (.fD [.p (.bool true),.p (.int kk kn),e.2])) m.tb (.p (.bool true))) m.it=some (.op q sq 0 0):=by rw [yS hit.2.1,yS hit.1];exact hfit
   refine KX (o:=p1) rfl hm.p1.2.2 (aDx (s:=do pure (.value (<- Instr.entry (a2.eval (.tmp m.it))))) (v:=.tuple #[ce.key,ce.val]) (w':=w2) (by simp [execOp,hm.p1.1]) (by rw [aue _ a2 w2 hfr3 awv];simp [aj8 hhq hhm m4 hce]) ?_)
   have aug:=hfr3.put p1.dst (x:=.fD [.p (.int kk kn),e.2]) (v:=.tuple #[ce.key,ce.val]) (.fD _ _ rfl (fun i x y h1 h2=>by
    match i,h1,h2 with
    |0,h1,h2=>cases h1;cases h2;exact re1.mono s1.ext
    |1,h1,h2=>cases h1;cases h2;exact re2.mono s1.ext))
   rw [hm.p1.2.1] at aug
   obtain ⟨fr3,ahX⟩:∃fr3,fr3=yx (yx fr1 m.tn (.fD [.p (.bool true),.p (.int kk kn),e.2])) m.tb (.p (.bool true)):=⟨_,rfl⟩
   rw [<- ahX] at aug
   have l3:fr3.length=fr.length:=by rw [ahX,h_,h_];exact j4
   refine Aw (x:=.p (.int kk kn)) (fr:=yx fr3 m.te (.fD [.p (.int kk kn),e.2])) (o:=p2) s2 (by rw [hm.p1.2.1];exact aug) rfl hm.p2.2.2 hm.p2.2.1 (by rw [hm.p2.1];rfl)
    (by rw [hm.p2.1];exact dH.2 ⟨_,aDR (by omega),dH.2 ⟨_,rfl,rfl⟩⟩) fun a3 ayt ayu=>?_
   refine Aw (x:=.p (.int kk kn)) (o:=p3) s2 ayu rfl hm.p3.2.2 hm.p3.2.1 (by rw [hm.p3.1];rfl)
    (by rw [hm.p3.1];exact dH.2 ⟨_,aDR (by rw [h_];omega),rfl⟩) fun a4 ayv aww=>?_
   show (Code.region _ _ _).wp P _ a4 w2
   refine wp_region ?_
   have hr4:List.range (#[q1,q2,q3,q4]:Array Oper).size=[0,1,2,3]:=rfl
   rw [hr4]
   obtain ⟨fr6,adg⟩:∃fr6,fr6=yx (yx (yx fr3 m.te (.fD [.p (.int kk kn),e.2])) m.tk (.p (.int kk kn))) m.t8 (.p (.int kk kn)):=⟨_,rfl⟩
   rw [<- adg] at aww
   have l6:fr6.length=fr.length:=by rw [adg,h_,h_,h_];exact l3
   have awx:jw fr6 m.tD=some (.os bd 1 0 len):=by
    rw [adg,yS htD.2.2.2.2.1,yS htD.2.2.2.1,yS htD.2.2.1,ahX,yS htD.2.1,yS htD.1];exact ayr
   have ayw:jw fr6 m.t8=some (.p (.int kk kn)):=by rw [adg];exact aDR (by rw [h_,h_];omega)
   refine Aw (x:=.os bd 1 0 len) (o:=q1) s2 aww rfl hm.q1.2.2 hm.q1.2.1 (by rw [hm.q1.1];rfl)
    (by rw [hm.q1.1];exact dH.2 ⟨_,awx,rfl⟩) fun a5 ayx ayy=>?_
   refine Aw (x:=.p (.int kk kn)) (o:=q2) s2 ayy rfl hm.q2.2.2 hm.q2.2.1 (by rw [hm.q2.1];rfl)
    (by rw [hm.q2.1];exact dH.2 ⟨_,by show jw _ _=_;rw [yS hd1];exact ayw,rfl⟩) fun a6 ayz ayA=>?_
   refine Aw (x:=.op bd 1 kn.toNat 0) (o:=q3) s2 ayA rfl hm.q3.2.2 hm.q3.2.1 (by rw [hm.q3.1];rfl)
    (by
     rw [hm.q3.1]
     refine dH.2 ⟨.os bd 1 0 len,by show jw _ _=_;rw [yS hd2];exact aDR (by omega),dH.2 ⟨.p (.int kk kn),aDR (by rw [h_];omega),?_⟩⟩
     show gB (mW P m.T) _
     rw [hT]
     exact ⟨hk0,hkl,rfl,by simp [sQ.val]⟩) fun a7 ayB apZ=>?_
   
   obtain ⟨fr9,ahY⟩:∃fr9,fr9=yx (yx (yx fr6 m.d1 (.os bd 1 0 len)) m.d2 (.p (.int kk kn))) m.d3 (.op bd 1 kn.toNat 0):=⟨_,rfl⟩
   rw [<- ahY] at apZ
   have l9:fr9.length=fr.length:=by rw [ahY,h_,h_,h_];exact l6
   have ayC:jw fr9 m.d3=some (.op bd 1 kn.toNat 0):=by rw [ahY];exact aDR (by rw [h_,h_];omega)
   have hilt:kn.toNat<rs1.length:=by rw [j6.1];omega
   obtain ⟨row,hrow⟩:∃row,rs1[kn.toNat]?=some row:=⟨rs1[kn.toNat],by simp [hilt]⟩
   have hrl:row.length=1:=by
    rcases s2.blk bd _ (hAb rs1) with ⟨_,h0⟩|⟨c',o',arr,tt,h1,h2,h3,h4,h5⟩
    .rw [h0] at hrow;simp at hrow
    .exact h5.2.1 _ row hrow
   have hst:Ih P (FN rs1) m.TB (.op bd 1 kn.toNat 0) (.p (.bool true)) (fun r=>r=⟨.p undef,[(bd,some (.rows 1 (rs1.set kn.toNat TT)))],[bd]⟩):=by
    refine dH.2 ⟨_,hTB,?_⟩
    show (match FN rs1 bd with|some (.rows sz' rs)=>_|_=>False)
    rw [hAb]
    refine ⟨rfl,rfl,rfl,dH.2 ⟨row,hrow,by rw [hrl];exact dD _,?_⟩⟩
    have:lay row 0 (AV.p (.bool true)).cells=TT:=by
     show row.take 0++[AV.p (.bool true)]++row.drop 1=_
     rw [List.drop_eq_nil_iff.2 (by omega)];simp [TT]
    rw [this]
   obtain ⟨r,w3,hr,hrun3,st3,hh3,-,hkeep⟩:=Vh s2 hst (fJ (x:=.tmp m.d3) apZ ayC) (fJ (x:=.const (.bool true)) (av:=.p (.bool true)) apZ rfl)
   subst hr
   refine KX (o:=q4) rfl hm.q4.2.2 ?_
   unfold Oper.wp
   have e4:(execOp a7.eval q4).run P w2=.ok .skip w3:=by simp [execOp,hm.q4.1,hrun3]
   rw [e4]
   show (∃n',n' < n/\J n' (a7.put q4.dst undef) w3)
   rw [hm.q4.2.1]
   refine ⟨n-1,?_,s++[j],fr9,rs1.set kn.toNat TT,?_,?_,?_,l9,?_,?_,?_,?_,apZ.mono st3.ext,?_,(j11.trans s1).trans st3⟩
   .have:=Dq (l:=j::s) (m:=List.range es.length) (List.nodup_cons.2 ⟨hjs,j1⟩) (fun x hx=>by
     cases hx with
     |head=>exact List.mem_range.2 hjl
     |tail _ hx=>exact List.mem_range.2 (j2 x hx))
    simp at this
    omega
   .rw [List.nodup_append]
    refine ⟨j1,by simp,fun x hx y hy=>?_⟩
    simp at hy;subst hy
    intro e;subst e;exact hjs hx
   .intro x hx
    simp only [aH,bT] at hx
    rcases hx with hx|rfl
    .exact j2 x hx
    .exact hjl
   .have:=Dq (l:=j::s) (m:=List.range es.length) (List.nodup_cons.2 ⟨hjs,j1⟩) (fun x hx=>by
     cases hx with
     |head=>exact List.mem_range.2 hjl
     |tail _ hx=>exact List.mem_range.2 (j2 x hx))
    simp at this ⊢
    omega
   .intro t ht
    have ht':=ht
    simp only [wE.ts,bC,List.not_mem_nil,or_false,not_or] at ht
    rw [ahY,yS ht.2.2.2.2.2.2.2,yS ht.2.2.2.2.2.2.1,yS ht.2.2.2.2.2.1,adg,yS ht.2.2.2.2.1,yS ht.2.2.2.1,yS ht.2.2.1,ahX,yS ht.2.1,yS ht.1]
    exact j5 t ht'
   .have:=j6.set he
    rw [hke] at this
    exact this
   .have e5:rP (FN rs1) [(bd,some (wB.rows 1 (rs1.set kn.toNat TT)))]=FN (rs1.set kn.toNat TT):=by
     show upd (upd (upd ah q none) bd _) bd _=upd (upd ah q none) bd _
     rw [L6]
    rw [<- e5];exact hh3
   .rw [hkeep cq ?_];exact hhq
    intro b ⟨k,hk⟩ hb o ho
    exact ar2 rs1 b k cq o hk ho rfl
   .show a7.defers=[]
    rw [ayB,ayz,ayx,ayv,ayt,aDr,auf,aDr];exact j10
end
end Go.Fw
end
section
namespace Go.Fw
variable [jY]
section
variable {P : Program} {ρ:List AV} {pc:Pc} {N:Nat} {fr:mg} {ah:AH} {nx:Nat}
def WA (ρ:List AV)(N:Nat)(tr:Tr qo):mg:=(List.range N).map fun t=>(tr.get t).map (qo.den ρ)
theorem adh (f:Nat->Option AV):∀(n s t:Nat),jw ((List.range' s n).map f) t=if t<n then f (s+t) else none
 |0,s,t=>by simp [jw]
 |n+1,s,0=>by simp [List.range'_succ,jw]
 |n+1,s,t+1=>by
  simp only [List.range'_succ,aX,jw]
  rw [adh f n (s+1) t]
  have e:s+1+t=s+(t+1):=by omega
  rw [e]
  by_cases h:t<n
  .rw [if_pos h,if_pos (by omega)]
  .rw [if_neg h,if_neg (by omega)]
theorem Dt {tr:Tr qo}{t:Nat}:jw (WA ρ N tr) t=if t<N then (tr.get t).map (qo.den ρ) else none:=by
 unfold WA
 rw [List.range_eq_range',adh]
 simp
theorem WB {c:Code}{Q:AQ}{st:t_}(hs:JY ρ N st fr ah nx)(h:∀Ie oJ,Zg ρ st.fr Ie->Ig ρ st.ah oJ->Ie.length=N->AW P c Ie oJ st.nx Q):AW P c fr ah nx Q:=by
 have hf:Zg ρ st.fr (WA ρ N st.fr):=by
  intro t e he
  obtain ⟨a,ha,-⟩:=hs.fr t e he
  have:=Ez ha
  rw [hs.len] at this
  rw [Dt,if_pos this,he];rfl
 have ha:Ig ρ st.ah (iQ ρ st.ah):=fun b k hk=>by unfold iQ;rw [hk];rfl
 have h':=h _ _ hf ha (by simp [WA])
 intro base w E a jG
 refine h' base w E a ⟨⟨fun b k hb=>?_,fun b b' k k' c o c' o' hne h1 h2=>?_,fun b hb=>jG.heap.fresh b (bW hs.nx hb),jG.heap.kJ,jG.heap.bs,jG.heap.kL⟩,⟨?_,fun i x hx=>?_,jG.fr.Oe⟩,jG.defers⟩
 .unfold iQ at hb
  simp only [ay] at hb
  obtain ⟨k1,hk1,rfl⟩:=hb
  obtain ⟨k0,h0,hw⟩:=hs.ah b k1 hk1
  exact hw _ _ _ _ (jG.heap.blk b k0 h0)
 .unfold iQ at h1 h2
  simp only [ay] at h1 h2
  obtain ⟨k1,hk1,rfl⟩:=h1
  obtain ⟨k2,hk2,rfl⟩:=h2
  obtain ⟨j1,q1,-⟩:=hs.ah b k1 hk1
  obtain ⟨j2,q2,-⟩:=hs.ah b' k2 hk2
  exact jG.heap.sep b b' j1 j2 c o c' o' hne q1 q2
 .have:=jG.fr.size
  rw [hs.len] at this
  simpa [WA] using this
 .rw [Dt] at hx
  split at hx
  .simp only [ay] at hx
   obtain ⟨e,he,rfl⟩:=hx
   obtain ⟨y,hy,hw⟩:=hs.fr i e he
   obtain ⟨v,hv,hr⟩:=jG.fr.get i y hy
   exact ⟨v,hv,hw _ _ _ hr⟩
  .cases hx
theorem JY.of {tr:Tr qo}{th:Tr SB}{n:Nat}(hf:Zg ρ tr fr)(ha:Ig ρ th ah)(hN:fr.length=N)(hn:nx<=n):JY ρ N ⟨tr,th,n⟩ fr ah nx:=
 ⟨fun t e he=>⟨_,hf t e he,Weak.refl _⟩,fun b k hk=>⟨_,ha b k hk,rD.refl _⟩,hN,hn⟩
end
structure BD where
 N:Nat
 keep:Kp
 loops:Nat->Option NP
structure Az where
 outs:List Out
 nv:Nat
 sd:List (Pc×Side)
 aw:List Lo
abbrev RJ (P:Program)(ρ:List AV)(l:List Lo):Prop:=LoL P l ρ
def GH (k:Pc->t_->Nat->Option Az):Pc->List Out->Nat->Option Az
 |_,[],_=>none
 |pc,[o],nv=>bif isN o.e then k pc o.st nv else some ⟨[o],nv,[],[]⟩
 |pc,o::o'::r,nv=>
  bif isN o.e then
   match k (jK o.g true pc) o.st nv with
   |none=>none
   |some x=>match GH k (jK o.g false pc) (o'::r) x.nv with
    |none=>none
    |some y=>some ⟨B_ o.g x.outs++y.outs,y.nv,x.sd++y.sd,x.aw++y.aw⟩
  else match GH k (jK o.g false pc) (o'::r) nv with
   |none=>none
   |some y=>some ⟨o::y.outs,y.nv,y.sd,y.aw⟩
def lvE (id:Nat):Exit->Exit
 | .exit j=>bif Nat.beq j id then .normal else .exit j
 |e=>e
def leave (id:Nat)(l:List Out):List Out:=l.map fun o=>⟨o.g,lvE id o.e,o.st⟩
def ap0 (P:Program)(X:qO)(inl:Gv)(yB:FuncId->Bool)(N:Nat)(pc:Pc)(st:t_)(nv:Nat)(ops:Array Oper)(draw:Bool):Option Az:=
 match (bif draw then
   let M:=aDv ops.toList []
   bif EF ops&&Iu ops M then EM P X inl yB N ops M 0 ops.toList pc [] [] [] ⟨st.fr,st.ah,st.nx⟩ nv else none
  else RG P X inl yB N ops ops.toList pc ⟨st.fr,st.ah,st.nx⟩ nv) with
 |none=>none
 |some S=>some ⟨S.outs.map fun x=>⟨x.1,.normal,⟨x.2.tr,x.2.th,x.2.nx⟩⟩,S.nv,S.sd,[]⟩
def PX (body:Pc->t_->Nat->Option Az):Nat->Pc->t_->Nat->Option Az
 |0,_,_,_=>none
 |m+1,pc,st,nv=>match body pc st nv with
  |none=>none
  |some x=>match GH (PX body m) pc x.outs x.nv with
   |none=>none
   |some y=>some ⟨y.outs,y.nv,x.sd++y.sd,x.aw++y.aw⟩
def aEg (F:BD)(id:Nat):Code->Option (Code×NP)
 | .loop c=>match F.loops id with|some h=>some (c,h)|none=>none
 |_=>none
theorem aj9 {F:BD}{id:Nat}{b c:Code}{h:NP}(e:aEg F id b=some (c,h)):b=.loop c/\F.loops id=some h:=by
 unfold aEg at e
 split at e
 .split at e
  .rename_i h' hh
   simp only [aj,aJ] at e
   obtain ⟨rfl,rfl⟩:=e
   exact ⟨rfl,hh⟩
  .cases e
 .cases e
def swE (l:Nat):Exit->Exit
 | .normal=>.goto l
 | .goto m=>bif Nat.beq m l then .normal else .goto m
 |e=>e
def swO (l:Nat)(o:List Out):List Out:=o.map fun x=>⟨x.g,swE l x.e,x.st⟩
def RN : List Out->Option Nat
 |[]=>none
 |o::r=>match o.e with | .goto l=>some l|_=>RN r
def adi (run:Pc->t_->Nat->Code->Option Az)(c:Code):Nat->Pc->List Out->Nat->Option Az
 |0,_,_,_=>none
 |n+1,pc,outs,nv=>match RN outs with
  |none=>some ⟨outs,nv,[],[]⟩
  |some l=>match findLabel c l with
   |none=>none
   |some rest=>match GH (fun pc st nv=>match run pc st nv rest with
     |none=>none
     |some x=>match adi run c n pc x.outs x.nv with
      |none=>none
      |some y=>some ⟨swO l y.outs,y.nv,x.sd++y.sd,x.aw++y.aw⟩) pc (swO l outs) nv with
    |none=>none
    |some y=>match RN (swO l y.outs) with|none=>some ⟨swO l y.outs,y.nv,y.sd,y.aw⟩|some _=>none
structure Cfg where
 X:qO
 yB:FuncId->Bool
 inl:Gv
 vK:Nat
def mk1 : List Oper->Option (Nat×Nat×Nat)
 |[o1,o2]=>match o1.guard,o1.dst,o1.op,o2.guard,o2.dst,o2.op with
  |none,some tn,.next (.tmp it) false,none,some tb,.extract (.tmp x) 0=>bif Nat.beq x tn then some (it,tn,tb) else none
  |_,_,_,_,_,_=>none
 |_=>none
def mk2 : List Oper->Option (Nat×Nat×Nat×Nat)
 |[p1,p2,p3]=>match p1.guard,p1.dst,p1.op,p2.guard,p2.dst,p2.op with
  |none,some te,.entry (.tmp it),none,some tk,.extract (.tmp x) 0=>(match p3.guard,p3.dst,p3.op with
   |none,some t8,.assign (.tmp y)=>bif Nat.beq x te&&Nat.beq y tk then some (it,te,tk,t8) else none
   |_,_,_=>none)
  |_,_,_,_,_,_=>none
 |_=>none
def mk3 : List Oper->Option (Nat×Nat×Nat×Nat×Nat×Nat×Nat)
 |[q1,q2,q3,q4]=>match q1.guard,q1.dst,q1.op,q2.guard,q2.dst,q2.op with
  |none,some d1,.move (.tmp tD),none,some d2,.move (.tmp t8)=>(match q3.guard,q3.dst,q3.op,q4.guard,q4.dst,q4.op with
   |none,some d3,.indexAddr T (.tmp x) (.tmp y),none,none,.store TB (.tmp z) (.const (.bool true))=>
    bif Nat.beq x d1&&(Nat.beq y d2&&Nat.beq z d3) then some (tD,d1,t8,d2,d3,T,TB) else none
   |_,_,_,_,_,_=>none)
  |_,_,_,_,_,_=>none
 |_=>none
theorem auh {l:List Oper}{it tn tb:Nat}(h:mk1 l=some (it,tn,tb)):∃o1 o2,l=[o1,o2]/\(o1.op=.next (.tmp it) false/\o1.dst=some tn/\o1.guard=none)/\(o2.op=.extract (.tmp tn) 0/\o2.dst=some tb/\o2.guard=none):=by
 unfold mk1 at h
 split at h
 .rename_i o1 o2
  split at h
  .rename_i tn' it' tb' x e1 e2 e3 e4 e5 e6
   cases hx:Nat.beq x tn'
   .simp [hx] at h
   .simp only [hx,cond_true,aj,aJ] at h
    obtain ⟨rfl,rfl,rfl⟩:=h
    obtain rfl:=au hx
    exact ⟨o1,o2,rfl,⟨e3,e2,e1⟩,⟨e6,e5,e4⟩⟩
  .cases h
 .cases h
theorem aui {l:List Oper}{it te tk t8:Nat}(h:mk2 l=some (it,te,tk,t8)):∃p1 p2 p3,l=[p1,p2,p3]/\(p1.op=.entry (.tmp it)/\p1.dst=some te/\p1.guard=none)/\(p2.op=.extract (.tmp te) 0/\p2.dst=some tk/\p2.guard=none)/\
  (p3.op=.assign (.tmp tk)/\p3.dst=some t8/\p3.guard=none):=by
 unfold mk2 at h
 split at h
 .rename_i p1 p2 p3
  split at h
  .rename_i te' it' tk' x e1 e2 e3 e4 e5 e6
   split at h
   .rename_i t8' y e7 e8 e9
    cases hx:Nat.beq x te'&&Nat.beq y tk'
    .simp [hx] at h
    .simp only [hx,cond_true,aj,aJ] at h
     obtain ⟨rfl,rfl,rfl,rfl⟩:=h
     simp only [ak] at hx
     obtain rfl:=au hx.1
     obtain rfl:=au hx.2
     exact ⟨p1,p2,p3,rfl,⟨e3,e2,e1⟩,⟨e6,e5,e4⟩,⟨e9,e8,e7⟩⟩
   .cases h
  .cases h
 .cases h
theorem auj {l:List Oper}{tD d1 t8 d2 d3 T TB:Nat}(h:mk3 l=some (tD,d1,t8,d2,d3,T,TB)):∃q1 q2 q3 q4,l=[q1,q2,q3,q4]/\(q1.op=.move (.tmp tD)/\q1.dst=some d1/\q1.guard=none)/\(q2.op=.move (.tmp t8)/\q2.dst=some d2/\q2.guard=none)/\
  (q3.op=.indexAddr T (.tmp d1) (.tmp d2)/\q3.dst=some d3/\q3.guard=none)/\(q4.op=.store TB (.tmp d3) (.const (.bool true))/\q4.dst=none/\q4.guard=none):=by
 unfold mk3 at h
 split at h
 .rename_i q1 q2 q3 q4
  split at h
  .rename_i d1' tD' d2' t8' e1 e2 e3 e4 e5 e6
   split at h
   .rename_i d3' T' x y TB' z e7 e8 e9 e10 e11 e12
    cases hx:Nat.beq x d1'&&(Nat.beq y d2'&&Nat.beq z d3')
    .simp [hx] at h
    .simp only [hx,cond_true,aj,aJ] at h
     obtain ⟨rfl,rfl,rfl,rfl,rfl,rfl,rfl⟩:=h
     simp only [ak] at hx
     obtain rfl:=au hx.1
     obtain rfl:=au hx.2.1
     obtain rfl:=au hx.2.2
     exact ⟨q1,q2,q3,q4,rfl,⟨e3,e2,e1⟩,⟨e6,e5,e4⟩,⟨e9,e8,e7⟩,⟨e12,e11,e10⟩⟩
   .cases h
  .cases h
 .cases h
def WC (id:Nat):Code->Option wE
 | .loop (.seq (.region _ r1 false) (.seq (.cond (.tmp tb) .skip (.exit i)) (.block _ (.seq (.region _ r2 false) (.region _ r3 false)))))=>
  bif Nat.beq i id then (match mk1 r1.toList,mk2 r2.toList,mk3 r3.toList with
   |some (it,tn,tb'),some (it',te,tk,t8),some (tD,d1,t8',d2,d3,T,TB)=>
    bif Nat.beq tb tb'&&(Nat.beq it it'&&Nat.beq t8 t8') then some ⟨it,tn,tb,te,tk,t8,tD,d1,d2,d3,T,TB⟩ else none
   |_,_,_=>none) else none
 |_=>none
theorem adk {id:Nat}{b:Code}{m:wE}(h:WC id b=some m):∃r1 r2 r3 id5 o1 o2 p1 p2 p3 q1 q2 q3 q4,ar1 m o1 o2 p1 p2 p3 q1 q2 q3 q4/\
  b=.loop (.seq (.region r1 #[o1,o2] false) (.seq (.cond (.tmp m.tb) .skip (.exit id)) (.block id5 (.seq (.region r2 #[p1,p2,p3] false) (.region r3 #[q1,q2,q3,q4] false))))):=by
 unfold WC at h
 split at h
 .rename_i r1 a1 tb i id5 r2 a2 r3 a3
  cases hi:Nat.beq i id
  .simp [hi] at h
  .simp only [hi,cond_true] at h
   obtain rfl:=au hi
   split at h
   .rename_i it tn tb' it' te tk t8 tD d1 t8' d2 d3 T TB h1 h2 h3
    cases hx:Nat.beq tb tb'&&(Nat.beq it it'&&Nat.beq t8 t8')
    .simp [hx] at h
    .simp only [hx,cond_true,aj] at h
     subst h
     simp only [ak] at hx
     obtain rfl:=au hx.1
     obtain rfl:=au hx.2.1
     obtain rfl:=au hx.2.2
     obtain ⟨o1,o2,k1,k2,k3⟩:=auh h1
     obtain ⟨p1,p2,p3,k4,k5,k6,k7⟩:=aui h2
     obtain ⟨q1,q2,q3,q4,k8,k9,k10,k11,k12⟩:=auj h3
     have e1:a1=#[o1,o2]:=Array.ext' k1
     have e2:a2=#[p1,p2,p3]:=Array.ext' k4
     have e3:a3=#[q1,q2,q3,q4]:=Array.ext' k8
     subst e1 e2 e3
     exact ⟨r1,r2,r3,id5,o1,o2,p1,p2,p3,q1,q2,q3,q4,⟨k2,k3,k5,k6,k7,k9,k10,k11,k12⟩,rfl⟩
   .cases h
 .cases h
def abb (tr:Tr qo):List Nat->Tr qo
 |[]=>tr
 |t::r=>(abb tr r).upd zX t none
theorem WE {tr:Tr qo}:∀{l:List Nat} {t:Nat} {e:qo},(abb tr l).get t=some e->t∉l/\tr.get t=some e
 |[],t,e,h=>⟨by simp,h⟩
 |s::r,t,e,h=>by
  simp only [abb] at h
  rcases Tr.pW _ _ _ _ _ _ h with ⟨_,h1⟩|⟨hne,h1⟩
  .cases h1
  .obtain ⟨h2,h3⟩:=WE h1
   exact ⟨by simp [hne,h2],h3⟩
def af_ (P:Program)(N:Nat)(pc:Pc)(st:t_)(nv:Nat)(m:wE):Option Az:=
 match CJ pc st.fr (.tmp m.it),CJ pc st.fr (.tmp m.tD) with
 |some (.op q _ (.li 0) 0),some (.os bd 1 0 len)=>(match st.ah.get q,st.ah.get bd with
  |some (.it mb n 0),some (.fK 1 d)=>(match st.ah.get mb with
   |some (.BZ mk t)=>
    bif n.beq (.rlen t)&&((m.ts.all fun x=>Nat.blt x N)&&(!m.ts.contains m.it&&(!m.ts.contains m.tD&&(!Nat.beq m.t8 m.d1&&(!Nat.beq m.d1 m.d2&&(!Nat.beq q mb&&(!Nat.beq q bd&&!Nat.beq mb bd))))))) then
     (match mW P m.T,Dy P m.TB with
     |some (1,_),some (false,1)=>some ⟨[⟨.lb true,.normal,⟨abb st.fr m.ts,(st.ah.upd zX q none).upd zX bd (some (.fK 1 (.var nv []))),st.nx⟩⟩],nv+1,[(pc,.mark mk t d len (.var nv []))],[]⟩
     |_,_=>none) else none
   |_=>none)
  |_,_=>none)
 |_,_=>none
def adl (P:Program)(N:Nat)(pc:Pc)(st:t_)(nv:Nat)(id:Nat)(b:Code):Option Az:=
 match WC id b with
 |none=>none
 |some m=>af_ P N pc st nv m
def uQ (P:Program)(G:Cfg)(F:BD):Nat->Pc->t_->Nat->Code->Option Az
 |0,_,_,_,_=>none
 |n+1,pc,st,nv,c=>
  match c with
  | .skip=>some ⟨[⟨.lb true,.normal,st⟩],nv,[],[]⟩
  | .exit id=>some ⟨[⟨.lb true,.exit id,st⟩],nv,[],[]⟩
  | .ret=>some ⟨[⟨.lb true,.ret,st⟩],nv,[],[]⟩
  | .region _ ops draw=>ap0 P G.X G.inl G.yB F.N pc st nv ops draw
  | .seq a b=>match uQ P G F n pc st nv a with
   |none=>none
   |some x=>match GH (fun pc st nv=>uQ P G F n pc st nv b) pc x.outs x.nv with
    |none=>none
    |some y=>some ⟨OJ F.keep y.outs,y.nv,x.sd++y.sd,x.aw++y.aw⟩
  | .cond c a b=>match CJ pc st.fr c with
   |some (.sc .bool t)=>match pc.known t with
    |some true=>uQ P G F n pc st nv a
    |some false=>uQ P G F n pc st nv b
    |none=>match uQ P G F n (jK t true pc) st nv a with
     |none=>none
     |some x=>match uQ P G F n (jK t false pc) st x.nv b with
      |none=>none
      |some y=>some ⟨OJ F.keep (UR t x.outs y.outs),y.nv,x.sd++y.sd,x.aw++y.aw⟩
   |_=>none
  | .block id b=>match aEg F id b with
   |some (c,h)=>
    let cs:=st.ar4 h
    match ac9 pc nv st.nx h.ins h.p cs st with
    |none=>none
    |some ent=>match uQ P G F n (pc.old nv) (aEc h.p nv cs) (nv+h.p.m) c with
     |none=>none
     |some x=>match ade h id nv st.nx cs (pc.old nv) x.outs,h.xs with
      |some outs,_::_=>some ⟨ER cs nv 0 (aDJ nv (h.xs.map fun y=>y.2.m) 0) h.xs,aDJ nv (h.xs.map fun y=>y.2.m) h.xs.length,(alQ st h.p).map fun s=>(pc,s),[.mk pc nv h.p.m ent outs (x.sd++ahV h id (pc.old nv) x.outs) x.aw (h.xs.map fun y=>y.2.m) (apW st h.ins)]⟩
      |_,_=>none
   |none=>match adl P F.N pc st nv id b with
    |some x=>some x
    |none=>match uQ P G F n pc st nv b with
     |none=>none
     |some x=>some ⟨OJ F.keep (leave id x.outs),x.nv,x.sd,x.aw⟩
  | .label _=>some ⟨[⟨.lb true,.normal,st⟩],nv,[],[]⟩
  | .goto l=>some ⟨[⟨.lb true,.goto l,st⟩],nv,[],[]⟩
  | .scope b=>match uQ P G F n pc st nv b with
   |none=>none
   |some x=>match adi (fun pc st nv c=>uQ P G F n pc st nv c) b 60 pc x.outs x.nv with
    |none=>none
    |some y=>some ⟨OJ F.keep y.outs,y.nv,x.sd++y.sd,x.aw++y.aw⟩
  | .loop b=>PX (fun pc st nv=>uQ P G F n pc st nv b) G.vK pc st nv
  |_=>none
end Go.Fw
end
section
namespace Go.Fw
variable [jY]
section
variable {ρ σ:List AV} {N:Nat}
theorem ap1 {base nE:Nat}{ins:List Nat}{p:DW}{c yC:t_}(h:aj6 base nE ins p c yC=true){t:Nat}{e:qo}(ht:t∈ins)(hp:∀q,(t,q)∉p.fr)(he:c.fr.get t=some e):e.lt base=true/\(∀b∈e.v.IG,b<nE)/\yC.fr.get t=some e:=by
 unfold aj6 at h
 simp only [ak,aF] at h
 have:=h.1 t ht
 rw [he] at this
 simp only [aY,List.any_eq_true,ak] at this
 rcases this with ⟨x,hx,hxt⟩|⟨h1,h2,h3⟩
 .have:=au hxt
  subst this
  exact absurd hx (hp x.2)
 .refine ⟨h1,KT h2,?_⟩
  split at h3
  .rename_i e' he';rw [he',qo.beq_eq h3]
  .cases h3
theorem ap2 {base nE:Nat}{ins:List Nat}{p:DW}{c yC:t_}(h:aj6 base nE ins p c yC=true){b:Nat}{k:SB}(hb:b<nE)(h1:∀ks,(b,ks)∉p.bl)(h2:∀sz,(b,sz)∉p.tb)(h3:∀o,(b,o)∉p.ob)(hk:c.ah.get b=some k):k.lt base=true/\(∀b∈k.IG,b<nE)/\yC.ah.get b=some k:=by
 unfold aj6 at h
 simp only [ak,aF] at h
 have:=h.2 b (List.mem_range.2 hb)
 rw [hk] at this
 simp only [aY,List.any_eq_true,ak] at this
 rcases this with (⟨x,hx,hxt⟩|⟨x,hx,hxt⟩|⟨x,hx,hxt⟩)|⟨q1,q2,q3⟩
 .have:=au hxt;subst this;exact absurd hx (h1 x.2)
 .have:=au hxt;subst this;exact absurd hx (h2 x.2)
 .have:=au hxt;subst this;exact absurd hx (h3 x.2)
 .refine ⟨q1,KT q2,?_⟩
  split at q3
  .rename_i k' hk';rw [hk',SB.beq_eq q3]
  .cases q3
def awC (E:Env)(nE:Nat)(srcs:List (Nat×Src)):Env:=⟨E.fix,fun b=>if b<nE then E.own b else KW E srcs b⟩
theorem aga {w:World}{E E':Env}(hf:∀c o,E.fix c o->E'.fix c o){arr:Array Value}{o sz:Nat}{rs:List (List AV)}(h:RowsIn w E arr o sz rs)(hr:∀b∈mY rs,E'.own b=E.own b):RowsIn w E' arr o sz rs:=by
 obtain ⟨h1,h2,h3,h4⟩:=h
 refine ⟨h1,h2,h3,fun i row j x hi hj=>?_⟩
 obtain ⟨v,hv,hx⟩:=h4 i row j x hi hj
 exact ⟨v,hv,wM hf hx (fun b hb=>hr b (xq i row hi (jB j x hj hb)))⟩
theorem MK {base:Nat}{w:World}{E E':Env}(hf:E'.fix=E.fix){b b':Nat}{sz:Nat}{rs:List (List AV)}(h:rU base w E b (.rows sz rs))(hb:E'.own b'=E.own b)(hr:∀x∈mY rs,E'.own x=E.own x):rU base w E' b' (.rows sz rs):=by
 rcases h with ⟨h1,h2⟩|⟨c,o,arr,ty,h1,h2,h3,h4,h5⟩
 .exact .inl ⟨by rw [hb,h1],h2⟩
 .exact .inr ⟨c,o,arr,ty,by rw [hb,h1],h2,by rw [hf];exact h3,h4,aga (by rw [hf];exact fun _ _ h=>h) h5 hr⟩
theorem ML {f:List (SV×Src)}{b t:List SV}{i:Nat}{x:SV}{s:Src}(h:f[i]?=some (x,s)):(f.map (·.1)++(b++t))[i]?=some x:=by
 have hlt:=(aA.1 h).1
 rw [bf (by simpa using hlt)]
 simp [h]
theorem ahZ {f:List (SV×Src)}{b t:List SV}{i:Nat}{x:SV}(h:b[i]?=some x):(f.map (·.1)++(b++t))[f.length+i]?=some x:=by
 have hlt:=(aA.1 h).1
 rw [bI (by simp)]
 simp only [dh,Nat.add_sub_cancel_left]
 rw [bf hlt]
 exact h
theorem UU {f:List (SV×Src)}{b t:List SV}{i:Nat}{x:SV}(h:t[i]?=some x):(f.map (·.1)++(b++t))[f.length+(b.length+i)]?=some x:=by
 rw [bI (by simp)]
 simp only [dh,Nat.add_sub_cancel_left]
 rw [bI (by simp)]
 simp only [Nat.add_sub_cancel_left]
 exact h
theorem axS {f:List (SV×Src)}{b t:List SV}{g:List (SV×Src)}{i:Nat}{x:SV}{s:Src}(h:g[i]?=some (x,s)):(f.map (·.1)++(b++(t++g.map (·.1))))[f.length+(b.length+(t.length+i))]?=some x:=by
 have hlt:=(aA.1 h).1
 rw [bI (by simp)]
 simp only [dh,Nat.add_sub_cancel_left]
 rw [bI (by simp)]
 simp only [Nat.add_sub_cancel_left]
 rw [bI (by simp)]
 simp [h]
theorem ayg {base:Nat}{w:World}{E E':Env}(hf:E'.fix=E.fix){b n:Nat}{r1 r2:List AV}(h:rU base w E b (.rows n [r1]))(hb:E'.own b=E.own b)(hl:r2.length=r1.length)(hs:∀x∈r2,x.jR=true)
  (hr:∀(j:Nat) (x1 x2:AV) (v:Value),r1[j]?=some x1->r2[j]?=some x2->Rep w E x1 v->Rep w E' x2 v):rU base w E' b (.rows n [r2]):=by
 rcases h with ⟨h1,h2⟩|⟨c,o,arr,ty,h1,h2,h3,h4,h5,h6,h7,h8⟩
 .cases h2
 .refine .inr ⟨c,o,arr,ty,by rw [hb,h1],h2,by rw [hf];exact h3,h4,by simpa using h5,fun i row hi=>?_,fun row hrow=>?_,fun i row j x hi hj=>?_⟩
  .cases i with
   |zero=>simp at hi;subst hi;rw [hl];exact h6 0 r1 rfl
   |succ i=>simp at hi
  .simp at hrow;subst hrow;exact hs
  .cases i with
   |succ i=>simp at hi
   |zero=>
    simp at hi;subst hi
    have hj1:j<r1.length:=by rw [<- hl];exact (aA.1 hj).1
    obtain ⟨v,q1,q2⟩:=h8 0 r1 j r1[j] rfl (aW hj1)
    exact ⟨v,q1,hr j _ _ v (aW hj1) hj q2⟩
theorem aBn {P:Program}{ρ σ:List AV}{w:World}{E E':Env}{yC:t_}{v x:SV}{s:Src}{b sz:Nat}{val:Value}{tm:Tm}
  (h5:(v=.nil/\x=.sc .sl .nl/\s=.empty)\/(∃b' off l k,v=.os b' sz off l/\yC.ah.get b'=some k/\(auU k off l=true/\∀s∈alk k off l,s.holds P ρ)/\aG_ sz k off=some x/\s=.at b' (off*sz)))
  (ho:E'.own b=Wu E s) (hr0:Rep w E (v.den ρ) val) (htm:(tm.den σ).R=(x.den ρ).D.R):Rep w E' (.os b sz 0 ((Tm.den σ (.rlen tm)).I.toNat)) val:=by
 have e9:(Tm.den σ (.rlen tm)).I.toNat=(x.den ρ).D.R.length:=by
  simp only [Tm.den,mZ,D.I,htm];simp
 rw [e9]
 rcases h5 with ⟨hev,rfl,rfl⟩|⟨b',off,l,k,hev,hk,hl,hrw,rfl⟩
 .rw [hev] at hr0
  have:∃a1,val=.slice a1 0 0:=by
   cases hr0 with
   |slnil full a1=>exact ⟨a1,rfl⟩
   |sl _ _ _ _ _ cap _ _ hfull=>have:=hfull rfl;subst this;exact ⟨_,rfl⟩
  obtain ⟨a1,rfl⟩:=this
  exact .mP b sz 0 a1 (by rw [ho];simp [Wu])
 .obtain ⟨rs,R,d1,d2,d3,d4⟩:=arT (ρ:=ρ) hrw
  obtain ⟨hle,hlen⟩:=aw8 hl.1 hl.2 d1
  have e8:(x.den ρ).D.R.length=(l.den ρ).I.toNat:=by
   rw [hlen,d2]
   show R.length=_
   rw [<- d4];simp
  rw [e8]
  rw [hev] at hr0
  simp only [SV.den] at hr0
  simp only [Wu] at ho
  generalize (l.den ρ).I.toNat=len at hr0 ⊢
  cases hr0 with
  |mP _ _ _ a1 hb1=>exact .mP b sz 0 a1 (by rw [ho];cases hq:E.own b'<;>simp_all [Own.shift])
  |os _ _ _ _ c o cap hb1 hcap hsize=>
   have:=Rep.os (w:=w) (E:=E') b sz 0 len c (o+off*sz) cap (by rw [ho,hb1];rfl) hcap (by
    obtain ⟨arr,ty,fz,q1,q2⟩:=hsize
    refine ⟨arr,ty,fz,q1,?_⟩
    rw [Nat.zero_add]
    rw [bQ] at q2
    omega)
   simpa using this
theorem avW : ∀{l:List SV},Gq l=l.flatMap SV.IG
 |[]=>rfl
 |x::r=>by rw [Gq,avW (l:=r)];rfl
theorem ap3 {ρ:List AV}:∀{l:List SV},(∀z∈dU ρ l,z.jR=true)->∀y∈dU ρ (zO l),y.jR=true
 |[],_,y,hy=>by simp [zO,dU] at hy
 |x::r,h,y,hy=>by
  simp only [zO,dU] at hy
  cases hy with
  |head=>rw [al8];exact h _ (by simp [dU])
  |tail _ hy=>exact ap3 (l:=r) (fun z hz=>h z (by simp [dU,hz])) y hy
theorem aqL {ρ:List AV}:∀{l:List SV} {m:Nat} {x1 x2:AV},(dU ρ l)[m]?=some x1->(dU ρ (zO l))[m]?=some x2->∃y∈zO l,x2=y.den ρ/\Weak x1 x2
 |y::r,0,x1,x2,h1,h2=>by
  simp only [dU,zO,List.getElem?_cons_zero,aj] at h1 h2
  subst h1 h2
  exact ⟨y.nrm,by simp [zO],rfl,Gs⟩
 |y::r,m+1,x1,x2,h1,h2=>by
  simp only [dU,zO,List.getElem?_cons_succ] at h1 h2
  obtain ⟨z,q1,q2,q3⟩:=aqL h1 h2
  exact ⟨z,by simp [zO,q1],q2,q3⟩
 |[],m,x1,x2,h1,h2=>by simp [dU] at h1
theorem aBo {P:Program}{ρ:List AV}{bs:Nat}{w:World}{E E':Env}{yC:t_}{v x:SV}{s:Src}{b sz:Nat}{SR:List (Nat×Src)}{Z:Prop}(hfix:E'.fix=E.fix)(hρ:iW ρ=true)(blk:∀{b:Nat} {k:SB},yC.ah.get b=some k->rU bs w E b (k.den ρ))
  (h5:(v=.nil/\x=.sc .sl .nl/\s=.empty)\/(∃b' off l k,v=.os b' sz off l/\yC.ah.get b'=some k/\(auU k off l=true/\∀s∈alk k off l,s.holds P ρ)/\aG_ sz k off=some x/\s=.at b' (off*sz)))
  (ho:E'.own b=Wu E s) (hri:x.IG=[]) (hm:(b,s)∈SR):rU bs w E' b (.rows sz (x.den ρ).D.R)/\(Z\/(∃s,(b,s)∈SR/\∀b' d,s=.at b' d->∃k',yC.ah.get b'=some k')):=by
 rcases h5 with ⟨hev,rfl,rfl⟩|⟨b',off,l,k,hev,hk',hl,hrw,rfl⟩
 .exact ⟨.inl ⟨ho,rfl⟩,.inr ⟨_,hm,fun b' d h=>by cases h⟩⟩
 .obtain ⟨rs,R,d1,d2,d3,d4⟩:=arT (ρ:=ρ) hrw
  obtain ⟨hle,-⟩:=aw8 hl.1 hl.2 d1
  have hb1:=blk hk'
  rw [d1] at hb1
  refine ⟨?_,.inr ⟨_,hm,fun b2 d h=>by cases h;exact ⟨k,hk'⟩⟩⟩
  have hrf:(x.den ρ).refs=[]:=by rw [yM hρ,hri]
  rw [d2] at hrf ⊢
  simp only [AV.refs] at hrf
  rcases hb1 with ⟨h1,h2⟩|⟨c,o,arr,ty,h1,h2,h3,h4,h5,h6,h7,h8⟩
  .subst h2
   have:R=[]:=List.length_eq_zero_iff.1 (by rw [<- d4];simp)
   exact .inl ⟨by rw [ho];simp [Wu,h1,Own.shift],this⟩
  .have hd:RowsIn w E arr (o+off*sz) sz (rs.drop off):=by
    refine ⟨?_,fun i row hi=>?_,fun row hrow=>h7 row (List.mem_of_mem_drop hrow),fun i row j x hi hj=>?_⟩
    .have e:rs.length=off+(rs.drop off).length:=by simp;omega
     rw [e,bQ] at h5
     omega
    .rw [List.getElem?_drop] at hi;exact h6 _ row hi
    .rw [List.getElem?_drop] at hi
     obtain ⟨v,q1,q2⟩:=h8 _ row j x hi hj
     refine ⟨v,?_,q2⟩
     rw [<- q1,bQ]
     congr 1;omega
   exact .inr ⟨c,o+off*sz,arr,ty,by rw [ho];simp [Wu,h1,Own.shift],h2,by rw [hfix];exact h3,h4,aga (by rw [hfix];exact fun _ _ h=>h) (hd.weak d3) (fun y hy=>by
    simp only [AV.D,D.R] at hy
    rw [hrf] at hy;cases hy)⟩
theorem RP : ∀{l:List AV},(∀x∈l,x.refs=[])->mQ l=[]
 |[],_=>rfl
 |x::r,h=>by rw [mQ,h x (by simp),RP fun y hy=>h y (by simp [hy])];rfl
theorem NQ : ∀{l:List AV},mQ l=[]->∀x∈l,x.refs=[]
 |y::r,h,x,hx=>by
  rw [mQ,List.append_eq_nil_iff] at h
  cases hx with
  |head=>exact h.1
  |tail _ hx=>exact NQ h.2 x hx
theorem KY : ∀{l:List (List AV)},mY l=[]->∀x∈l,mQ x=[]
 |y::r,h,x,hx=>by
  rw [mY,List.append_eq_nil_iff] at h
  cases hx with
  |head=>exact h.1
  |tail _ hx=>exact KY h.2 x hx
theorem WG {a:Bool}{f:List AV->List AV}(hf:∀row,∀x∈f row,x∈row){l:List (List AV)}(h:mY l=[]):mQ (l.map fun row=>nO a (f row))=[]:=by
 refine RP fun x hx=>?_
 obtain ⟨row,hr,rfl⟩:=aU.1 hx
 have hrow:=KY h row hr
 have hfr:∀y∈f row,y.refs=[]:=fun y hy=>NQ hrow y (hf row y hy)
 cases a with
 |true=>exact RP hfr
 |false=>
  show (match f row with|x::_=>x | []=>eP).refs=[]
  generalize hg:f row=q at hfr
  cases q with
  |nil=>rfl
  |cons x r=>exact hfr x (by simp)
theorem aD7 {P:Program}{pc:Pc}{base nE j:Nat}{ins:List Nat}{p:DW}{cs yC:t_}{vals:List SV}(hρ:iW ρ=true)(hag:AgreeV base ρ σ)(hfit:ac9 pc base nE ins p cs yC=some vals)
  (hcf:∀t e,cs.fr.get t=some e->t∈ins) (hcb:∀b k,cs.ah.get b=some k->b<nE) (hcm:∀b k,cs.ah.get b=some k->∃sz rs,k.den ρ=.rows sz rs/\mY rs=k.IG) (hp:pc.holds ρ) (hsd:∀s∈alQ yC p,s.holds P ρ)
  (hv:∀(i:Nat) (v:SV),vals[i]?=some v->σ.getD (j+i) eP=v.den ρ) {bs:Nat} {w:World} {E:Env} {fr:mg} {ah:AH} {nx:Nat} {a:Act} (hst:JY ρ N yC fr ah nx) (jG:QU bs w E fr ah nx a) :
  ∃E' fr' fV,JY σ N (aEc p j cs) fr' fV p.nx/\QU bs w E' fr' fV p.nx a/\E'.fix=E.fix/\(∀b,b<nE->E'.own b=E.own b)/\∀b c o,E'.own b=.at c o->∃b' o',E.own b'=.at c o':=by
 unfold ac9 at hfit
 split at hfit
 rotate_left
 .cases hfit
 rename_i f fb ft fo hf hb ht hoo
 dsimp only at hfit
 cases hc:(aj6 base nE ins p cs yC&&(Wn nE p.nx p cs (vY p.fr f++ale p.ob fo)&&(KU (f.map (·.1)++(fb++(ft++fo.map (·.1))))&&(Nat.ble nE p.nx&&(below nE (p.bl.map (·.1))&&(below nE (p.tb.map (·.1))&&below nE (p.ob.map (·.1))))))))
 .simp [hc] at hfit
 simp only [hc,cond_true,aj] at hfit
 subst hfit
 simp only [ak] at hc
 obtain ⟨hC,hS,hR,hN,hbl,htb,hob⟩:=hc
 obtain ⟨SR,hSR⟩:∃SR,SR=vY p.fr f++ale p.ob fo:=⟨_,rfl⟩
 rw [<- hSR] at hS
 have inF:∀{b:Nat} {s:Src},(b,s)∈vY p.fr f->(b,s)∈SR:=fun h=>by rw [hSR];exact b_ _ h
 have inO:∀{b:Nat} {s:Src},(b,s)∈ale p.ob fo->(b,s)∈SR:=fun h=>by rw [hSR];exact cO _ h
 have aEV:∀s∈Jz yC p.fr,s.holds P ρ:=fun s h=>hsd s (b_ _ h)
 have aEW:∀s∈ayf yC p.ob,s.holds P ρ:=fun s h=>hsd s (cO _ h)
 have hN:=aC hN
 obtain ⟨fl,amK⟩:=Zz hf
 obtain ⟨bl,awD⟩:=ZA hb
 obtain ⟨tl,awE⟩:=ZB ht
 obtain ⟨ol,aCs⟩:=avV hoo
 let E':=awC E nE SR
 have hfix:E'.fix=E.fix:=rfl
 have hfx:∀c o,E.fix c o->E'.fix c o:=fun _ _ h=>h
 have hown:∀b,b<nE->E'.own b=E.own b:=fun b hb=>by show (if b<nE then _ else _)=_;rw [if_pos hb]
 have ah4:∀{b:Nat} {s:Src},(b,s)∈SR->E'.own b=Wu E s:=fun {b s} hm=>by
  obtain ⟨q1,q2,-,-⟩:=Au (E:=E) hS hm
  show (if b<nE then _ else KW E _ b)=_
  rw [if_neg (by omega),q1]
 have blk:∀{b:Nat} {k:SB},yC.ah.get b=some k->rU bs w E b (k.den ρ):=fun {b k} hk=>by
  obtain ⟨k0,h0,hw⟩:=hst.ah b k hk
  exact hw _ _ _ _ (jG.heap.blk b k0 h0)
 
 have osI:∀{i t b sz:Nat},p.fr[i]?=some (t,.os b sz)->∃e x s,yC.fr.get t=some e/\e.sure pc=true/\(b,s)∈SR/\σ.getD (j+i) eP=x.den ρ/\
   ((e.v=.nil/\x=.sc .sl .nl/\s=.empty)\/(∃b' off l k,e.v=.os b' sz off l/\yC.ah.get b'=some k/\(auU k off l=true/\∀s∈alk k off l,s.holds P ρ)/\aG_ sz k off=some x/\s=.at b' (off*sz))):=by
  intro i t b sz hi
  obtain ⟨e,x,s,q1,q2,q3,q4⟩:=amK i t _ hi
  refine ⟨e,x,s,q1,q2,inF (Wv hi q4),hv i x (ML q4),?_⟩
  simp only [af7] at q3
  split at q3
  .rename_i hev
   simp only [aj,aJ] at q3
   exact .inl ⟨hev,q3.1.symm,q3.2.symm⟩
  .rename_i b' sz' off l hev
   split at q3
   .rename_i k hk
    cases hcc:(Nat.beq sz sz'&&auU k off l)
    .simp [hcc] at q3
    .simp only [hcc,cond_true] at q3
     simp only [ak] at hcc
     have e1:=au hcc.1
     subst e1
     split at q3
     .rename_i r hr
      simp only [aj,aJ] at q3
      obtain ⟨rfl,rfl⟩:=q3
      exact .inr ⟨b',off,l,k,hev,hk,⟨hcc.2,Zy aEV hi q1 hev hk⟩,hr,rfl⟩
     .cases q3
   .cases q3
  .cases q3
 
 have obI:∀{i b:Nat} {o:Ob},p.ob[i]?=some (b,o)->∃(u:List SV) (v:SV) (q:List SV) (x:SV) (s:Src),yC.ah.get b=some (.rows o.n [u++v::q])/\NM o.pre u=true/\NM o.post q=true/\(o.b,s)∈SR/\
   σ.getD (j+(p.fr.length+(p.bl.length+p.tb.length))+i) eP=.agg (dU ρ (zO u)++x.den ρ::dU ρ (zO q))/\(zO u++x::zO q).flatMap SV.IG=[]/\
   ((v=.nil/\x=.sc .sl .nl/\s=.empty)\/(∃b' off l k,v=.os b' o.sz off l/\yC.ah.get b'=some k/\(auU k off l=true/\∀s∈alk k off l,s.holds P ρ)/\aG_ o.sz k off=some x/\s=.at b' (off*o.sz))):=by
  intro i b o hi
  obtain ⟨u,v,q,x,s,q1,qv,q2,q3,q4,q5⟩:=aCs i b o hi
  have hval:=hv _ _ (axS (f:=f) (b:=fb) (t:=ft) q5)
  have hri:=uP hR (axS (f:=f) (b:=fb) (t:=ft) q5)
  refine ⟨u,v,q,x,s,q1,q2,q3,inO (aty hi q5),?_,?_,?_⟩
  .rw [<- fl,<- bl,<- tl,Nat.add_assoc,Nat.add_assoc,Nat.add_assoc,hval]
   simp only [SV.den,mF,dU]
  .simp only [SV.IG] at hri
   rw [avW] at hri;exact hri
  .simp only [af7] at q4
   split at q4
   .simp only [aj,aJ] at q4
    exact .inl ⟨rfl,q4.1.symm,q4.2.symm⟩
   .rename_i b' sz' off l
    split at q4
    .rename_i k hk
     cases hcc:(Nat.beq o.sz sz'&&auU k off l)
     .simp [hcc] at q4
     .simp only [hcc,cond_true] at q4
      simp only [ak] at hcc
      have e1:=au hcc.1
      split at q4
      .rename_i r hr
       simp only [aj,aJ] at q4
       obtain ⟨rfl,rfl⟩:=q4
       exact .inr ⟨b',off,l,k,by rw [e1],hk,⟨hcc.2,aw9 aEW hi qv hk⟩,hr,rfl⟩
      .cases q4
    .cases q4
   .cases q4
 
 have hframe:∀t e,(aEc p j cs).fr.get t=some e->∃v,a.tmps[t]?=some v/\Rep w E' (e.den σ) v/\t<N:=by
  intro t e he
  rcases ac2 he with ⟨i,q,hi,rfl⟩|⟨hnp,he⟩
  .obtain ⟨e0,x,s,q1,q2,q3,q4⟩:=amK i t q hi
   obtain ⟨a0,ha0,hw0⟩:=hst.fr t e0 q1
   obtain ⟨v,hv',hr⟩:=jG.fr.get t a0 ha0
   have hlt:t<N:=by rw [<- hst.len];exact Ez ha0
   have hr0:Rep w E (e0.v.den ρ) v:=by rw [<- qo.acA hp q2];exact hw0 _ _ _ hr
   refine ⟨v,hv',?_,hlt⟩
   show Rep w E' ((q.sv (j+i)).den σ) v
   cases q with
   |os b sz=>
    obtain ⟨e1,x1,s1,r1,r2,r3,r4,r5⟩:=osI hi
    rw [q1] at r1
    simp only [aj] at r1;subst r1
    exact aBn r5 (ah4 r3) hr0 (tm:=.var (j+i) []) (by simp only [Tm.den,aDt,r4])
   |sc k=>
    obtain ⟨hwk,he2⟩:=ahU (σ:=σ) (ρ:=ρ) (j:=j+i) q3 (fun _ _ h=>by cases h) (hv i x (ML q4))
    refine wM hfx (hwk _ _ _ hr0) (fun b hb=>?_)
    rw [he2,yM hρ,uP hR (ML q4)] at hb
    cases hb
   |agg ks=>
    obtain ⟨hwk,he2⟩:=ahU (σ:=σ) (ρ:=ρ) (j:=j+i) q3 (fun _ _ h=>by cases h) (hv i x (ML q4))
    refine wM hfx (hwk _ _ _ hr0) (fun b hb=>?_)
    rw [he2,yM hρ,uP hR (ML q4)] at hb
    cases hb
  .obtain ⟨h1,h2,h3⟩:=ap1 hC (hcf t e he) hnp he
   obtain ⟨a0,ha0,hw0⟩:=hst.fr t e h3
   obtain ⟨v,hv',hr⟩:=jG.fr.get t a0 ha0
   have hlt:t<N:=by rw [<- hst.len];exact Ez ha0
   refine ⟨v,hv',?_,hlt⟩
   rw [<- qo.qP hag h1]
   refine wM hfx (hw0 _ _ _ hr) (fun b hb=>hown b (h2 b ?_))
   unfold qo.den at hb
   cases hcnd:(e.h.all fun x=>(x.1.den ρ).B == x.2)
   .rw [hcnd] at hb;simp [eP,AV.refs] at hb
   .rw [hcnd] at hb;simp only [cond_true] at hb;rwa [yM hρ] at hb
 
 have hheap:∀b k,(aEc p j cs).ah.get b=some k->rU bs w E' b (k.den σ)/\((b<nE/\(∃k',yC.ah.get b=some k')/\((∃ks,(b,ks)∈p.bl)\/(∃sz,(b,sz)∈p.tb)\/(∃o,(b,o)∈p.ob)\/(cs.ah.get b).isSome=true))\/(∃s,(b,s)∈SR/\∀b' d,s=.at b' d->∃k',yC.ah.get b'=some k')):=by
  intro b k hk
  rcases PW hk with ⟨i,t,sz,hi,rfl⟩|⟨hno,hk⟩
  .obtain ⟨e1,x1,s1,r1,r2,r3,r4,r5⟩:=osI hi
   have ho:=ah4 r3
   have e3:(SB.fK sz (.var (j+i) [])).den σ=.rows sz (x1.den ρ).D.R:=by simp only [SB.den,Tm.den,aDt,r4]
   rw [e3]
   have hri:x1.IG=[]:=by
    obtain ⟨e,x,s,q1,q2,q3,q4⟩:=amK i t _ hi
    have:=hv i x (ML q4)
    rw [r1] at q1;simp only [aj] at q1;subst q1
    rcases r5 with ⟨hev,rfl,-⟩|⟨b',off,l,k,hev,hk',hl,hrw,rfl⟩
    .rfl
    .simp only [af7,hev,hk'] at q3
     have hcc:(Nat.beq sz sz&&auU k off l)=true:=by simp [hl.1]
     rw [hcc] at q3
     simp only [cond_true,hrw,aj,aJ] at q3
     obtain ⟨rfl,-⟩:=q3
     exact uP hR (ML q4)
   exact aBo hfix hρ blk r5 ho hri r3
  .rcases ac3 hk with ⟨i,ks,hi,rfl⟩|⟨hnb,hk⟩
   .obtain ⟨row,q1,q2,q3⟩:=awD i b ks hi
    have hbn:b<nE:=KT hbl b (aU.2 ⟨_,aG hi,rfl⟩)
    have hval:=hv _ _ (ahZ (f:=f) (t:=ft++fo.map (·.1)) q3)
    have e4:dU σ (kQ (j+p.fr.length+i) [] 0 ks)=dU ρ (zO row):=by
     have:=Wp (σ:=σ) (ρ:=ρ) (j:=j+p.fr.length+i) (pre:=[]) q2 (by rw [<- fl,Nat.add_assoc,hval];rfl)
     simpa using this
    have hb1:=blk q1
    refine ⟨?_,.inl ⟨hbn,⟨_,q1⟩,.inl ⟨ks,aG hi⟩⟩⟩
    simp only [SB.den,iM] at hb1 ⊢
    rw [e4]
    have hb2:=rD.rows (sz:=ks.length) (az:=[dU ρ row]) (bs:=[dU ρ (zO row)]) (.cons tZ .nil) _ _ _ _ hb1
    refine MK hfix hb2 (hown b hbn) (fun x hx=>?_)
    have hri:=uP hR (ahZ (f:=f) (t:=ft++fo.map (·.1)) q3)
    simp only [SV.IG] at hri
    simp only [mY,cu,tH hρ,hri] at hx
    cases hx
   .rcases ac4 hk with ⟨i,sz,hi,rfl⟩|⟨hnt,hk⟩
    .obtain ⟨k0,x,q1,q2,q3⟩:=awE i b sz hi
     cases sz with
     |map msh=>
      have hbn:b<nE:=KT htb b (aU.2 ⟨_,aG hi,rfl⟩)
      have hval:=hv _ _ (UU (f:=f) (b:=fb) (t:=ft++fo.map (·.1)) (by rw [bf (aA.1 q3).1];exact q3))
      have e4:σ.getD (j+(p.fr.length+p.bl.length)+i) eP=x.den ρ:=by
       rw [<- fl,<- bl,<- hval];congr 1;omega
      obtain ⟨es,R,d1,d2,d3⟩:=af8 (ρ:=ρ) q2
      have hb1:=blk q1
      rw [d1] at hb1
      refine ⟨?_,.inl ⟨hbn,⟨_,q1⟩,.inr (.inl ⟨_,aG hi⟩)⟩⟩
      have e5:((Tb.map msh).sb (j+(p.fr.length+p.bl.length)+i)).den σ=.map es:=by
       simp only [Tb.sb,SB.den,Tm.den,aDt,e4,d2];rw [<- d3];rfl
      rw [e5]
      have hri:=uP hR (UU (f:=f) (b:=fb) (t:=ft++fo.map (·.1)) (by rw [bf (aA.1 q3).1];exact q3))
      have hrr:mY R=[]:=by
       have:(x.den ρ).refs=[]:=by rw [yM hρ,hri]
       rw [d2] at this
       exact this
      refine hb1.env hfx (fun c o off _ h=>h) (hown b hbn) (fun y hy=>?_)
      rw [<- d3] at hy
      simp only [wB.xQ,List.map_map] at hy
      rw [show ((fun x:AV×AV=>x.1)∘rW msh)=fun row=>nO msh.ka (row.take msh.kn) from rfl,show ((fun x:AV×AV=>x.2)∘rW msh)=fun row=>nO msh.va (row.drop msh.kn) from rfl] at hy
      rw [WG (f:=fun row=>row.take msh.kn) (fun row x hx=>bJ hx) hrr,WG (f:=fun row=>row.drop msh.kn) (fun row x hx=>List.mem_of_mem_drop hx) hrr] at hy
      cases hy
     |rows sz=>
     have hbn:b<nE:=KT htb b (aU.2 ⟨_,aG hi,rfl⟩)
     have hval:=hv _ _ (UU (f:=f) (b:=fb) (t:=ft++fo.map (·.1)) (by rw [bf (aA.1 q3).1];exact q3))
     have e4:σ.getD (j+(p.fr.length+p.bl.length)+i) eP=x.den ρ:=by
      rw [<- fl,<- bl,<- hval];congr 1;omega
     obtain ⟨rs,R,d1,d2,d3,d4⟩:=EP (ρ:=ρ) q2
     have hb1:=blk q1
     rw [d1] at hb1
     have hb2:=rD.rows (sz:=sz) d3 _ _ _ _ hb1
     refine ⟨?_,.inl ⟨hbn,⟨_,q1⟩,.inr (.inl ⟨_,aG hi⟩)⟩⟩
     have e5:(SB.fK sz (.var (j+(p.fr.length+p.bl.length)+i) [])).den σ=.rows sz R:=by
      simp only [SB.den,Tm.den,aDt,e4,d2];rfl
     rw [show (Tb.rows sz).sb (j+(p.fr.length+p.bl.length)+i)=SB.fK sz (.var (j+(p.fr.length+p.bl.length)+i) []) from rfl,e5]
     refine MK hfix hb2 (hown b hbn) (fun y hy=>?_)
     have hri:=uP hR (UU (f:=f) (b:=fb) (t:=ft++fo.map (·.1)) (by rw [bf (aA.1 q3).1];exact q3))
     have:(x.den ρ).refs=[]:=by rw [yM hρ,hri]
     rw [d2] at this
     simp only [AV.refs] at this
     rw [this] at hy;cases hy
    .rcases aw2 hk with ⟨i,o,hi,rfl⟩|⟨i,a0,o,hi,rfl,rfl⟩|⟨aEX,hk⟩
     .obtain ⟨u,v,q,x,s,q1,q2,q3,q4,q5,q6,q7⟩:=obI hi
      have hbn:b<nE:=KT hob b (aU.2 ⟨_,aG hi,rfl⟩)
      refine ⟨?_,.inl ⟨hbn,⟨_,q1⟩,.inr (.inr (.inl ⟨o,aG hi⟩))⟩⟩
      have hb1:=blk q1
      generalize j+(p.fr.length+(p.bl.length+p.tb.length))+i=jj at q5 ⊢
      have lu:=apI q2
      have lu':(dU ρ (zO u)).length=o.pre.length:=by rw [fZ,aiX,lu]
      have e1:=apB (σ:=σ) (ρ:=ρ) (j:=jj) (pre:=[]) (suf:=x.den ρ::dU ρ (zO q)) q2 (by rw [q5];rfl)
      have e2:=apB (σ:=σ) (ρ:=ρ) (j:=jj) (pre:=dU ρ (zO u)++[x.den ρ]) (suf:=[]) q3 (by rw [q5];simp)
      rw [bG,List.length_singleton,lu'] at e2
      have htm:(Tm.den σ (.var jj [o.pre.length])).R=(x.den ρ).D.R:=by
       simp only [Tm.den,q5,aDt]
       rw [aB,bI (by rw [lu'];exact dD _),lu',Nat.sub_self]
       rfl
      have e3:dU σ (o.row jj)=dU ρ (zO u)++.os o.b o.sz 0 ((Tm.den σ (.rlen (.var jj [o.pre.length]))).I.toNat)::dU ρ (zO q):=by
       unfold Ob.row
       rw [mF]
       simp only [dU]
       rw [show dU σ (kQ jj [] 0 o.pre)=dU ρ (zO u) from e1,e2]
       rfl
      simp only [SB.den,iM] at hb1 ⊢
      rw [e3]
      rw [mF] at hb1
      simp only [dU] at hb1
      have hsc:∀y∈dU ρ u++v.den ρ::dU ρ q,y.jR=true:=by
       rcases hb1 with ⟨-,h2⟩|⟨_,_,_,_,_,_,_,_,h5⟩
       .cases h2
       .exact fun y hy=>h5.2.2.1 _ (by simp) y hy
      have hcl:∀y∈zO u++x::zO q,(y.den ρ).refs=[]:=fun y hy=>by
       rw [yM hρ]
       exact List.flatMap_eq_nil_iff.1 q6 y hy
      refine ayg hfix hb1 (hown b hbn) ?_ ?_ ?_
      .simp [fZ,aiX]
      .intro y hy
       rcases aH.1 hy with hy|hy
       .exact ap3 (fun z hz=>hsc z (b_ _ hz)) y hy
       .cases hy with
        |head=>rfl
        |tail _ hy=>exact ap3 (fun z hz=>hsc z (cO _ (aN _ hz))) y hy
      .intro m x1 x2 val h1 h2 h3
       have lu1:(dU ρ u).length=o.pre.length:=by rw [fZ,lu]
       by_cases hm:m<o.pre.length
       .rw [bf (by omega)] at h1 h2
        obtain ⟨y,hy1,hy2,hy3⟩:=aqL h1 h2
        refine wM hfx (hy3 _ _ _ h3) (fun b hb=>?_)
        rw [hy2,hcl _ (b_ _ hy1)] at hb;cases hb
       .rw [bI (by omega)] at h1 h2
        rw [lu1] at h1;rw [lu'] at h2
        obtain ⟨d,hd⟩:∃d,m-o.pre.length=d:=⟨_,rfl⟩
        rw [hd] at h1 h2
        cases d with
        |zero=>
         simp only [List.getElem?_cons_zero,aj] at h1 h2
         subst h1 h2
         exact aBn q7 (ah4 q4) h3 htm
        |succ d=>
         simp only [List.getElem?_cons_succ] at h1 h2
         obtain ⟨y,hy1,hy2,hy3⟩:=aqL h1 h2
         refine wM hfx (hy3 _ _ _ h3) (fun b hb=>?_)
         rw [hy2,hcl _ (cO _ (aN _ hy1))] at hb;cases hb
     .obtain ⟨u,v,q,x,s,q1,q2,q3,q4,q5,q6,q7⟩:=obI hi
      generalize j+(p.fr.length+(p.bl.length+p.tb.length))+i=jj at q5 ⊢
      have ho:=ah4 q4
      have lu':(dU ρ (zO u)).length=o.pre.length:=by rw [fZ,aiX,apI q2]
      have htm:Tm.den σ (.var jj [o.pre.length])=(x.den ρ).D:=by
       simp only [Tm.den,q5,aDt]
       rw [aB,bI (by rw [lu'];exact dD _),lu',Nat.sub_self]
       rfl
      have e3:(SB.fK o.sz (.var jj [o.pre.length])).den σ=.rows o.sz (x.den ρ).D.R:=by simp only [SB.den,htm]
      rw [e3]
      exact aBo hfix hρ blk q7 ho (List.flatMap_eq_nil_iff.1 q6 x (by simp)) q4
     have hbn:=hcb b k hk
     obtain ⟨q1,q2,q3⟩:=ap2 hC hbn hnb hnt aEX hk
     obtain ⟨sz,rs,d1,d2⟩:=hcm b k hk
     refine ⟨?_,.inl ⟨hbn,⟨_,q3⟩,.inr (.inr (.inr (by rw [hk];rfl)))⟩⟩
     rw [<- SB.qP hag q1,d1]
     have hb1:=blk q3
     rw [d1] at hb1
     exact MK hfix hb1 (hown b hbn) (fun x hx=>hown x (q2 x (by rw [<- d2];exact hx)))
 have awF:∀{b b':Nat} {k k':SB} {c o c' o':Nat},b≠b'->yC.ah.get b=some k->yC.ah.get b'=some k'->E.own b=.at c o->E.own b'=.at c' o'->c≠c':=by
  intro b b' k k' c o c' o' hne h1 h2 h3 h4
  obtain ⟨k0,q0,-⟩:=hst.ah b k h1
  obtain ⟨k1,q1,-⟩:=hst.ah b' k' h2
  exact jG.heap.sep b b' k0 k1 c o c' o' hne q0 q1 h3 h4
 
 have hsrc:∀{b:Nat} {k:SB} {c o:Nat},(aEc p j cs).ah.get b=some k->E'.own b=.at c o->∃b0 k0 o0,yC.ah.get b0=some k0/\E.own b0=.at c o0/\((b0=b/\b<nE/\((∃ks,(b,ks)∈p.bl)\/(∃sz,(b,sz)∈p.tb)\/(∃o,(b,o)∈p.ob)\/(cs.ah.get b).isSome=true))\/∃d,(b,.at b0 d)∈SR):=by
  intro b k c o hk ho
  rcases (hheap b k hk).2 with ⟨q1,⟨k',q2⟩,q3⟩|⟨s,q1,q2⟩
  .exact ⟨b,k',o,q2,by rw [<- hown b q1];exact ho,.inl ⟨rfl,q1,q3⟩⟩
  .have h2:=ah4 q1
   rw [ho] at h2
   cases s with
   |no=>cases h2
   |empty=>cases h2
   |«at» b0 d=>
    obtain ⟨k',hk'⟩:=q2 b0 d rfl
    obtain ⟨o0,h0⟩:=Own.atB h2.symm
    exact ⟨b0,k',o0,hk',h0,.inr ⟨d,q1⟩⟩
 refine ⟨E',WA σ N (aEc p j cs).fr,iQ σ (aEc p j cs).ah,?_,⟨⟨?_,?_,?_,jG.heap.kJ,jG.heap.bs,?_⟩,⟨?_,?_,jG.fr.Oe⟩,jG.defers⟩,rfl,hown,fun b c o hb=>?_⟩
 rotate_right
 .change (if b<nE then E.own b else KW E SR b)=.at c o at hb
  split at hb
  .exact ⟨b,o,hb⟩
  .by_cases hm:∃s,(b,s)∈SR
   .obtain ⟨s,hm⟩:=hm
    rw [(Au (E:=E) hS hm).1] at hb
    cases s with
    |no=>cases hb
    |empty=>cases hb
    |«at» b0 d=>exact ⟨b0,Own.atB hb⟩
   .rw [I5 (fun s hs=>hm ⟨s,hs⟩)] at hb;cases hb
 .refine ⟨fun t e he=>?_,fun b k hk=>⟨k.den σ,by unfold iQ;rw [hk];rfl,rD.refl _⟩,by simp [WA],dD _⟩
  obtain ⟨v,-,-,hlt⟩:=hframe t e he
  exact ⟨e.den σ,by rw [Dt,if_pos hlt,he];rfl,Weak.refl _⟩
 .intro b k hb
  unfold iQ at hb
  simp only [ay] at hb
  obtain ⟨k1,hk1,rfl⟩:=hb
  exact (hheap b k1 hk1).1
 .intro b b' k k' c o c' o' hne h1 h2 h3 h4
  unfold iQ at h1 h2
  simp only [ay] at h1 h2
  obtain ⟨k1,hk1,-⟩:=h1
  obtain ⟨k2,hk2,-⟩:=h2
  obtain ⟨x,kx,ox,x1,x2,x3⟩:=hsrc hk1 h3
  obtain ⟨y,ky,oy,y1,y2,y3⟩:=hsrc hk2 h4
  by_cases hxy:x=y
  .subst hxy
   rcases x3 with ⟨rfl,x4,x5⟩|⟨dx,x3⟩
   .rcases y3 with ⟨rfl,-,-⟩|⟨dy,y3⟩
    .exact absurd rfl hne
    .obtain ⟨-,-,-,q⟩:=Au (E:=E) hS y3
     rcases q x _ rfl with q|⟨q1,q2,q4,q3⟩
     .omega
     .rcases x5 with ⟨ks,h⟩|⟨sz,h⟩|⟨o,h⟩|h
      .exact absurd h (q1 ks)
      .exact absurd h (q2 sz)
      .exact absurd h (q4 o)
      .rw [q3] at h;cases h
   .rcases y3 with ⟨rfl,y4,y5⟩|⟨dy,y3⟩
    .obtain ⟨-,-,-,q⟩:=Au (E:=E) hS x3
     rcases q x _ rfl with q|⟨q1,q2,q4,q3⟩
     .omega
     .rcases y5 with ⟨ks,h⟩|⟨sz,h⟩|⟨o,h⟩|h
      .exact absurd h (q1 ks)
      .exact absurd h (q2 sz)
      .exact absurd h (q4 o)
      .rw [q3] at h;cases h
    .exact absurd (ada hS x3 y3) hne
  .exact awF hxy x1 y1 x2 y2
 .intro b hb
  show (if b<nE then _ else KW E _ b)=_
  rw [if_neg (by omega)]
  refine I5 (fun s hs=>?_)
  have:=(Au (E:=E) hS hs).2.2.1
  omega
 .intro b c o hb
  change (if b<nE then E.own b else KW E SR b)=.at c o at hb
  split at hb
  .exact jG.heap.kL b c o hb
  .by_cases hm:∃s,(b,s)∈SR
   .obtain ⟨s,hm⟩:=hm
    rw [(Au (E:=E) hS hm).1] at hb
    cases s with
    |no=>cases hb
    |empty=>cases hb
    |«at» b0 d=>
     obtain ⟨o0,h0⟩:=Own.atB hb
     exact jG.heap.kL b0 c o0 h0
   .rw [I5 (fun s hs=>hm ⟨s,hs⟩)] at hb;cases hb
 .have:=jG.fr.size
  rw [hst.len] at this
  simpa [WA] using this
 .intro i x hx
  rw [Dt] at hx
  split at hx
  .simp only [ay] at hx
   obtain ⟨e,he,rfl⟩:=hx
   obtain ⟨v,q1,q2,-⟩:=hframe i e he
   exact ⟨v,q1,q2⟩
  .cases hx
end
end Go.Fw
end
section
namespace Go.Fw
variable [jY]
 mutual
def AV.bnd : AV->Prop
  | .p _ | .str _=>True
  | .agg cs=>Nw cs
  | .fD cs=>Nw cs
  | .sl rows _=>rows.length<=4294967296/\amL rows
  | .vp row _=>Nw row
  | .fn _ x y=>Nw x/\Nw y
  | .mV _ v=>v.bnd
  | .os _ _ _ n=>n<=4294967296
  | .op .. | .mp _=>True
def Nw : List AV->Prop
  |[]=>True
  |a::r=>a.bnd/\Nw r
def amL : List (List AV)->Prop
  |[]=>True
  |a::r=>Nw a/\amL r
end
theorem I7 : ∀{l:List AV},(∀a∈l,a.bnd)->Nw l
 |[],_=>trivial
 |a::r,h=>⟨h a (by simp),I7 fun b hb=>h b (by simp [hb])⟩
theorem adn : ∀{l:List (List AV)},(∀a∈l,Nw a)->amL l
 |[],_=>trivial
 |a::r,h=>⟨h a (by simp),adn fun b hb=>h b (by simp [hb])⟩
theorem UW {w:World}{E:Env}{a:AV}{v:Value}(h:Rep w E a v):a.bnd:=by
 have mem:∀{l:List AV} {vs:List Value},l.length=vs.length->(∀(i:Nat) (c:AV) (v:Value),l[i]?=some c->vs[i]?=some v->c.bnd)->Nw l:=by
  intro l vs hl hh
  refine I7 fun c hc=>?_
  obtain ⟨i,hi⟩:=bF.1 hc
  have hlt:i<vs.length:=by rw [<- hl];exact (aA.1 hi).1
  exact hh i c vs[i] hi (by simp [hlt])
 induction h with
 |p h=>trivial
 |str s l h=>trivial
 |agg cs vs hl hs _ ih=>exact mem (vs:=vs.toList) (by simpa using hl) (fun i c v h1 h2=>ih i c v h1 (by simpa using h2))
 |fD cs vs hl _ ih=>exact mem (vs:=vs.toList) (by simpa using hl) (fun i c v h1 h2=>ih i c v h1 (by simpa using h2))
 |slnil full a=>exact ⟨by simp,trivial⟩
 |sl rows full sz c o cap g hcap hfull hsz hfix hcell jS _ ih=>
  refine ⟨hcap.2,adn fun row hr=>I7 fun x hx=>?_⟩
  obtain ⟨i,hi⟩:=bF.1 hr
  obtain ⟨j,hj⟩:=bF.1 hx
  exact ih i row j x hi hj
 |vp row off c o g hfix hcell jS _ ih=>
  refine I7 fun x hx=>?_
  obtain ⟨j,hj⟩:=bF.1 hx
  exact ih j x hj
 |mP b sz off a hb=>exact dB _
 |os b sz off len c o cap hb hcap hsize=>exact hcap.2
 |op b sz row off c o hb=>trivial
 |fn f first captured vs us hl hl' _ _ ih ih'=>exact ⟨mem (vs:=vs.toList) (by simpa using hl) (fun i c v h1 h2=>ih i c v h1 (by simpa using h2)),mem (vs:=us.toList) (by simpa using hl') (fun i c v h1 h2=>ih' i c v h1 (by simpa using h2))⟩
 |mV t a v _ ih=>exact ih
 |mp b c hb=>trivial
end Go.Fw
namespace Go.Fw
variable [jY]
theorem auk {P:Program}{f:FuncId}{args:List AV}{r:AV}(h:Nw args->PC P f args r):PC P f args r:=by
 intro w fix vs hfix hG hargs
 refine h (I7 fun a ha=>?_) w fix vs hfix hG hargs
 obtain ⟨i,hi⟩:=bF.1 ha
 have hlt:i<vs.length:=by rw [<- hargs.1];exact (aA.1 hi).1
 exact UW (hargs.2 i a vs[i] hi (by simp [hlt]))
end Go.Fw
end
section
namespace Go.Fw
variable [jY]
section
variable {P : Program} {ρ:List AV} {N:Nat}
theorem ado {base:Nat}{w0 w:World}{E0 E E':Env}(h:Step base w0 E0 w E)(hf:E'.fix=E.fix)(ho:∀b,E0.own b≠.free->E'.own b=E.own b)(hs:∀b c o,E'.own b=.at c o->∃b' o',E.own b'=.at c o'):Step base w0 E0 w E':=
 ⟨⟨fun c o h0=>by rw [hf];exact h.ext.fix c o h0,h.ext.cell,fun b hb=>(ho b hb).trans (h.ext.own b hb),h.ext.arr⟩,h.below,fun c o hc h0=>h.z_ c o hc (by rw [<- hf];exact h0),h.keep,
  fun b c o h0 hc=>let ⟨b',o',h1⟩:=hs b c o h0;h.FI b' c o' h1 hc,fun c o h0 hc=>h.Aa c o (by rw [<- hf];exact h0) hc⟩
theorem adp {h:NP}{id base nE:Nat}{cs:t_}:∀{l:List Out} {pc:Pc} {outs:List (Tm×Nat×List SV)} {e:Exit} {st:t_},ade h id base nE cs pc l=some outs->pc.holds ρ->sel ρ l=some (e,st)->
  ∃kk vals pc' g,Ei ρ outs=some (kk,vals)/\Pc.holds ρ pc'/\aj7 h id base nE cs pc' ⟨g,e,st⟩=some (g,kk,vals)/\∀s∈adf h id ⟨g,e,st⟩,(pc',s)∈ahV h id pc l
 |[],pc,outs,e,st,hc,hp,hs=>by simp [sel] at hs
 |[o],pc,outs,e,st,hc,hp,hs=>by
  simp only [sel,aj,aJ] at hs
  obtain ⟨rfl,rfl⟩:=hs
  simp only [ade] at hc
  split at hc
  .rename_i x hx
   simp only [aj] at hc;subst hc
   obtain ⟨g,kk,vals⟩:=x
   have hg:o.g=g:=by
    unfold aj7 at hx
    split at hx
    .split at hx
     .simp only [aj,aJ] at hx;exact hx.1
     .cases hx
    .split at hx
     .split at hx
      .simp only [aj,aJ] at hx;exact hx.1
      .cases hx
     .cases hx
   subst hg
   exact ⟨kk,vals,pc,o.g,rfl,hp,hx,fun s hm=>aU.2 ⟨s,hm,rfl⟩⟩
  .cases hc
 |o::o'::r,pc,outs,e,st,hc,hp,hs=>by
  simp only [ade] at hc
  split at hc
  .cases hc
  .rename_i x hx
   split at hc
   .rename_i l hl
    simp only [aj] at hc;subst hc
    obtain ⟨g,kk,vals⟩:=x
    have hg:o.g=g:=by
     unfold aj7 at hx
     split at hx
     .split at hx
      .simp only [aj,aJ] at hx;exact hx.1
      .cases hx
     .split at hx
      .split at hx
       .simp only [aj,aJ] at hx;exact hx.1
       .cases hx
      .cases hx
    subst hg
    have adq:∃y s,l=y::s:=by
     cases l with
     |cons y s=>exact ⟨y,s,rfl⟩
     |nil=>
      cases r with
      |nil=>
       simp only [ade] at hl
       split at hl
       .simp at hl
       .cases hl
      |cons o2 r2=>
       simp only [ade] at hl
       split at hl
       .cases hl
       .split at hl
        .simp at hl
        .cases hl
    obtain ⟨y,s,rfl⟩:=adq
    simp only [sel] at hs
    cases hb:(o.g.den ρ).B
    .rw [hb] at hs
     obtain ⟨kk',vals',pc',g',q1,q2,q3,q4⟩:=adp hl (gq hb hp) hs
     exact ⟨kk',vals',pc',g',by simp only [Ei,hb,cond_false];exact q1,q2,q3,fun s hm=>cO _ (q4 s hm)⟩
    .rw [hb] at hs
     simp only [cond_true,aj,aJ] at hs
     obtain ⟨rfl,rfl⟩:=hs
     exact ⟨kk,vals,_,o.g,by simp only [Ei,hb,cond_true],gq hb hp,hx,fun s hm=>b_ _ (aU.2 ⟨s,hm,rfl⟩)⟩
   .cases hc
theorem ZE {id:Nat}{e:Exit}:∀{l:List (Exit×DW)} {k0 k:Nat} {p:DW},Wy id e k0 l=some (k,p)->∃i x,k=k0+i/\l[i]?=some (x,p)/\apX id x e=true
 |[],k0,k,p,h=>by simp [Wy] at h
 |x::r,k0,k,p,h=>by
  simp only [Wy] at h
  cases hx:apX id x.1 e
  .simp only [hx,cond_false] at h
   obtain ⟨i,y,q1,q2,q3⟩:=ZE h
   exact ⟨i+1,y,by omega,by simpa using q2,q3⟩
  .simp only [hx,cond_true,aj,aJ] at h
   obtain ⟨rfl,rfl⟩:=h
   exact ⟨0,x.1,rfl,rfl,hx⟩
theorem ZF {cs:t_}{nv:Nat}:∀{l:List (Exit×DW)} {k0 q i:Nat} {x:Exit} {p:DW},l[i]?=some (x,p)->(1<l.length->(ρ.getD nv eP).D.I=((k0+i:Nat):Int))->
  sel ρ (ER cs nv k0 q l)=some (x,aEc p (q+((l.map fun y=>y.2.m).take i).sum) cs)
 |[],k0,q,i,x,p,h,hs=>by simp at h
 |[y],k0,q,i,x,p,h,hs=>by
  cases i with
  |zero=>simp at h;subst h;simp [ER,sel]
  |succ i=>simp at h
 |y::z::r,k0,q,i,x,p,h,hs=>by
  have hsel:=hs (by simp)
  have hg:(Tm.den ρ (.bin .eql (.int .i64) (.var nv []) (.li k0))).B=decide (i=0):=by
   simp only [Tm.den,qJ,D.B,aDt,hsel,dZ]
   show ((((k0+i:Nat)):Int) == (k0:Int))=_
   by_cases hi:i=0
   .subst hi;simp
   .simp [hi];omega
  cases i with
  |zero=>
   simp at h;subst h
   cases r<;>simp [ER,sel,hg]
  |succ i=>
   have ih:=ZF (cs:=cs) (nv:=nv) (l:=z::r) (k0:=k0+1) (q:=q+y.2.m) (i:=i) (x:=x) (p:=p) (by simpa using h) (fun _=>by rw [hsel];congr 1;omega)
   have e1:sel ρ (ER cs nv k0 q (y::z::r))=sel ρ (ER cs nv (k0+1) (q+y.2.m) (z::r)):=by
    have hne:∃o s,ER cs nv (k0+1) (q+y.2.m) (z::r)=o::s:=by cases r<;>exact ⟨_,_,rfl⟩
    obtain ⟨o,s,hos⟩:=hne
    simp only [ER,hos,sel,hg]
    simp
   rw [e1,ih]
   simp only [aX,List.take_succ_cons,List.sum_cons,Nat.add_assoc]
theorem amM {st:t_}{l:List Nat}{t:Nat}{e:qo}(h:(st.cut l).fr.get t=some e):t∈l:=(Tr.Gz h).1
theorem amN {st:t_}{l:List Nat}{b:Nat}{k:SB}(h:(st.cut l).ah.get b=some k):b<st.nx:=by
 have:=(Tr.Gz h).1
 rw [List.mem_filter,List.mem_range] at this
 exact this.1
theorem adr {st:t_}{l:List Nat}{b:Nat}{k:SB}(hρ:iW ρ=true)(h:(st.cut l).ah.get b=some k):∃sz rs,k.den ρ=.rows sz rs/\mY rs=k.IG:=by
 obtain ⟨h1,h2⟩:=Tr.Gz h
 rw [List.mem_filter] at h1
 cases k with
 |rows sz rs=>exact ⟨sz,_,rfl,Ap hρ⟩
 |fK sz t=>exact ⟨sz,_,rfl,oV (j_ (Tm.qK hρ t))⟩
 |map es=>
  have:=h1.2
  unfold adb at this
  rw [h2] at this
  cases this
 |BZ m t=>
  have:=h1.2
  unfold adb at this
  rw [h2] at this
  cases this
 |it m n k=>
  have:=h1.2
  unfold adb at this
  rw [h2] at this
  cases this
 |kN ty sz rs=>
  have:=h1.2
  unfold adb at this
  rw [h2] at this
  cases this
theorem axU {st:t_}{h:NP}{b:Nat}{k:SB}(hk:(st.ar4 h).ah.get b=some k):b<st.nx:=amN (st:=st) (l:=h.ins) (al7 hk)
theorem avX {st:t_}{h:NP}{b:Nat}{k:SB}(hρ:iW ρ=true)(hk:(st.ar4 h).ah.get b=some k):∃sz rs,k.den ρ=.rows sz rs/\mY rs=k.IG:=adr (st:=st) (l:=h.ins) hρ (al7 hk)
theorem amO {a b:List AV}{i:Nat}(h:i<a.length):(a++b).getD i eP=a.getD i eP:=by
 simp [aB,bf h]
theorem WH {base:Nat}{vs cs:List AV}(h:base<=ρ.length):AgreeV base ρ (ρ.take base++vs++cs):=by
 intro i hi
 have hl:(ρ.take base).length=base:=by simp;omega
 rw [cZ,amO (by omega)]
 simp [aB,bH,hi]
theorem AgreeV.symm {n:Nat}{a b:List AV}(h:AgreeV n a b):AgreeV n b a:=fun i hi=>(h i hi).symm
theorem AgreeV.trans {n:Nat}{a b c:List AV}(h:AgreeV n a b)(k:AgreeV n b c):AgreeV n a c:=fun i hi=>(h i hi).trans (k i hi)
theorem amP {base i:Nat}{vs cs:List AV}{v:AV}(h:base<=ρ.length)(hv:vs[i]?=some v):(ρ.take base++vs++cs).getD (base+i) eP=v:=by
 have hl:(ρ.take base).length=base:=by simp;omega
 have hi:=(aA.1 hv).1
 rw [cZ]
 simp only [aB]
 rw [bI (by omega),hl,Nat.add_sub_cancel_left,bf hi,hv]
 rfl
theorem ZG {l:List SV}{i:Nat}{v:SV}(h:l[i]?=some v):(dU ρ l)[i]?=some (v.den ρ):=by
 rw [nX];simp [h]
theorem amQ {t x:Tm}:∀{l:List Tm},x∈apV l t->x∈l\/x=t:=by
 intro l h
 unfold apV at h
 cases hc:(l.any fun x=>x.beq t)
 .simp only [hc,cond_false,aH,bT] at h;exact h
 .simp only [hc,cond_true] at h;exact .inl h
theorem WI {x:Tm}:∀{l acc:List Tm},x∈l.foldl apV acc->x∈acc\/x∈l
 |[],acc,h=>.inl h
 |y::r,acc,h=>by
  simp only [List.foldl_cons] at h
  rcases WI h with h|h
  .rcases amQ h with h|h
   .exact .inl h
   .exact .inr (by simp [h])
  .exact .inr (by simp [h])
theorem ads : ∀{l:List AV},Nw l->∀x∈l,x.bnd
 |a::r,h,x,hx=>by
  cases hx with
  |head=>exact h.1
  |tail _ hx=>exact ads h.2 x hx
theorem ap4 {st:t_}{v:SV}(h:(v.den ρ).bnd):∀t∈v.slT st.ah,(t.den ρ).R.length<=4294967296:=by
 intro t ht
 cases v with
 |sc k tm=>
  cases k with
  |sl=>
   simp only [SV.slT,bT] at ht
   subst ht;exact h.1
  |_=>simp [SV.slT] at ht
 |agg l=>
  simp only [SV.slT,List.mem_filterMap] at ht
  obtain ⟨x,hx,he⟩:=ht
  split at he
  .rename_i tm
   simp only [aj] at he;subst he
   have:(AV.sl (Tm.den ρ tm).R false).bnd:=by
    refine ads (l:=dU ρ l) h _ ?_
    rw [nX];exact aU.2 ⟨_,hx,rfl⟩
   exact this.1
  .cases he
 |os b sz off len=>
  simp only [SV.slT] at ht
  split at ht
  .rename_i sz' tm hb
   cases hc:len.beq (.rlen tm)
   .simp [hc] at ht
   .simp only [hc,cond_true,bT] at ht
    subst ht
    have e:=Tm.beq_eq hc
    subst e
    exact h
  .cases ht
 |_=>simp [SV.slT] at ht
theorem ap5 {st:t_}{ins:List Nat}{fr:mg}{ah:AH}{nx:Nat}(hst:JY ρ N st fr ah nx){bs:Nat}{w:World}{E:Env}{a:Act}(jG:QU bs w E fr ah nx a):∀t∈apW st ins,(t.den ρ).R.length<=4294967296:=by
 intro t ht
 unfold apW at ht
 rcases WI ht with h|h
 .cases h
 .obtain ⟨s,-,h⟩:=List.mem_flatMap.1 h
  unfold ar0 at h
  split at h
  .rename_i e he
   obtain ⟨a0,ha0,hw⟩:=hst.fr s e he
   obtain ⟨v,-,hr⟩:=jG.fr.get s a0 ha0
   have hb:=UW (hw _ _ _ hr)
   split at h
   .rename_i hh
    have:e.den ρ=e.v.den ρ:=by unfold qo.den;rw [hh];rfl
    rw [this] at hb
    exact ap4 hb t h
   .cases h
  .cases h
theorem aj_ {c:Code}{id:Nat}{h:NP}{pc:Pc}{base:Nat}{st:t_}{ent:List SV}{xo:List Out}{outs:List (Tm×Nat×List SV)}{sd:List (Pc×Side)}{aw:List Lo}{bn:List Tm}(hρ:iW ρ=true)(hp:pc.holds ρ)
  (hent:ac9 pc base st.nx h.ins h.p (st.ar4 h) st=some ent) (hcls:ade h id base st.nx (st.ar4 h) (pc.old base) xo=some outs) (awG:∀s∈alQ st h.p,s.holds P ρ) (awH:∀x∈ahV h id (pc.old base) xo,x∈sd)
  (hbody:∀σ,iW σ=true->Pc.holds σ (pc.old base)->jD P σ sd->LoL P aw σ->∀fr ah nx,JY σ N (aEc h.p base (st.ar4 h)) fr ah nx->AW P c fr ah nx (IZ σ N xo))
  (hlo:Lo.holds P (.mk pc base h.p.m ent outs sd aw (h.xs.map fun y=>y.2.m) bn) ρ) (hbn:bn=apW st h.ins) {fr:mg} {ah:AH} {nx:Nat} (hst:JY ρ N st fr ah nx) :
  AW P (.block id (.loop c)) fr ah nx (IZ ρ N (ER (st.ar4 h) base 0 (aDJ base (h.xs.map fun y=>y.2.m) 0) h.xs)):=by
 unfold Lo.holds at hlo
 subst hbn
 refine acs ?_
 intro bs w E a jG
 obtain ⟨hbl,n,k,us,hrun,hres⟩:=hlo hp (ap5 hst jG)
 have hE0:∀b,E.own b≠.free->b<st.nx:=fun b hb=>Nat.lt_of_not_le fun hle=>hb (jG.heap.fresh b (bW hst.nx hle))
 let J:Nat->Act->World->Prop:=fun n a' w'=>∃n' vs cs' E' fr' fV,n=n'+1/\iW (ρ.take base++vs++cs')=true/\(jD P (ρ.take base++vs++cs') sd/\LoL P aw (ρ.take base++vs++cs'))/\
  (match Ei (ρ.take base++vs++cs') outs with
   |none=>False
   |some (0,l)=>af9 (fun σ=>jD P σ sd/\LoL P aw σ) outs (ρ.take base) h.p.m n' (dU (ρ.take base++vs++cs') l) k us
   |some (j+1,l)=>k=j/\us=dU (ρ.take base++vs++cs') l)/\
  JY (ρ.take base++vs++cs') N (aEc h.p base (st.ar4 h)) fr' fV h.p.nx/\QU bs w' E' fr' fV h.p.nx a'/\Step bs w E w' E'
 
 have enter:∀{n vals τ pcτ yC fr1 ah1 nx1 w1 E1 a1},af9 (fun σ=>jD P σ sd/\LoL P aw σ) outs (ρ.take base) h.p.m n (dU τ vals) k us->iW τ=true->AgreeV base ρ τ->Pc.holds τ pcτ->(∀s∈alQ yC h.p,s.holds P τ)->ac9 pcτ base st.nx h.ins h.p (st.ar4 h) yC=some vals->
   JY τ N yC fr1 ah1 nx1->QU bs w1 E1 fr1 ah1 nx1 a1->Step bs w E w1 E1->J n a1 w1:=by
  intro n vals τ pcτ yC fr1 ah1 nx1 w1 E1 a1 hr hτ hag hpτ ayG hfit hs1 amR agb
  cases n with
  |zero=>exact hr.elim
  |succ n=>
   obtain ⟨cs',h1,h2,h3,h4⟩:=hr
   obtain ⟨E2,fr2,ah2,q1,q2,q3,q4,q5⟩:=aD7 (j:=base) hτ (hag.symm.trans (WH (vs:=dU τ vals) (cs:=cs') hbl)) hfit (fun t e he=>amM (st:=st) he) (fun b k hk=>axU hk) (fun b k hk=>avX hτ hk) hpτ ayG
    (fun i v hv=>amP hbl (ZG hv)) hs1 amR
   exact ⟨n,_,cs',E2,fr2,ah2,rfl,h2,h3,h4,q1,q2,ado agb q3 (fun b hb=>q4 b (hE0 b hb)) q5⟩
 refine wp_loop_ghost J n (enter hrun hρ (fun _ _=>rfl) hp awG hent hst jG (Step.refl _ _ _)) ?_
 intro n0 a1 w1 ⟨n',vs,cs',E1,fr1,ah1,hn,hfz,hS,hmatch,hst1,amR,agb⟩
 subst hn
 have hag:=WH (ρ:=ρ) (vs:=vs) (cs:=cs') hbl
 generalize hσ:ρ.take base++vs++cs'=σ at *
 have hpo:Pc.holds σ (pc.old base):=Pc.aj3 hag hp
 refine wp_mono (hbody σ hfz hpo hS.1 hS.2 fr1 ah1 _ hst1 bs w1 E1 a1 amR) fun e a2 w2 hpost=>?_
 obtain ⟨E2,fr2,ah2,nx2,⟨st2,hsel,hst2⟩,ar5,hstep2⟩:=hpost
 have hstep:=agb.trans hstep2
 obtain ⟨kk,vals,pc',g,q1,q2,q3,q4⟩:=adp hcls hpo hsel
 have hsd2:∀s∈adf h id ⟨g,e,st2⟩,s.holds P σ:=fun s hm=>hS.1 (pc',s) (awH _ (q4 s hm)) q2
 rw [q1] at hmatch
 
 have leave:∀(k':Nat) (p:DW),Wy id e 0 h.xs=some (k',p)->(∀s∈alQ st2 p,s.holds P σ)->ac9 pc' base st.nx h.ins p (st.ar4 h) st2=some vals->kk=k'+1->Ju bs w E (AIn id (IZ ρ N (ER (st.ar4 h) base 0 (aDJ base (h.xs.map fun y=>y.2.m) 0) h.xs))) e a2 w2:=by
  intro k' p hf ayH hfit hkk
  subst hkk
  obtain ⟨rfl,rfl⟩:=hmatch
  obtain ⟨i,x,hi,hx,hex⟩:=ZE hf
  rw [Nat.zero_add] at hi
  subst hi
  have hpos:aDJ base (h.xs.map fun y=>y.2.m) k=aDJ base (h.xs.map fun y=>y.2.m) 0+((h.xs.map fun y=>y.2.m).take k).sum:=by
   unfold aDJ;simp
  obtain ⟨E3,fr3,ah3,r1,r2,r3,r4,r5⟩:=aD7 (j:=aDJ base (h.xs.map fun y=>y.2.m) k) hfz hag.symm hfit (fun t e he=>amM (st:=st) he) (fun b k hk=>axU hk) (fun b k hk=>avX hfz hk) q2 ayH
    (fun i v hv=>hres.2 i _ (ZG hv)) hst2 ar5
  have hs3:=ado hstep r3 (fun b hb=>r4 b (hE0 b hb)) r5
  have hQ:IZ ρ N (ER (st.ar4 h) base 0 (aDJ base (h.xs.map fun y=>y.2.m) 0) h.xs) x fr3 ah3 p.nx:=by
   refine ⟨_,ZF hx (fun hl=>?_),?_⟩
   .rw [Nat.zero_add];exact hres.1 (by simpa using hl)
   .rw [<- hpos];exact r1
  refine ⟨E3,fr3,ah3,p.nx,?_,r2,hs3⟩
  cases x<;>cases e<;>simp only [apX,ak,Bool.not_eq_true'] at hex
  all_goals first
   |(cases hex;done)
   |exact hQ
   |(have:=au hex;subst this;simp only [AIn,if_true];exact hQ)
   |(
     obtain ⟨g1,g2⟩:=hex
     have:=au g1
     subst this
     simp only [AIn]
     split
     .rename_i hj;subst hj;simp at g2
     .exact hQ)
 unfold aj7 at q3
 cases e with
 |normal=>
  dsimp only at q3
  split at q3
  .rename_i v hv
   simp only [aj,aJ,true_and] at q3
   obtain ⟨rfl,rfl⟩:=q3
   exact ⟨n',Nat.lt_succ_self _,enter hmatch hfz hag q2 hsd2 hv hst2 ar5 hstep⟩
  .cases q3
 |_=>
  dsimp only at q3
  split at q3
  .rename_i k' p hf
   split at q3
   .rename_i v hv
    simp only [aj,aJ,true_and] at q3
    obtain ⟨rfl,rfl⟩:=q3
    exact leave k' p hf (by simpa only [adf,hf] using hsd2) hv rfl
   .cases q3
  .cases q3
end
end Go.Fw
end
