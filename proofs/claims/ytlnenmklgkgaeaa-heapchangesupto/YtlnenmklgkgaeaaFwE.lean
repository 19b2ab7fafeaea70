
import Derived.Test.YtlnenmklgkgaeaaFwD
import Derived.Test.YtlnenmklgkgaeaaFwB
import Derived.Test.YtlnenmklgkgaeaaFwC
set_option linter.unusedVariables false
set_option linter.unusedSimpArgs false
set_option linter.unusedSectionVars false
set_option linter.unnecessarySimpa false
section
namespace Go.Fw
variable [iT]
def gJ : Tm->Bool->Pc->Pc
 | .lb _,_,pc=>pc| .not t,b,pc=>gJ t (!b) pc| .and x y,true,pc=>gJ x true (gJ y true pc)| .or x y,false,pc=>gJ x false (gJ y false pc)|t,b,pc=>(t,b)::pc
theorem dY {ρ:List AV}:∀{t:Tm} {b:Bool} {pc:Pc},(t.den ρ).B=b->Pc.holds ρ pc->Pc.holds ρ (gJ t b pc):=by
 intro t;induction t with
 |lb v=>intro b pc _ hp;exact hp|not t ih=>
  intro b pc h hp;exact ih (by simp only [Tm.den,D.BP] at h;rw [<- h];simp) hp
 |and x y ql ihy=>
  intro b pc h hp;cases b with
  |true=>
   simp only [Tm.den,D.BP,Bool.and_eq_true] at h;exact ql h.1 (ihy h.2 hp)
  |false=>exact Pc.iw h hp
 |or x y ql ihy=>
  intro b pc h hp;cases b with
  |false=>
   simp only [Tm.den,D.BP,Bool.or_eq_false_iff] at h;exact ql h.1 (ihy h.2 hp)
  |true=>exact Pc.iw h hp
 |_=>intro b pc h hp;exact Pc.iw h hp
def lJ {α:Type}(ρ:List AV):List (Tm×α)->Option α
 |[]=>none|[x]=>some x.2|x::y::r=>bif (x.1.den ρ).B then some x.2 else lJ ρ (y::r)
def WE {α:Type}(g:Tm):List (Tm×α)->List (Tm×α)
 |[]=>[]|[x]=>[(g,x.2)]|x::y::r=>(ayU g x.1,x.2)::WE g (y::r)
theorem aeY {α:Type}{ρ:List AV}:∀{l:List (Tm×α)},l≠[]->∃x,lJ ρ l=some x
 |[],h=>absurd rfl h|[x],_=>⟨_,rfl⟩|x::y::r,_=>by
  simp only [lJ];cases (x.1.den ρ).B
  .exact aeY (l:=y::r) (by simp)
  .exact ⟨_,rfl⟩
theorem apL {α:Type}{g:Tm}:∀{l:List (Tm×α)},l≠[]->WE g l≠[]
 |[],h=>absurd rfl h|[x],_=>by simp [WE]
 |x::y::r,_=>by simp [WE]
theorem yN {α:Type}{ρ:List AV}{g:Tm}:∀{l rest:List (Tm×α)},rest≠[]->l≠[]->lJ ρ (WE g l++rest)=bif (g.den ρ).B then lJ ρ l else lJ ρ rest
 |[],rest,hr,hl=>absurd rfl hl|[x],rest,hr,_=>by
  obtain ⟨z,s,rfl⟩:=List.exists_cons_of_ne_nil hr;simp only [WE,List.cons_append,List.nil_append,lJ]
 |x::y::r,rest,hr,_=>by
  have ih:=yN (ρ:=ρ) (g:=g) (l:=y::r) hr (by simp);obtain ⟨u,v,huv⟩:=List.exists_cons_of_ne_nil (apL (g:=g) (l:=y::r) (by simp));simp only [WE,List.cons_append];rw [huv] at ih ⊢;simp only [List.cons_append] at ih ⊢;simp only [lJ,uX,ih];cases (g.den ρ).B<;>cases (x.1.den ρ).B<;>rfl
structure CO where
 v:SV
 th:Tr SB
 nx:Nat
structure CR where
 outs:List (Tm×CO)
 nv:Nat
 sd:List (Pc×Sd)
abbrev B_ :=Pc->Tr SB->Nat->Nat->FuncId->List SV->Option CR
def lT (P:Program)(ρ:List AV)(inl:B_):Prop:=
 ∀pc th nx nv f args R,inl pc th nx nv f args=some R->Pc.holds ρ pc->kQ P ρ R.sd->
  ∀base w E ah vs,Dz ρ th ah->dM base w E ah (fun b=>nx<=b)->Zg w E.fix->fG w E (dK ρ args) vs->
   ∀(o:Oper) (a:Act),(∀w',(execOp a.eval o).run P w'=(callFunc f vs.toArray).run P w')->∀(next:Act->World->Prop) (Q:Exit->Act->World->Prop),
    (∀c,lJ ρ R.outs=some c->∀v w' E' dV,Dz ρ c.th dV->Step base w E w' E'->dM base w' E' dV (fun b=>c.nx<=b)->Rep w' E' (c.v.den ρ) v->next (a.put o.dst v) w')->o.wp P a w next Q
def ac4 (P:Program)(t:TypeId)(name:String):Option FuncId:=
 match P.info? t with
 |none=>none|some i=>match i.methods.find? (·.name == name) with
  |none=>none|some m=>match m.path.toList,m.func,P.underlying t with
   |[],some (f,true),some (.pointer _)=>some f|_,_,_=>none
def Hu (P:Program)(Eu:FuncId->Bool)(pc:Pc)(tr:Tr oq)(op:Op):Option (FuncId×List SV):=
 match op with
 | .call ⟨.value x,args,_⟩=>match zf pc tr x with
  |some (.fn f first captured)=>bif (match x with | .func _=>Eu f|_=>true) then
    (match Ky pc tr args.toList with|some l=>some (f,first++l++captured)|none=>none) else none
  |_=>none
 | .call ⟨.invoke x name,args,_⟩=>match zf pc tr x with
  |some (.kY t v)=>match ac4 P t name with
   |some f=>(match Ky pc tr args.toList with|some l=>some (f,v::l)|none=>none)|none=>none
  |_=>none
 |_=>none
structure RQ where
 tr:Tr oq
 th:Tr SB
 nx:Nat
structure SQ where
 outs:List (Tm×RQ)
 nv:Nat
 sd:List (Pc×Sd)
def Cb (k:Pc->CO->Nat->Option SQ):Pc->List (Tm×CO)->Nat->Option SQ
 |_,[],_=>none|pc,[x],nv=>k pc x.2 nv|pc,x::y::r,nv=>match k (gJ x.1 true pc) x.2 nv with
  |none=>none|some a=>match Cb k (gJ x.1 false pc) (y::r) a.nv with
   |none=>none|some b=>some ⟨WE x.1 a.outs++b.outs,b.nv,a.sd++b.sd⟩
def KJ (P:Program)(X:oN)(inl:B_)(Eu:FuncId->Bool)(N:Nat)(ops:Array Oper):List Oper->Pc->RQ->Nat->Option SQ
 |[],_,R,nv=>some ⟨[(.lb true,R)],nv,[]⟩|o::rest,pc,R,nv=>
  bif Tq N o.dst then
   match aeV ops pc R.tr o with
   |none=>none|some .no=>KJ P X inl Eu N ops rest pc {R with tr:=Gm R.tr o.dst ⟨[],.c .undef⟩} nv|some .yes=>match Hu P Eu pc R.tr o.op with
    |some (f,args)=>match inl pc R.th R.nx nv f args with
     |none=>none|some C=>match Cb (fun pc c nv=>KJ P X inl Eu N ops rest pc ⟨Gm R.tr o.dst ⟨[],c.v⟩,c.th,c.nx⟩ nv) pc C.outs C.nv with
      |none=>none|some y=>some ⟨y.outs,y.nv,C.sd++y.sd⟩
    |none=>match sOp P X pc R.tr R.th R.nx nv o.op with
     |none=>none|some r=>match KJ P X inl Eu N ops rest pc ⟨Gm R.tr o.dst ⟨[],r.v⟩,wrT R.th r.wr,R.nx+1⟩ r.nv with
      |none=>none|some y=>some ⟨y.outs,y.nv,Mc pc r.sd y.sd⟩
   |some (.maybe l)=>match sOp P X (l++pc) R.tr R.th R.nx nv o.op with
    |none=>match l with
     |[(t,b)]=>match Hu P Eu (gJ t b pc) R.tr o.op with
      |none=>none|some (f,args)=>match inl (gJ t b pc) R.th R.nx nv f args with
       |none=>none|some C=>match Cb (fun pc c nv=>KJ P X inl Eu N ops rest pc ⟨Gm R.tr o.dst ⟨[],c.v⟩,c.th,c.nx⟩ nv) (gJ t b pc) C.outs C.nv with
        |none=>none|some y=>match KJ P X inl Eu N ops rest (gJ t (!b) pc) {R with tr:=Gm R.tr o.dst ⟨[],.c .undef⟩} y.nv with
         |none=>none|some z=>some ⟨bif b then WE t y.outs++z.outs else WE t z.outs++y.outs,z.nv,C.sd++(y.sd++z.sd)⟩
     |_=>none
    |some r=>bif r.wr.isEmpty then match KJ P X inl Eu N ops rest pc ⟨Gm R.tr o.dst ⟨l,r.v⟩,R.th,R.nx+1⟩ r.nv with
      |none=>none|some y=>some ⟨y.outs,y.nv,Mc (l++pc) r.sd y.sd⟩
     else match l with
     |[(t,b)]=>match sOp P X (gJ t b pc) R.tr R.th R.nx nv o.op with
      |none=>none|some r=>match KJ P X inl Eu N ops rest (gJ t b pc) ⟨Gm R.tr o.dst ⟨[],r.v⟩,wrT R.th r.wr,R.nx+1⟩ r.nv with
       |none=>none|some y=>match KJ P X inl Eu N ops rest (gJ t (!b) pc) {R with tr:=Gm R.tr o.dst ⟨[],.c .undef⟩} y.nv with
        |none=>none|some z=>some ⟨bif b then WE t y.outs++z.outs else WE t z.outs++y.outs,z.nv,Mc (gJ t b pc) r.sd (y.sd++z.sd)⟩
     |_=>none
  else none
def ajp (M:List Nat)(i:Nat)(l:List Nat):Bool:=l.all fun k=>(M.getD i 0).testBit k
def aam (fs:List zl)(i:Nat)(rd wr:List Nat):List zl:=bif rd.isEmpty&&wr.isEmpty then fs else ⟨i,rd,wr⟩::fs
def ajq : Option SB->Option SB->Bool
 |some (.rows a r),some (.rows b s)=>Nat.beq a b&&PK r s|some (.fZ a t),some (.fZ b u)=>Nat.beq a b&&t.beq u|_,_=>false
theorem ajr {x y:Option SB}(h:ajq x y=true):∃k,x=some k/\y=some k:=by
 unfold ajq at h;split at h
 .simp only [Bool.and_eq_true] at h;rw [Nat.eq_of_beq_eq_true h.1,Hf h.2];exact ⟨_,rfl,rfl⟩
 .simp only [Bool.and_eq_true] at h;rw [Nat.eq_of_beq_eq_true h.1,Tm.beq_eq h.2];exact ⟨_,rfl,rfl⟩
 .cases h
def A_ (th:Tr SB)(outs:List (Tm×CO))(b:Nat):Bool:=outs.all fun x=>ajq (x.2.th.get b) (th.get b)
def Hw (M:List Nat)(i:Nat)(qs:List Nat)(fs:List zl)(th:Tr SB)(outs:List (Tm×CO)):Bool:=
 ajp M i qs&&fs.all (fun f=>(M.getD i 0).testBit f.i||(f.wr.isEmpty&&f.rd.all (fun b=>A_ th outs b)))
abbrev CS :=List (Nat×(Nat->Bool)×(Unit->Bool))
def I_ (th:Tr SB)(nx:Nat)(args:List SV)(outs:List (Tm×CO))(_:Unit):Bool:=Yq th nx args&&outs.all fun x=>Yr th nx x.2.nx x.2.th x.2.v
def PV (M:List Nat)(i:Nat)(cs:CS):Bool:=cs.all fun c=>(M.getD i 0).testBit c.1
def Qm (M:List Nat)(i:Nat)(pu:Bool)(own:Nat)(rd wr:List Nat)(cs:CS):Bool:=cs.all fun c=>(M.getD i 0).testBit c.1||(rd.all c.2.1&&((pu&&wr.isEmpty)||(wr.all (Nat.beq own)&&c.2.2 ())))
def Tr.agZ {α:Type}:Tr α->(Nat->α->Bool)->Tr α
 | .e,_=>.e| .n l x r,f=>.n (Tr.agZ l (fun j=>f (2*j+1))) (match x with|none=>none|some a=>bif f 0 a then some a else none) (Tr.agZ r (fun j=>f (2*j+2)))
theorem Tr.Tz {α:Type}:∀{t:Tr α} {f:Nat->α->Bool} {k:Nat} {a:α},(t.agZ f).get k=some a->t.get k=some a
 | .e,f,k,a,h=>by simp [Tr.agZ,Tr.get] at h
 | .n l x r,f,k,a,h=>by
  simp only [Tr.agZ,Tr.get] at h ⊢;cases h1:Nat.beq k 0
  .simp only [h1,cond_false] at h ⊢;cases h2:Nat.beq (k % 2) 1
   .simp only [h2,cond_false] at h ⊢;exact Tr.Tz h
   .simp only [h2,cond_true] at h ⊢;exact Tr.Tz h
  .simp only [h1,cond_true] at h ⊢;cases x with
   |none=>cases h
   |some y=>
    simp only at h;cases hf:f 0 y
    .simp [hf] at h
    .simpa [hf] using h
def Yt (nx:Nat):Nat->Tr SB->Tr SB
 |0,th=>th|n+1,th=>Yt nx n (th.agZ fun b k=>Nat.ble (b+1) nx&&k.zx.all (azc th))
theorem TA {nx:Nat}:∀{n:Nat} {th:Tr SB} {b:Nat} {k:SB},(Yt nx n th).get b=some k->th.get b=some k
 |0,th,b,k,h=>h|n+1,th,b,k,h=>Tr.Tz (TA (n:=n) h)
def ac5 {α:Type}(a:Option α)(b:Unit->Option α):Option α:=match a with|some y=>some y|none=>b ()
theorem PW {α:Type}{a:Option α}{b:Unit->Option α}{y:α}(h:ac5 a b=some y):a=some y\/b ()=some y:=by
 unfold ac5 at h;split at h
 .exact .inl h
 .exact .inr h
def Yu (i:Nat)(op:Op)(qs:List Nat):List Nat:=bif zk op then qs else i::qs
def zh (P:Program)(X:oN)(inl:B_)(Eu:FuncId->Bool)(N:Nat)(ops:Array Oper)(M:List Nat):Nat->List Oper->Pc->List Nat->CS->List zl->RQ->Nat->Option SQ
 |_,[],_,_,_,_,R,nv=>some ⟨[(.lb true,R)],nv,[]⟩|i,o::rest,pc,qs,cs,fs,R,nv=>
  bif Tq N o.dst then
   match aeV ops pc R.tr o with
   |none=>none|some .no=>zh P X inl Eu N ops M (i+1) rest pc qs cs fs {R with tr:=Gm R.tr o.dst ⟨[],.c .undef⟩} nv|some .yes=>match Hu P Eu pc R.tr o.op with
    |some (f,args)=>
      ac5 ((fun Gu=>
      match inl pc Gu R.nx nv f args with
      |none=>none|some C=>bif PV M i cs&&Hw M i qs fs Gu C.outs then match Cb (fun pc c nv=>zh P X inl Eu N ops M (i+1) rest pc qs ((i,A_ Gu C.outs,I_ Gu R.nx args C.outs)::cs) fs ⟨Gm R.tr o.dst ⟨[],c.v⟩,c.th,Nat.max c.nx R.nx⟩ nv) pc C.outs C.nv with
       |none=>none|some y=>some ⟨y.outs,y.nv,C.sd++y.sd⟩
       else none) R.th) (fun _=>(fun Gu=>
      match inl pc Gu R.nx nv f args with
      |none=>none|some C=>bif PV M i cs&&Hw M i qs fs Gu C.outs then match Cb (fun pc c nv=>zh P X inl Eu N ops M (i+1) rest pc qs ((i,A_ Gu C.outs,I_ Gu R.nx args C.outs)::cs) fs ⟨Gm R.tr o.dst ⟨[],c.v⟩,c.th,Nat.max c.nx R.nx⟩ nv) pc C.outs C.nv with
       |none=>none|some y=>some ⟨y.outs,y.nv,C.sd++y.sd⟩
       else none) (Yt R.nx 4 R.th))
    |none=>match sOp P X pc R.tr R.th R.nx nv o.op with
     |none=>none|some r=>bif Qm M i (zk o.op) R.nx r.rd (r.wr.map (·.1)) cs&&fs.all (fun f=>ayJ M i r.rd (r.wr.map (·.1)) f) then
       match zh P X inl Eu N ops M (i+1) rest pc (Yu i o.op qs) cs (aam fs i r.rd (r.wr.map (·.1))) ⟨Gm R.tr o.dst ⟨[],r.v⟩,wrT R.th r.wr,R.nx+1⟩ r.nv with
       |none=>none|some y=>some ⟨y.outs,y.nv,Mc pc r.sd y.sd⟩
      else none
   |some (.maybe l)=>match sOp P X (l++pc) R.tr R.th R.nx nv o.op with
    |none=>none|some r=>bif r.wr.isEmpty&&(Qm M i (zk o.op) R.nx r.rd [] cs&&fs.all (fun f=>ayJ M i r.rd (r.wr.map (·.1)) f)) then
      match zh P X inl Eu N ops M (i+1) rest pc (Yu i o.op qs) cs (aam fs i r.rd []) ⟨Gm R.tr o.dst ⟨l,r.v⟩,R.th,R.nx+1⟩ r.nv with
      |none=>none|some y=>some ⟨y.outs,y.nv,Mc (l++pc) r.sd y.sd⟩
     else match l with
     |[(t,b)]=>match sOp P X (gJ t b pc) R.tr R.th R.nx nv o.op with
      |none=>none|some r=>bif Qm M i (zk o.op) R.nx r.rd (r.wr.map (·.1)) cs&&fs.all (fun f=>ayJ M i r.rd (r.wr.map (·.1)) f) then
        match zh P X inl Eu N ops M (i+1) rest (gJ t b pc) (Yu i o.op qs) cs (aam fs i r.rd (r.wr.map (·.1))) ⟨Gm R.tr o.dst ⟨[],r.v⟩,wrT R.th r.wr,R.nx+1⟩ r.nv with
        |none=>none|some y=>match zh P X inl Eu N ops M (i+1) rest (gJ t (!b) pc) qs cs fs {R with tr:=Gm R.tr o.dst ⟨[],.c .undef⟩} y.nv with
         |none=>none|some z=>some ⟨bif b then WE t y.outs++z.outs else WE t z.outs++y.outs,z.nv,Mc (gJ t b pc) r.sd (y.sd++z.sd)⟩
       else none
     |_=>none
  else none
section
variable {P : Program} {ρ:List AV} {pc:Pc} {X:oN} {inl:B_} {Eu:FuncId->Bool}
theorem ac6 {w:World}{E:Env}{fr:jB}{o:Oper}{a:Act}{f:FuncId}(hfr:tY w E fr a.tmps){x:Operand}{l:Array Operand}{ts:Array TypeId}{first captured m:List AV}(hop:o.op=.call ⟨.value x,l,ts⟩)
  (hx:ev fr x=some (.fn (.func f) first captured)) (hm:Q9 fr l.toList=some m):∃vs,fG w E (first++m++captured) vs/\∀w',(execOp a.eval o).run P w'=(callFunc f vs.toArray).run P w':=by
 have hv:=eu hfr hx;have hl:=pF hfr hm;obtain ⟨vs,us,h1,h2,hval⟩:∃vs us:Array Value,fG w E first vs.toList/\fG w E captured us.toList/\a.eval x=.func (.func f) vs us:=by
  generalize a.eval x=val at hv;cases hv with
  |fn _ _ _ vs us q1 q2 q3 q4=>exact ⟨vs,us,⟨by simpa using q1,fun i c v e1 e2=>q3 i c v e1 (by simpa using e2)⟩,⟨by simpa using q2,fun i c v e1 e2=>q4 i c v e1 (by simpa using e2)⟩,rfl⟩
 refine ⟨vs.toList++l.toList.map a.eval++us.toList,fG.append (fG.append h1 hl) h2,?_⟩;have e:vs++l.map a.eval++us=(vs.toList++l.toList.map a.eval++us.toList).toArray:=by apply Array.ext';simp
 intro w';congr 1;simp only [execOp,hop,resolve,hval,Deferred.ofValue,invoke];rw [<- e];rfl
def ag0 (P:Program)(fr:jB)(op:Op)(f:FuncId)(args:List AV):Prop:=
 ∀(w:World) (E:Env) (fr':jB) (a:Act) (o:Oper),o.op=op->ay6 fr fr' op.operands.toList->tY w E fr' a.tmps->∃vs,fG w E args vs/\∀w',(execOp a.eval o).run P w'=(callFunc f vs.toArray).run P w'
theorem ac7 {t:TypeId}{name:String}{f:FuncId}(h:ac4 P t name=some f)(v:Value)(w:World)(n:Nat):(method (n+1) t v name).run P w=.ok (f,v) w:=by
 unfold ac4 at h;split at h
 .cases h
 .rename_i i hi;split at h
  .cases h
  .rename_i m hm;split at h
   .rename_i f' e hp hf hu;simp only [Option.some.injEq] at h;subst h;simp [method,typeInfo,hi,hm,hp,hf,follow,receiverAt,run_underlying hu,Place.get]
   .cases h
theorem Cc {fr:jB}{tr:Tr oq}{op:Op}{f:FuncId}{args:List SV}(hp:pc.holds ρ)(hf:Vs ρ tr fr)(h:Hu P Eu pc tr op=some (f,args)):ag0 P fr op f (dK ρ args):=by
 unfold Hu at h;split at h
 .rename_i x l ts;split at h
  .rename_i f' first captured hx
   generalize (match x with | .func _=>Eu f' | _=>true)=g at h;cases g
   .cases h
   .simp only [cond_true] at h;split at h
    .rename_i m hm;simp only [Option.some.injEq,Prod.mk.injEq] at h;obtain ⟨rfl,rfl⟩:=h;intro w E fr' a o hop hag hfr;rw [jr,jr];have hx':ev fr' x=_:=(eY hag (by simp [Op.operands,Call.operands])).trans (gK hp hf hx);have hm':Q9 fr' l.toList=_:=(nT hag (by intro z hz;simp [Op.operands,Call.operands];exact .inr (by simpa using hz))).trans (uD hp hf hm);exact ac6 (P:=P) hfr hop hx' hm'
    .cases h
  .cases h
 .rename_i x name l ts;split at h
  .rename_i t v hx;split at h
   .rename_i f' arG;split at h
    .rename_i m hm;simp only [Option.some.injEq,Prod.mk.injEq] at h;obtain ⟨rfl,rfl⟩:=h;intro w E fr' a o hop hag hfr;have hx':ev fr' x=some (.kY t (v.den ρ)):=(eY hag (by simp [Op.operands,Call.operands])).trans (gK hp hf hx);have hm':Q9 fr' l.toList=_:=(nT hag (by intro z hz;simp [Op.operands,Call.operands];exact .inr (by simpa using hz))).trans (uD hp hf hm);have hv:=eu hfr hx';have hl:=pF hfr hm';obtain ⟨u,hu,hval⟩:∃u,Rep w E (v.den ρ) u/\a.eval x=.iface t u:=by
      generalize a.eval x=val at hv;cases hv with
      |kY _ _ u q=>exact ⟨u,q,rfl⟩
     refine ⟨u::l.toList.map a.eval,fG.cons hu hl,?_⟩;intro w';have e:(#[u]++(#[Value.iface t u]++l.map a.eval).extract 1 (#[Value.iface t u]++l.map a.eval).size)=(u::l.toList.map a.eval).toArray:=by
      apply Array.ext';simp [List.take_of_length_le]
     obtain ⟨n,hn⟩:∃n,P.types.size+Made.depth=n+1:=⟨P.types.size+99,rfl⟩;have e0:(#[Value.iface t u]++l.map a.eval)[0]?=some (.iface t u):=(by rw [Array.getElem?_append_left (by simp)];rfl);simp only [execOp,hop,resolve,hval,Sem.run_bind,Sem.run_pure,Result.andThen_ok,invoke,e0,callMethod,run_program,hn,ac7 arG,e]
    .cases h
   .cases h
  .cases h
 .cases h
def aok (P:Program)(ρ:List AV)(N base:Nat)(w:World)(E:Env)(a:Act)(R:RQ)(a':Act)(w':World):Prop:=
 ∃E' fr' dV,Vs ρ R.tr fr'/\Dz ρ R.th dV/\fr'.length=N/\Step base w E w' E'/\dM base w' E' dV (fun b=>R.nx<=b)/\tY w' E' fr' a'.tmps/\a'.defers=a.defers
theorem DL {k:Pc->CO->Nat->Option SQ}(hk:∀pc c nv y,k pc c nv=some y->y.outs≠[]):∀{l:List (Tm×CO)} {pc:Pc} {nv:Nat} {y:SQ},Cb k pc l nv=some y->y.outs≠[]
 |[],pc,nv,y,h=>by simp [Cb] at h
 |[x],pc,nv,y,h=>hk _ _ _ _ h|x::z::r,pc,nv,y,h=>by
  simp only [Cb] at h;split at h
  .cases h
  .split at h
   .cases h
   .rename_i b hb;simp only [Option.some.injEq] at h;subst h;have:=DL hk hb;simp [this]
theorem Me {k:Pc->CO->Nat->Option SQ}(hk:∀pc c nv y,k pc c nv=some y->y.outs≠[]):∀{l:List (Tm×CO)} {pc:Pc} {nv:Nat} {y:SQ},Cb k pc l nv=some y->Pc.holds ρ pc->kQ P ρ y.sd->
  ∀c,lJ ρ l=some c->∃pc' tJ y',k pc' c tJ=some y'/\Pc.holds ρ pc'/\kQ P ρ y'.sd/\∀R,lJ ρ y'.outs=some R->lJ ρ y.outs=some R
 |[],pc,nv,y,h,hp,hs,c,hc=>by simp [Cb] at h
 |[x],pc,nv,y,h,hp,hs,c,hc=>by
  simp only [lJ,Option.some.injEq] at hc;subst hc;exact ⟨pc,nv,y,h,hp,hs,fun R h=>h⟩
 |x::z::r,pc,nv,y,h,hp,hs,c,hc=>by
  simp only [Cb] at h;split at h
  .cases h
  .rename_i a ha;split at h
   .cases h
   .rename_i b hb;simp only [Option.some.injEq] at h;subst h;have auf:=hk _ _ _ _ ha;have hbne:=DL hk hb;have hsel:=yN (ρ:=ρ) (g:=x.1) (l:=a.outs) hbne auf;simp only [lJ] at hc;cases hg:(x.1.den ρ).B
    .rw [hg] at hc hsel;obtain ⟨pc',tJ,y',q1,q2,q3,q4⟩:=Me hk hb (dY hg hp) (fun s hm=>hs s (by simp [hm])) c hc;exact ⟨pc',tJ,y',q1,q2,q3,fun R hR=>by rw [hsel];exact q4 R hR⟩
    .rw [hg] at hc hsel;simp only [cond_true,Option.some.injEq] at hc;subst hc;exact ⟨_,_,a,ha,dY hg hp,fun s hm=>hs s (by simp [hm]),fun R hR=>by rw [hsel];exact hR⟩
theorem qp {N:Nat}{ops:Array Oper}:∀{l:List Oper} {pc:Pc} {R:RQ} {nv:Nat} {y:SQ},KJ P X inl Eu N ops l pc R nv=some y->y.outs≠[]
 |[],pc,R,nv,y,h=>by simp only [KJ,Option.some.injEq] at h;subst h;simp
 |o::rest,pc,R,nv,y,h=>by
  unfold KJ at h;cases hd:Tq N o.dst
  .simp [hd] at h
  .simp only [hd,cond_true] at h;split at h
   .cases h
   .exact qp h
   .split at h
    .split at h
     .cases h
     .split at h
      .cases h
      .rename_i z hz;simp only [Option.some.injEq] at h;subst h;exact (DL (fun _ _ _ _ h=>qp h) hz:z.outs≠[])
    .split at h
     .cases h
     .split at h
      .cases h
      .rename_i z hz;simp only [Option.some.injEq] at h;subst h;exact (qp hz:z.outs≠[])
   .split at h
    .split at h
     .split at h
      .cases h
      .split at h
       .cases h
       .split at h
        .cases h
        .rename_i y hy;split at h
         .cases h
         .rename_i z hz;simp only [Option.some.injEq] at h;subst h;have n1:y.outs≠[]:=DL (fun _ _ _ _ h=>qp h) hy;have n2:z.outs≠[]:=qp hz;dsimp only;rw [Bool.cond_eq_ite];split
          .intro e;exact n2 (List.append_eq_nil_iff.1 e).2
          .intro e;exact n1 (List.append_eq_nil_iff.1 e).2
     .cases h
    .rename_i r hr;cases hE:r.wr.isEmpty
     .simp only [hE,cond_false] at h;split at h
      .split at h
       .cases h
       .split at h
        .cases h
        .rename_i y hy;split at h
         .cases h
         .rename_i z hz;simp only [Option.some.injEq] at h;subst h;have n1:y.outs≠[]:=qp hy;have n2:z.outs≠[]:=qp hz;dsimp only;rw [Bool.cond_eq_ite];split
          .intro e;exact n2 (List.append_eq_nil_iff.1 e).2
          .intro e;exact n1 (List.append_eq_nil_iff.1 e).2
      .cases h
     .simp only [hE,cond_true] at h;split at h
      .cases h
      .rename_i z hz;simp only [Option.some.injEq] at h;subst h;exact (qp hz:z.outs≠[])
theorem yE {N:Nat}{ops:Array Oper}(hρ:fU ρ=true)(hX:ny P ρ X)(hI:lT P ρ inl){Q:Exit->Act->World->Prop}{base:Nat}:∀(l:List Oper) (i:Nat) {pc:Pc} {R:RQ} {nv:Nat} {S:SQ} (fr:jB) (ah:AH) (w:World) (E:Env) (a:Act),
  KJ P X inl Eu N ops l pc R nv=some S->Pc.holds ρ pc->kQ P ρ S.sd->Vs ρ R.tr fr->Dz ρ R.th ah->fr.length=N->(∀j:Nat,l[j]?=ops[i+j]?)->
  dM base w E ah (fun b=>R.nx<=b)->tY w E fr a.tmps->(∀R',lJ ρ S.outs=some R'->∀a' w',aok P ρ N base w E a R' a' w'->Q .normal a' w')->wpOps P ops Q (List.range' i l.length) a w
 |[],i,pc,R,nv,S,fr,ah,w,E,a,h,hp,hs,hf,ha,hN,hl,hh,hfr,hQ=>by
  simp only [KJ,Option.some.injEq] at h;subst h;simp only [List.length_nil,List.range'_zero,wpOps];exact hQ R rfl a w ⟨E,fr,ah,hf,ha,hN,Step.refl _ _ _,hh,hfr,rfl⟩
 |o::rest,i,pc,R,nv,S,fr,ah,w,E,a,h,hp,hs,hf,ha,hN,hl,hh,hfr,hQ=>by
  have ho:ops[i]?=some o:=by simpa using (hl 0).symm
  simp only [List.length_cons,List.range'_succ];rw [wpOps_cons];unfold wpOp;rw [ho];dsimp only;have hl':∀j:Nat,rest[j]?=ops[i+1+j]?:=fun j=>by have:=hl (j+1);simp at this;rw [this];congr 1;omega
  have lift:∀{w1:World} {E1:Env} {a1:Act},Step base w E w1 E1->a1.defers=a.defers->∀R',lJ ρ S.outs=some R'->∀a' w',aok P ρ N base w1 E1 a1 R' a' w'->Q .normal a' w':=by
   intro w1 E1 a1 hst hdf R' hR' a' w' hpost;obtain ⟨E2,fr2,ah2,q1,q2,q3,q4,q5,q6,q7⟩:=hpost;exact hQ R' hR' a' w' ⟨E2,fr2,ah2,q1,q2,q3,hst.trans q4,q5,q6,by rw [q7,hdf]⟩
  unfold KJ at h;cases hd:Tq N o.dst
  .simp [hd] at h
  .simp only [hd,cond_true] at h;split at h
   .cases h
   .rename_i hw;obtain ⟨wt,hk,hwt⟩:=jU (ops:=ops) hfr (vX hp hf hw (k:=fun b=>When.sem ρ .no b) fun b hb=>hb);simp only [When.sem] at hk;subst hk;rw [if_neg (by rw [hwt];simp)];exact yE hρ hX hI rest (i+1) _ _ w E _ h hp hs (qo (e:=⟨[],.c .undef⟩) hf hd hN) ha (by rw [jg,hN]) hl' hh (hfr.put o.dst (.p rfl)) (lift (Step.refl _ _ _) (ayq _ _ _))
   .rename_i hw;obtain ⟨wt,hk,hwt⟩:=jU (ops:=ops) hfr (vX hp hf hw (k:=fun b=>When.sem ρ .yes b) fun b hb=>hb);simp only [When.sem] at hk;subst hk;rw [if_pos hwt];split at h
    .rename_i f args hc;split at h
     .cases h
     .rename_i C hC;split at h
      .cases h
      .rename_i y hy;simp only [Option.some.injEq] at h;subst h;obtain ⟨vs,hvs,he⟩:=Cc (P:=P) hp hf hc w E fr a o rfl (fun _ _=>rfl) hfr;refine .inl (hI _ _ _ _ _ _ _ hC hp (fun x hx=>hs x (by simp [hx])) base w E ah vs ha hh hfr.Gg hvs o a he _ _ (fun c hc v w' E' dV q1 q2 q3 q4=>?_));obtain ⟨pc',tJ,y',g1,g2,g3,g4⟩:=Me (P:=P) (fun _ _ _ _ h=>qp h) hy hp (fun x hx=>hs x (by simp [hx])) c hc;exact yE hρ hX hI rest (i+1) _ _ w' E' _ g1 g2 g3 (qo (e:=⟨[],c.v⟩) hf hd hN) q1 (by rw [jg,hN]) hl' q3 ((hfr.mono q2.ext).put o.dst q4) (fun R' hR'=>lift q2 (ayq _ _ _) R' (g4 R' hR'))
    .split at h
     .cases h
     .rename_i r hr;split at h
      .cases h
      .rename_i y hy;simp only [Option.some.injEq] at h;subst h;have hsd:=vZ hs;refine .inl (J9 (id:=R.nx) (K:=fun r'=>r'=r.den ρ) hh (Nat.le_refl _) hfr (Ox hρ hX hp hf ha hr (hsd.1 hp) rfl) (fun r' v w' E' hr' hst hh' hv=>?_));subst hr';exact yE hρ hX hI rest (i+1) _ _ w' E' _ hy hp hsd.2 (qo (e:=⟨[],r.v⟩) hf hd hN) (Ht ha) (by rw [jg,hN]) hl' (hh'.weaken fun b hb=>⟨Nat.le_of_succ_le hb,Nat.ne_of_gt hb⟩) ((hfr.mono hst.ext).put o.dst hv) (lift hst (ayq _ _ _))
   .rename_i l hw;split at h
    .split at h
     .rename_i t b hno;split at h
      .cases h
      .rename_i f args hc;split at h
       .cases h
       .rename_i C hC;split at h
        .cases h
        .rename_i y hy;split at h
         .cases h
         .rename_i z hz;simp only [Option.some.injEq] at h;subst h;have n1:y.outs≠[]:=DL (fun _ _ _ _ h=>qp h) hy;have n2:z.outs≠[]:=qp hz;obtain ⟨wt,hk,hwt⟩:=jU (ops:=ops) hfr (vX hp hf hw (k:=fun q=>When.sem ρ (.maybe [(t,b)]) q) fun q hq=>hq);simp only [When.sem,List.all_cons,List.all_nil,Bool.and_true] at hk;have hsel:∀R',lJ ρ (bif b then WE t y.outs++z.outs else WE t z.outs++y.outs)=some R'↔lJ ρ (bif (t.den ρ).B == b then y.outs else z.outs)=some R':=by
           intro R';cases b
           .simp only [cond_false];rw [yN n1 n2];cases (t.den ρ).B<;>rfl
           .simp only [cond_true];rw [yN n2 n1];cases (t.den ρ).B<;>rfl
          cases wt with
          |true=>
           rw [if_pos hwt];have hB:(t.den ρ).B=b:=(by simpa using hk.symm);have hp1:=dY hB hp;obtain ⟨vs,hvs,he⟩:=Cc (P:=P) hp1 hf hc w E fr a o rfl (fun _ _=>rfl) hfr;refine .inl (hI _ _ _ _ _ _ _ hC hp1 (fun x hx=>hs x (by simp [hx])) base w E ah vs ha hh hfr.Gg hvs o a he _ _ (fun c hc v w' E' dV q1 q2 q3 q4=>?_));obtain ⟨pc',tJ,y',g1,g2,g3,g4⟩:=Me (P:=P) (fun _ _ _ _ h=>qp h) hy hp1 (fun x hx=>hs x (by simp [hx])) c hc;exact yE hρ hX hI rest (i+1) _ _ w' E' _ g1 g2 g3 (qo (e:=⟨[],c.v⟩) hf hd hN) q1 (by rw [jg,hN]) hl' q3 ((hfr.mono q2.ext).put o.dst q4) (fun R' hR'=>lift q2 (ayq _ _ _) R' ((hsel R').2 (by rw [<- hk];exact g4 R' hR')))
          |false=>
           rw [if_neg (by rw [hwt];simp)];have hB:(t.den ρ).B=!b:=by cases hb:(t.den ρ).B<;>cases b<;>simp [hb] at hk ⊢
           exact yE hρ hX hI rest (i+1) _ _ w E _ hz (dY hB hp) (fun x hx=>hs x (by simp [hx])) (qo (e:=⟨[],.c .undef⟩) hf hd hN) ha (by rw [jg,hN]) hl' hh (hfr.put o.dst (.p rfl)) (fun R' hR'=>lift (Step.refl _ _ _) (ayq _ _ _) R' ((hsel R').2 (by rw [<- hk];exact hR')))
     .cases h
    .rename_i r hr;cases hE:r.wr.isEmpty
     .simp only [hE,cond_false] at h;split at h
      .rename_i t b;split at h
       .cases h
       .rename_i r hr;split at h
        .cases h
        .rename_i y hy;split at h
         .cases h
         .rename_i z hz;simp only [Option.some.injEq] at h;subst h;have n1:y.outs≠[]:=qp hy;have n2:z.outs≠[]:=qp hz;have hsd:=vZ hs;obtain ⟨wt,hk,hwt⟩:=jU (ops:=ops) hfr (vX hp hf hw (k:=fun q=>When.sem ρ (.maybe [(t,b)]) q) fun q hq=>hq);simp only [When.sem,List.all_cons,List.all_nil,Bool.and_true] at hk;have hsel:∀R',lJ ρ (bif b then WE t y.outs++z.outs else WE t z.outs++y.outs)=some R'↔lJ ρ (bif (t.den ρ).B == b then y.outs else z.outs)=some R':=by
           intro R';cases b
           .simp only [cond_false];rw [yN n1 n2];cases (t.den ρ).B<;>rfl
           .simp only [cond_true];rw [yN n2 n1];cases (t.den ρ).B<;>rfl
          cases wt with
          |true=>
           rw [if_pos hwt];have hB:(t.den ρ).B=b:=(by simpa using hk.symm);have hp1:=dY hB hp;refine .inl (J9 (id:=R.nx) (K:=fun r'=>r'=r.den ρ) hh (Nat.le_refl _) hfr (Ox hρ hX hp1 hf ha hr (hsd.1 hp1) rfl) (fun r' v w' E' hr' hst hh' hv=>?_));subst hr';exact yE hρ hX hI rest (i+1) _ _ w' E' _ hy hp1 (fun x hx=>hsd.2 x (by simp [hx])) (qo (e:=⟨[],r.v⟩) hf hd hN) (Ht ha) (by rw [jg,hN]) hl' (hh'.weaken fun b hb=>⟨Nat.le_of_succ_le hb,Nat.ne_of_gt hb⟩) ((hfr.mono hst.ext).put o.dst hv)
            (fun R' hR'=>lift hst (ayq _ _ _) R' ((hsel R').2 (by rw [<- hk];exact hR')))
          |false=>
           rw [if_neg (by rw [hwt];simp)];have hB:(t.den ρ).B=!b:=by cases hb:(t.den ρ).B<;>cases b<;>simp [hb] at hk ⊢
           exact yE hρ hX hI rest (i+1) _ _ w E _ hz (dY hB hp) (fun x hx=>hsd.2 x (by simp [hx])) (qo (e:=⟨[],.c .undef⟩) hf hd hN) ha (by rw [jg,hN]) hl' hh (hfr.put o.dst (.p rfl)) (fun R' hR'=>lift (Step.refl _ _ _) (ayq _ _ _) R' ((hsel R').2 (by rw [<- hk];exact hR')))
      .cases h
     .simp only [hE,cond_true] at h;split at h
      .cases h
      .rename_i y hy;simp only [Option.some.injEq] at h;subst h;have hwr:r.wr=[]:=(by simpa using hE);have hsd:=vZ hs;obtain ⟨wt,hk,hwt⟩:=jU (ops:=ops) hfr (vX hp hf hw (k:=fun b=>When.sem ρ (.maybe l) b) fun b hb=>hb);simp only [When.sem] at hk;have hput:=qo (e:=⟨l,r.v⟩) hf hd hN;cases wt with
       |true=>
        rw [if_pos hwt];have hpl:=Pc.ET hk.symm hp;have e2:(⟨l,r.v⟩:oq).den ρ=r.v.den ρ:=(by simp only [oq.den,<- hk];rfl);rw [e2] at hput;refine .inl (J9 (id:=R.nx) (K:=fun r'=>r'=r.den ρ) hh (Nat.le_refl _) hfr (Ox hρ hX hpl hf ha hr (hsd.1 hpl) rfl) (fun r' v w' E' hr' hst hh' hv=>?_));subst hr';have e3:lZ ah (SR.den ρ r).wr=ah:=(by simp [SR.den,hwr,lZ]);rw [e3] at hh';exact yE hρ hX hI rest (i+1) _ _ w' E' _ hy hp hsd.2 hput ha (by rw [jg];exact hN) hl' (hh'.weaken fun b hb=>⟨Nat.le_of_succ_le hb,Nat.ne_of_gt hb⟩) ((hfr.mono hst.ext).put o.dst hv) (lift hst (ayq _ _ _))
       |false=>
        rw [if_neg (by rw [hwt];simp)];have e1:(⟨l,r.v⟩:oq).den ρ=eX:=(by simp only [oq.den,<- hk];rfl);rw [e1] at hput;exact yE hρ hX hI rest (i+1) _ _ w E _ hy hp hsd.2 hput ha (by rw [jg];exact hN) hl' (hh.weaken fun b hb=>Nat.le_of_succ_le hb) (hfr.put o.dst (.p rfl)) (lift (Step.refl _ _ _) (ayq _ _ _))
structure zi where
 fr:jB
 ah:AH
 rv:AV
 WR:Nat->Bool
 RD:Nat->Bool
 NEW:Nat->Prop
 XY:Nat->Prop
 nx:Nat
 call:Bool
def ajs (P:Program)(ops:Array Oper)(base j:Nat)(o:Oper)(r:zi)(ahn:AH):Prop:=
 ∀(AA:jB) (nZ:AH) (w:World) (E:Env) (a:Act) (F:Nat->Prop),G7 r.fr AA (o.looksAt ops)->(∀b,r.RD b=true->nZ b=r.ah b)->
  dM base w E nZ F->(∀b,r.XY b->F b)->tY w E AA a.tmps->∀(Q:Exit->Act->World->Prop) (K:Act->World->Prop),
   (∀v w' E' nR,(∀b,nR b=if r.WR b=true then ahn b else nZ b)->Step base w E w' E'->dM base w' E' nR (fun b=>F b/\¬r.NEW b)->Rep w' E' r.rv v->K (a.put o.dst v) w')->wpOp P ops Q j K a w
def Dk {α:Type}(f:zi->α)(L:List zi)(e:α)(k:Nat):α:=match L[k]? with|some r=>f r|none=>e
def ajt (r' r:zi):Prop:=(∀b,r'.WR b=true->r.RD b=false/\r.WR b=false)/\∀b,r'.RD b=true->r.WR b=false
def aol (f:zl)(r:zi):Prop:=(∀b∈f.wr,r.RD b=false/\r.WR b=false)/\∀b∈f.rd,r.WR b=false
structure FY (P:Program)(ops:Array Oper)(base:Nat)(M:List Nat)(i:Nat)(l:List Oper)(L:List zi)(Hy:jB)(Ja:AH)(nxE:Nat)(qs:List Nat)(cs:CS)(fs:List zl)(k:Nat)(o:Oper)(r:zi):Prop where
 step:ajs P ops base (i+k) o r (Dk (·.ah) L Ja (k+1))
 fr:Dk (·.fr) L Hy (k+1)=lH r.fr o.dst r.rv
 ah:∀b,r.WR b=false->Dk (·.ah) L Ja (k+1) b=r.ah b
 nx:r.nx<=Dk (·.nx) L nxE (k+1)
 req:∀b,r.XY b->r.nx<=b
 new:∀b,r.NEW b->b<Dk (·.nx) L nxE (k+1)
 plain:r.call=false->(∀b,r.XY b->b<Dk (·.nx) L nxE (k+1))/\∀b,r.NEW b->r.nx<=b
 avC:r.call=true->∀m∈qs,(M.getD (i+k) 0).testBit m=true
 calls:∀c∈cs,(M.getD (i+k) 0).testBit c.1=true\/((∀b,r.WR b=false)/\(∀b,r.RD b=true->c.2.1 b=true)/\∀b,¬r.NEW b)\/(c.2.2 ()=true/\(∀b,r.WR b=true->r.nx<=b)/\(∀b,r.RD b=true->c.2.1 b=true)/\∀b,r.NEW b->r.nx<=b)
 ccs:r.call=true->∀c∈cs,(M.getD (i+k) 0).testBit c.1=true
 foots:∀f∈fs,(M.getD (i+k) 0).testBit f.i=true\/aol f r
 prev:∀k' r',k' < k->L[k']?=some r'->((M.getD (i+k) 0).testBit (i+k')=true\/ajt r' r)/\(r'.call=true->(M.getD (i+k) 0).testBit (i+k')=true\/∀b,r'.XY b->¬r.NEW b)/\(r.call=true->(M.getD (i+k) 0).testBit (i+k')=true\/∀b,¬r'.XY b)
theorem dM.sub {base:Nat}{w:World}{E:Env}{ah kP:AH}{F:Nat->Prop}(h:dM base w E ah F)(hs:∀b k,kP b=some k->ah b=some k):dM base w E kP F:=
 ⟨fun b k hb=>h.blk b k (hs b k hb),fun b b' k k' c o c' o' hne h1 h2=>h.sep b b' k k' c o c' o' hne (hs _ _ h1) (hs _ _ h2),h.fresh,h.iY,h.bs,h.je⟩
theorem iR {α:Type}{f:zi->α}{r:zi}{L:List zi}{e:α}{k:Nat}:Dk f (r::L) e (k+1)=Dk f L e k:=rfl
theorem FY.cons {P:Program}{ops:Array Oper}{base:Nat}{M:List Nat}{i:Nat}{l:List Oper}{L:List zi}{Hy:jB}{Ja:AH}{nxE:Nat}{qs qs':List Nat}{cs cs':CS}{fs fs':List zl}{o:Oper}{r:zi}
  (hl:L.length=l.length) (h0:FY P ops base M i (o::l) (r::L) Hy Ja nxE qs cs fs 0 o r) (ht:∀k o' r',l[k]?=some o'->L[k]?=some r'->FY P ops base M (i+1) l L Hy Ja nxE qs' cs' fs' k o' r')
  (hqs:∀c∈qs,c∈qs') (hq:r.call=false->i∈qs'\/∀b,¬r.XY b) (hcs:∀c∈cs,c∈cs') (hfs:∀f∈fs,f∈fs') (hc:r.call=true->∃S G,(i,S,G)∈cs'/\(∀b,S b=true->r.WR b=false)/\(G ()=true->∀b,(r.WR b=true\/r.RD b=true\/r.XY b)->b<Dk (·.nx) L nxE 0)) (hf:r.call=false->(∃f∈fs',f.i=i/\∀r',aol f r'->ajt r r')\/∀r',ajt r r') :
  ∀k o' r',(o::l)[k]?=some o'->(r::L)[k]?=some r'->FY P ops base M i (o::l) (r::L) Hy Ja nxE qs cs fs k o' r':=by
 intro k o' r' h1 h2;cases k with
 |zero=>simp at h1 h2;subst h1;subst h2;exact h0|succ k=>
  simp at h1 h2;obtain ⟨q1,q2,q3,q4,q5,q6,q7,q8,q9,qc,q10,q11⟩:=ht k o' r' h1 h2;have e:i+1+k=i+(k+1):=by omega
  rw [e] at q1 q8 q9 qc q10 q11;refine ⟨q1,q2,q3,q4,q5,q6,q7,fun hcl m hm=>q8 hcl m (hqs m hm),fun c hm=>q9 c (hcs c hm),fun hcl c hm=>qc hcl c (hcs c hm),fun f hm=>q10 f (hfs f hm),fun k' s hk hs=>?_⟩;have hnx:∀m,m<=k->Dk (·.nx) L nxE 0<=Dk (·.nx) L nxE m:=by
   intro m;induction m with
   |zero=>intro _;exact Nat.le_refl _|succ m ih=>
    intro hm;have h3:=(List.getElem?_eq_some_iff.1 h2).1;have hm1:m<L.length:=(by omega);have:=(ht m l[m] L[m] (by simp [<- hl,hm1]) (by simp [hm1])).nx;refine Nat.le_trans (ih (by omega)) ?_;have e:Dk (·.nx) L nxE m=L[m].nx:=(by unfold Dk;simp [hm1]);rw [e];exact this
  have awi:Dk (·.nx) L nxE 0<=r'.nx:=by
   have:=hnx k (Nat.le_refl _);have e:Dk (·.nx) L nxE k=r'.nx:=by unfold Dk;rw [h2]
   rwa [e] at this
  cases k' with
  |zero=>
   simp at hs;subst hs;refine ⟨?_,fun hcall=>?_,fun hcl=>?_⟩;rotate_left
   .obtain ⟨S,G,hm,hS,hG⟩:=hc hcall;rcases q9 _ hm with h|⟨-,-,h⟩|⟨h0,-,-,h⟩
    .exact .inl (by simpa using h)
    .exact .inr fun b _=>h b
    .refine .inr fun b hb hn=>?_;have e1:=hG h0 b (.inr (.inr hb));have e2:=h b hn;omega
   .cases hcall:r.call with
    |true=>
     obtain ⟨S,G,hm,hS,hG⟩:=hc hcall;exact .inl (by simpa using qc hcl _ hm)
    |false=>
     rcases hq hcall with h|h
     .exact .inl (by simpa using q8 hcl i h)
     .exact .inr h
   cases hcall:r.call with
   |true=>
    obtain ⟨S,G,hm,hS,hG⟩:=hc hcall;rcases q9 _ hm with h|⟨h1,h2,-⟩|⟨h0,h1,h2,-⟩
    .exact .inl (by simpa using h)
    .refine .inr ⟨fun b hb=>⟨?_,h1 b⟩,fun b _=>h1 b⟩;cases hd:r'.RD b
     .rfl
     .have:=hS b (h2 b hd);rw [hb] at this;cases this
    .have lo:∀b,(r.WR b=true\/r.RD b=true\/r.XY b)->r'.WR b=false:=fun b hb=>by
      cases hd:r'.WR b
      .rfl
      .have e1:=hG h0 b hb;have e2:=h1 b hd;omega
     refine .inr ⟨fun b hb=>⟨?_,lo b (.inl hb)⟩,fun b hb=>lo b (.inr (.inl hb))⟩;cases hd:r'.RD b
     .rfl
     .have:=hS b (h2 b hd);rw [hb] at this;cases this
   |false=>
    rcases hf hcall with ⟨f,hm,rfl,hff⟩|hff
    .rcases q10 f hm with h|h
     .exact .inl h
     .exact .inr (hff _ h)
    .exact .inr (hff _)
  |succ k'=>
   simp at hs;have:=q11 k' s (by omega) hs;have e2:i+1+k'=i+(k'+1):=(by omega);rw [e2] at this;exact this
theorem uj {N:Nat}{ops:Array Oper}{M:List Nat}:∀{l:List Oper} {i:Nat} {pc:Pc} {qs:List Nat} {cs:CS} {fs:List zl} {R:RQ} {nv:Nat} {y:SQ},zh P X inl Eu N ops M i l pc qs cs fs R nv=some y->y.outs≠[]
 |[],i,pc,qs,cs,fs,R,nv,y,h=>by simp only [zh,Option.some.injEq] at h;subst h;simp
 |o::rest,i,pc,qs,cs,fs,R,nv,y,h=>by
  unfold zh at h;generalize (Tq N o.dst)=g at h;cases g
  .cases h
  .simp only [cond_true] at h;split at h
   .cases h
   .exact uj h
   .split at h
    .obtain ⟨Gu,h⟩:∃Gu,(match inl pc Gu R.nx nv _ _ with
       |none=>none|some C=>bif PV M i cs&&Hw M i qs fs Gu C.outs then match Cb (fun pc c nv=>zh P X inl Eu N ops M (i+1) rest pc qs ((i,A_ Gu C.outs,I_ Gu R.nx _ C.outs)::cs) fs ⟨Gm R.tr o.dst ⟨[],c.v⟩,c.th,Nat.max c.nx R.nx⟩ nv) pc C.outs C.nv with
        |none=>none|some y=>some ⟨y.outs,y.nv,C.sd++y.sd⟩
        else none)=some y:=(PW h).elim (fun h=>⟨_,h⟩) (fun h=>⟨_,h⟩)
     split at h
     .cases h
     .generalize (PV _ _ _&&Hw _ _ _ _ _ _)=g at h;cases g
      .cases h
      .simp only [cond_true] at h;split at h
       .cases h
       .rename_i z hz;simp only [Option.some.injEq] at h;subst h;exact (DL (fun _ _ _ _ h=>uj h) hz:z.outs≠[])
    .split at h
     .cases h
     .rename_i r hr;generalize (Qm _ _ _ _ _ _ _&&fs.all _)=g at h;cases g
      .cases h
      .simp only [cond_true] at h;split at h
       .cases h
       .rename_i z hz;simp only [Option.some.injEq] at h;subst h;exact (uj hz:z.outs≠[])
   .split at h
    .cases h
    .rename_i r hr;generalize (r.wr.isEmpty&&(Qm _ _ _ _ _ _ _&&fs.all _))=g at h;cases g
     .simp only [cond_false] at h;split at h
      .split at h
       .cases h
       .rename_i r hr;generalize (Qm _ _ _ _ _ _ _&&fs.all _)=g at h;cases g
        .cases h
        .simp only [cond_true] at h;split at h
         .cases h
         .rename_i y hy;split at h
          .cases h
          .rename_i z hz;simp only [Option.some.injEq] at h;subst h;have n1:y.outs≠[]:=uj hy;have n2:z.outs≠[]:=uj hz;dsimp only;rw [Bool.cond_eq_ite];split
           .intro e;exact n2 (List.append_eq_nil_iff.1 e).2
           .intro e;exact n1 (List.append_eq_nil_iff.1 e).2
      .cases h
     .simp only [cond_true] at h;split at h
      .cases h
      .rename_i z hz;simp only [Option.some.injEq] at h;subst h;exact (uj hz:z.outs≠[])
theorem aju {M:List Nat}{i:Nat}{l:List Nat}(h:ajp M i l=true):∀c∈l,(M.getD i 0).testBit c=true:=by
 unfold ajp at h;rw [List.all_eq_true] at h;exact h
theorem ajv {ah nZ:AH}{wr:List (Nat×Option qO)}(b:Nat):lZ nZ wr b=if decide (b∈wr.map (·.1))=true then lZ ah wr b else nZ b:=by
 by_cases h:b∈wr.map (·.1)
 .rw [if_pos (by simpa using h)];exact XV h
 .rw [if_neg (by simpa using h)];exact Az h
theorem ajw {ops:Array Oper}{base j:Nat}{o:Oper}(ho:ops[j]?=some o){fr:jB}{ah:AH}{nx:Nat}{RD:Nat->Bool}{v:AV}(hv:v=.p undef)(h:jc ops fr o (fun b=>b=false)) :
  ajs P ops base j o ⟨fr,ah,v,fun _=>false,RD,fun b=>zk o.op=false/\b=nx,fun b=>zk o.op=false/\b=nx,nx,false⟩ ah:=by
 intro AA nZ w E a F hag hrd hh ac8 hfr Q K hK;obtain ⟨wt,hk,hloc⟩:=uV h;obtain ⟨wt',hk',hw⟩:=jU hfr (hloc AA hag (fun b=>b=wt) rfl);subst hk';subst hk;unfold wpOp;rw [ho];dsimp only;rw [if_neg (by rw [hw];simp)];exact hK undef w E nZ (fun b=>by simp) (Step.refl _ _ _) (hh.weaken fun b hb=>hb.1) (by rw [hv];exact .p rfl)
theorem aan {ops:Array Oper}{base j:Nat}{o:Oper}(ho:ops[j]?=some o){fr:jB}{ah:AH}{nx:Nat}{r:mP}(h:jc ops fr o (fun b=>b=true))(hop:Qi P nx fr ah o.op fun r'=>r'=r) :
  ajs P ops base j o ⟨fr,ah,r.v,fun b=>decide (b∈r.wr.map (·.1)),fun b=>decide (b∈r.rd),fun b=>zk o.op=false/\b=nx,fun b=>zk o.op=false/\b=nx,nx,false⟩ (lZ ah r.wr):=by
 intro AA nZ w E a F hag hrd hh ac8 hfr Q K hK;obtain ⟨wt,hk,hloc⟩:=uV h;obtain ⟨wt',hk',hw⟩:=jU hfr (hloc AA hag (fun b=>b=wt) rfl);subst hk';subst hk;obtain ⟨r',rfl,hl⟩:=aeD hop;unfold wpOp;rw [ho];dsimp only;rw [if_pos hw];cases hpu:zk o.op with
 |false=>
  refine .inl (J9 (id:=nx) hh (ac8 nx ⟨hpu,rfl⟩) hfr (hl AA nZ (yL hag) (fun b hb=>hrd b (by simpa using hb))) (fun r2 v w' E' hr hst hh' hv=>?_));subst hr;exact hK v w' E' _ (fun b=>ajv b) hst (hh'.weaken fun b hb=>⟨hb.1,fun e=>hb.2 ⟨hpu,e⟩⟩) hv
 |true=>
  refine .inl (aiw (id:=nx) hh hfr hpu (hl AA nZ (yL hag) (fun b hb=>hrd b (by simpa using hb))) (fun r2 v hr hwr hv=>?_));subst hr;exact hK v w E nZ (fun b=>by simp [hwr]) (Step.refl _ _ _) (hh.weaken fun b hb=>hb.1) hv
theorem aao {α:Type}:∀{l:List (Tm×α)} {c:α},lJ ρ l=some c->∃x∈l,x.2=c
 |[],c,h=>by simp [lJ] at h
 |[x],c,h=>by simp only [lJ,Option.some.injEq] at h;exact ⟨x,by simp,h⟩
 |x::y::r,c,h=>by
  simp only [lJ] at h;cases hg:(x.1.den ρ).B
  .rw [hg] at h;obtain ⟨z,hz,e⟩:=aao (l:=y::r) h;exact ⟨z,List.mem_cons_of_mem _ hz,e⟩
  .rw [hg] at h;simp only [cond_true,Option.some.injEq] at h;exact ⟨x,by simp,h⟩
theorem ag2 {M:List Nat}{i:Nat}{qs:List Nat}{fs:List zl}{th:Tr SB}{outs:List (Tm×CO)}(h:Hw M i qs fs th outs=true) :
  (∀q∈qs,(M.getD i 0).testBit q=true)/\(∀f∈fs,(M.getD i 0).testBit f.i=true\/(f.wr=[]/\∀b∈f.rd,A_ th outs b=true)):=by
 unfold Hw at h;simp only [Bool.and_eq_true,List.all_eq_true] at h;obtain ⟨h1,h2⟩:=h;refine ⟨aju h1,fun f hf=>?_⟩;cases hbit:(M.getD i 0).testBit f.i with
 |true=>exact .inl rfl|false=>
  have:=h2 f hf;simp only [hbit,Bool.false_or,Bool.and_eq_true,List.isEmpty_iff,List.all_eq_true] at this;exact .inr this
theorem aap {th:Tr SB}{outs:List (Tm×CO)}{b:Nat}(h:A_ th outs b=true){x:Tm×CO}(hx:x∈outs):∃k,x.2.th.get b=some k/\th.get b=some k:=by
 unfold A_ at h;rw [List.all_eq_true] at h;exact ajr (h x hx)
theorem ajx {M:List Nat}{i:Nat}{cs:CS}(h:PV M i cs=true):∀c∈cs,(M.getD i 0).testBit c.1=true:=by
 unfold PV at h;rw [List.all_eq_true] at h;exact h
theorem aeZ {M:List Nat}{i own:Nat}{pu:Bool}{rd wr:List Nat}{cs:CS}(h:Qm M i pu own rd wr cs=true):∀c∈cs,(M.getD i 0).testBit c.1=true\/((∀b∈rd,c.2.1 b=true)/\((pu=true/\wr=[])\/((∀b∈wr,own=b)/\c.2.2 ()=true))):=by
 unfold Qm at h;rw [List.all_eq_true] at h;intro c hc;cases hbit:(M.getD i 0).testBit c.1 with
 |true=>exact .inl rfl|false=>
  have:=h c hc;simp only [hbit,Bool.false_or,Bool.and_eq_true,Bool.or_eq_true,List.isEmpty_iff,List.all_eq_true] at this;exact .inr ⟨this.1,this.2.imp id fun h=>⟨fun b hb=>Nat.eq_of_beq_eq_true (h.1 b hb),h.2⟩⟩
theorem amy {i:Nat}{op:Op}{qs:List Nat}(h:zk op=false):i∈Yu i op qs:=by unfold Yu;rw [h];exact List.mem_cons_self
theorem aaq {i:Nat}{op:Op}{qs:List Nat}:∀c∈qs,c∈Yu i op qs:=fun c hc=>by
 unfold Yu;cases zk op
 .exact List.mem_cons_of_mem _ hc
 .exact hc
theorem ae0 {i:Nat}{op:Op}{qs:List Nat}{nx:Nat}:i∈Yu i op qs\/∀b,¬(zk op=false/\b=nx):=by
 cases h:zk op with
 |false=>exact .inl (amy h)|true=>exact .inr fun b hb=>by cases hb.1
def DOk (P:Program)(ρ:List AV)(N:Nat)(ops:Array Oper)(M:List Nat)(base i:Nat)(l:List Oper)(qs:List Nat)(cs:CS)(fs:List zl)(nx:Nat)(outs:List (Tm×RQ))(fr:jB)(ah:AH):Prop:=
 ∃(R':RQ) (L:List zi) (Hy:jB) (Ja:AH),lJ ρ outs=some R'/\L.length=l.length/\Vs ρ R'.tr Hy/\Dz ρ R'.th Ja/\Hy.length=N/\Dk (·.fr) L Hy 0=fr/\Dk (·.ah) L Ja 0=ah/\Dk (·.nx) L R'.nx 0=nx/\
  ∀k o r,l[k]?=some o->L[k]?=some r->FY P ops base M i l L Hy Ja R'.nx qs cs fs k o r
theorem ae1 {N:Nat}{ops:Array Oper}{M:List Nat}{base i:Nat}{o:Oper}{rest:List Oper}{qs:List Nat}{cs:CS}{fs:List zl}{nx:Nat}{outs:List (Tm×RQ)}{fr:jB}{ah:AH}(ho:ops[i]?=some o)(hwt:jc ops fr o (fun b=>b=false))
  (h:DOk P ρ N ops M base (i+1) rest qs cs fs nx outs (lH fr o.dst (.p undef)) ah):DOk P ρ N ops M base i (o::rest) qs cs fs nx outs fr ah:=by
 obtain ⟨R',L,Hy,Ja,q1,q2,q3,q4,q5,q6,q7,q8,q9⟩:=h;refine ⟨R',⟨fr,ah,.p undef,fun _=>false,fun _=>false,fun _=>False,fun _=>False,nx,false⟩::L,Hy,Ja,q1,by simp [q2],q3,q4,q5,rfl,rfl,rfl,?_⟩;refine FY.cons q2 ⟨?_,?_,?_,?_,?_,?_,?_,?_,?_,?_,?_,?_⟩ q9 (fun _ h=>h) (fun _=>.inr fun b h=>h) (fun _ h=>h) (fun _ h=>h) (fun h=>by cases h) (fun _=>.inr fun r'=>⟨fun b h=>(by cases h),fun b h=>(by cases h)⟩)
 .rw [iR,q7];intro AA nZ w E a F hag hrd hh ac8 hfr Q K hK;obtain ⟨wt,hk,hloc⟩:=uV hwt;obtain ⟨wt',hk',hw⟩:=jU hfr (hloc AA hag (fun b=>b=wt) rfl);subst hk';subst hk;unfold wpOp;rw [show ops[i+0]?=some o from ho];dsimp only;rw [if_neg (by rw [hw];simp)];exact hK undef w E nZ (fun b=>by simp) (Step.refl _ _ _) (hh.weaken fun b hb=>hb.1) (.p rfl)
 .rw [iR,q6];try rfl
 .intro b _;rw [iR,q7]
 .rw [iR,q8];exact Nat.le_refl _
 .intro b h;exact h.elim
 .intro b h;exact h.elim
 .intro _;exact ⟨fun b h=>h.elim,fun b h=>h.elim⟩
 .intro h;cases h
 .intro c _;exact .inr (.inl ⟨fun _=>rfl,fun b hb=>(by cases hb),fun b hb=>hb⟩)
 .intro h;cases h
 .intro f _;exact .inr ⟨fun b _=>⟨rfl,rfl⟩,fun b _=>rfl⟩
 .intro k' r' hk;omega
theorem ae2 {N:Nat}{ops:Array Oper}{M:List Nat}{base i:Nat}{o:Oper}{rest:List Oper}{qs:List Nat}{cs:CS}{fs:List zl}{R:RQ}{outs:List (Tm×RQ)}{fr:jB}{ah:AH}{r:SR}(ho:ops[i]?=some o)(hwt:jc ops fr o (fun b=>b=true))
  (hop:Qi P R.nx fr ah o.op (fun r'=>r'=r.den ρ)) (hcs0:Qm M i (zk o.op) R.nx r.rd (r.wr.map (·.1)) cs=true) (hap:fs.all (fun f=>ayJ M i r.rd (r.wr.map (·.1)) f)=true)
  (h:DOk P ρ N ops M base (i+1) rest (Yu i o.op qs) cs (aam fs i r.rd (r.wr.map (·.1))) (R.nx+1) outs (lH fr o.dst (r.v.den ρ)) (lZ ah (r.den ρ).wr)):DOk P ρ N ops M base i (o::rest) qs cs fs R.nx outs fr ah:=by
 have hcs:=aeZ hcs0;have ag3:(r.den ρ).wr.map (·.1)=r.wr.map (·.1):=by simp [SR.den]
 have ajy:(r.den ρ).rd=r.rd:=rfl;obtain ⟨R',L,Hy,Ja,q1,q2,q3,q4,q5,q6,q7,q8,q9⟩:=h;refine ⟨R',⟨fr,ah,(r.den ρ).v,fun b=>decide (b∈(r.den ρ).wr.map (·.1)),fun b=>decide (b∈(r.den ρ).rd),fun b=>zk o.op=false/\b=R.nx,fun b=>zk o.op=false/\b=R.nx,R.nx,false⟩::L,Hy,Ja,q1,by simp [q2],q3,q4,q5,rfl,rfl,rfl,?_⟩;refine FY.cons q2 ⟨?_,?_,?_,?_,?_,?_,?_,?_,?_,?_,?_,?_⟩ q9 aaq (fun _=>ae0) (fun _ h=>h) (fun f hm=>?_) (fun h=>by cases h) (fun _=>?_)
 .rw [iR,q7];exact aan (show ops[i+0]?=some o from ho) hwt hop
 .rw [iR,q6];try rfl
 .intro b hb;rw [iR,q7];have hb':b∉(r.den ρ).wr.map (·.1):=by simpa using hb
  exact Az hb'
 .rw [iR,q8];exact Nat.le_succ _
 .intro b h;exact Nat.le_of_eq h.2.symm
 .intro b h;rw [iR,q8,h.2];exact Nat.lt_succ_self _
 .intro _;exact ⟨fun b h=>by rw [iR,q8,h.2];exact Nat.lt_succ_self _,fun b h=>Nat.le_of_eq h.2.symm⟩
 .intro h;cases h
 .intro c hc;rcases hcs c hc with h|⟨h3,⟨h1,h2⟩|⟨h1,h2⟩⟩
  .exact .inl h
  .refine .inr (.inl ⟨fun b=>?_,fun b hb=>?_,fun b hb=>?_⟩)
   .simp only [ag3,h2];simp
   .exact h3 b (by simpa [ajy] using hb)
   .rw [h1] at hb;cases hb.1
  .refine .inr (.inr ⟨h2,fun b hb=>?_,fun b hb=>?_,fun b hb=>Nat.le_of_eq hb.2.symm⟩)
   .simp only [ag3,decide_eq_true_eq] at hb;exact Nat.le_of_eq (h1 b hb)
   .exact h3 b (by simpa [ajy] using hb)
 .intro h;cases h
 .intro f hm;rcases WB (List.all_eq_true.1 hap f hm) with h|⟨h1,h2⟩
  .exact .inl (by simpa using h)
  .refine .inr ⟨fun b hb=>?_,fun b hb=>?_⟩
   .have:=h1 b hb;rw [ag3,ajy];exact ⟨by simpa using this.1,by simpa using this.2⟩
   .have:=h2 b hb;simp only [ag3];simpa using this
 .intro k' r' hk;omega
 .unfold aam;cases (r.rd.isEmpty&&(r.wr.map (·.1)).isEmpty)
  .exact List.mem_cons_of_mem _ hm
  .exact hm
 .cases hE:(r.rd.isEmpty&&(r.wr.map (·.1)).isEmpty)
  .refine .inl ⟨⟨i,r.rd,r.wr.map (·.1)⟩,by unfold aam;rw [hE];simp,rfl,fun r' h=>⟨fun b hb=>h.1 b ?_,fun b hb=>h.2 b ?_⟩⟩
   .rw [ag3] at hb;simpa using hb
   .rw [ajy] at hb;simpa using hb
  .simp only [Bool.and_eq_true,List.isEmpty_iff] at hE;refine .inr fun r'=>⟨fun b hb=>?_,fun b hb=>?_⟩
   .simp only [ag3,hE.2] at hb;simp at hb
   .simp only [ajy,hE.1] at hb;simp at hb
theorem yO {N:Nat}{ops:Array Oper}{M:List Nat}{base:Nat}(hρ:fU ρ=true)(hX:ny P ρ X)(hI:lT P ρ inl):∀(l:List Oper) (i:Nat) {pc:Pc} {qs:List Nat} {cs:CS} {fs:List zl} {R:RQ} {nv:Nat} {S:SQ} (fr:jB) (ah:AH),
  zh P X inl Eu N ops M i l pc qs cs fs R nv=some S->Pc.holds ρ pc->kQ P ρ S.sd->Vs ρ R.tr fr->Dz ρ R.th ah->fr.length=N->(∀j:Nat,l[j]?=ops[i+j]?)->
  ∃(R':RQ) (L:List zi) (Hy:jB) (Ja:AH),lJ ρ S.outs=some R'/\L.length=l.length/\Vs ρ R'.tr Hy/\Dz ρ R'.th Ja/\Hy.length=N/\Dk (·.fr) L Hy 0=fr/\Dk (·.ah) L Ja 0=ah/\Dk (·.nx) L R'.nx 0=R.nx/\
   ∀k o r,l[k]?=some o->L[k]?=some r->FY P ops base M i l L Hy Ja R'.nx qs cs fs k o r
 |[],i,pc,qs,cs,fs,R,nv,S,fr,ah,h,hp,hs,hf,ha,hN,hl=>by
  simp only [zh,Option.some.injEq] at h;subst h;exact ⟨R,[],fr,ah,rfl,rfl,hf,ha,hN,rfl,rfl,rfl,fun k o r h=>by simp at h⟩
 |o::rest,i,pc,qs,cs,fs,R,nv,S,fr,ah,h,hp,hs,hf,ha,hN,hl=>by
  have ho:ops[i]?=some o:=by simpa using (hl 0).symm
  have hl':∀j:Nat,rest[j]?=ops[i+1+j]?:=fun j=>by have:=hl (j+1);simp at this;rw [this];congr 1;omega
  unfold zh at h;cases hd:Tq N o.dst
  .simp [hd] at h
  .simp only [hd,cond_true] at h;split at h
   .cases h
   .rename_i hw;have hwt:jc ops fr o (fun b=>b=false):=vX hp hf hw fun b hb=>hb;have ih:=yO hρ hX hI rest (i+1) (base:=base) _ _ h hp hs (qo (e:=⟨[],.c .undef⟩) hf hd hN) ha (by rw [jg,hN]) hl';exact ae1 ho hwt ih
   .rename_i hw;have hwt:jc ops fr o (fun b=>b=true):=vX hp hf hw fun b hb=>hb;split at h
    .rename_i f args hc;obtain ⟨Gu,ha0,h⟩:∃Gu,Dz ρ Gu ah/\(match inl pc Gu R.nx nv f args with
       |none=>none|some C=>bif PV M i cs&&Hw M i qs fs Gu C.outs then match Cb (fun pc c nv=>zh P X inl Eu N ops M (i+1) rest pc qs ((i,A_ Gu C.outs,I_ Gu R.nx args C.outs)::cs) fs ⟨Gm R.tr o.dst ⟨[],c.v⟩,c.th,Nat.max c.nx R.nx⟩ nv) pc C.outs C.nv with
        |none=>none|some y=>some ⟨y.outs,y.nv,C.sd++y.sd⟩
        else none)=some S:=(PW h).elim (fun h=>⟨R.th,ha,h⟩) (fun h=>⟨Yt R.nx 4 R.th,fun b k hk=>ha b k (TA hk),h⟩)
     clear ha;have ha:=ha0;split at h
     .cases h
     .rename_i C hC;cases hb:PV M i cs&&Hw M i qs fs Gu C.outs
      .simp [hb] at h
      .simp only [hb,cond_true] at h;simp only [Bool.and_eq_true] at hb;have hcs:=ajx hb.1;obtain ⟨hq1,hq2⟩:=ag2 hb.2;split at h
       .cases h
       .rename_i y hy;simp only [Option.some.injEq] at h;subst h;have aui:∃c,lJ ρ C.outs=some c:=by
         refine aeY ?_;intro e;rw [e] at hy;simp [Cb] at hy
        obtain ⟨c,hc0⟩:=aui;obtain ⟨xc,hxc,exc⟩:=aao hc0;have hsame:∀b,A_ Gu C.outs b=true->gq ρ c.th b=ah b:=fun b hb=>by
         obtain ⟨k,k1,k2⟩:=aap hb hxc;rw [exc] at k1;rw [ha b k k2];unfold gq;rw [k1];rfl
        obtain ⟨pc',tJ,y',g1,g2,g3,g4⟩:=Me (P:=P) (fun _ _ _ _ h=>uj h) hy hp (fun x hx=>hs x (by simp [hx])) c hc0;cases hfm:I_ Gu R.nx args C.outs ()
        case false=>
         obtain ⟨R',L,Hy,Ja,q1,q2,q3,q4,q5,q6,q7,q8,q9⟩:=yO hρ hX hI rest (i+1) (base:=base) (lH fr o.dst (c.v.den ρ)) (gq ρ c.th) g1 g2 g3 (qo (e:=⟨[],c.v⟩) hf hd hN) (fun b k hk=>by unfold gq;rw [hk];rfl) (by rw [jg,hN]) hl';refine ⟨R',⟨fr,ah,c.v.den ρ,fun b=>!A_ Gu C.outs b,fun _=>true,fun b=>b<Nat.max c.nx R.nx,fun b=>R.nx<=b,R.nx,true⟩::L,Hy,Ja,g4 _ q1,by simp [q2],q3,q4,q5,rfl,rfl,rfl,?_⟩;refine FY.cons q2 ⟨?_,?_,?_,?_,?_,?_,?_,?_,?_,?_,?_,?_⟩ q9 (fun _ h=>h) (fun h=>by cases h) (fun _ h=>List.mem_cons_of_mem _ h) (fun _ h=>h) (fun _=>⟨_,_,List.mem_cons_self,fun b hb=>by simp [hb],fun hg=>by rw [hfm] at hg;cases hg⟩) (fun h=>by cases h)
         .rw [iR,q7];intro AA nZ w E a F hag hrd hh ac8 hfr Q K hK;obtain ⟨wt,hk,hloc⟩:=uV hwt;obtain ⟨wt',hk',hw⟩:=jU hfr (hloc AA hag (fun b=>b=wt) rfl);subst hk';subst hk;have e0:nZ=ah:=funext fun b=>hrd b rfl;subst e0;obtain ⟨vs,hvs,he⟩:=Cc hp hf hc w E AA a o rfl (yL hag) hfr;unfold wpOp;rw [show ops[i+0]?=some o from ho];dsimp only;rw [if_pos hw];refine .inl (hI _ _ _ _ _ _ _ hC hp (fun x hx=>hs x (by simp [hx])) base w E _ vs ha (hh.weaken ac8) hfr.Gg hvs o a he _ _ (fun c' hc' v w' E' dV r1 r2 r3 r4=>?_));rw [hc0] at hc';cases hc';refine hK v w' E' (gq ρ c.th) (fun b=>?_) r2 ((r3.sub (kP:=gq ρ c.th) (fun b k hk=>?_)).weaken fun b hb=>?_) r4
          .cases hbu:A_ Gu C.outs b
           .simp [hbu]
           .simp [hbu,hsame b hbu]
          .unfold gq at hk;simp only [Option.map_eq_some_iff] at hk;obtain ⟨z,hz,rfl⟩:=hk;exact r1 b z hz
          .have:=hb.2;have h2:Nat.max c.nx R.nx<=b:=Nat.le_of_not_lt this;exact Nat.le_trans (Nat.le_max_left _ _) h2
         .rw [iR,q6]
         .intro b hb;rw [iR,q7];exact hsame b (by simpa using hb)
         .rw [iR,q8];exact Nat.le_max_right _ _
         .intro b h;exact h
         .intro b h;rw [iR,q8];exact h
         .intro h;cases h
         .intro _ m hm;exact hq1 m hm
         .exact fun c hc=>.inl (hcs c hc)
         .exact fun _ c hc=>hcs c hc
         .intro f hm;rcases hq2 f hm with h|⟨h1,h2⟩
          .exact .inl h
          .exact .inr ⟨fun b hb=>(by rw [h1] at hb;cases hb),fun b hb=>by simpa using h2 b hb⟩
         .intro k' r' hk;omega
        case true=>
         have hfm0:=hfm;unfold I_ at hfm0;simp only [Bool.and_eq_true,List.all_eq_true] at hfm0;obtain ⟨f1,f2,f3⟩:=ac1 hρ hfm0.1;have hfx:=hfm0.2 xc hxc;rw [exc] at hfx;obtain ⟨f4,f5,f6⟩:=ac2 hρ hfx;have arH:∀b k,gq ρ Gu b=some k->ah b=some k:=fun b k hk=>by
          obtain ⟨z,hz,rfl⟩:=xO hk;exact ha b z hz
         have apM:∀b,A_ Gu C.outs b=true->b<R.nx:=fun b hb=>by
          obtain ⟨k,k1,k2⟩:=aap hb hxc;exact f1 b (k.den ρ) (by unfold gq;rw [k2];rfl)
         obtain ⟨R',L,Hy,Ja,q1,q2,q3,q4,q5,q6,q7,q8,q9⟩:=yO hρ hX hI rest (i+1) (base:=base) (lH fr o.dst (c.v.den ρ)) (fun b=>if c.nx<=b then ah b else gq ρ c.th b) g1 g2 g3 (qo (e:=⟨[],c.v⟩) hf hd hN) (fun b k hk=>by
          have h1:gq ρ c.th b=some (k.den ρ):=(by unfold gq;rw [hk];rfl);have h2:=(f5 b _ h1).1;show (if c.nx<=b then ah b else gq ρ c.th b)=_;rw [if_neg (by omega)];exact h1) (by rw [jg,hN]) hl'
         refine ⟨R',⟨fr,ah,c.v.den ρ,fun b=>!A_ Gu C.outs b&&decide (b<c.nx),fun b=>decide (b<R.nx),fun b=>R.nx<=b/\b<c.nx,fun b=>R.nx<=b/\b<c.nx,R.nx,true⟩::L,Hy,Ja,g4 _ q1,by simp [q2],q3,q4,q5,rfl,rfl,rfl,?_⟩;have hnext:c.nx<=Dk (·.nx) L R'.nx 0:=(by rw [q8];exact Nat.le_max_left _ _);refine FY.cons q2 ⟨?_,?_,?_,?_,?_,?_,?_,?_,?_,?_,?_,?_⟩ q9 (fun _ h=>h) (fun h=>by cases h) (fun _ h=>List.mem_cons_of_mem _ h) (fun _ h=>h) (fun _=>⟨_,_,List.mem_cons_self,fun b hb=>by simp [hb],fun _ b hb=>?_⟩) (fun h=>by cases h)
         rotate_right
         .rcases hb with hb|hb|hb
          .simp only [Bool.and_eq_true,decide_eq_true_eq] at hb;omega
          .simp only [decide_eq_true_eq] at hb;omega
          .have:=hb.2;omega
         .rw [iR,q7];intro AA nZ w E a F hag hrd hh ac8 hfr Q K hK;obtain ⟨wt,hk,hloc⟩:=uV hwt;obtain ⟨wt',hk',hw⟩:=jU hfr (hloc AA hag (fun b=>b=wt) rfl);subst hk';subst hk;obtain ⟨vs,hvs,he⟩:=Cc hp hf hc w E AA a o rfl (yL hag) hfr;unfold wpOp;rw [show ops[i+0]?=some o from ho];dsimp only;rw [if_pos hw];have hsub:∀b k,gq ρ Gu b=some k->nZ b=some k:=fun b k hk=>by
           rw [hrd b (by simpa using f1 b k hk)];exact arH b k hk
          have hvs':fG w (E.part (gq ρ Gu)) (dK ρ args) vs:=
           ⟨hvs.1,fun i a v h1 h2=>Tt (hvs.2 i a v h1 h2) fun x hx=>f3 x (gY i a h1 hx)⟩
          refine .inl (hI _ _ _ _ _ _ _ hC hp (fun x hx=>hs x (by simp [hx])) base w (E.part (gq ρ Gu)) (gq ρ Gu) vs (fun b k hk=>by unfold gq;rw [hk];rfl) (Oy hh hsub f1 f2) hfr.Gg hvs' o a he _ _ (fun c' hc' v w' E' dV r1 r2 r3 r4=>?_));rw [hc0] at hc';cases hc';obtain ⟨u1,u2,u3⟩:=agY hh hsub f1 f4 (fun b h1 h2=>ac8 b ⟨h1,h2⟩) r2 (r3.sub (kP:=gq ρ c.th) (fun b k hk=>by
           obtain ⟨z,hz,rfl⟩:=xO hk;exact r1 b z hz)) f5 (nR:=fun b=>if c.nx<=b then nZ b else gq ρ c.th b) (fun b=>rfl)
          refine hK v w' _ _ (fun b=>?_) u1 u2 (u3 _ _ r4 f6);dsimp only;by_cases hle:c.nx<=b
          .rw [if_pos hle,if_neg (by simp;omega)]
          .rw [if_neg hle];rcases Bool.eq_false_or_eq_true (A_ Gu C.outs b) with hbu|hbu
           .rw [if_neg (by simp [hbu]),hsame b hbu,hrd b (by simpa using apM b hbu)]
           .rw [if_pos (by simp [hbu,show b<c.nx by omega]),if_neg hle]
         .rw [iR,q6]
         .intro b hb;rw [iR,q7];dsimp only;by_cases hle:c.nx<=b
          .rw [if_pos hle]
          .rw [if_neg hle];refine hsame b ?_;cases hbu:A_ Gu C.outs b
           .simp [hbu,show b<c.nx by omega] at hb
           .rfl
         .rw [iR,q8];exact Nat.le_max_right _ _
         .intro b h;exact h.1
         .intro b h;rw [iR];exact Nat.lt_of_lt_of_le h.2 hnext
         .intro h;cases h
         .intro _ m hm;exact hq1 m hm
         .exact fun c hc=>.inl (hcs c hc)
         .exact fun _ c hc=>hcs c hc
         .intro f hm;rcases hq2 f hm with h|⟨h1,h2⟩
          .exact .inl h
          .exact .inr ⟨fun b hb=>(by rw [h1] at hb;cases hb),fun b hb=>by simp [h2 b hb]⟩
         .intro k' r' hk;omega
    .split at h
     .cases h
     .rename_i r hr;cases hap:Qm M i (zk o.op) R.nx r.rd (r.wr.map (·.1)) cs&&fs.all (fun f=>ayJ M i r.rd (r.wr.map (·.1)) f)
      .simp [hap] at h
      .simp only [hap,cond_true] at h;simp only [Bool.and_eq_true] at hap;obtain ⟨hcs,hap⟩:=hap;split at h
       .cases h
       .rename_i y hy;simp only [Option.some.injEq] at h;subst h;have hsd:=vZ hs;have hop:=Ox hρ hX hp hf ha hr (hsd.1 hp) (K:=fun r'=>r'=r.den ρ) rfl;have ih:=yO hρ hX hI rest (i+1) (base:=base) _ _ hy hp hsd.2 (qo (e:=⟨[],r.v⟩) hf hd hN) (Ht ha) (by rw [jg,hN]) hl';exact ae2 ho hwt hop hcs hap ih
   .rename_i l hw;split at h
    .cases h
    .rename_i r hr;cases hap:r.wr.isEmpty&&(Qm M i (zk o.op) R.nx r.rd [] cs&&fs.all (fun f=>ayJ M i r.rd (r.wr.map (·.1)) f))
     .simp only [hap,cond_false] at h;clear hap;split at h
      .rename_i t b;split at h
       .cases h
       .clear hr r;rename_i r hr;cases hap:Qm M i (zk o.op) R.nx r.rd (r.wr.map (·.1)) cs&&fs.all (fun f=>ayJ M i r.rd (r.wr.map (·.1)) f)
        .simp [hap] at h
        .simp only [hap,cond_true] at h;simp only [Bool.and_eq_true] at hap;split at h
         .cases h
         .rename_i y hy;split at h
          .cases h
          .rename_i z hz;simp only [Option.some.injEq] at h;subst h;have n1:y.outs≠[]:=uj hy;have n2:z.outs≠[]:=uj hz;have hsd:=vZ hs;have hwt:jc ops fr o (fun q=>q=((t.den ρ).B == b)):=vX hp hf hw fun q hq=>by simpa [When.sem] using hq
           have hsel:∀R',lJ ρ (bif b then WE t y.outs++z.outs else WE t z.outs++y.outs)=some R'↔lJ ρ (bif (t.den ρ).B == b then y.outs else z.outs)=some R':=by
            intro R';cases b
            .simp only [cond_false];rw [yN n1 n2];cases (t.den ρ).B<;>rfl
            .simp only [cond_true];rw [yN n2 n1];cases (t.den ρ).B<;>rfl
           cases hB:((t.den ρ).B == b) with
           |true=>
            rw [hB] at hwt hsel;have hp1:=dY (by simpa using hB) hp;have ih:=yO hρ hX hI rest (i+1) (base:=base) _ _ hy hp1 (fun x hx=>hsd.2 x (by simp [hx])) (qo (e:=⟨[],r.v⟩) hf hd hN) (Ht ha) (by rw [jg,hN]) hl';obtain ⟨R',L,Hy,Ja,q1,q2⟩:=ae2 ho hwt (Ox hρ hX hp1 hf ha hr (hsd.1 hp1) (K:=fun r'=>r'=r.den ρ) rfl) hap.1 hap.2 ih;exact ⟨R',L,Hy,Ja,(hsel R').2 q1,q2⟩
           |false=>
            rw [hB] at hwt hsel;have hB2:(t.den ρ).B=!b:=by cases hb:(t.den ρ).B<;>cases b<;>simp [hb] at hB ⊢
            have ih:=yO hρ hX hI rest (i+1) (base:=base) _ _ hz (dY hB2 hp) (fun x hx=>hsd.2 x (by simp [hx])) (qo (e:=⟨[],.c .undef⟩) hf hd hN) ha (by rw [jg,hN]) hl';obtain ⟨R',L,Hy,Ja,q1,q2⟩:=ae1 ho hwt ih;exact ⟨R',L,Hy,Ja,(hsel R').2 q1,q2⟩
      .cases h
     .simp only [hap,cond_true] at h;simp only [Bool.and_eq_true] at hap;obtain ⟨hE,hcs,hap⟩:=hap;have hcs:=aeZ hcs;have hwr:r.wr=[]:=(by simpa using hE);split at h
      .cases h
      .rename_i y hy;simp only [Option.some.injEq] at h;subst h;have hsd:=vZ hs;have hwt:jc ops fr o (fun b=>b=l.all (fun x=>(x.1.den ρ).B == x.2)):=vX hp hf hw fun b hb=>hb;have hput:=qo (e:=⟨l,r.v⟩) hf hd hN;obtain ⟨R',L,Hy,Ja,q1,q2,q3,q4,q5,q6,q7,q8,q9⟩:=yO hρ hX hI rest (i+1) (base:=base) _ ah hy hp hsd.2 hput ha (by rw [jg,hN]) hl';refine ⟨R',⟨fr,ah,(⟨l,r.v⟩:oq).den ρ,fun _=>false,fun b=>decide (b∈r.rd),fun b=>zk o.op=false/\b=R.nx,fun b=>zk o.op=false/\b=R.nx,R.nx,false⟩::L,Hy,Ja,q1,by simp [q2],q3,q4,q5,rfl,rfl,rfl,?_⟩;refine FY.cons q2 ⟨?_,?_,?_,?_,?_,?_,?_,?_,?_,?_,?_,?_⟩ q9 aaq (fun _=>ae0) (fun _ h=>h) (fun f hm=>?_) (fun h=>by cases h) (fun _=>?_)
       .rw [iR,q7];cases hb:l.all (fun x=>(x.1.den ρ).B == x.2)
        .rw [hb] at hwt;exact ajw (show ops[i+0]?=some o from ho) (by simp only [oq.den,hb];rfl) hwt
        .rw [hb] at hwt;have hpl:=Pc.ET hb hp;have hop:=Ox hρ hX hpl hf ha hr (hsd.1 hpl) (K:=fun r'=>r'=r.den ρ) rfl;have:=aan (base:=base) (show ops[i+0]?=some o from ho) hwt hop;have e1:(r.den ρ).wr=[]:=(by simp [SR.den,hwr]);have e2:(⟨l,r.v⟩:oq).den ρ=(r.den ρ).v:=(by simp only [oq.den,hb];rfl);rw [e2];rw [e1] at this;have e3:(r.den ρ).rd=r.rd:=rfl;rw [e3] at this;simpa [lZ] using this
       .rw [iR,q6]
       .intro b hb;rw [iR,q7]
       .rw [iR,q8];exact Nat.le_succ _
       .intro b h;exact Nat.le_of_eq h.2.symm
       .intro b h;rw [iR,q8,h.2];exact Nat.lt_succ_self _
       .intro _;exact ⟨fun b h=>by rw [iR,q8,h.2];exact Nat.lt_succ_self _,fun b h=>Nat.le_of_eq h.2.symm⟩
       .intro h;cases h
       .intro c hc;rcases hcs c hc with h|⟨h3,⟨h1,-⟩|⟨-,h2⟩⟩
        .exact .inl h
        .exact .inr (.inl ⟨fun b=>rfl,fun b hb=>h3 b (by simpa using hb),fun b hb=>by rw [h1] at hb;cases hb.1⟩)
        .exact .inr (.inr ⟨h2,fun b hb=>(by cases hb),fun b hb=>h3 b (by simpa using hb),fun b hb=>Nat.le_of_eq hb.2.symm⟩)
       .intro h;cases h
       .intro f hm;rcases WB (List.all_eq_true.1 hap f hm) with h|⟨h1,h2⟩
        .exact .inl (by simpa using h)
        .exact .inr ⟨fun b hb=>⟨by simpa using (h1 b hb).1,rfl⟩,fun b hb=>rfl⟩
       .intro k' r' hk;omega
       .unfold aam;cases (r.rd.isEmpty&&([]:List Nat).isEmpty)
        .exact List.mem_cons_of_mem _ hm
        .exact hm
       .cases hE:(r.rd.isEmpty&&([]:List Nat).isEmpty)
        .exact .inl ⟨⟨i,r.rd,[]⟩,by unfold aam;rw [hE];simp,rfl,fun r' h=>⟨fun b hb=>(by cases hb),fun b hb=>h.2 b (by simpa using hb)⟩⟩
        .simp only [Bool.and_eq_true,List.isEmpty_iff] at hE;exact .inr fun r'=>⟨fun b hb=>(by cases hb),fun b hb=>(by simp only [hE.1] at hb;simp at hb)⟩
end
end Go.Fw
end
section
namespace Go.Fw
variable [iT]
structure nX where
 fr:Tr oq
 ah:Tr SB
 nx:Nat
structure Out where
 g:Tm
 e:Exit
 st:nX
def sel (ρ:List AV):List Out->Option (Exit×nX)
 |[]=>none|[o]=>some (o.e,o.st)|o::o'::r=>bif (o.g.den ρ).B then some (o.e,o.st) else sel ρ (o'::r)
def aom : Kd->Bool | .sl=>false|_=>true
def apN (g:Tm)(x y:SV):Option SV:=
 match x,y with
 | .sc k x,.sc k' y=>bif decide (k=k') then bif aom k||x.beq y then some (.sc k (Sv k g x y)) else none else none
 | .os b s o l,.os b' s' o' l'=>bif Nat.beq b b'&&(Nat.beq s s'&&Nat.beq o o') then some (.os b s o (ayP g l l')) else none
 | .op b s r o,.op b' s' r' o'=>bif Nat.beq b b'&&(Nat.beq s s'&&Nat.beq o o') then some (.op b s (ayP g r r') o) else none
 |x,y=>bif x.beq y then some x else none
 mutual
def ag4 (g:Tm):SV->SV->Option SV
  | .agg x,.agg y=>match Yv g x y with|some z=>some (.agg z)|none=>none
  | .gW x,.gW y=>match Yv g x y with|some z=>some (.gW z)|none=>none
  |x,y=>apN g x y
def Yv (g:Tm):List SV->List SV->Option (List SV)
  |[],[]=>some []|x::r,y::s=>match ag4 g x y,Yv g r s with|some z,some l=>some (z::l)|_,_=>none
  |_,_=>none
end
section
variable {P : Program} {ρ:List AV} {pc:Pc}
theorem Weak.of_eq {a b:AV}(h:a=b):Weak a b:=by subst h;exact Weak.refl a
theorem arI {a b c:Bool}(h:(a&&(b&&c))=true):a=true/\b=true/\c=true:=by simpa using h
theorem amz {g:Tm}{x y z:SV}(h:apN g x y=some z):Weak (bif (g.den ρ).B then x.den ρ else y.den ρ) (z.den ρ)/\(z.den ρ).iL=(x.den ρ).iL/\(z.den ρ).iL=(y.den ρ).iL:=by
 unfold apN at h;split at h
 .rename_i k x k' y;by_cases hk:k=k'
  .subst hk;simp only [decide_true,cond_true] at h;cases hq:aom k||x.beq y
   .simp [hq] at h
   .simp only [hq,cond_true,Option.some.injEq] at h;subst h;exact ⟨Weak.of_eq Sz.symm,by cases k<;>exact ⟨rfl,rfl⟩⟩
  .simp [hk] at h
 .rename_i b s o l b' s' o' l';cases hc:(Nat.beq b b'&&(Nat.beq s s'&&Nat.beq o o'))
  .simp [hc] at h
  .simp only [hc,cond_true,Option.some.injEq] at h;subst h;obtain ⟨h1,h2,h3⟩:=arI hc;have e1:=Nat.eq_of_beq_eq_true h1;have e2:=Nat.eq_of_beq_eq_true h2;have e3:=Nat.eq_of_beq_eq_true h3;subst e1;subst e2;subst e3;refine ⟨?_,rfl,rfl⟩;simp only [SV.den,xB];cases (g.den ρ).B<;>exact Weak.refl _
 .rename_i b s r o b' s' r' o';cases hc:(Nat.beq b b'&&(Nat.beq s s'&&Nat.beq o o'))
  .simp [hc] at h
  .simp only [hc,cond_true,Option.some.injEq] at h;subst h;obtain ⟨h1,h2,h3⟩:=arI hc;have e1:=Nat.eq_of_beq_eq_true h1;have e2:=Nat.eq_of_beq_eq_true h2;have e3:=Nat.eq_of_beq_eq_true h3;subst e1;subst e2;subst e3;refine ⟨?_,rfl,rfl⟩;simp only [SV.den,xB];cases (g.den ρ).B<;>exact Weak.refl _
 .cases hb:x.beq y
  .simp [hb] at h
  .simp only [hb,cond_true,Option.some.injEq] at h;subst h;rw [SV.beq_eq hb];refine ⟨?_,rfl,rfl⟩;cases (g.den ρ).B<;>exact Weak.refl _
 mutual
theorem QE {g:Tm}{x y z:SV}(h:ag4 g x y=some z):Weak (bif (g.den ρ).B then x.den ρ else y.den ρ) (z.den ρ)/\(z.den ρ).iL=(x.den ρ).iL/\(z.den ρ).iL=(y.den ρ).iL:=by
   unfold ag4 at h;split at h
   .split at h
    .rename_i l hl;simp only [Option.some.injEq] at h;subst h;have:=Jb hl;refine ⟨?_,rfl,rfl⟩;cases hg:(g.den ρ).B<;>rw [hg] at this<;>exact Weak.agg this
    .cases h
   .split at h
    .rename_i l hl;simp only [Option.some.injEq] at h;subst h;have:=Jb hl;refine ⟨?_,rfl,rfl⟩;cases hg:(g.den ρ).B<;>rw [hg] at this<;>exact Weak.gW this
    .cases h
   .exact amz h
  termination_by SizeOf.sizeOf x
theorem Jb {g:Tm}{x y z:List SV}(h:Yv g x y=some z):tu (bif (g.den ρ).B then dK ρ x else dK ρ y) (dK ρ z):=by
   match x,y with
   |[],[]=>simp only [Yv,Option.some.injEq] at h;subst h;cases (g.den ρ).B<;>exact .nil
   |x::r,y::s=>
    simp only [Yv] at h;split at h
    .rename_i a l ha hl;simp only [Option.some.injEq] at h;subst h;have h1:=QE ha;have h2:=Jb hl;cases hg:(g.den ρ).B
     .rw [hg] at h1 h2;exact .cons h1.1 h1.2.2 h2
     .rw [hg] at h1 h2;exact .cons h1.1 h1.2.1 h2
    .cases h
   |[],_::_=>simp [Yv] at h|_::_,[]=>simp [Yv] at h
  termination_by SizeOf.sizeOf x
end
end
end Go.Fw
end
section
namespace Go.Fw
variable [iT]
def TD (g:Tm):List (List SV)->List (List SV)->Option (List (List SV))
 |[],[]=>some []|x::r,y::s=>match Yv g x y,TD g r s with|some z,some l=>some (z::l)|_,_=>none
 |_,_=>none
def aar (g:Tm)(x y:SB):Option SB:=
 match x,y with
 | .rows sz rs,.rows sz' rs'=>bif Nat.beq sz sz' then (match TD g rs rs' with|some l=>some (.rows sz l)|none=>none) else none
 | .fZ sz t,.fZ sz' t'=>bif Nat.beq sz sz'&&t.beq t' then some (.fZ sz t) else none
 | .xC m t,.xC m' t'=>bif decide (m=m') then some (.xC m (ayP g t t')) else none
 | .map es,.map es'=>bif Oc (es.map (·.1)) (es'.map (·.1))&&Oc (es.map (·.2)) (es'.map (·.2)) then some (.map es) else none
 | .it m n k,.it m' n' k'=>bif Nat.beq m m'&&(n.beq n'&&Nat.beq k k') then some (.it m n k) else none
 | .mQ sz t i o x,.mQ sz' t' i' o' x'=>bif Nat.beq sz sz'&&(t.beq t'&&(i.beq i'&&(Nat.beq o o'&&x.beq x'))) then some (.mQ sz t i o x) else none
 | .iD ty sz rs,.iD ty' sz' rs'=>bif (Nat.beq ty ty'&&Nat.beq sz sz')&&PK rs rs' then some (.iD ty sz rs) else none
 |_,_=>none
def pI (k k':qO):Prop:=∀base w E b,nN base w E b k->nN base w E b k'
theorem pI.refl (k:qO):pI k k:=fun _ _ _ _ h=>h
def Tr.mrg {α:Type}(f:α->α->Option α):Tr α->Tr α->Tr α
 | .n l x r,.n l' x' r'=>.n (Tr.mrg f l l') (match x,x' with|some a,some b=>f a b|_,_=>none) (Tr.mrg f r r')|_,_=>.e
theorem Tr.EW {α:Type}{f:α->α->Option α}:∀{a b:Tr α} {t:Nat} {x:α},(Tr.mrg f a b).get t=some x->∃y z,a.get t=some y/\b.get t=some z/\f y z=some x
 | .e,b,t,x,h=>by simp [Tr.mrg,Tr.get] at h
 | .n _ _ _,.e,t,x,h=>by simp [Tr.mrg,Tr.get] at h
 | .n l u r,.n l' u' r',t,x,h=>by
  simp only [Tr.mrg,Tr.get] at h;cases h1:Nat.beq t 0
  .simp only [h1,cond_false] at h;cases h2:Nat.beq (t % 2) 1
   .simp only [h2,cond_false] at h;obtain ⟨y,z,q1,q2,q3⟩:=Tr.EW h;exact ⟨y,z,by simpa [Tr.get,h1,h2] using q1,by simpa [Tr.get,h1,h2] using q2,q3⟩
   .simp only [h2,cond_true] at h;obtain ⟨y,z,q1,q2,q3⟩:=Tr.EW h;exact ⟨y,z,by simpa [Tr.get,h1,h2] using q1,by simpa [Tr.get,h1,h2] using q2,q3⟩
  .simp only [h1,cond_true] at h;split at h
   .rename_i a b;exact ⟨a,b,by simp [Tr.get,h1],by simp [Tr.get,h1],h⟩
   .cases h
def ac9 (g:Tm)(a b:oq):Option oq:=
 match a.h,b.h with
 |[],[]=>match ag4 g a.v b.v with|some v=>some ⟨[],v⟩|none=>none
 |_,_=>none
def aon {α:Type}(a b c:Tr α)(t:Nat):Bool:=(a.get t).isSome&&((b.get t).isSome&&(c.get t).isNone)
structure Kp where
 ks:List Nat
 low:Nat
def Oz (th:Tr SB):Nat->List Nat->List Nat->List Nat
 |0,_,acc=>acc|n+1,[],acc=>acc|n+1,b::r,acc=>bif acZ b acc then Oz th n r acc else
  match th.get b with
  |none=>Oz th n r acc|some k=>Oz th n ((match k with | .rows _ rs=>BX rs | .fZ _ _=>[] | .xC _ _=>[] | .map es=>zy (es.map (·.1))++zy (es.map (·.2)) | .it m _ _=>[m] | .iD _ _ rs=>BX rs | .mQ _ _ _ _ x=>x.zx)++r) (b::acc)
def ajz (low:Nat)(refs:List Nat)(a b c:Tr SB):Bool:=(Oz a 2000 (refs++List.range low) []).any (aon a b c)
def azf (fr:Tr oq):List Nat->List Nat
 |[]=>[]|t::r=>match fr.get t with|some e=>e.v.zx++azf fr r|none=>azf fr r
def ac_ (keep:Kp)(a b:nX)(fr:Tr oq)(th:Tr SB):Bool:=keep.ks.any (aon a.fr b.fr fr)||ajz keep.low (azf fr keep.ks) a.ah b.ah th
def aas (keep:Kp)(g:Tm)(a b:nX):Option nX:=
 let fr:=Tr.mrg (ac9 g) a.fr b.fr;let th:=Tr.mrg (aar g) a.ah b.ah
 bif ac_ keep a b fr th then none else
 some ⟨fr,th,Nat.max a.nx b.nx⟩
structure Gv (ρ:List AV)(N:Nat)(st:nX)(Et:jB)(kP:AH)(nx0:Nat):Prop where
 fr:∀t e,st.fr.get t=some e->∃a,fV Et t=some a/\Weak a (e.den ρ)
 ah:∀b k,st.ah.get b=some k->∃k0,kP b=some k0/\pI k0 (k.den ρ)
 len:Et.length=N
 nx:nx0<=st.nx
section
variable {P : Program} {ρ:List AV} {pc:Pc} {N:Nat} {fr:jB} {ah:AH} {nx:Nat}
theorem TF {g:Tm}:∀{x y z:List (List SV)},TD g x y=some z->oM (bif (g.den ρ).B then fQ ρ x else fQ ρ y) (fQ ρ z)
 |[],[],z,h=>by simp only [TD,Option.some.injEq] at h;subst h;cases (g.den ρ).B<;>exact .nil
 |x::r,y::s,z,h=>by
  simp only [TD] at h;split at h
  .rename_i a l ha hl;simp only [Option.some.injEq] at h;subst h;have h1:=Jb (ρ:=ρ) ha;have h2:=TF hl;cases hg:(g.den ρ).B
   .rw [hg] at h1 h2;exact .cons h1 h2
   .rw [hg] at h1 h2;exact .cons h1 h2
  .cases h
 |[],_::_,z,h=>by simp [TD] at h
 |_::_,[],z,h=>by simp [TD] at h
theorem RowsIn.weak {w:World}{E:Env}{arr:Array Value}{o sz:Nat}{az bs:List (List AV)}(h5:RowsIn w E arr o sz az)(h:oM az bs):RowsIn w E arr o sz bs:=by
 obtain ⟨q1,q2,q3,q4⟩:=h5;refine ⟨by rw [<- h.length];exact q1,fun i row hr=>?_,fun row hm x hx=>?_,fun i row j x hr hx=>?_⟩
 .obtain ⟨row',hr',hw⟩:=h.get i row hr;rw [<- hw.length];exact q2 i row' hr'
 .obtain ⟨i,hi⟩:=qP hm;obtain ⟨j,hj⟩:=qP hx;obtain ⟨row',hr',hw⟩:=h.get i row hi;have hlt:j<row'.length:=by rw [hw.length];exact (List.getElem?_eq_some_iff.1 hj).1
  have hx':row'[j]?=some row'[j]:=by simp [hlt]
  rw [(hw.get j _ x hx' hj).2];exact q3 row' (List.mem_of_getElem? hr') _ (List.mem_of_getElem? hx')
 .obtain ⟨row',hr',hw⟩:=h.get i row hr;have hlt:j<row'.length:=by rw [hw.length];exact (List.getElem?_eq_some_iff.1 hx).1
  have hx':row'[j]?=some row'[j]:=by simp [hlt]
  obtain ⟨v,hv,hrep⟩:=q4 i row' j _ hr' hx';exact ⟨v,hv,(hw.get j _ x hx' hx).1 _ _ _ hrep⟩
theorem pI.rows {sz:Nat}{az bs:List (List AV)}(h:oM az bs):pI (.rows sz az) (.rows sz bs):=by
 intro base w E b hk;rcases hk with ⟨h1,h2⟩|⟨c,o,arr,ty,h1,h2,h3,h4,h5⟩
 .subst h2;refine .inl ⟨h1,?_⟩;have:=h.length;cases bs with|nil=>rfl|cons=>simp at this
 .exact .inr ⟨c,o,arr,ty,h1,h2,h3,h4,h5.weak h⟩
theorem KL {g:Tm}{x y z:SB}(h:aar g x y=some z):pI (bif (g.den ρ).B then x.den ρ else y.den ρ) (z.den ρ):=by
 unfold aar at h;split at h
 .rename_i sz rs sz' rs';cases h1:Nat.beq sz sz'
  .simp [h1] at h
  .simp only [h1,cond_true] at h;have e:=Nat.eq_of_beq_eq_true h1;subst e;split at h
   .rename_i l hl;simp only [Option.some.injEq] at h;subst h;have:=TF (ρ:=ρ) hl;cases hg:(g.den ρ).B<;>rw [hg] at this<;>exact pI.rows this
   .cases h
 .rename_i sz t sz' t';cases h1:Nat.beq sz sz'&&t.beq t'
  .simp [h1] at h
  .simp only [h1,cond_true,Option.some.injEq] at h;simp only [Bool.and_eq_true] at h1;have e:=Nat.eq_of_beq_eq_true h1.1;have e2:=Tm.beq_eq h1.2;subst e;subst e2;subst h;cases (g.den ρ).B<;>exact pI.refl _
 .rename_i m t m' t';cases h1:decide (m=m')
  .simp [h1] at h
  .simp only [h1,cond_true,Option.some.injEq] at h;have e:=of_decide_eq_true h1;subst e;subst h;simp only [SB.den,xB];cases (g.den ρ).B<;>exact pI.refl _
 .rename_i es es';cases h1:Oc (es.map (·.1)) (es'.map (·.1))&&Oc (es.map (·.2)) (es'.map (·.2))
  .simp [h1] at h
  .simp only [h1,cond_true,Option.some.injEq] at h;subst h;simp only [Bool.and_eq_true] at h1;have e1:=zo h1.1;have e2:=zo h1.2;have:es=es':=by
    apply List.ext_getElem
    .have:=congrArg List.length e1;simpa using this
    .intro i hi hi';have a1:(es.map (·.1))[i]?=(es'.map (·.1))[i]?:=(by rw [e1]);have a2:(es.map (·.2))[i]?=(es'.map (·.2))[i]?:=(by rw [e2]);simp [hi,hi'] at a1 a2;exact Prod.ext a1 a2
   subst this;cases (g.den ρ).B<;>exact pI.refl _
 .rename_i m n k m' n' k';cases h1:Nat.beq m m'&&(n.beq n'&&Nat.beq k k')
  .simp [h1] at h
  .simp only [h1,cond_true,Option.some.injEq] at h;subst h;simp only [Bool.and_eq_true] at h1;obtain rfl:=Nat.eq_of_beq_eq_true h1.1;obtain rfl:=Tm.beq_eq h1.2.1;obtain rfl:=Nat.eq_of_beq_eq_true h1.2.2;cases (g.den ρ).B<;>exact pI.refl _
 .rename_i sz t i o x sz' t' i' o' x';cases h1:Nat.beq sz sz'&&(t.beq t'&&(i.beq i'&&(Nat.beq o o'&&x.beq x')))
  .simp [h1] at h
  .simp only [h1,cond_true,Option.some.injEq] at h;simp only [Bool.and_eq_true] at h1;obtain rfl:=Nat.eq_of_beq_eq_true h1.1;obtain rfl:=Tm.beq_eq h1.2.1;obtain rfl:=Tm.beq_eq h1.2.2.1;obtain rfl:=Nat.eq_of_beq_eq_true h1.2.2.2.1;obtain rfl:=SV.beq_eq h1.2.2.2.2;subst h;cases (g.den ρ).B<;>exact pI.refl _
 .rename_i ty sz rs ty' sz' rs';cases h1:(Nat.beq ty ty'&&Nat.beq sz sz')&&PK rs rs'
  .simp [h1] at h
  .simp only [h1,cond_true,Option.some.injEq] at h;simp only [Bool.and_eq_true] at h1;obtain rfl:=Nat.eq_of_beq_eq_true h1.1.1;obtain rfl:=Nat.eq_of_beq_eq_true h1.1.2;obtain rfl:=Hf h1.2;subst h;cases (g.den ρ).B<;>exact pI.refl _
 .cases h
theorem Weak.trans {a b c:AV}(h:Weak a b)(k:Weak b c):Weak a c:=fun w E v hr=>k w E v (h w E v hr)
theorem pI.trans {a b c:qO}(h:pI a b)(k:pI b c):pI a c:=fun base w E x hr=>k base w E x (h base w E x hr)
theorem WG {g:Tm}{a b c:oq}(h:ac9 g a b=some c):Weak (bif (g.den ρ).B then a.den ρ else b.den ρ) (c.den ρ):=by
 obtain ⟨ah,av⟩:=a;obtain ⟨bh,bv⟩:=b;unfold ac9 at h;split at h
 .rename_i h1 h2;dsimp only at h1 h2;subst h1;subst h2;split at h
  .rename_i v hv;simp only [Option.some.injEq] at h;subst h;exact (QE hv).1
  .cases h
 .cases h
theorem amA {keep:Kp}{g:Tm}{a b c:nX}(h:aas keep g a b=some c)(hg:(g.den ρ).B=true)(hs:Gv ρ N a fr ah nx):Gv ρ N c fr ah nx:=by
 unfold aas at h;dsimp only at h;generalize (ac_ keep _ _ _ _)=q at h;cases q
 .simp only [cond_false,Option.some.injEq] at h;subst h;refine ⟨fun t e he=>?_,fun b k hk=>?_,hs.len,Nat.le_trans hs.nx (Nat.le_max_left _ _)⟩
  .obtain ⟨y,z,h1,h2,h3⟩:=Tr.EW he;obtain ⟨x,hx,hw⟩:=hs.fr t y h1;have:=WG (ρ:=ρ) h3;rw [hg] at this;exact ⟨x,hx,hw.trans this⟩
  .obtain ⟨y,z,h1,h2,h3⟩:=Tr.EW hk;obtain ⟨x,hx,hw⟩:=hs.ah b y h1;have:=KL (ρ:=ρ) h3;rw [hg] at this;exact ⟨x,hx,hw.trans this⟩
 .cases h
theorem amB {keep:Kp}{g:Tm}{a b c:nX}(h:aas keep g a b=some c)(hg:(g.den ρ).B=false)(hs:Gv ρ N b fr ah nx):Gv ρ N c fr ah nx:=by
 unfold aas at h;dsimp only at h;generalize (ac_ keep _ _ _ _)=q at h;cases q
 .simp only [cond_false,Option.some.injEq] at h;subst h;refine ⟨fun t e he=>?_,fun b k hk=>?_,hs.len,Nat.le_trans hs.nx (Nat.le_max_right _ _)⟩
  .obtain ⟨y,z,h1,h2,h3⟩:=Tr.EW he;obtain ⟨x,hx,hw⟩:=hs.fr t z h2;have:=WG (ρ:=ρ) h3;rw [hg] at this;exact ⟨x,hx,hw.trans this⟩
  .obtain ⟨y,z,h1,h2,h3⟩:=Tr.EW hk;obtain ⟨x,hx,hw⟩:=hs.ah b z h2;have:=KL (ρ:=ρ) h3;rw [hg] at this;exact ⟨x,hx,hw.trans this⟩
 .cases h
def EX (ρ:List AV)(N:Nat)(outs:List Out):AQ:=fun e fr ah nx=>∃st,sel ρ outs=some (e,st)/\Gv ρ N st fr ah nx
def TG (g:Tm)(l:List Out):List Out:=l.map fun o=>{o with g:=ayU g o.g}
def yY (g:Tm):List Out->List Out
 |[]=>[]|[o]=>[{o with g:=g}]|o::o'::r=>{o with g:=ayU g o.g}::yY g (o'::r)
theorem ag5 {g:Tm}:∀{l:List Out},l≠[]->yY g l≠[]
 |[],h=>absurd rfl h|[o],_=>by simp [yY]
 |o::o'::r,_=>by simp [yY]
theorem xP {g:Tm}:∀{l rest:List Out},rest≠[]->sel ρ (yY g l++rest)=if (g.den ρ).B=true/\l≠[] then sel ρ l else sel ρ rest
 |[],rest,hr=>by simp [yY]
 |[o],rest,hr=>by
  obtain ⟨x,r,rfl⟩:=List.exists_cons_of_ne_nil hr;simp only [yY,List.cons_append,List.nil_append,sel];cases (g.den ρ).B<;>simp
 |o::o'::r,rest,hr=>by
  have ih:=xP (g:=g) (l:=o'::r) (rest:=rest) hr;obtain ⟨x,s,hx⟩:=List.exists_cons_of_ne_nil (ag5 (g:=g) (l:=o'::r) (by simp));simp only [yY,List.cons_append];rw [hx] at ih ⊢;simp only [List.cons_append,sel,uX] at ih ⊢;rw [ih];cases hg:(g.den ρ).B
  .simp
  .cases (o.g.den ρ).B<;>simp
def QF (t:Tm)(x y:List Out):List Out:=yY t x++y
theorem ae3 {t:Tm}{x y:List Out}(hx:x≠[])(hy:y≠[]):sel ρ (QF t x y)=if (t.den ρ).B=true then sel ρ x else sel ρ y:=by
 unfold QF;rw [xP hy];simp [hx]
def pJ : List Out->Option (List Out×Out)
 |[]=>none|[o]=>some ([],o)|o::o'::r=>match pJ (o'::r) with|some (l,n)=>some (o::l,n)|none=>none
theorem MB : ∀{l r:List Out} {n:Out},pJ l=some (r,n)->l=r++[n]
 |[],r,n,h=>by simp [pJ] at h
 |[o],r,n,h=>by simp only [pJ,Option.some.injEq,Prod.mk.injEq] at h;obtain ⟨rfl,rfl⟩:=h;rfl
 |o::o'::s,r,n,h=>by
  simp only [pJ] at h;split at h
  .rename_i l m hl;simp only [Option.some.injEq,Prod.mk.injEq] at h;obtain ⟨rfl,rfl⟩:=h;rw [MB hl];rfl
  .cases h
def Zb : Exit->Bool | .normal=>true|_=>false
def KN (keep:Kp):List Out->List Out
 |[]=>[]|o::r=>
  bif Zb o.e then
   match pJ (KN keep r) with
   |none=>[o]|some (l,n)=>bif Zb n.e then
     match aas keep o.g o.st n.st with
     |some m=>TG (ayK o.g) l++[{n with st:=m}]|none=>o::(l++[n])
    else yY (ayK o.g) (l++[n])++[o]
  else o::KN keep r
theorem apO {l:List Out}{x:Exit×nX}(h:sel ρ l=some x):l≠[]:=by rintro rfl;cases h
theorem aat : ∀{l:List Out},l≠[]->∃x,sel ρ l=some x
 |[],h=>absurd rfl h|[o],_=>⟨_,rfl⟩|o::o'::r,_=>by
  simp only [sel];cases (o.g.den ρ).B
  .exact aat (l:=o'::r) (by simp)
  .exact ⟨_,rfl⟩
theorem PX {n m:Out}(he:m.e=n.e):∀{l:List Out} {x:Exit×nX},sel ρ (l++[n])=some x->(sel ρ (l++[m])=some x)\/(x=(n.e,n.st)/\sel ρ (l++[m])=some (m.e,m.st))
 |[],x,h=>by simp only [List.nil_append,sel,Option.some.injEq] at h ⊢;exact .inr ⟨h.symm,trivial⟩
 |[o],x,h=>by
  simp only [List.cons_append,List.nil_append,sel] at h ⊢;cases hg:(o.g.den ρ).B
  .rw [hg] at h;simp only [cond_false,Option.some.injEq] at h ⊢;exact .inr ⟨h.symm,trivial⟩
  .rw [hg] at h;exact .inl h
 |o::o'::r,x,h=>by
  simp only [List.cons_append,sel] at h ⊢;cases hg:(o.g.den ρ).B
  .rw [hg] at h;exact PX he (l:=o'::r) h
  .rw [hg] at h;exact .inl h
theorem EY {g:Tm}{m:Out}:∀{l:List Out},sel ρ (TG g l++[m])=if (g.den ρ).B=true then sel ρ (l++[m]) else some (m.e,m.st)
 |[]=>by simp [TG,sel]
 |[o]=>by
  simp only [TG,List.map_cons,List.map_nil,List.cons_append,List.nil_append,sel,uX];cases (g.den ρ).B<;>simp
 |o::o'::r=>by
  have ih:=EY (g:=g) (m:=m) (l:=o'::r);simp only [TG,List.map_cons,List.cons_append,sel,uX] at ih ⊢;rw [ih];cases (g.den ρ).B<;>simp
theorem Yw {e:Exit}(h:Zb e=true):e=.normal:=by cases e<;>first|rfl|cases h
theorem wu {keep:Kp}:∀{l:List Out} {e:Exit},EX ρ N l e fr ah nx->EX ρ N (KN keep l) e fr ah nx
 |[],e,h=>h|o::r,e,h=>by
  obtain ⟨st,hsel,hst⟩:=h;unfold KN
  
  have rest:r≠[]->((o.g.den ρ).B=true/\e=o.e/\st=o.st)\/((o.g.den ρ).B=false/\EX ρ N (KN keep r) e fr ah nx):=by
   intro hr;obtain ⟨o',r',rfl⟩:=List.exists_cons_of_ne_nil hr;simp only [sel] at hsel;cases hg:(o.g.den ρ).B
   .rw [hg] at hsel;exact .inr ⟨rfl,wu ⟨st,hsel,hst⟩⟩
   .rw [hg] at hsel;simp only [cond_true,aj,aJ] at hsel;exact .inl ⟨rfl,hsel.1.symm,hsel.2.symm⟩
  have ajA:∀{l':List Out},l'≠[]->((o.g.den ρ).B=true/\e=o.e/\st=o.st)\/((o.g.den ρ).B=false/\EX ρ N l' e fr ah nx)->EX ρ N (o::l') e fr ah nx:=by
   intro l' hl' hc;obtain ⟨x,s,rfl⟩:=List.exists_cons_of_ne_nil hl';rcases hc with ⟨hg,rfl,rfl⟩|⟨hg,st',h1,h2⟩
   .exact ⟨o.st,by simp [sel,hg],hst⟩
   .exact ⟨st',by simp [sel,hg,h1],h2⟩
  by_cases hr:r=[]
  .subst hr;have e1:KN keep []=[]:=rfl;rw [e1];cases hn:Zb o.e
   .exact ⟨st,hsel,hst⟩
   .simp only [cond_true,pJ];exact ⟨st,hsel,hst⟩
  .have hrest:=rest hr;have hne:KN keep r≠[]:=by
    obtain ⟨x,hx⟩:=aat (ρ:=ρ) hr
    
    intro he;have:∀l:List Out,l≠[]->KN keep l≠[]:=by
     intro l;induction l with
     |nil=>intro h;exact absurd rfl h|cons o r ih=>
      intro _;unfold KN;cases Zb o.e
      .simp
      .simp only [cond_true];split
       .simp
       .rename_i l n _;cases Zb n.e
        .simp
        .simp only [cond_true];split<;>simp
    exact this r hr he
   cases hn:Zb o.e
   .simp only [cond_false];exact ajA hne hrest
   .simp only [cond_true];split
    .rename_i hs;exfalso;obtain ⟨x,s,hx⟩:=List.exists_cons_of_ne_nil hne;rw [hx] at hs;have:∀(s:List Out) (x:Out),pJ (x::s)≠none:=by
      intro s;induction s with
      |nil=>intro x;simp [pJ]|cons y s ih=>
       intro x;simp only [pJ];cases hq:pJ (y::s) with
       |none=>exact absurd hq (ih y)|some v=>simp
     exact this s x hs
    .rename_i l n hs;have heq:=MB hs;rw [heq] at hrest;cases hn2:Zb n.e
     .simp only [cond_false];rcases hrest with ⟨hg,rfl,rfl⟩|⟨hg,st',h1,h2⟩
      .refine ⟨o.st,?_,hst⟩;rw [xP (by simp),mX,hg];simp [sel]
      .refine ⟨st',?_,h2⟩;rw [xP (by simp),mX,hg];simp [h1]
     .simp only [cond_true];have e1:=Yw hn;have e2:=Yw hn2;split
      .rename_i m hm;rcases hrest with ⟨hg,rfl,rfl⟩|⟨hg,st',h1,h2⟩
       .refine ⟨m,?_,amA hm hg hst⟩;rw [EY,mX,hg];simp [e1,e2]
       .rcases PX (n:=n) (m:={n with st:=m}) rfl h1 with h3|⟨h3,h4⟩
        .refine ⟨st',?_,h2⟩;rw [EY,mX,hg];simpa using h3
        .simp only [aJ] at h3;obtain ⟨h3,rfl⟩:=h3;refine ⟨m,?_,amB hm hg h2⟩;rw [EY,mX,hg];simp only [bg,if_true,h4,h3]
      .exact ajA (by simp) hrest
end
end Go.Fw
end
section
namespace Go.Fw
variable [iT]
def Tm.lt (n:Nat):Tm->Bool
 | .lb _ | .li _ | .lf _ | .ls _ | .nl=>true| .var i _=>Nat.ble (i+1) n| .bin _ _ x y=>x.lt n&&y.lt n| .and x y=>x.lt n&&y.lt n| .or x y=>x.lt n&&y.lt n| .byte x y=>x.lt n&&y.lt n| .not x=>x.lt n| .neg _ x=>x.lt n| .com _ x=>x.lt n| .conv _ x=>x.lt n| .toF x=>x.lt n| .ZJ x=>x.lt n| .slen x=>x.lt n| .rlen x=>x.lt n| .bts x=>x.lt n| .sbs x=>x.lt n| .G9 _ x=>x.lt n| .ite c x y=>c.lt n&&(x.lt n&&y.lt n)| .Gj c x y=>c.lt n&&(x.lt n&&y.lt n)
def AgreeV (n:Nat)(ρ σ:List AV):Prop:=∀i,i<n->ρ.getD i eX=σ.getD i eX
theorem Tm.lq {n:Nat}{ρ σ:List AV}(h:AgreeV n ρ σ):∀{t:Tm},t.lt n=true->t.den ρ=t.den σ:=by
 intro t;induction t with
 |lb|li|lf|ls|nl=>intro _;rfl|var i p=>intro hl;simp only [Tm.den];rw [h i (aC hl)]|bin o k x y ql ihy=>intro hl;simp only [Tm.lt,ak] at hl;simp only [Tm.den,ql hl.1,ihy hl.2]|and x y ql ihy=>intro hl;simp only [Tm.lt,ak] at hl;simp only [Tm.den,ql hl.1,ihy hl.2]|or x y ql ihy=>intro hl;simp only [Tm.lt,ak] at hl;simp only [Tm.den,ql hl.1,ihy hl.2]|byte x y ql ihy=>intro hl;simp only [Tm.lt,ak] at hl;simp only [Tm.den,ql hl.1,ihy hl.2]|ite c x y ihc ql ihy=>intro hl;simp only [Tm.lt,ak] at hl;simp only [Tm.den,ihc hl.1,ql hl.2.1,ihy hl.2.2]|Gj c x y ihc ql ihy=>intro hl;simp only [Tm.lt,ak] at hl;simp only [Tm.den,ihc hl.1,ql hl.2.1,ihy hl.2.2]|not x ih=>intro hl;simp only [Tm.den,ih hl]|neg k x ih=>intro hl;simp only [Tm.den,ih hl]|com k x ih=>intro hl;simp only [Tm.den,ih hl]|conv k x ih=>intro hl;simp only [Tm.den,ih hl]|toF x ih=>intro hl;simp only [Tm.den,ih hl]|ZJ x ih=>intro hl;simp only [Tm.den,ih hl]
 |slen x ih=>intro hl;simp only [Tm.den,ih hl]|rlen x ih=>intro hl;simp only [Tm.den,ih hl]|bts x ih=>intro hl;simp only [Tm.den,ih hl]|sbs x ih=>intro hl;simp only [Tm.den,ih hl]|G9 k x ih=>intro hl;simp only [Tm.den,ih hl]
 mutual
def SV.lt (n:Nat):SV->Bool
  | .sc _ t=>t.lt n| .c _ | .nil | .nan | .mp _=>true| .sf t=>t.lt n| .agg l=>ltL n l| .gW l=>ltL n l| .slc r _=>ag6 n r| .vp row _=>ltL n row| .os _ _ _ t=>t.lt n| .op _ _ t _=>t.lt n| .fn _ x y=>ltL n x&&ltL n y| .kY _ v=>v.lt n| .ost _ _ t u=>t.lt n&&u.lt n
def ltL (n:Nat):List SV->Bool
  |[]=>true|x::r=>x.lt n&&ltL n r
def ag6 (n:Nat):List (List SV)->Bool
  |[]=>true|x::r=>ltL n x&&ag6 n r
end
section
variable {n : Nat} {ρ σ:List AV} (h:AgreeV n ρ σ)
 include h
 mutual
theorem SV.lq : ∀{x:SV},x.lt n=true->x.den ρ=x.den σ
  | .sc k t,hl=>by simp only [SV.den];rw [Tm.lq h hl]
  | .c _,_=>rfl| .nil,_=>rfl| .nan,_=>rfl| .mp _,_=>rfl| .ost _ _ t u,hl=>by simp only [SV.lt,ak] at hl;simp only [SV.den];rw [Tm.lq h hl.1,Tm.lq h hl.2]
  | .sf t,hl=>by simp only [SV.den];rw [Tm.lq h hl]
  | .agg l,hl=>by simp only [SV.den];rw [zC (l:=l) hl]
  | .gW l,hl=>by simp only [SV.den];rw [zC (l:=l) hl]
  | .slc r _,hl=>by simp only [SV.den];rw [MC (l:=r) hl]
  | .vp row _,hl=>by simp only [SV.den];rw [zC (l:=row) hl]
  | .os _ _ _ t,hl=>by simp only [SV.den];rw [Tm.lq h hl]
  | .op _ _ t _,hl=>by simp only [SV.den];rw [Tm.lq h hl]
  | .fn _ x y,hl=>by simp only [SV.lt,ak] at hl;simp only [SV.den];rw [zC (l:=x) hl.1,zC (l:=y) hl.2]
  | .kY _ v,hl=>by simp only [SV.den];rw [SV.lq (x:=v) hl]
theorem zC : ∀{l:List SV},ltL n l=true->dK ρ l=dK σ l
  |[],_=>rfl|x::r,hl=>by simp only [ltL,ak] at hl;simp only [dK];rw [SV.lq (x:=x) hl.1,zC (l:=r) hl.2]
theorem MC : ∀{l:List (List SV)},ag6 n l=true->fQ ρ l=fQ σ l
  |[],_=>rfl|x::r,hl=>by simp only [ag6,ak] at hl;simp only [fQ];rw [zC (l:=x) hl.1,MC (l:=r) hl.2]
end
end
def Pc.lt (n:Nat)(pc:Pc):Bool:=pc.all fun x=>x.1.lt n
def oq.lt (n:Nat)(e:oq):Bool:=Pc.lt n e.h&&e.v.lt n
theorem oq.lq {n:Nat}{ρ σ:List AV}(h:AgreeV n ρ σ){e:oq}(hl:e.lt n=true):e.den ρ=e.den σ:=by
 simp only [oq.lt,ak] at hl;have:(e.h.all fun x=>(x.1.den ρ).B == x.2)=(e.h.all fun x=>(x.1.den σ).B == x.2):=by
  have h1:=hl.1;unfold Pc.lt at h1;rw [aF] at h1;rw [Bool.eq_iff_iff,aF,aF];constructor
  .intro q x hx;rw [<- Tm.lq h (h1 x hx)];exact q x hx
  .intro q x hx;rw [Tm.lq h (h1 x hx)];exact q x hx
 unfold oq.den;rw [this,SV.lq h hl.2]
def Pc.old (n:Nat)(pc:Pc):Pc:=pc.filter fun x=>x.1.lt n
theorem Pc.ag7 {n:Nat}{ρ σ:List AV}(h:AgreeV n ρ σ){pc:Pc}(hp:pc.holds ρ):(pc.old n).holds σ:=by
 intro x hx;unfold Pc.old at hx;rw [List.mem_filter] at hx;rw [<- Tm.lq h hx.2];exact hp x hx.1
def SB.lt (n:Nat):SB->Bool
 | .rows _ rs=>ag6 n rs| .fZ _ t=>t.lt n| .xC _ t=>t.lt n| .map es=>ltL n (es.map (·.1))&&ltL n (es.map (·.2))| .it _ t _=>t.lt n| .iD _ _ rs=>ag6 n rs| .mQ _ t i _ x=>t.lt n&&(i.lt n&&x.lt n)
theorem SB.lq {n:Nat}{ρ σ:List AV}(h:AgreeV n ρ σ){k:SB}(hl:k.lt n=true):k.den ρ=k.den σ:=by
 cases k with
 |rows sz rs=>simp only [SB.den];rw [MC h hl]|fZ sz t=>simp only [SB.den];rw [Tm.lq h hl]|xC m t=>simp only [SB.den];rw [Tm.lq h hl]|it m t k=>simp only [SB.den];rw [Tm.lq h hl]|iD ty sz rs=>simp only [SB.den];rw [MC h hl]|mQ sz t i off x=>simp only [SB.lt,ak] at hl;simp only [SB.den];rw [Tm.lq h hl.1,Tm.lq h hl.2.1,SV.lq h hl.2.2]|map es=>
  simp only [SB.lt,ak] at hl;have h1:=zC h hl.1;have h2:=zC h hl.2;rw [agl,agl] at h1 h2;simp only [SB.den];congr 1;apply List.map_congr_left;intro e he;have a1:e.1.den ρ=e.1.den σ:=by
   have:=List.map_inj_left.1 h1 e.1 (aU.2 ⟨e,he,rfl⟩);exact this
  have a2:e.2.den ρ=e.2.den σ:=by
   have:=List.map_inj_left.1 h2 e.2 (aU.2 ⟨e,he,rfl⟩);exact this
  rw [a1,a2]
inductive Vx where
 |sc (k:Kd)
 |agg (ks:List Kd)
 |os (b sz:Nat)
def Vx.sv (j:Nat):Vx->SV
 | .sc k=>.sc k (.var j [])| .agg ks=>.agg (kG j [] 0 ks)| .os b sz=>.os b sz 0 (.rlen (.var j []))
inductive Tb where
 |rows (sz:Nat)
 |map (m:MSh)
instance (n : Nat):OfNat Tb n:=⟨.rows n⟩
def Tb.sb (j:Nat):Tb->SB
 | .rows sz=>.fZ sz (.var j [])| .map m=>.xC m (.var j [])
structure Ob where
 pre:List Kd
 b:Nat
 sz:Nat
 post:List Kd
def Ob.n (o:Ob):Nat:=o.pre.length+(o.post.length+1)
def Ob.row (j:Nat)(o:Ob):List SV:=kG j [] 0 o.pre++.os o.b o.sz 0 (.rlen (.var j [o.pre.length]))::kG j [] (o.pre.length+1) o.post
structure zD where
 fr:List (Nat×Vx)
 bl:List (Nat×List Kd)
 tb:List (Nat×Tb)
 nx:Nat
 ob:List (Nat×Ob)
def zD.m (p:zD):Nat:=p.fr.length+(p.bl.length+(p.tb.length+p.ob.length))
def amC : Nat->List (Nat×Vx)->Tr oq->Tr oq
 |_,[],tr=>tr|j,(t,p)::r,tr=>(amC (j+1) r tr).upd uf t (some ⟨[],p.sv j⟩)
def ada : Nat->List (Nat×Vx)->Tr SB->Tr SB
 |_,[],th=>th|j,(_,.os b sz)::r,th=>(ada (j+1) r th).upd uf b (some (.fZ sz (.var j [])))|j,_::r,th=>ada (j+1) r th
def amD : Nat->List (Nat×List Kd)->Tr SB->Tr SB
 |_,[],th=>th|j,(b,ks)::r,th=>(amD (j+1) r th).upd uf b (some (.rows ks.length [kG j [] 0 ks]))
def amE : Nat->List (Nat×Tb)->Tr SB->Tr SB
 |_,[],th=>th|j,(b,sz)::r,th=>(amE (j+1) r th).upd uf b (some (sz.sb j))
def amF : Nat->List (Nat×Ob)->Tr SB->Tr SB
 |_,[],th=>th|j,(b,o)::r,th=>((amF (j+1) r th).upd uf o.b (some (.fZ o.sz (.var j [o.pre.length])))).upd uf b (some (.rows o.n [o.row j]))
def ay8 (p:zD)(j:Nat)(c:nX):nX:=
 ⟨amC j p.fr c.fr,ada j p.fr (amD (j+p.fr.length) p.bl (amE (j+(p.fr.length+p.bl.length)) p.tb (amF (j+(p.fr.length+(p.bl.length+p.tb.length))) p.ob c.ah))),p.nx⟩
theorem aau : ∀{l:List (Nat×Vx)} {j:Nat} {tr:Tr oq} {t:Nat} {e:oq},(amC j l tr).get t=some e->(∃(i:Nat) (p:Vx),l[i]?=some (t,p)/\e=⟨[],p.sv (j+i)⟩)\/((∀p,(t,p)∉l)/\tr.get t=some e)
 |[],j,tr,t,e,h=>.inr ⟨by simp,h⟩|(s,p)::r,j,tr,t,e,h=>by
  simp only [amC] at h;rcases Tr.kW _ _ _ _ _ _ h with ⟨rfl,h1⟩|⟨hne,h1⟩
  .simp only [aj] at h1;exact .inl ⟨0,p,rfl,by simpa using h1.symm⟩
  .rcases aau h1 with ⟨i,q,h2,h3⟩|⟨h2,h3⟩
   .exact .inl ⟨i+1,q,by simpa using h2,by rw [h3];congr 2;omega⟩
   .refine .inr ⟨fun q hq=>?_,h3⟩;cases hq with
    |head=>exact hne rfl|tail _ hq=>exact h2 q hq
theorem MF : ∀{l:List (Nat×Vx)} {j:Nat} {th:Tr SB} {b:Nat} {k:SB},(ada j l th).get b=some k->(∃(i t sz:Nat),l[i]?=some (t,.os b sz)/\k=.fZ sz (.var (j+i) []))\/((∀t sz,(t,.os b sz)∉l)/\th.get b=some k)
 |[],j,th,b,k,h=>.inr ⟨by simp,h⟩|(s,.os b' sz)::r,j,th,b,k,h=>by
  simp only [ada] at h;rcases Tr.kW _ _ _ _ _ _ h with ⟨rfl,h1⟩|⟨hne,h1⟩
  .simp only [aj] at h1;exact .inl ⟨0,s,sz,rfl,by simpa using h1.symm⟩
  .rcases MF h1 with ⟨i,t,sz',h2,h3⟩|⟨h2,h3⟩
   .exact .inl ⟨i+1,t,sz',by simpa using h2,by rw [h3];congr 2;omega⟩
   .refine .inr ⟨fun t sz' hq=>?_,h3⟩;cases hq with
    |head=>exact hne rfl|tail _ hq=>exact h2 _ _ hq
 |(s,.sc kd)::r,j,th,b,k,h=>by
  simp only [ada] at h;rcases MF h with ⟨i,t,sz',h2,h3⟩|⟨h2,h3⟩
  .exact .inl ⟨i+1,t,sz',by simpa using h2,by rw [h3];congr 2;omega⟩
  .exact .inr ⟨fun t sz' hq=>by cases hq with|tail _ hq=>exact h2 _ _ hq,h3⟩
 |(s,.agg kd)::r,j,th,b,k,h=>by
  simp only [ada] at h;rcases MF h with ⟨i,t,sz',h2,h3⟩|⟨h2,h3⟩
  .exact .inl ⟨i+1,t,sz',by simpa using h2,by rw [h3];congr 2;omega⟩
  .exact .inr ⟨fun t sz' hq=>by cases hq with|tail _ hq=>exact h2 _ _ hq,h3⟩
theorem aav : ∀{l:List (Nat×List Kd)} {j:Nat} {th:Tr SB} {b:Nat} {k:SB},(amD j l th).get b=some k->(∃(i:Nat) (ks:List Kd),l[i]?=some (b,ks)/\k=.rows ks.length [kG (j+i) [] 0 ks])\/((∀ks,(b,ks)∉l)/\th.get b=some k)
 |[],j,th,b,k,h=>.inr ⟨by simp,h⟩|(b',ks)::r,j,th,b,k,h=>by
  simp only [amD] at h;rcases Tr.kW _ _ _ _ _ _ h with ⟨rfl,h1⟩|⟨hne,h1⟩
  .simp only [aj] at h1;exact .inl ⟨0,ks,rfl,by simpa using h1.symm⟩
  .rcases aav h1 with ⟨i,q,h2,h3⟩|⟨h2,h3⟩
   .exact .inl ⟨i+1,q,by simpa using h2,by rw [h3,Nat.add_assoc,Nat.add_comm 1 i]⟩
   .refine .inr ⟨fun q hq=>?_,h3⟩;cases hq with
    |head=>exact hne rfl|tail _ hq=>exact h2 q hq
theorem aaw : ∀{l:List (Nat×Tb)} {j:Nat} {th:Tr SB} {b:Nat} {k:SB},(amE j l th).get b=some k->(∃(i:Nat) (sz:Tb),l[i]?=some (b,sz)/\k=sz.sb (j+i))\/((∀sz,(b,sz)∉l)/\th.get b=some k)
 |[],j,th,b,k,h=>.inr ⟨by simp,h⟩|(b',sz)::r,j,th,b,k,h=>by
  simp only [amE] at h;rcases Tr.kW _ _ _ _ _ _ h with ⟨rfl,h1⟩|⟨hne,h1⟩
  .simp only [aj] at h1;exact .inl ⟨0,sz,rfl,by simpa using h1.symm⟩
  .rcases aaw h1 with ⟨i,q,h2,h3⟩|⟨h2,h3⟩
   .exact .inl ⟨i+1,q,by simpa using h2,by rw [h3];rw [Nat.add_assoc,Nat.add_comm 1 i]⟩
   .refine .inr ⟨fun q hq=>?_,h3⟩;cases hq with
    |head=>exact hne rfl|tail _ hq=>exact h2 q hq
theorem aax : ∀{l:List (Nat×Ob)} {j:Nat} {th:Tr SB} {b:Nat} {k:SB},(amF j l th).get b=some k->(∃(i:Nat) (o:Ob),l[i]?=some (b,o)/\k=.rows o.n [o.row (j+i)])\/
  (∃(i a:Nat) (o:Ob),l[i]?=some (a,o)/\b=o.b/\k=.fZ o.sz (.var (j+i) [o.pre.length]))\/((∀o,(b,o)∉l)/\th.get b=some k)
 |[],j,th,b,k,h=>.inr (.inr ⟨by simp,h⟩)|(b',o)::r,j,th,b,k,h=>by
  simp only [amF] at h;rcases Tr.kW _ _ _ _ _ _ h with ⟨rfl,h1⟩|⟨hne,h1⟩
  .simp only [aj] at h1;exact .inl ⟨0,o,rfl,h1.symm⟩
  .rcases Tr.kW _ _ _ _ _ _ h1 with ⟨rfl,h2⟩|⟨hne2,h2⟩
   .simp only [aj] at h2;exact .inr (.inl ⟨0,b',o,rfl,rfl,h2.symm⟩)
   .rcases aax h2 with ⟨i,q,h3,h4⟩|⟨i,a,q,h3,h4,h5⟩|⟨h3,h4⟩
    .exact .inl ⟨i+1,q,by simpa using h3,by rw [h4,Nat.add_assoc,Nat.add_comm 1 i]⟩
    .exact .inr (.inl ⟨i+1,a,q,by simpa using h3,h4,by rw [h5,Nat.add_assoc,Nat.add_comm 1 i]⟩)
    .refine .inr (.inr ⟨fun q hq=>?_,h4⟩);cases hq with
     |head=>exact hne rfl|tail _ hq=>exact h3 q hq
def Yx (k:Kd):SV->Bool
 | .sc k' _=>decide (k=k')| .nil=>decide (k=.sl)| .sf _=>decide (k=.sl)| .slc r _=>decide (k=.sl)|_=>false
def pW : List Kd->List SV->Bool
 |[],[]=>true|k::r,x::s=>Yx k x&&pW r s|_,_=>false
inductive Src where
 |no
 |empty
 |at (b k:Nat)
def wz (sz:Nat):SB->Option SV
 | .fZ sz' t=>bif Nat.beq sz sz' then some (.sc .sl t) else none
 | .rows sz' rs=>bif Nat.beq sz sz' then some (.slc (aad rs) false) else none
 |_=>none
def lenOf : SB->Tm->Bool
 | .fZ _ t,l=>l.beq (.rlen t)| .rows _ rs,l=>match uM l with|some n=>Nat.beq n rs.length|none=>false
 |_,_=>false
def Vy : SB->Tm->Bool
 | .fZ _ _,_=>true| .rows _ rs,l=>match uM l with|some n=>Nat.beq n rs.length|none=>false
 |_,_=>false
def ae4 : SB->Tm->List Side
 | .fZ _ t,l=>aiQ l t|_,_=>[]
def Vz (k:SB)(off:Nat)(l:Tm):Bool:=bif Nat.beq off 0 then Vy k l else match k with
 | .fZ _ t=>l.beq (.bin .sub (.int .i64) (.rlen t) (.li (.ofNat off)))| .rows _ rs=>(match uM l with|some n=>Nat.beq (n+off) rs.length|none=>false)|_=>false
def JK (k:SB)(off:Nat)(l:Tm):List Side:=bif Nat.beq off 0 then ae4 k l else match k with
 | .fZ _ t=>[.tm (.bin .leq (.int .i64) (.li (.ofNat off)) (.rlen t)),.tm (.bin .leq (.int .i64) (.rlen t) (.li 4294967296))]|_=>[]
def ayI (sz:Nat)(k:SB)(off:Nat):Option SV:=bif Nat.beq off 0 then wz sz k else match k with
 | .fZ sz' t=>bif Nat.beq sz sz' then some (.sc .sl (.G9 off t)) else none
 | .rows sz' rs=>bif Nat.beq sz sz' then some (.slc (aad (rs.drop off)) false) else none
 |_=>none
def VA (th:Tr SB)(v:SV):Vx->Option (SV×Src)
 | .sc k=>bif Yx k v then some (v.nrm,.no) else none
 | .agg ks=>match v with | .agg l=>bif pW ks l then some (.agg (jK l),.no) else none|_=>none
 | .os _ sz=>match v with
  | .nil=>some (.sc .sl .nl,.empty)| .os b' sz' off l=>match th.get b' with
   |some k=>bif Nat.beq sz sz'&&Vz k off l then (match ayI sz k off with|some r=>some (r,.at b' (off*sz))|none=>none) else none
   |none=>none
  |_=>none
def aay (pc:Pc)(mZ:nX):List (Nat×Vx)->Option (List (SV×Src))
 |[]=>some []|(t,p)::r=>match mZ.fr.get t with
  |none=>none|some e=>bif e.sure pc then (match VA mZ.ah e.v p,aay pc mZ r with|some x,some l=>some (x::l)|_,_=>none) else none
def TI (mZ:nX):List (Nat×Vx)->List Side
 |[]=>[]|(t,.os _ _)::r=>(match mZ.fr.get t with
  |some e=>match e.v with
   | .os b' _ off l=>match mZ.ah.get b' with
    |some k=>JK k off l|none=>[]
   |_=>[]
  |none=>[])++TI mZ r
 |_::r=>TI mZ r
def aaz (mZ:nX):List (Nat×List Kd)->Option (List SV)
 |[]=>some []|(b,ks)::r=>match mZ.ah.get b with
  |some (.rows sz [row])=>bif Nat.beq sz ks.length&&pW ks row then (match aaz mZ r with|some l=>some (.agg (jK row)::l)|none=>none) else none
  |_=>none
def sc1 : SV->Bool
 | .sc .sl _=>false| .sc _ _=>true|_=>false
def OA (a:Bool)(n:Nat)(v:SV):Bool:=match a,v with
 |true,.agg l=>Nat.beq l.length n&&l.all sc1|false,v=>Nat.beq n 1&&sc1 v|_,_=>false
def EZ (m:MSh):SB->Option SV
 | .xC m' t=>bif decide (m=m') then some (.sc .sl t) else none
 | .map es=>bif es.all fun e=>OA m.ka m.kn e.1&&OA m.va m.vn e.2 then some (.slc (es.map fun e=>e.1.cells++e.2.cells) false) else none
 |_=>none
def Tb.of : Tb->SB->Option SV
 | .rows sz,k=>wz sz k| .map m,k=>EZ m k
def aaA (mZ:nX):List (Nat×Tb)->Option (List SV)
 |[]=>some []|(b,sz)::r=>match mZ.ah.get b with
  |some k=>match sz.of k,aaA mZ r with|some x,some l=>some (x::l)|_,_=>none
  |none=>none
def arJ (th:Tr SB)(o:Ob)(row:List SV):Option (SV×Src):=
 match row.drop o.pre.length with
 |v::q=>bif pW o.pre (row.take o.pre.length)&&pW o.post q then (match VA th v (.os o.b o.sz) with|some x=>some (.agg (jK (row.take o.pre.length)++x.1::jK q),x.2)|none=>none) else none
 |[]=>none
def aaB (mZ:nX):List (Nat×Ob)->Option (List (SV×Src))
 |[]=>some []|(b,o)::r=>match mZ.ah.get b with
  |some (.rows sz [row])=>bif Nat.beq sz o.n then (match arJ mZ.ah o row,aaB mZ r with|some x,some l=>some (x::l)|_,_=>none) else none
  |_=>none
def obV (mZ:nX)(b:Nat)(o:Ob):Option SV:=match mZ.ah.get b with
 |some (.rows _ [row])=>(row.drop o.pre.length).head?|_=>none
def ag8 (mZ:nX):List (Nat×Ob)->List Side
 |[]=>[]|(b,o)::r=>(match obV mZ b o with
  |some (.os b' _ off l)=>(match mZ.ah.get b' with|some k=>JK k off l|none=>[])|_=>[])++ag8 mZ r
def KO (mZ:nX)(p:zD):List Side:=TI mZ p.fr++ag8 mZ p.ob
def ajC (mZ:nX):List (Nat×Ob)->List Nat
 |[]=>[]|(b,o)::r=>(match obV mZ b o with
  |some (.os b' _ _ _)=>[b']|_=>[])++ajC mZ r
end Go.Fw
end
section
namespace Go.Fw
variable [iT]
def ae5 : Pc->Pc->Bool
 |[],[]=>true|x::r,y::s=>x.1.beq y.1&&(x.2 == y.2&&ae5 r s)|_,_=>false
theorem aaC : ∀{x y:Pc},ae5 x y=true->x=y
 |[],[],_=>rfl|(a,b)::r,(c,d)::s,h=>by
  simp only [ae5,ak,beq_iff_eq] at h;rw [Tm.beq_eq h.1,h.2.1,aaC h.2.2]
def oq.beq (x y:oq):Bool:=ae5 x.h y.h&&x.v.beq y.v
theorem oq.beq_eq {x y:oq}(h:x.beq y=true):x=y:=by
 simp only [oq.beq,ak] at h;cases x;cases y;simp only at h;rw [aaC h.1,SV.beq_eq h.2]
def SB.beq : SB->SB->Bool
 | .rows a r,.rows b s=>Nat.beq a b&&PK r s| .fZ a r,.fZ b s=>Nat.beq a b&&r.beq s| .mQ a r i o x,.mQ b s j p y=>Nat.beq a b&&(r.beq s&&(i.beq j&&(Nat.beq o p&&x.beq y)))|_,_=>false
theorem SB.beq_eq {x y:SB}(h:x.beq y=true):x=y:=by
 unfold SB.beq at h;split at h
 .simp only [ak] at h;rw [au h.1,Hf h.2]
 .simp only [ak] at h;rw [au h.1,Tm.beq_eq h.2]
 .simp only [ak] at h;rw [au h.1,Tm.beq_eq h.2.1,Tm.beq_eq h.2.2.1,au h.2.2.2.1,SV.beq_eq h.2.2.2.2]
 .cases h
def below (n:Nat)(l:List Nat):Bool:=l.all fun b=>Nat.ble (b+1) n
theorem DN {n:Nat}{l:List Nat}(h:below n l=true):∀b∈l,b<n:=fun b hb=>by
 unfold below at h;rw [aF] at h;exact aC (h b hb)
def ag9 (base nE:Nat)(ins:List Nat)(p:zD)(c mZ:nX):Bool:=
 (ins.all fun t=>(p.fr.any fun x=>Nat.beq x.1 t)||match c.fr.get t with
  |none=>true|some e=>e.lt base&&(below nE e.v.zx&&match mZ.fr.get t with|some e'=>e'.beq e|none=>false))&&
 ((List.range nE).all fun b=>((p.bl.any fun x=>Nat.beq x.1 b)||((p.tb.any fun x=>Nat.beq x.1 b)||(p.ob.any fun x=>Nat.beq x.1 b)))||match c.ah.get b with
  |none=>true|some k=>k.lt base&&(below nE k.zx&&match mZ.ah.get b with|some k'=>k'.beq k|none=>false))
def E5 : List (Nat×Vx)->List (SV×Src)->List (Nat×Src)
 |(_,.os b _)::r,(_,s)::l=>(b,s)::E5 r l|_::r,_::l=>E5 r l|_,_=>[]
def Hz : List (Nat×Ob)->List (SV×Src)->List (Nat×Src)
 |(_,o)::r,(_,s)::l=>(o.b,s)::Hz r l|_,_=>[]
def TJ (nE nx:Nat)(p:zD)(c:nX):List (Nat×Src)->Bool
 |[]=>true|(b,s)::r=>Nat.ble nE b&&(Nat.ble (b+1) nx&&((r.all fun x=>!Nat.beq x.1 b)&&(TJ nE nx p c r&&
  match s with
  | .no=>false| .empty=>true| .at b' _=>(r.all fun x=>match x.2 with | .at b2 _=>!Nat.beq b2 b' | _=>true)&&
   (Nat.ble nE b'||(!(p.bl.any fun x=>Nat.beq x.1 b')&&(!(p.tb.any fun x=>Nat.beq x.1 b')&&(!(p.ob.any fun x=>Nat.beq x.1 b')&&(c.ah.get b').isNone)))))))
def HY : List SV->Bool
 |[]=>true|x::r=>(match x.zx with | []=>true|_=>false)&&HY r
def aaD (pc:Pc)(base nE:Nat)(ins:List Nat)(p:zD)(c mZ:nX):Option (List SV):=
 match aay pc mZ p.fr,aaz mZ p.bl,aaA mZ p.tb,aaB mZ p.ob with
 |some f,some b,some t,some o=>
  let vals:=f.map (·.1)++(b++(t++o.map (·.1)))
  bif ag9 base nE ins p c mZ&&(TJ nE p.nx p c (E5 p.fr f++Hz p.ob o)&&(HY vals&&(Nat.ble nE p.nx&&(below nE (p.bl.map (·.1))&&(below nE (p.tb.map (·.1))&&below nE (p.ob.map (·.1))))))) then some vals else none
 |_,_,_,_=>none
theorem adb {ρ:List AV}{k:Kd}{v:SV}(h:Yx k v=true):k.av ((v.nrm.den ρ).D)=v.nrm.den ρ:=by
 cases v with
 |sc k' t=>simp only [Yx,decide_eq_true_eq] at h;subst h;cases k<;>rfl
 |nil=>simp only [Yx,decide_eq_true_eq] at h;subst h;rfl|sf t=>simp only [Yx,decide_eq_true_eq] at h;subst h;rfl|slc r f=>simp only [Yx,decide_eq_true_eq] at h;subst h;rfl|_=>simp [Yx] at h
theorem TK {ρ σ:List AV}{j:Nat}:∀{ks:List Kd} {l:List SV} {pre:List AV},pW ks l=true->σ.getD j eX=.agg (pre++dK ρ (jK l))->dK σ (kG j [] pre.length ks)=dK ρ (jK l)
 |[],[],pre,_,_=>rfl|k::r,x::s,pre,h,hj=>by
  simp only [pW,ak] at h;simp only [kG,dK,jK];have e1:SV.den σ (.sc k (.var j ([]++[pre.length])))=x.nrm.den ρ:=by
   simp only [SV.den,Tm.den,hj];have:ayr (.agg (pre++dK ρ (jK (x::s)))) ([]++[pre.length])=x.nrm.den ρ:=by
    simp [ayr,jK,dK,aB]
   rw [this];exact adb h.1
  have e2:=TK (σ:=σ) (ρ:=ρ) (j:=j) (pre:=pre++[x.nrm.den ρ]) h.2 (by rw [hj];simp [jK,dK]);rw [e1];simp only [bG,Nat.zero_add,dw,List.length_nil] at e2;rw [e2]
 |[],_::_,pre,h,_=>by simp [pW] at h
 |_::_,[],pre,h,_=>by simp [pW] at h
theorem OB {ρ σ:List AV}{j:Nat}{suf:List AV}:∀{ks:List Kd} {l:List SV} {pre:List AV},pW ks l=true->σ.getD j eX=.agg (pre++(dK ρ (jK l)++suf))->dK σ (kG j [] pre.length ks)=dK ρ (jK l)
 |[],[],pre,_,_=>rfl|k::r,x::s,pre,h,hj=>by
  simp only [pW,ak] at h;simp only [kG,dK,jK];have e1:SV.den σ (.sc k (.var j ([]++[pre.length])))=x.nrm.den ρ:=by
   simp only [SV.den,Tm.den,hj];have:ayr (.agg (pre++(dK ρ (jK (x::s))++suf))) ([]++[pre.length])=x.nrm.den ρ:=by
    simp [ayr,jK,dK,aB]
   rw [this];exact adb h.1
  have e2:=OB (σ:=σ) (ρ:=ρ) (j:=j) (suf:=suf) (pre:=pre++[x.nrm.den ρ]) h.2 (by rw [hj];simp [jK,dK]);rw [e1];simp only [bG,Nat.zero_add,dw,List.length_nil] at e2;rw [e2]
 |[],_::_,pre,h,_=>by simp [pW] at h
 |_::_,[],pre,h,_=>by simp [pW] at h
theorem OC : ∀{ks:List Kd} {l:List SV},pW ks l=true->l.length=ks.length
 |[],[],_=>rfl|k::r,x::s,h=>by simp only [pW,ak] at h;simp [OC h.2]
 |[],_::_,h=>by simp [pW] at h
 |_::_,[],h=>by simp [pW] at h
theorem Ce : ∀{l:List SV},(jK l).length=l.length
 |[]=>rfl|x::r=>by simp [jK,Ce (l:=r)]
theorem ae6 {ρ σ:List AV}{th:Tr SB}{v x:SV}{p:Vx}{s:Src}{j:Nat}(h:VA th v p=some (x,s))(hp:∀b sz,p≠.os b sz)(hj:σ.getD j eX=x.den ρ):Weak (v.den ρ) ((p.sv j).den σ)/\(p.sv j).den σ=x.den ρ:=by
 cases p with
 |os b sz=>exact absurd rfl (hp b sz)|sc k=>
  simp only [VA] at h;cases hk:Yx k v
  .simp [hk] at h
  .simp only [hk,cond_true,aj,aJ] at h;obtain ⟨rfl,rfl⟩:=h;have e:(Vx.sv j (.sc k)).den σ=v.nrm.den ρ:=by
    simp only [Vx.sv,SV.den,Tm.den,ayr,hj];exact adb hk
   exact ⟨by rw [e];exact AY,e⟩
 |agg ks=>
  simp only [VA] at h;split at h
  .rename_i l;cases hk:pW ks l
   .simp [hk] at h
   .simp only [hk,cond_true,aj,aJ] at h;obtain ⟨rfl,rfl⟩:=h;have e:(Vx.sv j (.agg ks)).den σ=(SV.agg (jK l)).den ρ:=by
     simp only [Vx.sv,SV.den];have:=TK (σ:=σ) (ρ:=ρ) (j:=j) (pre:=[]) hk (by rw [hj];rfl);simp only [List.length_nil] at this;rw [this]
    refine ⟨?_,e⟩;rw [e];exact AY (x:=.agg l)
  .cases h
theorem H6 {ρ:List AV}{sz:Nat}{k:SB}{r:SV}(h:wz sz k=some r):∃rs R,k.den ρ=.rows sz rs/\r.den ρ=.sl R false/\oM rs R/\rs.length=R.length:=by
 cases k with
 |fZ sz' t=>
  simp only [wz] at h;cases hc:Nat.beq sz sz'
  .simp [hc] at h
  .simp only [hc,cond_true,aj] at h;subst h;have:=au hc;subst this;exact ⟨_,_,rfl,rfl,oM.refl _,rfl⟩
 |rows sz' rs=>
  simp only [wz] at h;cases hc:Nat.beq sz sz'
  .simp [hc] at h
  .simp only [hc,cond_true,aj] at h;subst h;have:=au hc;subst this;exact ⟨_,_,rfl,rfl,xM,(xM (ρ:=ρ)).length⟩
 |map es=>simp [wz] at h|xC m t=>simp [wz] at h|it m n k=>simp [wz] at h|iD ty sz rs=>simp [wz] at h|mQ sz t i off x=>simp [wz] at h
theorem ajD {v:SV}(h:sc1 v=true):∃k t,v=.sc k t/\k≠.sl:=by
 cases v with
 |sc k t=>refine ⟨k,t,rfl,fun e=>?_⟩;subst e;simp [sc1] at h|_=>simp [sc1] at h
theorem aaE {ρ:List AV}{v:SV}(h:sc1 v=true):(v.den ρ).refs=[]:=by
 obtain ⟨k,t,rfl,hk⟩:=ajD h;cases k<;>first|rfl|exact absurd rfl hk
theorem TL {ρ:List AV}{a:Bool}{n:Nat}{v:SV}(h:OA a n v=true):v.cells.length=n/\lQ a (dK ρ v.cells)=v.den ρ/\(v.den ρ).refs=[]:=by
 unfold OA at h;split at h
 .rename_i l;simp only [ak] at h;refine ⟨au h.1,rfl,?_⟩;have h2:=aF.1 h.2;simp only [SV.den,AV.refs];clear h;induction l with
  |nil=>rfl|cons x r ih=>simp only [dK,jf,aaE (h2 x (by simp)),ih (fun y hy=>h2 y (by simp [hy])),cu]
 .simp only [ak] at h;have e:=au h.1;obtain ⟨k,t,rfl,hk⟩:=ajD h.2;exact ⟨e.symm,rfl,aaE h.2⟩
 .cases h
theorem ade {ρ:List AV}{m:MSh}{k:SB}{r:SV}(h:EZ m k=some r):∃es R,k.den ρ=.map es/\r.den ρ=.sl R false/\R.map (pV m)=es:=by
 cases k with
 |xC m' t=>
  simp only [EZ] at h;cases hc:decide (m=m')
  .simp [hc] at h
  .simp only [hc,cond_true,aj] at h;subst h;have:=of_decide_eq_true hc;subst this;exact ⟨_,_,rfl,rfl,rfl⟩
 |map es=>
  simp only [EZ] at h;cases hc:(es.all fun e=>OA m.ka m.kn e.1&&OA m.va m.vn e.2)
  .simp [hc] at h
  .simp only [hc,cond_true,aj] at h;subst h;refine ⟨_,_,rfl,rfl,?_⟩;rw [jd,List.map_map,List.map_map];apply List.map_congr_left;intro e he;have:=aF.1 hc e he;simp only [ak] at this;obtain ⟨a1,a2,-⟩:=TL (ρ:=ρ) this.1;obtain ⟨b1,b2,-⟩:=TL (ρ:=ρ) this.2;simp only [Function.comp,pV,jr];have hl:(dK ρ e.1.cells).length=m.kn:=(by rw [dX,a1]);rw [show (dK ρ e.1.cells++dK ρ e.2.cells).take m.kn=dK ρ e.1.cells by rw [<- hl];simp,show (dK ρ e.1.cells++dK ρ e.2.cells).drop m.kn=dK ρ e.2.cells by rw [<- hl];simp,a2,b2]
 |rows sz rs=>simp [EZ] at h|fZ sz t=>simp [EZ] at h|it m n k=>simp [EZ] at h|iD ty sz rs=>simp [EZ] at h|mQ sz t i off x=>simp [EZ] at h
theorem TM {P:Program}{ρ:List AV}{k:SB}{l:Tm}{sz:Nat}{rs:List (List AV)}(h:Vy k l=true)(hs:∀s∈ae4 k l,s.holds P ρ)(hk:k.den ρ=.rows sz rs):(l.den ρ).I.toNat=rs.length:=by
 cases k with
 |fZ sz' t=>
  simp only [SB.den,qO.rows.injEq] at hk;rw [X7 hs,<- hk.2]
 |rows sz' rs'=>
  simp only [SB.den,qO.rows.injEq] at hk;simp only [Vy] at h;split at h
  .rename_i n hn;rw [(eG hn).2,au h,<- hk.2,jd];simp
  .cases h
 |map es=>simp [Vy] at h|xC m t=>simp [Vy] at h|it m n k=>simp [Vy] at h|iD ty sz rs=>simp [Vy] at h|mQ sz t i off x=>simp [Vy] at h
theorem aaF {P:Program}{ρ:List AV}{k:SB}{off:Nat}{l:Tm}{sz:Nat}{rs:List (List AV)}(h:Vz k off l=true)(hs:∀s∈JK k off l,s.holds P ρ)(hk:k.den ρ=.rows sz rs):off<=rs.length/\(l.den ρ).I.toNat=rs.length-off:=by
 unfold Vz at h;unfold JK at hs;cases h0:Nat.beq off 0
 .simp only [h0,cond_false] at h hs;cases k with
  |fZ sz' t=>
   simp only [SB.den,qO.rows.injEq] at hk;have e:=Tm.beq_eq h;have h1:=hs _ (by simp:Side.tm (.bin .leq (.int .i64) (.li (.ofNat off)) (.rlen t))∈_);have h2:=hs _ (by simp:Side.tm (.bin .leq (.int .i64) (.rlen t) (.li 4294967296))∈_);have h1':(off:Int)<=rs.length:=by
    have:=of_decide_eq_true (show decide ((off:Int)<=nM (t.den ρ).R)=true from h1);rw [hk.2] at this;exact this
   have h2':(rs.length:Int)<=4294967296:=by
    have:=of_decide_eq_true (show decide (nM (t.den ρ).R<=(4294967296:Int))=true from h2);rw [hk.2] at this;exact this
   refine ⟨by omega,?_⟩;rw [e];simp only [Tm.den,oL,D.I,nM,hk.2];show (mD .i64 (rs.length:Int) (off:Int)).toNat=_;rw [ZK (by omega) (by omega)];omega
  |rows sz' rs'=>
   simp only [SB.den,qO.rows.injEq] at hk;dsimp only at h;split at h
   .rename_i n hn;have e:=au h;have hl:rs.length=rs'.length:=(by rw [<- hk.2,jd];simp);rw [(eG hn).2];omega
   .cases h
  |map es=>cases h
  |xC m t=>cases h
  |it m n k=>cases h
  |iD ty sz rs=>cases h
  |mQ sz t i off x=>cases h
 .simp only [h0,cond_true] at h hs;have:=au h0;subst this;exact ⟨dB _,by rw [TM h hs hk];rfl⟩
theorem PY {ρ:List AV}{sz off:Nat}{k:SB}{r:SV}(h:ayI sz k off=some r):∃rs R,k.den ρ=.rows sz rs/\r.den ρ=.sl R false/\oM (rs.drop off) R/\(rs.drop off).length=R.length:=by
 unfold ayI at h;cases h0:Nat.beq off 0
 .simp only [h0,cond_false] at h;cases k with
  |fZ sz' t=>
   dsimp only at h;cases hc:Nat.beq sz sz'
   .simp [hc] at h
   .simp only [hc,cond_true,aj] at h;subst h;have:=au hc;subst this;exact ⟨_,_,rfl,rfl,oM.refl _,rfl⟩
  |rows sz' rs=>
   dsimp only at h;cases hc:Nat.beq sz sz'
   .simp [hc] at h
   .simp only [hc,cond_true,aj] at h;subst h;have:=au hc;subst this;refine ⟨_,_,rfl,rfl,?_,?_⟩
    .have e:(fQ ρ rs).drop off=fQ ρ (rs.drop off):=(by rw [jd,jd,List.map_drop]);rw [e];exact xM
    .have e:(fQ ρ rs).drop off=fQ ρ (rs.drop off):=(by rw [jd,jd,List.map_drop]);rw [e];exact (xM (ρ:=ρ)).length
  |map es=>cases h
  |xC m t=>cases h
  |it m n k=>cases h
  |iD ty sz rs=>cases h
  |mQ sz t i off x=>cases h
 .simp only [h0,cond_true] at h;have:=au h0;subst this;exact H6 h
theorem WH {P:Program}{ρ:List AV}{mZ:nX}:∀{l:List (Nat×Vx)},(∀s∈TI mZ l,s.holds P ρ)->∀{i t b sz:Nat},l[i]?=some (t,.os b sz)->∀{e:oq} {b' sz' off:Nat} {len:Tm} {k:SB},mZ.fr.get t=some e->e.v=.os b' sz' off len->mZ.ah.get b'=some k->∀s∈JK k off len,s.holds P ρ
 |(t0,p0)::r,h,0,t,b,sz,hi,e,b',sz',off,len,k,he,hv,hk,s,hs=>by
  simp at hi;obtain ⟨rfl,rfl⟩:=hi;refine h s ?_;simp only [TI,he,hv,hk,aH];exact .inl hs
 |(t0,p0)::r,h,i+1,t,b,sz,hi,e,b',sz',off,len,k,he,hv,hk,s,hs=>by
  refine WH (l:=r) (fun s hs=>h s ?_) (by simpa using hi) he hv hk s hs;cases p0<;>simp [TI,hs]
 |[],h,i,t,b,sz,hi,_,_,_,_,_,_,_,_,_,_,_=>by simp at hi
theorem WI {pc:Pc}{mZ:nX}:∀{l:List (Nat×Vx)} {f:List (SV×Src)},aay pc mZ l=some f->f.length=l.length/\∀(i t:Nat) (p:Vx),l[i]?=some (t,p)->∃e x s,mZ.fr.get t=some e/\e.sure pc=true/\VA mZ.ah e.v p=some (x,s)/\f[i]?=some (x,s)
 |[],f,h=>by simp only [aay,aj] at h;subst h;exact ⟨rfl,by simp⟩
 |(t0,p0)::r,f,h=>by
  simp only [aay] at h;split at h
  .cases h
  .rename_i e he;cases hs:e.sure pc
   .simp [hs] at h
   .simp only [hs,cond_true] at h;split at h
    .rename_i x l hx hl;simp only [aj] at h;subst h;obtain ⟨h1,h2⟩:=WI hl;refine ⟨by simp [h1],fun i t p hi=>?_⟩;cases i with
     |zero=>
      simp only [List.getElem?_cons_zero,aj,aJ] at hi;obtain ⟨rfl,rfl⟩:=hi;exact ⟨e,x.1,x.2,he,hs,hx,rfl⟩
     |succ i=>
      obtain ⟨e,x,s,q1,q2,q3,q4⟩:=h2 i t p (by simpa using hi);exact ⟨e,x,s,q1,q2,q3,by simpa using q4⟩
    .cases h
theorem WJ {mZ:nX}:∀{l:List (Nat×List Kd)} {f:List SV},aaz mZ l=some f->f.length=l.length/\∀(i b:Nat) (ks:List Kd),l[i]?=some (b,ks)->∃row,mZ.ah.get b=some (.rows ks.length [row])/\pW ks row=true/\f[i]?=some (.agg (jK row))
 |[],f,h=>by simp only [aaz,aj] at h;subst h;exact ⟨rfl,by simp⟩
 |(b0,k0)::r,f,h=>by
  simp only [aaz] at h;split at h
  .rename_i sz row hrow;cases hc:Nat.beq sz k0.length&&pW k0 row
   .simp [hc] at h
   .simp only [hc,cond_true] at h;split at h
    .rename_i l hl;simp only [aj] at h;subst h;simp only [ak] at hc;have hsz:=au hc.1;subst hsz;obtain ⟨h1,h2⟩:=WJ hl;refine ⟨by simp [h1],fun i b ks hi=>?_⟩;cases i with
     |zero=>
      simp only [List.getElem?_cons_zero,aj,aJ] at hi;obtain ⟨rfl,rfl⟩:=hi;exact ⟨row,hrow,hc.2,rfl⟩
     |succ i=>
      obtain ⟨row,q1,q2,q3⟩:=h2 i b ks (by simpa using hi);exact ⟨row,q1,q2,by simpa using q3⟩
    .cases h
  .cases h
theorem WL {mZ:nX}:∀{l:List (Nat×Tb)} {f:List SV},aaA mZ l=some f->f.length=l.length/\∀(i b:Nat) (sz:Tb),l[i]?=some (b,sz)->∃k x,mZ.ah.get b=some k/\sz.of k=some x/\f[i]?=some x
 |[],f,h=>by simp only [aaA,aj] at h;subst h;exact ⟨rfl,by simp⟩
 |(b0,k0)::r,f,h=>by
  simp only [aaA] at h;split at h
  .rename_i k hk;split at h
   .rename_i x l hx hl;simp only [aj] at h;subst h;obtain ⟨h1,h2⟩:=WL hl;refine ⟨by simp [h1],fun i b sz hi=>?_⟩;cases i with
    |zero=>
     simp only [List.getElem?_cons_zero,aj,aJ] at hi;obtain ⟨rfl,rfl⟩:=hi;exact ⟨k,x,hk,hx,rfl⟩
    |succ i=>
     obtain ⟨row,x,q1,q2,q3⟩:=h2 i b sz (by simpa using hi);exact ⟨row,x,q1,q2,by simpa using q3⟩
   .cases h
  .cases h
theorem WM {mZ:nX}:∀{l:List (Nat×Ob)} {f:List (SV×Src)},aaB mZ l=some f->f.length=l.length/\∀(i b:Nat) (o:Ob),l[i]?=some (b,o)->∃(u:List SV) (v:SV) (q:List SV) (x:SV) (s:Src),mZ.ah.get b=some (.rows o.n [u++v::q])/\obV mZ b o=some v/\
  pW o.pre u=true/\pW o.post q=true/\VA mZ.ah v (.os o.b o.sz)=some (x,s)/\f[i]?=some (.agg (jK u++x::jK q),s)
 |[],f,h=>by simp only [aaB,aj] at h;subst h;exact ⟨rfl,by simp⟩
 |(b0,o0)::r,f,h=>by
  simp only [aaB] at h;split at h
  .rename_i sz row hrow;cases hc:Nat.beq sz o0.n
   .simp [hc] at h
   .simp only [hc,cond_true] at h;have hsz:=au hc;subst hsz;split at h
    .rename_i x l hx hl;simp only [aj] at h;subst h;obtain ⟨h1,h2⟩:=WM hl;refine ⟨by simp [h1],fun i b o hi=>?_⟩;cases i with
     |zero=>
      simp only [List.getElem?_cons_zero,aj,aJ] at hi;obtain ⟨rfl,rfl⟩:=hi;simp only [arJ] at hx;split at hx
      .rename_i v q hv;cases hk:(pW o0.pre (row.take o0.pre.length)&&pW o0.post q)
       .simp [hk] at hx
       .simp only [hk,cond_true] at hx;simp only [ak] at hk;split at hx
        .rename_i y hy;simp only [aj] at hx;subst hx;have hrow':row.take o0.pre.length++v::q=row:=(by rw [<- hv];exact List.take_append_drop _ _);refine ⟨row.take o0.pre.length,v,q,y.1,y.2,?_,?_,hk.1,hk.2,hy,rfl⟩
         .rw [hrow'];exact hrow
         .unfold obV;rw [hrow];simp [hv]
        .cases hx
      .cases hx
     |succ i=>
      obtain ⟨u,v,q,x,s,q1,q2⟩:=h2 i b o (by simpa using hi);exact ⟨u,v,q,x,s,q1,q2.1,q2.2.1,q2.2.2.1,q2.2.2.2.1,by simpa using q2.2.2.2.2⟩
    .cases h
  .cases h
theorem aaG {P:Program}{ρ:List AV}{mZ:nX}:∀{l:List (Nat×Ob)},(∀s∈ag8 mZ l,s.holds P ρ)->∀{i b:Nat} {o:Ob},l[i]?=some (b,o)->∀{b' sz' off:Nat} {len:Tm} {k:SB},obV mZ b o=some (.os b' sz' off len)->mZ.ah.get b'=some k->∀s∈JK k off len,s.holds P ρ
 |(b0,o0)::r,h,0,b,o,hi,b',sz',off,len,k,hv,hk,s,hs=>by
  simp at hi;obtain ⟨rfl,rfl⟩:=hi;refine h s ?_;simp only [ag8,hv,hk,aH];exact .inl hs
 |(b0,o0)::r,h,i+1,b,o,hi,b',sz',off,len,k,hv,hk,s,hs=>
  aaG (l:=r) (fun s hs=>h s (by simp [ag8,hs])) (by simpa using hi) hv hk s hs
 |[],h,i,b,o,hi,_,_,_,_,_,_,_,_,_=>by simp at hi
theorem TN : ∀{l:List (Nat×Ob)} {f:List (SV×Src)} {i b:Nat} {o:Ob} {x:SV} {s:Src},l[i]?=some (b,o)->f[i]?=some (x,s)->(o.b,s)∈Hz l f
 |(b0,o0)::r,(x0,s0)::g,0,b,o,x,s,h1,h2=>by
  simp at h1 h2;obtain ⟨rfl,rfl⟩:=h1;obtain ⟨rfl,rfl⟩:=h2;simp [Hz]
 |(b0,o0)::r,(x0,s0)::g,i+1,b,o,x,s,h1,h2=>by
  have ih:=TN (l:=r) (f:=g) (i:=i) (by simpa using h1) (by simpa using h2);simp [Hz,ih]
 |[],f,i,b,o,x,s,h1,h2=>by simp at h1
 |_::_,[],i,b,o,x,s,h1,h2=>by simp at h2
theorem qw : ∀{l:List SV} {i:Nat} {x:SV},HY l=true->l[i]?=some x->x.zx=[]
 |y::r,0,x,h,hi=>by
  simp at hi;subst hi;simp only [HY,ak] at h;have:=h.1;split at this
  .assumption
  .cases this
 |y::r,i+1,x,h,hi=>by
  simp only [HY,ak] at h;exact qw h.2 (by simpa using hi)
 |[],i,x,h,hi=>by simp at hi
def Own.shift (k:Nat):Own->Own
 | .at c o=>.at c (o+k)|x=>x
theorem Own.TP {x:Own}{k c o:Nat}(h:x.shift k=.at c o):∃o',x=.at c o':=by
 cases x with
 |«at» a b=>simp only [Own.shift,Own.at.injEq] at h;exact ⟨b,by rw [h.1]⟩|free=>cases h
 |empty=>cases h
def E8 (E:Env):Src->Own
 | .no=>.free| .empty=>.empty| .at b' k=>(E.own b').shift k
def H7 (E:Env):List (Nat×Src)->Nat->Own
 |[],_=>.free|(b,s)::r,x=>if b=x then E8 E s else H7 E r x
theorem xQ {E:Env}{nE nx:Nat}{p:zD}{c:nX}:∀{l:List (Nat×Src)} {b:Nat} {s:Src},TJ nE nx p c l=true->(b,s)∈l->H7 E l b=E8 E s/\nE<=b/\b<nx/\(∀b' k,s=.at b' k->nE<=b'\/((∀ks,(b',ks)∉p.bl)/\(∀sz,(b',sz)∉p.tb)/\(∀o,(b',o)∉p.ob)/\c.ah.get b'=none))
 |(b0,s0)::r,b,s,h,hm=>by
  simp only [TJ,ak] at h;obtain ⟨h1,h2,h3,h4,h5⟩:=h;cases hm with
  |head=>
   refine ⟨by simp [H7],aC h1,aC h2,fun b' k e=>?_⟩;subst e;simp only [ak,aY,Bool.not_eq_true',List.any_eq_false,Option.isNone_iff_eq_none] at h5;rcases h5.2 with h6|⟨h6,h7,h9,h8⟩
   .exact .inl (aC h6)
   .exact .inr ⟨fun ks hk=>by have:=h6 _ hk;simp at this,fun ks hk=>by have:=h7 _ hk;simp at this,fun ks hk=>by have:=h9 _ hk;simp at this,h8⟩
  |tail _ hm=>
   have ih:=xQ (E:=E) h4 hm;have hne:b0≠b:=by
    rw [aF] at h3;have:=h3 _ hm;intro e;subst e;simp at this
   simp only [H7,if_neg hne];exact ih
theorem E_ {E:Env}:∀{l:List (Nat×Src)} {b:Nat},(∀s,(b,s)∉l)->H7 E l b=.free
 |[],b,_=>rfl|(b0,s0)::r,b,h=>by
  have hne:b0≠b:=by intro e;subst e;exact h s0 (by simp)
  simp only [H7,if_neg hne];exact E_ (fun s hs=>h s (by simp [hs]))
theorem aaH {nE nx:Nat}{p:zD}{c:nX}:∀{l:List (Nat×Src)} {b1 b2 b' k1 k2:Nat},TJ nE nx p c l=true->(b1,.at b' k1)∈l->(b2,.at b' k2)∈l->b1=b2
 |(b0,s0)::r,b1,b2,b',k1,k2,h,h1,h2=>by
  simp only [TJ,ak] at h;obtain ⟨_,_,_,q4,q5⟩:=h;cases h1 with
  |head=>
   cases h2 with
   |head=>rfl|tail _ h2=>
    simp only [ak,aF] at q5;have:=q5.1 _ h2;simp at this
  |tail _ h1=>
   cases h2 with
   |head=>
    simp only [ak,aF] at q5;have:=q5.1 _ h1;simp at this
   |tail _ h2=>exact aaH q4 h1 h2
theorem TQ : ∀{l:List (Nat×Vx)} {f:List (SV×Src)} {i t b sz:Nat} {x:SV} {s:Src},l[i]?=some (t,.os b sz)->f[i]?=some (x,s)->(b,s)∈E5 l f
 |(t0,p0)::r,(x0,s0)::g,0,t,b,sz,x,s,h1,h2=>by
  simp at h1 h2;obtain ⟨rfl,rfl⟩:=h1;obtain ⟨rfl,rfl⟩:=h2;simp [E5]
 |(t0,p0)::r,(x0,s0)::g,i+1,t,b,sz,x,s,h1,h2=>by
  have ih:=TQ (l:=r) (f:=g) (i:=i) (by simpa using h1) (by simpa using h2);cases p0<;>simp [E5,ih]
 |[],f,i,t,b,sz,x,s,h1,h2=>by simp at h1
 |_::_,[],i,t,b,sz,x,s,h1,h2=>by simp at h2
def Tr.only (tr:Tr oq):List Nat->Tr oq
 |[]=>.e|t::r=>match tr.get t with|some x=>(Tr.only tr r).upd uf t (some x)|none=>Tr.only tr r
def ayy (th:Tr SB):Nat->List Nat->Tr SB->Tr SB
 |0,_,acc=>acc|n+1,[],acc=>acc|n+1,b::r,acc=>match acc.get b with
  |some _=>ayy th n r acc|none=>match th.get b with
   |none=>ayy th n r acc|some k=>ayy th n ((match k with | .rows _ rs=>BX rs | .fZ _ _=>[] | .xC _ _=>[] | .map es=>zy (es.map (·.1))++zy (es.map (·.2)) | .it m _ _=>[m] | .iD _ _ rs=>BX rs | .mQ _ _ _ _ x=>x.zx)++r) (acc.upd uf b (some k))
def nX.only (st:nX)(l:List Nat):nX:=
 ⟨st.fr.only l,ayy st.ah 2000 (l.flatMap fun t=>match st.fr.get t with|some e=>e.v.zx|none=>bif Nat.ble 1000000 t then [t-1000000] else []) .e,st.nx⟩
def Tr.TR {α:Type}(tr:Tr α):List Nat->Tr α
 |[]=>.e|t::r=>match tr.get t with|some x=>(Tr.TR tr r).upd uf t (some x)|none=>Tr.TR tr r
theorem Tr.DR {α:Type}{tr:Tr α}:∀{l:List Nat} {t:Nat} {y:α},(Tr.TR tr l).get t=some y->t∈l/\tr.get t=some y
 |[],t,y,h=>by simp [Tr.TR,Tr.get] at h
 |s::r,t,y,h=>by
  simp only [Tr.TR] at h;split at h
  .rename_i x hx;rcases Tr.kW _ _ _ _ _ _ h with ⟨rfl,h1⟩|⟨-,h1⟩
   .simp only [aj] at h1;subst h1;exact ⟨by simp,hx⟩
   .have:=Tr.DR h1;exact ⟨by simp [this.1],this.2⟩
  .have:=Tr.DR h;exact ⟨by simp [this.1],this.2⟩
def aaI (th:Tr SB)(b:Nat):Bool:=match th.get b with|some (.map _)=>false|some (.xC _ _)=>false|some (.it _ _ _)=>false|some (.iD _ _ _)=>false|_=>true
def nX.cut (st:nX)(l:List Nat):nX:=⟨st.fr.TR l,(st.only l).ah.TR ((List.range st.nx).filter (aaI (st.only l).ah)),st.nx⟩
structure DT where
 ins:List Nat
 p:zD
 xs:List (Exit×zD)
def Yy : List Nat->Tr SB->Tr SB
 |[],th=>th|b::r,th=>(Yy r th).upd uf b none
theorem KP : ∀{l:List Nat} {th:Tr SB} {b:Nat} {k:SB},(Yy l th).get b=some k->th.get b=some k
 |[],th,b,k,h=>h|c::r,th,b,k,h=>by
  simp only [Yy] at h;rcases Tr.kW _ _ _ _ _ _ h with ⟨_,h1⟩|⟨_,h1⟩
  .cases h1
  .exact KP h1
def nX.Qn (st:nX)(h:DT):nX:=⟨(st.cut h.ins).fr,Yy (ajC st h.p.ob) (st.cut h.ins).ah,st.nx⟩
def SV.slT (th:Tr SB):SV->List Tm
 | .sc .sl t=>[t]| .agg l=>l.filterMap fun x=>match x with | .sc .sl t=>some t|_=>none
 | .os b _ _ l=>match th.get b with
  |some (.fZ _ t)=>bif l.beq (.rlen t) then [t] else []
  |_=>[]
 |_=>[]
def amG (l:List Tm)(t:Tm):List Tm:=bif l.any fun x=>x.beq t then l else l++[t]
def aoo (st:nX)(t:Nat):List Tm:=match st.fr.get t with
 |some e=>(match e.h with | []=>e.v.slT st.ah|_=>[])|none=>[]
def amH (st:nX)(ins:List Nat):List Tm:=(ins.flatMap (aoo st)).foldl amG []
def amI (id:Nat):Exit->Exit->Bool
 | .normal,.exit j=>Nat.beq j id| .exit i,.exit j=>Nat.beq i j&&!Nat.beq j id| .ret,.ret=>true|_,_=>false
def TS (id:Nat)(e:Exit):Nat->List (Exit×zD)->Option (Nat×zD)
 |_,[]=>none|k,x::r=>bif amI id x.1 e then some (k,x.2) else TS id e (k+1) r
def ag_ (h:DT)(id base nE:Nat)(cs:nX)(pc:Pc)(o:Out):Option (Tm×Nat×List SV):=
 match o.e with
 | .normal=>match aaD pc base nE h.ins h.p cs o.st with|some v=>some (o.g,0,v)|none=>none
 |e=>match TS id e 0 h.xs with
  |some (k,p)=>match aaD pc base nE h.ins p cs o.st with|some v=>some (o.g,k+1,v)|none=>none
  |none=>none
def aaJ (h:DT)(id base nE:Nat)(cs:nX):Pc->List Out->Option (List (Tm×Nat×List SV))
 |_,[]=>some []|pc,[o]=>match ag_ h id base nE cs pc o with|some x=>some [x]|none=>none
 |pc,o::o'::r=>match ag_ h id base nE cs (gJ o.g true pc) o with
  |none=>none|some x=>match aaJ h id base nE cs (gJ o.g false pc) (o'::r) with|some l=>some (x::l)|none=>none
def aaK (h:DT)(id:Nat)(o:Out):List Side:=
 match o.e with
 | .normal=>KO o.st h.p|e=>match TS id e 0 h.xs with
  |some (_,p)=>KO o.st p|none=>[]
def ae7 (h:DT)(id:Nat):Pc->List Out->List (Pc×Side)
 |_,[]=>[]|pc,[o]=>(aaK h id o).map fun s=>(pc,s)
 |pc,o::o'::r=>(aaK h id o).map (fun s=>(gJ o.g true pc,s))++ae7 h id (gJ o.g false pc) (o'::r)
def Ci (cs:nX)(nv:Nat):Nat->Nat->List (Exit×zD)->List Out
 |_,_,[]=>[]|k,q,[x]=>[⟨.lb true,x.1,ay8 x.2 q cs⟩]|k,q,x::y::r=>⟨.bin .eql (.int .i64) (.var nv []) (.li k),x.1,ay8 x.2 q cs⟩::Ci cs nv (k+1) (q+x.2.m) (y::r)
end Go.Fw
end
section
namespace Go.Fw
variable [iT]
section
variable {P : Program} {base:Nat} {w w':World} {E:Env} {ah:AH} {F:Nat->Prop}
theorem ajE (hh:dM base w E ah F){q c:Nat}{o0:Obj}(o1:Obj)(ho:E.own q=.at c 0)(hsep:∀b k c' o',ah b=some k->E.own b=.at c' o'->c'≠c)(hnf:∀off,¬E.fix c off)
  (hc:w.heap[c]?=some o0) (hnc:∀arr t f,o0≠.cells arr t f) (d:Nat) :
  Step base w E {w with drawn:=d,heap:=w.heap.setIfInBounds c o1} E/\dM base {w with drawn:=d,heap:=w.heap.setIfInBounds c o1} E ah F:=by
 obtain ⟨hbase,hlt⟩:=hh.je q c 0 ho;obtain ⟨g1,g2⟩:=Dt (o':=o1) hc;have hx:Ext w E {w with drawn:=d,heap:=w.heap.setIfInBounds c o1} E:=by
  refine ⟨fun _ _ h=>h,fun c' off h=>?_,fun _ _=>rfl,fun c' ar t fz h=>?_⟩
  .have:c'≠c:=fun e=>hnf off (e▸h);simp only [World.cell?];rw [g2 c' this]
  .have:c'≠c:=fun e=>by subst e;rw [hc] at h;cases h;exact hnc _ _ _ rfl
   exact ⟨ar,fz,by show (w.heap.setIfInBounds c _)[c']?=_;rw [g2 c' this];exact h,rfl⟩
 refine ⟨⟨hx,⟨rfl,rfl,rfl,by simp,fun j hj=>g2 j (by omega)⟩,fun _ _ _ h=>h,fun c' _ hno=>g2 c' (fun e=>hno q 0 (e▸ho)),fun b c o h _=>⟨b,o,h⟩,fun _ _ h _=>.inl h⟩,?_⟩;refine ⟨fun b' k' hb'=>?_,hh.sep,hh.fresh,fun c' off h=>?_,by simpa using hh.bs,fun b c o h=>by simpa using hh.je b c o h⟩
 .exact (hh.blk b' k' hb').keep hx (fun c' o' ho'=>g2 c' (hsep b' k' c' o' hb' ho')) (fun _ _ _ _ h=>h)
 .have:=hh.iY c' off h;simpa using this
theorem Ae : ∀{l m:List Nat},l.Nodup->(∀x∈l,x∈m)->l.length<=m.length
 |[],m,_,_=>by simp
 |a::l,m,h,hs=>by
  obtain ⟨h1,h2⟩:=List.nodup_cons.1 h;have ha:a∈m:=hs a (by simp);have ih:=Ae (l:=l) (m:=m.erase a) h2 (fun x hx=>by
   have:x≠a:=fun e=>h1 (e▸hx);exact (List.mem_erase_of_ne this).2 (hs x (by simp [hx])))
  rw [List.length_erase_of_mem ha] at ih;have:0<m.length:=List.length_pos_of_mem ha;simp;omega
theorem WO {n:Nat}{s:List Nat}(hs:s.Nodup)(hlt:∀j∈s,j<n)(hl:s.length=n):∀j,j<n->j∈s:=by
 intro j hj;apply Classical.byContradiction;intro hno;have:=Ae (l:=j::s) (m:=List.range n) (List.nodup_cons.2 ⟨hno,hs⟩) (fun x hx=>by
  cases hx with
  |head=>exact List.mem_range.2 hj|tail _ hx=>exact List.mem_range.2 (hlt x hx))
 simp at this;omega
theorem ajF {cq cm n:Nat}{s:List Nat}{jX:Array MapEntry}{ty:TypeId}(hq:w.heap[cq]?=some (.mapIter (some cm) n s.toArray n))(hm:w.heap[cm]?=some (.map jX n))
  (hb:∀(i:Nat) (a:MapEntry),jX[i]?=some a->a.born=i) (hn:jX.size=n) (hs:s.Nodup) (hlt:∀j∈s,j<n) :
  (s.length=n/\(Instr.next (.pointer (some ⟨cq,0,none⟩)) false ty).run P w=.ok (.tuple #[.bool false]) w)\/
  ∃j ce d,jX[j]?=some ce/\j∉s/\(Instr.next (.pointer (some ⟨cq,0,none⟩)) false ty).run P w =
   .ok (.tuple #[.bool true,ce.key,ce.val]) {w with drawn:=d,heap:=w.heap.setIfInBounds cq (.mapIter (some cm) n (s++[j]).toArray n)}:=by
 have hgi:(getObj cq).run P w=.ok (.mapIter (some cm) n s.toArray n) w:=by simp [getObj,Sem.run,hq]
 have hgm:(getObj cm).run P w=.ok (.map jX n) w:=by simp [getObj,Sem.run,hm]
 have hcond:(!s.toArray.isEmpty&&!jX.isEmpty&&jX.all (·.born>=n))=false:=by
  cases he:jX.isEmpty
  .have h0:0<jX.size:=by
    rcases Nat.eq_zero_or_pos jX.size with e|e
    .have:jX=#[]:=Array.eq_empty_of_size_eq_zero e;subst this;simp at he
    .exact e
   have:jX.all (·.born>=n)=false:=by
    rw [Array.all_eq_false];refine ⟨0,h0,?_⟩;have:=hb 0 jX[0] (by simp [h0]);simp [this];omega
   rw [this];simp
  .simp
 have hin:∀x∈jX.toList,x.born<n/\jX[x.born]?=some x:=by
  intro x hx;obtain ⟨i,hi⟩:=bF.1 hx;have hi':jX[i]?=some x:=by simpa using hi
  have:=hb i x hi';have hlt':=(bD.1 hi').1;rw [this];exact ⟨by omega,hi'⟩
 obtain ⟨left,hleft⟩:∃left,left=jX.filter fun e=>!s.toArray.contains e.born:=⟨_,rfl⟩;have hlm:∀x,x∈left.toList↔x∈jX.toList/\x.born∉s:=by
  intro x;rw [hleft,Array.toList_filter,List.mem_filter];simp
 have hold:left.filter (fun e=>decide (e.born<n))=left:=by
  apply Array.ext';rw [Array.toList_filter,List.filter_eq_self];intro x hx;simpa using (hin x ((hlm x).1 hx).1).1
 have hnew:left.filter (fun e=>decide (e.born>=n))=#[]:=by
  apply Array.ext';rw [Array.toList_filter];simp only [List.filter_eq_nil_iff,decide_eq_true_eq];intro x hx;have:=(hin x ((hlm x).1 hx).1).1;omega
 rcases Nat.lt_or_ge s.length n with hlen|hlen
 .right
  
  obtain ⟨j0,hj0,auj⟩:∃j,j<n/\j∉s:=by
   apply Classical.byContradiction;intro hno;have hsub:∀j∈List.range n,j∈s:=fun j hj=>Classical.byContradiction fun h=>hno ⟨j,List.mem_range.1 hj,h⟩;have:=Ae (List.nodup_range (n:=n)) hsub;simp at this;omega
  have hne:left.size≠0:=by
   have:jX[j0]∈left.toList:=(hlm _).2 ⟨by simp,by rw [hb j0 jX[j0] (by simp [hn,hj0])];exact auj⟩;intro h0;have h1:left.toList.length=0:=(by simpa using h0);rw [List.length_eq_zero_iff] at h1;rw [h1] at this;cases this
  have hempty:left.isEmpty=false:=by
   cases hh:left.isEmpty
   .rfl
   .rw [Array.isEmpty_iff_size_eq_zero] at hh;exact absurd hh hne
  
  obtain ⟨i,w2,hch,hi,hw2⟩:∃i w2,(choose (.mapNext left.size)).run P w=.ok i w2/\i<left.size/\∃d,w2={w with drawn:=d}:=by
   rw [run_choose_drew];split
   .rename_i hf;refine ⟨0,w,rfl,by omega,w.drawn,rfl⟩
   .refine ⟨_,_,rfl,?_,w.drawn+1,rfl⟩;show _ % _<_;exact Nat.mod_lt _ (by omega)
  obtain ⟨d,rfl⟩:=hw2;have hce:left[i]∈left.toList:=by simp
  obtain ⟨h1,h2⟩:=(hlm _).1 hce;obtain ⟨h3,h4⟩:=hin _ h1;refine ⟨left[i].born,left[i],d,h4,h2,?_⟩;have hset:∀o,(setObj cq o).run P {w with drawn:=d}=.ok () {w with drawn:=d,heap:=w.heap.setIfInBounds cq o}:=fun o=>by simp [setObj,Sem.run,hq]
  simp only [Instr.next,Sem.run_bind,hgi,hgm,Result.andThen_ok];simp only [hcond,<- hleft,aP,if_false,Sem.run_pure,Result.andThen_ok,hold,hnew];simp only [hempty,aP,if_false,Array.append_empty,Array.empty_append,Array.size_map,hch,Result.andThen_ok];rw [Sem.run_bind,hch];simp [hi,hset,Result.andThen]
 .left;have hl:s.length=n:=by
   have:=Ae hs (m:=List.range n) fun x hx=>List.mem_range.2 (hlt x hx);simp at this;omega
  refine ⟨hl,?_⟩;have hemp:left=#[]:=by
   apply Array.ext';rw [show (#[]:Array MapEntry).toList=[] from rfl,List.eq_nil_iff_forall_not_mem];intro x hx;obtain ⟨h1,h2⟩:=(hlm x).1 hx;exact h2 (WO hs hlt hl _ (hin x h1).1)
  simp only [Instr.next,Sem.run_bind,hgi,hgm,Result.andThen_ok];simp only [hcond,<- hleft,hemp,aP,if_false,Sem.run_pure,Result.andThen_ok];simp [Question.forced]
theorem aha {cq cm n j:Nat}{s:List Nat}{jX:Array MapEntry}{ce:MapEntry}(hq:w.heap[cq]?=some (.mapIter (some cm) n (s++[j]).toArray n))(hm:w.heap[cm]?=some (.map jX n))
  (hb:∀(i:Nat) (a:MapEntry),jX[i]?=some a->a.born=i) (hj:jX[j]?=some ce) :
  (Instr.entry (.pointer (some ⟨cq,0,none⟩))).run P w=.ok (.tuple #[ce.key,ce.val]) w:=by
 have hgi:(getObj cq).run P w=.ok (.mapIter (some cm) n (s++[j]).toArray n) w:=by simp [getObj,Sem.run,hq]
 have hgm:(getObj cm).run P w=.ok (.map jX n) w:=by simp [getObj,Sem.run,hm]
 have hf:jX.find? (fun e=>e.born == j)=some ce:=by
  rw [<- Array.find?_toList,NW (g:=fun e:MapEntry=>e.born) jX.toList 0 j (dB _) (fun i a h=>by simpa using hb i a (by simpa using h))];simpa using hj
 have hbk:(s++[j]).toArray.back?=some j:=by simp
 simp only [Instr.entry,Sem.run_bind,hgi,Result.andThen_ok,hbk,hgm];simp [hf]
theorem H8 {ops:Array Oper}{i:Nat}{o:Oper}{rest:List Nat}{Q:Exit->Act->World->Prop}{a:Act}(ho:ops[i]?=some o)(hg:o.guard=none)(h:o.wp P a w (wpOps P ops Q rest) Q):wpOps P ops Q (i::rest) a w:=by
 rw [wpOps_cons];unfold wpOp;rw [ho];have:Region.wanted o (yielded ops a.tmps)=true:=by unfold Region.wanted;rw [hg]
 dsimp only;rw [if_pos this];exact .inl h
theorem xR {ops:Array Oper}{i:Nat}{o:Oper}{rest:List Nat}{Q:Exit->Act->World->Prop}{a:Act}{fr:jB}{x:AV}{d:Nat}(hh:dM base w E ah F)(hfr:tY w E fr a.tmps)(ho:ops[i]?=some o)(hg:o.guard=none)(hd:o.dst=some d)
  (hpu:zk o.op=true) (h:Qi P 0 fr ah o.op (fun r=>r.v=x)) (hn:∀a':Act,a'.defers=a.defers->tY w E (rC fr d x) a'.tmps->wpOps P ops Q rest a' w):wpOps P ops Q (i::rest) a w:=by
 refine H8 ho hg (aiw hh hfr hpu h fun r v hK _ hv=>?_);rw [hK] at hv;have:=hfr.put o.dst hv;rw [hd] at this;exact hn _ (ayq _ _ _) (by rw [hd];exact this)
def ay7 (es:List (AV×AV))(i j:Nat):Bool:=match es[j]? with|some e=>Nat.beq (kOf e.1) i|none=>false
def Marked (es:List (AV×AV))(s:List Nat)(rs rs':List (List AV)):Prop:=rs'.length=rs.length/\∀i,i<rs.length->rs'[i]?=if s.any (ay7 es i)=true then some TT else rs[i]?
theorem Marked.set {es:List (AV×AV)}{s:List Nat}{rs rs':List (List AV)}(h:Marked es s rs rs'){j:Nat}{e:AV×AV}(hj:es[j]?=some e):Marked es (s++[j]) rs (rs'.set (kOf e.1) TT):=by
 refine ⟨by rw [List.length_set];exact h.1,fun i hi=>?_⟩;rw [List.getElem?_set];have hkey:ay7 es i j=Nat.beq (kOf e.1) i:=by unfold ay7;rw [hj]
 rw [List.any_append,List.any_cons,List.any_nil,Bool.or_false,hkey];by_cases hk:kOf e.1=i
 .subst hk;have:kOf e.1<rs'.length:=by rw [h.1];exact hi
  have hb:Nat.beq (kOf e.1) (kOf e.1)=true:=by simp
  rw [if_pos rfl,if_pos this,hb,Bool.or_true,if_pos rfl]
 .have hb:Nat.beq (kOf e.1) i=false:=by
   cases hbb:Nat.beq (kOf e.1) i
   .rfl
   .exact absurd (au hbb) hk
  rw [if_neg hk,hb,Bool.or_false];exact h.2 i hi
theorem Marked.all {es:List (AV×AV)}{s:List Nat}{rs rs':List (List AV)}(h:Marked es s rs rs')(hs:s.Nodup)(hlt:∀j∈s,j<es.length)(hl:s.length=es.length) :
  ∀i,i<rs.length->rs'[i]?=if es.any (fun e=>Nat.beq (kOf e.1) i)=true then some TT else rs[i]?:=by
 intro i hi;rw [h.2 i hi];have:s.any (ay7 es i)=es.any (fun e=>Nat.beq (kOf e.1) i):=by
  rw [Bool.eq_iff_iff,List.any_eq_true,List.any_eq_true];constructor
  .rintro ⟨j,hj,hk⟩;unfold ay7 at hk;split at hk
   .rename_i e he;exact ⟨e,aG he,hk⟩
   .cases hk
  .rintro ⟨e,he,hk⟩;obtain ⟨j,hj⟩:=bF.1 he;have hjl:=(aA.1 hj).1;exact ⟨j,WO hs hlt hl j hjl,by unfold ay7;rw [hj];exact hk⟩
 rw [this]
structure um where
 (it tn tb te tk t8 tD d1 d2 d3:Nat)
 (T TB:TypeId)
def um.ts (m:um):List Nat:=[m.tn,m.tb,m.te,m.tk,m.t8,m.d1,m.d2,m.d3]
structure aop (m:um)(o1 o2 p1 p2 p3 q1 q2 q3 q4:Oper):Prop where
 o1:o1.op=.next (.tmp m.it) false/\o1.dst=some m.tn/\o1.guard=none
 o2:o2.op=.extract (.tmp m.tn) 0/\o2.dst=some m.tb/\o2.guard=none
 p1:p1.op=.entry (.tmp m.it)/\p1.dst=some m.te/\p1.guard=none
 p2:p2.op=.extract (.tmp m.te) 0/\p2.dst=some m.tk/\p2.guard=none
 p3:p3.op=.assign (.tmp m.tk)/\p3.dst=some m.t8/\p3.guard=none
 q1:q1.op=.move (.tmp m.tD)/\q1.dst=some m.d1/\q1.guard=none
 q2:q2.op=.move (.tmp m.t8)/\q2.dst=some m.d2/\q2.guard=none
 q3:q3.op=.indexAddr m.T (.tmp m.d1) (.tmp m.d2)/\q3.dst=some m.d3/\q3.guard=none
 q4:q4.op=.store m.TB (.tmp m.d3) (.const (.bool true))/\q4.dst=none/\q4.guard=none
theorem ayR {fr:jB}{d:Nat}{x:AV}(h:d<fr.length):fV (rC fr d x) d=some x:=by rw [lM,if_pos ⟨rfl,h⟩]
theorem wB {fr:jB}{d t:Nat}{x:AV}(h:t≠d):fV (rC fr d x) t=fV fr t:=by rw [lM,if_neg (fun e=>h e.1)]
theorem amJ {m:um}{o1 o2 p1 p2 p3 q1 q2 q3 q4:Oper}(hm:aop m o1 o2 p1 p2 p3 q1 q2 q3 q4){r1 r2 r3 id id5:Nat}{fr:jB}{nx:Nat}{Q:AQ}
  {q sq mb bd len:Nat} {es:List (AV×AV)} {rs:List (List AV)} {tb:Nat}
  (hN:∀t∈m.ts,t<fr.length) (hit:m.it∉m.ts) (htD:m.tD∉m.ts) (hd1:m.t8≠m.d1) (hd2:m.d1≠m.d2)
  (hq:fV fr m.it=some (.op q sq 0 0)) (hqa:ah q=some (.it mb es.length 0)) (hma:ah mb=some (.map es)) (hD:fV fr m.tD=some (.os bd 1 0 len)) (hbd:ah bd=some (.rows 1 rs)) (hlen:len<=rs.length)
  (hT:iP P m.T=some (1,tb)) (hTB:xg P m.TB=some (false,1)) (hks:∀e∈es,∃kk n,e.1=.p (.int kk n)/\0<=n/\n.toNat<len) (hne1:q≠mb) (hne2:q≠bd) (auk:mb≠bd)
  (hQ:∀fr' rs',fr'.length=fr.length->(∀t,t∉m.ts->fV fr' t=fV fr t)->rs'.length=rs.length->(∀i,i<rs.length->rs'[i]?=if es.any (fun e=>Nat.beq (kOf e.1) i)=true then some TT else rs[i]?)->
   Q .normal fr' (upd (upd ah q none) bd (some (.rows 1 rs'))) nx) :
  AW P (.block id (.loop (.seq (.region r1 #[o1,o2] false) (.seq (.cond (.tmp m.tb) .skip (.exit id)) (.block id5 (.seq (.region r2 #[p1,p2,p3] false) (.region r3 #[q1,q2,q3,q4] false))))))) fr ah nx Q:=by
 intro base w E a hs;obtain ⟨cq,cm,g1,g2,g3,g4,g5⟩:=hs.heap.blk q _ hqa;obtain ⟨cm',awk,aul,f1,f2,f3,f4,f5⟩:=hs.heap.blk mb _ hma;rw [g5] at f1;cases f1;have ajG:∀b k c o,b≠q->ah b=some k->E.own b=.at c o->c≠cq:=fun b k c o hb hk ho=>hs.heap.sep b q k _ c o cq 0 hb hk hqa ho g1;have htn:=hN m.tn (by simp [um.ts]);have htb:=hN m.tb (by simp [um.ts]);have hte:=hN m.te (by simp [um.ts]);have htk:=hN m.tk (by simp [um.ts]);have ht8:=hN m.t8 (by simp [um.ts]);have awl:=hN m.d1 (by simp [um.ts]);have awm:=hN m.d2 (by simp [um.ts]);have awn:=hN m.d3 (by simp [um.ts]);simp only [um.ts,bC,List.not_mem_nil,or_false,not_or] at hit htD;let ru:List (List AV)->AH:=fun rs'=>upd (upd ah q none) bd (some (.rows 1 rs'));have hAm:∀rs',ru rs' mb=some (.map es):=fun rs'=>by show upd (upd ah q none) bd _ mb=_;rw [ayp auk,ayp (fun e=>hne1 e.symm)];exact hma
 have hAb:∀rs',ru rs' bd=some (.rows 1 rs'):=fun rs'=>gX rfl;have aoq:∀rs' b k c o,ru rs' b=some k->E.own b=.at c o->c≠cq:=by
  intro rs' b k c o hk ho;by_cases e:b=bd
  .subst e;exact ajG b _ c o (fun e=>hne2 e.symm) hbd ho
  .have hk2:upd (upd ah q none) bd (some (.rows 1 rs')) b=some k:=hk;rw [ayp e] at hk2;by_cases e2:b=q
   .rw [gX e2] at hk2;cases hk2
   .rw [ayp e2] at hk2;exact ajG b k c o e2 hk2 ho
 let J:Nat->Act->World->Prop:=fun n a' w'=>∃s fr' rs',s.Nodup/\(∀j∈s,j<es.length)/\n+s.length=es.length/\fr'.length=fr.length/\(∀t,t∉m.ts->fV fr' t=fV fr t)/\Marked es s rs rs'/\
  dM base w' E (ru rs') (fun b=>nx<=b)/\w'.heap[cq]?=some (.mapIter (some cm) es.length s.toArray es.length)/\tY w' E fr' a'.tmps/\a'.defers=[]/\Step base w E w' E
 refine wp_block (wp_loop_ghost J es.length ?_ ?_)
 .refine ⟨[],fr,rs,List.nodup_nil,by simp,by simp,rfl,fun _ _=>rfl,⟨rfl,fun i hi=>by simp⟩,?_,by rw [g4,show Array.range 0=#[] from by simp],hs.fr,hs.defers,Step.refl _ _ _⟩;have:=(hs.heap.drop q).J3 (b:=bd) (k:=.rows 1 rs) (k':=.rows 1 rs) (by rw [ayp (fun e=>hne2 e.symm)];exact hbd) (hs.heap.blk bd _ hbd);exact this
 .intro n a1 w1 hJ;obtain ⟨s,fr1,Zr,j1,j2,j3,j4,j5,j6,j7,j8,j9,j10,j11⟩:=hJ;obtain ⟨cm',jX,clock,f1,f2,f3,f4,f5⟩:=j7.blk mb _ (hAm Zr);rw [g5] at f1;cases f1;obtain ⟨m1,m2,m3,m4⟩:=f5;have hcl:clock=es.length:=by omega
  subst hcl;have aum:cm≠cq:=ajG mb _ cm 0 (fun e=>hne1 e.symm) hma g5;have hfit:fV fr1 m.it=some (.op q sq 0 0):=by rw [j5 _ (by simp only [um.ts,bC,List.not_mem_nil,or_false,not_or];exact hit)];exact hq
  have aun:fV fr1 m.tD=some (.os bd 1 0 len):=by rw [j5 _ (by simp only [um.ts,bC,List.not_mem_nil,or_false,not_or];exact htD)];exact hD
  have apR:∀(fr':jB) (a':Act) (w':World),tY w' E fr' a'.tmps->fV fr' m.it=some (.op q sq 0 0)->a'.eval (.tmp m.it)=.pointer (some ⟨cq,0,none⟩):=by
   intro fr' a' w' auo hf;obtain ⟨c,o,h1,h2⟩:=(eu (x:=.tmp m.it) auo hf).XJ;rw [g1] at h2;cases h2;simpa using h1
  refine wp_seq (wp_region ?_);have hr2:List.range (#[o1,o2]:Array Oper).size=[0,1]:=rfl;rw [hr2];rcases ajF (P:=P) (ty:=o1.type) j8 f4 m4 m3.symm j1 j2 with ⟨hall,hrun⟩|⟨j,ce,d,hce,hjs,hrun⟩
  ·
   refine H8 (o:=o1) rfl hm.o1.2.2 (ayv (s:=do pure (.value (<- Instr.next (a1.eval (.tmp m.it)) false o1.type))) (v:=.tuple #[.bool false]) (w':=w1) (by simp [execOp,hm.o1.1]) (by rw [apR fr1 a1 w1 j9 hfit];simp [hrun]) ?_);have hfr2:=j9.put o1.dst (x:=.gW [.p (.bool false)]) (v:=.tuple #[.bool false]) (.gW _ _ rfl (fun i x y h1 h2=>by
    match i,h1,h2 with
    |0,h1,h2=>cases h1;cases h2;exact .p rfl))
   rw [hm.o1.2.1] at hfr2;refine xR (x:=.p (.bool false)) (fr:=rC fr1 m.tn (.gW [.p (.bool false)])) (o:=o2) j7 (by rw [hm.o1.2.1];exact hfr2) rfl hm.o2.2.2 hm.o2.2.1 (by rw [hm.o2.1];rfl)
    (by rw [hm.o2.1];exact dG.2 ⟨_,ayR (by omega),dG.2 ⟨_,rfl,rfl⟩⟩) fun a2 apS hfr3=>?_
   show (Code.seq _ _).wp P _ a2 w1;refine wp_seq (wp_cond (t:=false) ?_ ?_)
   .exact (eu (x:=.tmp m.tb) hfr3 (ayR (by rw [fB];omega))).fO
   .refine wp_exit ?_;show Exit.inBlock id (y9 base w E Q) (.exit id) a2 w1;simp only [Exit.inBlock,if_true];refine ⟨E,_,ru Zr,nx,hQ _ Zr ?_ ?_ j6.1 (j6.all j1 j2 hall),⟨j7,hfr3,by rw [apS,ayq];exact j10⟩,j11⟩
    .rw [fB,fB];exact j4
    .intro t ht;simp only [um.ts,bC,List.not_mem_nil,or_false,not_or] at ht;rw [wB ht.2.1,wB ht.1];exact j5 t (by simp only [um.ts,bC,List.not_mem_nil,or_false,not_or];exact ht)
  ·
   have hjl:j<es.length:=(by have:=(bD.1 hce).1;omega);obtain ⟨e,he⟩:∃e,es[j]?=some e:=⟨es[j],by simp [hjl]⟩;obtain ⟨re1,re2,-⟩:=m2 j e ce he hce;obtain ⟨kk,kn,hke,hk0,hkl⟩:=hks e (aG he);obtain ⟨s1,s2⟩:=ajE (o0:=.mapIter (some cm) es.length s.toArray es.length) j7 (.mapIter (some cm) es.length (s++[j]).toArray es.length) g1 (aoq Zr) g3 j8 (fun _ _ _ h=>by cases h) d;obtain ⟨w2,hw2⟩:∃w2,w2={w1 with drawn:=d,heap:=w1.heap.setIfInBounds cq (.mapIter (some cm) es.length (s++[j]).toArray es.length)}:=⟨_,rfl⟩;have hhq:w2.heap[cq]?=some (.mapIter (some cm) es.length (s++[j]).toArray es.length):=(by rw [hw2];exact (Dt j8).1);have hhm:w2.heap[cm]?=some (.map jX es.length):=(by rw [hw2];exact ((Dt j8).2 cm aum).trans f4);rw [<- hw2] at s1 s2 hrun;rw [hke] at re1;refine H8 (o:=o1) rfl hm.o1.2.2 (ayv (s:=do pure (.value (<- Instr.next (a1.eval (.tmp m.it)) false o1.type))) (v:=.tuple #[.bool true,ce.key,ce.val]) (w':=w2) (by simp [execOp,hm.o1.1]) (by rw [apR fr1 a1 w1 j9 hfit];simp [hrun]) ?_)
   have hfr2:=(j9.mono s1.ext).put o1.dst (x:=.gW [.p (.bool true),.p (.int kk kn),e.2]) (v:=.tuple #[.bool true,ce.key,ce.val]) (.gW _ _ rfl (fun i x y h1 h2=>by
    match i,h1,h2 with
    |0,h1,h2=>cases h1;cases h2;exact .p rfl
    |1,h1,h2=>cases h1;cases h2;exact re1.mono s1.ext
    |2,h1,h2=>cases h1;cases h2;exact re2.mono s1.ext))
   rw [hm.o1.2.1] at hfr2;refine xR (x:=.p (.bool true)) (fr:=rC fr1 m.tn (.gW [.p (.bool true),.p (.int kk kn),e.2])) (o:=o2) s2 (by rw [hm.o1.2.1];exact hfr2) rfl hm.o2.2.2 hm.o2.2.1 (by rw [hm.o2.1];rfl)
    (by rw [hm.o2.1];exact dG.2 ⟨_,ayR (by omega),dG.2 ⟨_,rfl,rfl⟩⟩) fun a2 apS hfr3=>?_
   show (Code.seq _ _).wp P _ a2 w2;refine wp_seq (wp_cond (t:=true) ?_ ?_)
   .exact (eu (x:=.tmp m.tb) hfr3 (ayR (by rw [fB];omega))).fO
   refine wp_skip ?_;show (Code.block _ _).wp P _ a2 w2;refine wp_block (wp_seq (wp_region ?_));have hr3:List.range (#[p1,p2,p3]:Array Oper).size=[0,1,2]:=rfl;rw [hr3];have arL:fV (rC (rC fr1 m.tn (.gW [.p (.bool true),.p (.int kk kn),e.2])) m.tb (.p (.bool true))) m.it=some (.op q sq 0 0):=(by rw [wB hit.2.1,wB hit.1];exact hfit);refine H8 (o:=p1) rfl hm.p1.2.2 (ayv (s:=do pure (.value (<- Instr.entry (a2.eval (.tmp m.it))))) (v:=.tuple #[ce.key,ce.val]) (w':=w2) (by simp [execOp,hm.p1.1]) (by rw [apR _ a2 w2 hfr3 arL];simp [aha hhq hhm m4 hce]) ?_);have apT:=hfr3.put p1.dst (x:=.gW [.p (.int kk kn),e.2]) (v:=.tuple #[ce.key,ce.val]) (.gW _ _ rfl (fun i x y h1 h2=>by
    match i,h1,h2 with
    |0,h1,h2=>cases h1;cases h2;exact re1.mono s1.ext
    |1,h1,h2=>cases h1;cases h2;exact re2.mono s1.ext))
   rw [hm.p1.2.1] at apT;obtain ⟨fr3,ae9⟩:∃fr3,fr3=rC (rC fr1 m.tn (.gW [.p (.bool true),.p (.int kk kn),e.2])) m.tb (.p (.bool true)):=⟨_,rfl⟩;rw [<- ae9] at apT;have l3:fr3.length=fr.length:=(by rw [ae9,fB,fB];exact j4);refine xR (x:=.p (.int kk kn)) (fr:=rC fr3 m.te (.gW [.p (.int kk kn),e.2])) (o:=p2) s2 (by rw [hm.p1.2.1];exact apT) rfl hm.p2.2.2 hm.p2.2.1 (by rw [hm.p2.1];rfl)
    (by rw [hm.p2.1];exact dG.2 ⟨_,ayR (by omega),dG.2 ⟨_,rfl,rfl⟩⟩) fun a3 aup auq=>?_
   refine xR (x:=.p (.int kk kn)) (o:=p3) s2 auq rfl hm.p3.2.2 hm.p3.2.1 (by rw [hm.p3.1];rfl)
    (by rw [hm.p3.1];exact dG.2 ⟨_,ayR (by rw [fB];omega),rfl⟩) fun a4 aur arM=>?_
   show (Code.region _ _ _).wp P _ a4 w2;refine wp_region ?_;have hr4:List.range (#[q1,q2,q3,q4]:Array Oper).size=[0,1,2,3]:=rfl;rw [hr4];obtain ⟨fr6,aaL⟩:∃fr6,fr6=rC (rC (rC fr3 m.te (.gW [.p (.int kk kn),e.2])) m.tk (.p (.int kk kn))) m.t8 (.p (.int kk kn)):=⟨_,rfl⟩;rw [<- aaL] at arM;have l6:fr6.length=fr.length:=(by rw [aaL,fB,fB,fB];exact l3);have arN:fV fr6 m.tD=some (.os bd 1 0 len):=by
    rw [aaL,wB htD.2.2.2.2.1,wB htD.2.2.2.1,wB htD.2.2.1,ae9,wB htD.2.1,wB htD.1];exact aun
   have aus:fV fr6 m.t8=some (.p (.int kk kn)):=(by rw [aaL];exact ayR (by rw [fB,fB];omega));refine xR (x:=.os bd 1 0 len) (o:=q1) s2 arM rfl hm.q1.2.2 hm.q1.2.1 (by rw [hm.q1.1];rfl)
    (by rw [hm.q1.1];exact dG.2 ⟨_,arN,rfl⟩) fun a5 aut auu=>?_
   refine xR (x:=.p (.int kk kn)) (o:=q2) s2 auu rfl hm.q2.2.2 hm.q2.2.1 (by rw [hm.q2.1];rfl)
    (by rw [hm.q2.1];exact dG.2 ⟨_,by show fV _ _=_;rw [wB hd1];exact aus,rfl⟩) fun a6 auv auw=>?_
   refine xR (x:=.op bd 1 kn.toNat 0) (o:=q3) s2 auw rfl hm.q3.2.2 hm.q3.2.1 (by rw [hm.q3.1];rfl)
    (by
     rw [hm.q3.1];refine dG.2 ⟨.os bd 1 0 len,by show fV _ _=_;rw [wB hd2];exact ayR (by omega),dG.2 ⟨.p (.int kk kn),ayR (by rw [fB];omega),?_⟩⟩;show fD (iP P m.T) _;rw [hT];exact ⟨hk0,hkl,rfl,by simp [mP.val]⟩) fun a7 auy amK=>?_
   
   obtain ⟨fr9,ae_⟩:∃fr9,fr9=rC (rC (rC fr6 m.d1 (.os bd 1 0 len)) m.d2 (.p (.int kk kn))) m.d3 (.op bd 1 kn.toNat 0):=⟨_,rfl⟩;rw [<- ae_] at amK;have l9:fr9.length=fr.length:=(by rw [ae_,fB,fB,fB];exact l6);have auz:fV fr9 m.d3=some (.op bd 1 kn.toNat 0):=(by rw [ae_];exact ayR (by rw [fB,fB];omega));have hilt:kn.toNat<Zr.length:=(by rw [j6.1];omega);obtain ⟨row,hrow⟩:∃row,Zr[kn.toNat]?=some row:=⟨Zr[kn.toNat],by simp [hilt]⟩;have hrl:row.length=1:=by
    rcases s2.blk bd _ (hAb Zr) with ⟨_,h0⟩|⟨c',o',arr,tt,h1,h2,h3,h4,h5⟩
    .rw [h0] at hrow;simp at hrow
    .exact h5.2.1 _ row hrow
   have hst:Ew P (ru Zr) m.TB (.op bd 1 kn.toNat 0) (.p (.bool true)) (fun r=>r=⟨.p undef,[(bd,some (.rows 1 (Zr.set kn.toNat TT)))],[bd]⟩):=by
    refine dG.2 ⟨_,hTB,?_⟩;dsimp only;rw [hAb];refine ⟨rfl,rfl,rfl,dG.2 ⟨row,hrow,by rw [hrl];exact dD _,?_⟩⟩;have:lay row 0 (AV.p (.bool true)).cells=TT:=by
     show row.take 0++[AV.p (.bool true)]++row.drop 1=_;rw [List.drop_eq_nil_iff.2 (by omega)];simp [TT]
    rw [this]
   obtain ⟨r,w3,hr,hrun3,st3,hh3,-,hkeep⟩:=Rt s2 hst (eu (x:=.tmp m.d3) amK auz) (eu (x:=.const (.bool true)) (av:=.p (.bool true)) amK rfl);subst hr;refine H8 (o:=q4) rfl hm.q4.2.2 ?_;unfold Oper.wp;have e4:(execOp a7.eval q4).run P w2=.ok .skip w3:=(by simp [execOp,hm.q4.1,hrun3]);rw [e4];show (∃n',n' < n/\J n' (a7.put q4.dst undef) w3);rw [hm.q4.2.1];refine ⟨n-1,?_,s++[j],fr9,Zr.set kn.toNat TT,?_,?_,?_,l9,?_,?_,?_,?_,amK.mono st3.ext,?_,(j11.trans s1).trans st3⟩
   .have:=Ae (l:=j::s) (m:=List.range es.length) (List.nodup_cons.2 ⟨hjs,j1⟩) (fun x hx=>by
     cases hx with
     |head=>exact List.mem_range.2 hjl|tail _ hx=>exact List.mem_range.2 (j2 x hx))
    simp at this;omega
   .rw [List.nodup_append];refine ⟨j1,by simp,fun x hx y hy=>?_⟩;simp at hy;subst hy;intro e;subst e;exact hjs hx
   .intro x hx;simp only [aH,bT] at hx;rcases hx with hx|rfl
    .exact j2 x hx
    .exact hjl
   .have:=Ae (l:=j::s) (m:=List.range es.length) (List.nodup_cons.2 ⟨hjs,j1⟩) (fun x hx=>by
     cases hx with
     |head=>exact List.mem_range.2 hjl|tail _ hx=>exact List.mem_range.2 (j2 x hx))
    simp at this ⊢;omega
   .intro t ht;have ht':=ht;simp only [um.ts,bC,List.not_mem_nil,or_false,not_or] at ht;rw [ae_,wB ht.2.2.2.2.2.2.2,wB ht.2.2.2.2.2.2.1,wB ht.2.2.2.2.2.1,aaL,wB ht.2.2.2.2.1,wB ht.2.2.2.1,wB ht.2.2.1,ae9,wB ht.2.1,wB ht.1];exact j5 t ht'
   .have:=j6.set he;rw [hke] at this;exact this
   .have e5:lZ (ru Zr) [(bd,some (qO.rows 1 (Zr.set kn.toNat TT)))]=ru (Zr.set kn.toNat TT):=by
     show upd (upd (upd ah q none) bd _) bd _=upd (upd ah q none) bd _;rw [EF]
    rw [<- e5];exact hh3
   .rw [hkeep cq ?_];exact hhq;intro b ⟨k,hk⟩ hb o ho;exact aoq Zr b k cq o hk ho rfl
   .show a7.defers=[];rw [auy,auv,aut,aur,aup,ayq,apS,ayq];exact j10
end
end Go.Fw
end
section
namespace Go.Fw
variable [iT]
section
variable {P : Program} {ρ:List AV} {pc:Pc} {N:Nat} {fr:jB} {ah:AH} {nx:Nat}
def TU (ρ:List AV)(N:Nat)(tr:Tr oq):jB:=(List.range N).map fun t=>(tr.get t).map (oq.den ρ)
theorem aaM (f:Nat->Option AV):∀(n s t:Nat),fV ((List.range' s n).map f) t=if t<n then f (s+t) else none
 |0,s,t=>by simp [fV]
 |n+1,s,0=>by simp [List.range'_succ,fV]
 |n+1,s,t+1=>by
  simp only [List.range'_succ,aX,fV];rw [aaM f n (s+1) t];have e:s+1+t=s+(t+1):=by omega
  rw [e];by_cases h:t<n
  .rw [if_pos h,if_pos (by omega)]
  .rw [if_neg h,if_neg (by omega)]
theorem Af {tr:Tr oq}{t:Nat}:fV (TU ρ N tr) t=if t<N then (tr.get t).map (oq.den ρ) else none:=by
 unfold TU;rw [List.range_eq_range',aaM];simp
theorem TV {c:Code}{Q:AQ}{st:nX}(hs:Gv ρ N st fr ah nx)(h:∀Et kP,Vs ρ st.fr Et->Dz ρ st.ah kP->Et.length=N->AW P c Et kP st.nx Q):AW P c fr ah nx Q:=by
 have hf:Vs ρ st.fr (TU ρ N st.fr):=by
  intro t e he;obtain ⟨a,ha,-⟩:=hs.fr t e he;have:=yC ha;rw [hs.len] at this;rw [Af,if_pos this,he];rfl
 have ha:Dz ρ st.ah (gq ρ st.ah):=fun b k hk=>by unfold gq;rw [hk];rfl
 have h':=h _ _ hf ha (by simp [TU]);intro base w E a iE;refine h' base w E a ⟨⟨fun b k hb=>?_,fun b b' k k' c o c' o' hne h1 h2=>?_,fun b hb=>iE.heap.fresh b (bW hs.nx hb),iE.heap.iY,iE.heap.bs,iE.heap.je⟩,⟨?_,fun i x hx=>?_,iE.fr.Gg⟩,iE.defers⟩
 .unfold gq at hb;simp only [ay] at hb;obtain ⟨k1,hk1,rfl⟩:=hb;obtain ⟨k0,h0,hw⟩:=hs.ah b k1 hk1;exact hw _ _ _ _ (iE.heap.blk b k0 h0)
 .unfold gq at h1 h2;simp only [ay] at h1 h2;obtain ⟨k1,hk1,rfl⟩:=h1;obtain ⟨k2,hk2,rfl⟩:=h2;obtain ⟨j1,q1,-⟩:=hs.ah b k1 hk1;obtain ⟨j2,q2,-⟩:=hs.ah b' k2 hk2;exact iE.heap.sep b b' j1 j2 c o c' o' hne q1 q2
 .have:=iE.fr.size;rw [hs.len] at this;simpa [TU] using this
 .rw [Af] at hx;split at hx
  .simp only [ay] at hx;obtain ⟨e,he,rfl⟩:=hx;obtain ⟨y,hy,hw⟩:=hs.fr i e he;obtain ⟨v,hv,hr⟩:=iE.fr.get i y hy;exact ⟨v,hv,hw _ _ _ hr⟩
  .cases hx
theorem Gv.of {tr:Tr oq}{th:Tr SB}{n:Nat}(hf:Vs ρ tr fr)(ha:Dz ρ th ah)(hN:fr.length=N)(hn:nx<=n):Gv ρ N ⟨tr,th,n⟩ fr ah nx:=
 ⟨fun t e he=>⟨_,hf t e he,Weak.refl _⟩,fun b k hk=>⟨_,ha b k hk,pI.refl _⟩,hN,hn⟩
end
structure wQ where
 N:Nat
 keep:Kp
 loops:Nat->Option DT
structure xU where
 outs:List Out
 nv:Nat
 sd:List (Pc×Sd)
 aw:List Lo
abbrev OD (P:Program)(ρ:List AV)(l:List Lo):Prop:=QD P l ρ
def DU (k:Pc->nX->Nat->Option xU):Pc->List Out->Nat->Option xU
 |_,[],_=>none|pc,[o],nv=>bif Zb o.e then k pc o.st nv else some ⟨[o],nv,[],[]⟩
 |pc,o::o'::r,nv=>
  bif Zb o.e then
   match k (gJ o.g true pc) o.st nv with
   |none=>none|some x=>match DU k (gJ o.g false pc) (o'::r) x.nv with
    |none=>none|some y=>some ⟨yY o.g x.outs++y.outs,y.nv,x.sd++y.sd,x.aw++y.aw⟩
  else match DU k (gJ o.g false pc) (o'::r) nv with
   |none=>none|some y=>some ⟨o::y.outs,y.nv,y.sd,y.aw⟩
def lvE (id:Nat):Exit->Exit
 | .exit j=>bif Nat.beq j id then .normal else .exit j
 |e=>e
def leave (id:Nat)(l:List Out):List Out:=l.map fun o=>⟨o.g,lvE id o.e,o.st⟩
def amL (P:Program)(X:oN)(inl:B_)(Eu:FuncId->Bool)(N:Nat)(pc:Pc)(st:nX)(nv:Nat)(ops:Array Oper)(draw:Bool):Option xU:=
 match (bif draw then
   let M:=ayu ops.toList []
   bif uz ops&&vO ops M then zh P X inl Eu N ops M 0 ops.toList pc [] [] [] ⟨st.fr,st.ah,st.nx⟩ nv else none
  else KJ P X inl Eu N ops ops.toList pc ⟨st.fr,st.ah,st.nx⟩ nv) with
 |none=>none|some S=>some ⟨S.outs.map fun x=>⟨x.1,.normal,⟨x.2.tr,x.2.th,x.2.nx⟩⟩,S.nv,S.sd,[]⟩
def MG (body:Pc->nX->Nat->Option xU):Nat->Pc->nX->Nat->Option xU
 |0,_,_,_=>none|m+1,pc,st,nv=>match body pc st nv with
  |none=>none|some x=>match DU (MG body m) pc x.outs x.nv with
   |none=>none|some y=>some ⟨y.outs,y.nv,x.sd++y.sd,x.aw++y.aw⟩
def azi (F:wQ)(id:Nat):Code->Option (Code×DT)
 | .loop c=>match F.loops id with|some h=>some (c,h)|none=>none
 |_=>none
theorem ahb {F:wQ}{id:Nat}{b c:Code}{h:DT}(e:azi F id b=some (c,h)):b=.loop c/\F.loops id=some h:=by
 unfold azi at e;split at e
 .split at e
  .rename_i h' hh;simp only [aj,aJ] at e;obtain ⟨rfl,rfl⟩:=e;exact ⟨rfl,hh⟩
  .cases e
 .cases e
def swE (l:Nat):Exit->Exit
 | .normal=>.goto l| .goto m=>bif Nat.beq m l then .normal else .goto m
 |e=>e
def swO (l:Nat)(o:List Out):List Out:=o.map fun x=>⟨x.g,swE l x.e,x.st⟩
def OE : List Out->Option Nat
 |[]=>none|o::r=>match o.e with | .goto l=>some l|_=>OE r
def aaN (run:Pc->nX->Nat->Code->Option xU)(c:Code):Nat->Pc->List Out->Nat->Option xU
 |0,_,_,_=>none|n+1,pc,outs,nv=>match OE outs with
  |none=>some ⟨outs,nv,[],[]⟩|some l=>match findLabel c l with
   |none=>none|some rest=>match DU (fun pc st nv=>match run pc st nv rest with
     |none=>none|some x=>match aaN run c n pc x.outs x.nv with
      |none=>none|some y=>some ⟨swO l y.outs,y.nv,x.sd++y.sd,x.aw++y.aw⟩) pc (swO l outs) nv with
    |none=>none|some y=>match OE (swO l y.outs) with|none=>some ⟨swO l y.outs,y.nv,y.sd,y.aw⟩|some _=>none
structure Cfg where
 X:oN
 Eu:FuncId->Bool
 inl:B_
 sU:Nat
def mk1 : List Oper->Option (Nat×Nat×Nat)
 |[o1,o2]=>match o1.guard,o1.dst,o1.op,o2.guard,o2.dst,o2.op with
  |none,some tn,.next (.tmp it) false,none,some tb,.extract (.tmp x) 0=>bif Nat.beq x tn then some (it,tn,tb) else none
  |_,_,_,_,_,_=>none
 |_=>none
def mk2 : List Oper->Option (Nat×Nat×Nat×Nat)
 |[p1,p2,p3]=>match p1.guard,p1.dst,p1.op,p2.guard,p2.dst,p2.op with
  |none,some te,.entry (.tmp it),none,some tk,.extract (.tmp x) 0=>(match p3.guard,p3.dst,p3.op with
   |none,some t8,.assign (.tmp y)=>bif Nat.beq x te&&Nat.beq y tk then some (it,te,tk,t8) else none
   |_,_,_=>none)
  |_,_,_,_,_,_=>none
 |_=>none
def mk3 : List Oper->Option (Nat×Nat×Nat×Nat×Nat×Nat×Nat)
 |[q1,q2,q3,q4]=>match q1.guard,q1.dst,q1.op,q2.guard,q2.dst,q2.op with
  |none,some d1,.move (.tmp tD),none,some d2,.move (.tmp t8)=>(match q3.guard,q3.dst,q3.op,q4.guard,q4.dst,q4.op with
   |none,some d3,.indexAddr T (.tmp x) (.tmp y),none,none,.store TB (.tmp z) (.const (.bool true))=>
    bif Nat.beq x d1&&(Nat.beq y d2&&Nat.beq z d3) then some (tD,d1,t8,d2,d3,T,TB) else none
   |_,_,_,_,_,_=>none)
  |_,_,_,_,_,_=>none
 |_=>none
theorem apU {l:List Oper}{it tn tb:Nat}(h:mk1 l=some (it,tn,tb)):∃o1 o2,l=[o1,o2]/\(o1.op=.next (.tmp it) false/\o1.dst=some tn/\o1.guard=none)/\(o2.op=.extract (.tmp tn) 0/\o2.dst=some tb/\o2.guard=none):=by
 unfold mk1 at h;split at h
 .rename_i o1 o2;split at h
  .rename_i tn' it' tb' x e1 e2 e3 e4 e5 e6;cases hx:Nat.beq x tn'
   .simp [hx] at h
   .simp only [hx,cond_true,aj,aJ] at h;obtain ⟨rfl,rfl,rfl⟩:=h;obtain rfl:=au hx;exact ⟨o1,o2,rfl,⟨e3,e2,e1⟩,⟨e6,e5,e4⟩⟩
  .cases h
 .cases h
theorem apV {l:List Oper}{it te tk t8:Nat}(h:mk2 l=some (it,te,tk,t8)):∃p1 p2 p3,l=[p1,p2,p3]/\(p1.op=.entry (.tmp it)/\p1.dst=some te/\p1.guard=none)/\(p2.op=.extract (.tmp te) 0/\p2.dst=some tk/\p2.guard=none)/\
  (p3.op=.assign (.tmp tk)/\p3.dst=some t8/\p3.guard=none):=by
 unfold mk2 at h;split at h
 .rename_i p1 p2 p3;split at h
  .rename_i te' it' tk' x e1 e2 e3 e4 e5 e6;split at h
   .rename_i t8' y e7 e8 e9;cases hx:Nat.beq x te'&&Nat.beq y tk'
    .simp [hx] at h
    .simp only [hx,cond_true,aj,aJ] at h;obtain ⟨rfl,rfl,rfl,rfl⟩:=h;simp only [ak] at hx;obtain rfl:=au hx.1;obtain rfl:=au hx.2;exact ⟨p1,p2,p3,rfl,⟨e3,e2,e1⟩,⟨e6,e5,e4⟩,⟨e9,e8,e7⟩⟩
   .cases h
  .cases h
 .cases h
theorem apW {l:List Oper}{tD d1 t8 d2 d3 T TB:Nat}(h:mk3 l=some (tD,d1,t8,d2,d3,T,TB)):∃q1 q2 q3 q4,l=[q1,q2,q3,q4]/\(q1.op=.move (.tmp tD)/\q1.dst=some d1/\q1.guard=none)/\(q2.op=.move (.tmp t8)/\q2.dst=some d2/\q2.guard=none)/\
  (q3.op=.indexAddr T (.tmp d1) (.tmp d2)/\q3.dst=some d3/\q3.guard=none)/\(q4.op=.store TB (.tmp d3) (.const (.bool true))/\q4.dst=none/\q4.guard=none):=by
 unfold mk3 at h;split at h
 .rename_i q1 q2 q3 q4;split at h
  .rename_i d1' tD' d2' t8' e1 e2 e3 e4 e5 e6;split at h
   .rename_i d3' T' x y TB' z e7 e8 e9 e10 e11 e12;cases hx:Nat.beq x d1'&&(Nat.beq y d2'&&Nat.beq z d3')
    .simp [hx] at h
    .simp only [hx,cond_true,aj,aJ] at h;obtain ⟨rfl,rfl,rfl,rfl,rfl,rfl,rfl⟩:=h;simp only [ak] at hx;obtain rfl:=au hx.1;obtain rfl:=au hx.2.1;obtain rfl:=au hx.2.2;exact ⟨q1,q2,q3,q4,rfl,⟨e3,e2,e1⟩,⟨e6,e5,e4⟩,⟨e9,e8,e7⟩,⟨e12,e11,e10⟩⟩
   .cases h
  .cases h
 .cases h
def TW (id:Nat):Code->Option um
 | .loop (.seq (.region _ r1 false) (.seq (.cond (.tmp tb) .skip (.exit i)) (.block _ (.seq (.region _ r2 false) (.region _ r3 false)))))=>
  bif Nat.beq i id then (match mk1 r1.toList,mk2 r2.toList,mk3 r3.toList with
   |some (it,tn,tb'),some (it',te,tk,t8),some (tD,d1,t8',d2,d3,T,TB)=>
    bif Nat.beq tb tb'&&(Nat.beq it it'&&Nat.beq t8 t8') then some ⟨it,tn,tb,te,tk,t8,tD,d1,d2,d3,T,TB⟩ else none
   |_,_,_=>none) else none
 |_=>none
theorem aaO {id:Nat}{b:Code}{m:um}(h:TW id b=some m):∃r1 r2 r3 id5 o1 o2 p1 p2 p3 q1 q2 q3 q4,aop m o1 o2 p1 p2 p3 q1 q2 q3 q4/\
  b=.loop (.seq (.region r1 #[o1,o2] false) (.seq (.cond (.tmp m.tb) .skip (.exit id)) (.block id5 (.seq (.region r2 #[p1,p2,p3] false) (.region r3 #[q1,q2,q3,q4] false))))):=by
 unfold TW at h;split at h
 .rename_i r1 a1 tb i id5 r2 a2 r3 a3;cases hi:Nat.beq i id
  .simp [hi] at h
  .simp only [hi,cond_true] at h;obtain rfl:=au hi;split at h
   .rename_i it tn tb' it' te tk t8 tD d1 t8' d2 d3 T TB h1 h2 h3;cases hx:Nat.beq tb tb'&&(Nat.beq it it'&&Nat.beq t8 t8')
    .simp [hx] at h
    .simp only [hx,cond_true,aj] at h;subst h;simp only [ak] at hx;obtain rfl:=au hx.1;obtain rfl:=au hx.2.1;obtain rfl:=au hx.2.2;obtain ⟨o1,o2,k1,k2,k3⟩:=apU h1;obtain ⟨p1,p2,p3,k4,k5,k6,k7⟩:=apV h2;obtain ⟨q1,q2,q3,q4,k8,k9,k10,k11,k12⟩:=apW h3;have e1:a1=#[o1,o2]:=Array.ext' k1;have e2:a2=#[p1,p2,p3]:=Array.ext' k4;have e3:a3=#[q1,q2,q3,q4]:=Array.ext' k8;subst e1 e2 e3;exact ⟨r1,r2,r3,id5,o1,o2,p1,p2,p3,q1,q2,q3,q4,⟨k2,k3,k5,k6,k7,k9,k10,k11,k12⟩,rfl⟩
   .cases h
 .cases h
def Yz (tr:Tr oq):List Nat->Tr oq
 |[]=>tr|t::r=>(Yz tr r).upd uf t none
theorem TY {tr:Tr oq}:∀{l:List Nat} {t:Nat} {e:oq},(Yz tr l).get t=some e->t∉l/\tr.get t=some e
 |[],t,e,h=>⟨by simp,h⟩|s::r,t,e,h=>by
  simp only [Yz] at h;rcases Tr.kW _ _ _ _ _ _ h with ⟨_,h1⟩|⟨hne,h1⟩
  .cases h1
  .obtain ⟨h2,h3⟩:=TY h1;exact ⟨by simp [hne,h2],h3⟩
def adf (P:Program)(N:Nat)(pc:Pc)(st:nX)(nv:Nat)(m:um):Option xU:=
 match zf pc st.fr (.tmp m.it),zf pc st.fr (.tmp m.tD) with
 |some (.op q _ (.li 0) 0),some (.os bd 1 0 len)=>(match st.ah.get q,st.ah.get bd with
  |some (.it mb n 0),some (.fZ 1 d)=>(match st.ah.get mb with
   |some (.xC mk t)=>
    bif n.beq (.rlen t)&&((m.ts.all fun x=>Nat.blt x N)&&(!m.ts.contains m.it&&(!m.ts.contains m.tD&&(!Nat.beq m.t8 m.d1&&(!Nat.beq m.d1 m.d2&&(!Nat.beq q mb&&(!Nat.beq q bd&&!Nat.beq mb bd))))))) then
     (match iP P m.T,xg P m.TB with
     |some (1,_),some (false,1)=>some ⟨[⟨.lb true,.normal,⟨Yz st.fr m.ts,(st.ah.upd uf q none).upd uf bd (some (.fZ 1 (.var nv []))),st.nx⟩⟩],nv+1,[(pc,.s (.mark mk t d len (.var nv [])))],[]⟩|_,_=>none) else none
   |_=>none)
  |_,_=>none)
 |_,_=>none
def aaP (P:Program)(N:Nat)(pc:Pc)(st:nX)(nv:Nat)(id:Nat)(b:Code):Option xU:=
 match TW id b with
 |none=>none|some m=>adf P N pc st nv m
def rO (P:Program)(G:Cfg)(F:wQ):Nat->Pc->nX->Nat->Code->Option xU
 |0,_,_,_,_=>none|n+1,pc,st,nv,c=>
  match c with
  | .skip=>some ⟨[⟨.lb true,.normal,st⟩],nv,[],[]⟩| .exit id=>some ⟨[⟨.lb true,.exit id,st⟩],nv,[],[]⟩| .ret=>some ⟨[⟨.lb true,.ret,st⟩],nv,[],[]⟩| .region _ ops draw=>amL P G.X G.inl G.Eu F.N pc st nv ops draw| .seq a b=>match rO P G F n pc st nv a with
   |none=>none|some x=>match DU (fun pc st nv=>rO P G F n pc st nv b) pc x.outs x.nv with
    |none=>none|some y=>some ⟨KN F.keep y.outs,y.nv,x.sd++y.sd,x.aw++y.aw⟩
  | .cond c a b=>match zf pc st.fr c with
   |some (.sc .bool t)=>match pc.known t with
    |some true=>rO P G F n pc st nv a|some false=>rO P G F n pc st nv b|none=>match rO P G F n (gJ t true pc) st nv a with
     |none=>none|some x=>match rO P G F n (gJ t false pc) st x.nv b with
      |none=>none|some y=>some ⟨KN F.keep (QF t x.outs y.outs),y.nv,x.sd++y.sd,x.aw++y.aw⟩
   |_=>none
  | .block id b=>match azi F id b with
   |some (c,h)=>
    let cs:=st.Qn h;match aaD pc nv st.nx h.ins h.p cs st with
    |none=>none|some ent=>match rO P G F n (pc.old nv) (ay8 h.p nv cs) (nv+h.p.m) c with
     |none=>none|some x=>match aaJ h id nv st.nx cs (pc.old nv) x.outs,h.xs with
      |some outs,_::_=>some ⟨Ci cs nv 0 (ayH nv (h.xs.map fun y=>y.2.m) 0) h.xs,ayH nv (h.xs.map fun y=>y.2.m) h.xs.length,(KO st h.p).map fun s=>(pc,.s s),[.mk pc nv h.p.m ent outs (exS x.sd++ae7 h id (pc.old nv) x.outs) (Tv (x.aw++exL x.sd)) (h.xs.map fun y=>y.2.m) (amH st h.ins)]⟩|_,_=>none
   |none=>match aaP P F.N pc st nv id b with
    |some x=>some x|none=>match rO P G F n pc st nv b with
     |none=>none|some x=>some ⟨KN F.keep (leave id x.outs),x.nv,x.sd,x.aw⟩
  | .label _=>some ⟨[⟨.lb true,.normal,st⟩],nv,[],[]⟩| .goto l=>some ⟨[⟨.lb true,.goto l,st⟩],nv,[],[]⟩| .scope b=>match rO P G F n pc st nv b with
   |none=>none|some x=>match aaN (fun pc st nv c=>rO P G F n pc st nv c) b 60 pc x.outs x.nv with
    |none=>none|some y=>some ⟨KN F.keep y.outs,y.nv,x.sd++y.sd,x.aw++y.aw⟩
  | .loop b=>MG (fun pc st nv=>rO P G F n pc st nv b) G.sU pc st nv|_=>none
end Go.Fw
end
section
namespace Go.Fw
variable [iT]
section
variable {ρ σ:List AV} {N:Nat}
theorem amM {base nE:Nat}{ins:List Nat}{p:zD}{c mZ:nX}(h:ag9 base nE ins p c mZ=true){t:Nat}{e:oq}(ht:t∈ins)(hp:∀q,(t,q)∉p.fr)(he:c.fr.get t=some e):e.lt base=true/\(∀b∈e.v.zx,b<nE)/\mZ.fr.get t=some e:=by
 unfold ag9 at h;simp only [ak,aF] at h;have:=h.1 t ht;rw [he] at this;simp only [aY,List.any_eq_true,ak] at this;rcases this with ⟨x,hx,hxt⟩|⟨h1,h2,h3⟩
 .have:=au hxt;subst this;exact absurd hx (hp x.2)
 .refine ⟨h1,DN h2,?_⟩;split at h3
  .rename_i e' he';rw [he',oq.beq_eq h3]
  .cases h3
theorem amN {base nE:Nat}{ins:List Nat}{p:zD}{c mZ:nX}(h:ag9 base nE ins p c mZ=true){b:Nat}{k:SB}(hb:b<nE)(h1:∀ks,(b,ks)∉p.bl)(h2:∀sz,(b,sz)∉p.tb)(h3:∀o,(b,o)∉p.ob)(hk:c.ah.get b=some k):k.lt base=true/\(∀b∈k.zx,b<nE)/\mZ.ah.get b=some k:=by
 unfold ag9 at h;simp only [ak,aF] at h;have:=h.2 b (List.mem_range.2 hb);rw [hk] at this;simp only [aY,List.any_eq_true,ak] at this;rcases this with (⟨x,hx,hxt⟩|⟨x,hx,hxt⟩|⟨x,hx,hxt⟩)|⟨q1,q2,q3⟩
 .have:=au hxt;subst this;exact absurd hx (h1 x.2)
 .have:=au hxt;subst this;exact absurd hx (h2 x.2)
 .have:=au hxt;subst this;exact absurd hx (h3 x.2)
 .refine ⟨q1,DN q2,?_⟩;split at q3
  .rename_i k' hk';rw [hk',SB.beq_eq q3]
  .cases q3
def arQ (E:Env)(nE:Nat)(srcs:List (Nat×Src)):Env:=⟨E.fix,fun b=>if b<nE then E.own b else H7 E srcs b⟩
theorem T_ {w:World}{E E':Env}(hf:∀c o,E.fix c o->E'.fix c o){arr:Array Value}{o sz:Nat}{rs:List (List AV)}(h:RowsIn w E arr o sz rs)(hr:∀b∈jo rs,E'.own b=E.own b):RowsIn w E' arr o sz rs:=by
 obtain ⟨h1,h2,h3,h4⟩:=h;refine ⟨h1,h2,h3,fun i row j x hi hj=>?_⟩;obtain ⟨v,hv,hx⟩:=h4 i row j x hi hj;exact ⟨v,hv,qU hf hx (fun b hb=>hr b (rH i row hi (gY j x hj hb)))⟩
theorem OG {base:Nat}{w:World}{E E':Env}(hf:E'.fix=E.fix){b b':Nat}{sz:Nat}{rs:List (List AV)}(h:nN base w E b (.rows sz rs))(hb:E'.own b'=E.own b)(hr:∀x∈jo rs,E'.own x=E.own x):nN base w E' b' (.rows sz rs):=by
 rcases h with ⟨h1,h2⟩|⟨c,o,arr,ty,h1,h2,h3,h4,h5⟩
 .exact .inl ⟨by rw [hb,h1],h2⟩
 .exact .inr ⟨c,o,arr,ty,by rw [hb,h1],h2,by rw [hf];exact h3,h4,T_ (by rw [hf];exact fun _ _ h=>h) h5 hr⟩
theorem Fa {f:List (SV×Src)}{b t:List SV}{i:Nat}{x:SV}{s:Src}(h:f[i]?=some (x,s)):(f.map (·.1)++(b++t))[i]?=some x:=by
 have hlt:=(aA.1 h).1;rw [bf (by simpa using hlt)];simp [h]
theorem afa {f:List (SV×Src)}{b t:List SV}{i:Nat}{x:SV}(h:b[i]?=some x):(f.map (·.1)++(b++t))[f.length+i]?=some x:=by
 have hlt:=(aA.1 h).1;rw [bI (by simp)];simp only [dh,Nat.add_sub_cancel_left];rw [bf hlt];exact h
theorem QG {f:List (SV×Src)}{b t:List SV}{i:Nat}{x:SV}(h:t[i]?=some x):(f.map (·.1)++(b++t))[f.length+(b.length+i)]?=some x:=by
 rw [bI (by simp)];simp only [dh,Nat.add_sub_cancel_left];rw [bI (by simp)];simp only [Nat.add_sub_cancel_left];exact h
theorem afb {f:List (SV×Src)}{b t:List SV}{g:List (SV×Src)}{i:Nat}{x:SV}{s:Src}(h:g[i]?=some (x,s)):(f.map (·.1)++(b++(t++g.map (·.1))))[f.length+(b.length+(t.length+i))]?=some x:=by
 have hlt:=(aA.1 h).1;rw [bI (by simp)];simp only [dh,Nat.add_sub_cancel_left];rw [bI (by simp)];simp only [Nat.add_sub_cancel_left];rw [bI (by simp)];simp [h]
theorem ahc {base:Nat}{w:World}{E E':Env}(hf:E'.fix=E.fix){b n:Nat}{r1 r2:List AV}(h:nN base w E b (.rows n [r1]))(hb:E'.own b=E.own b)(hl:r2.length=r1.length)(hs:∀x∈r2,x.iL=true)
  (hr:∀(j:Nat) (x1 x2:AV) (v:Value),r1[j]?=some x1->r2[j]?=some x2->Rep w E x1 v->Rep w E' x2 v):nN base w E' b (.rows n [r2]):=by
 rcases h with ⟨h1,h2⟩|⟨c,o,arr,ty,h1,h2,h3,h4,h5,h6,h7,h8⟩
 .cases h2
 .refine .inr ⟨c,o,arr,ty,by rw [hb,h1],h2,by rw [hf];exact h3,h4,by simpa using h5,fun i row hi=>?_,fun row hrow=>?_,fun i row j x hi hj=>?_⟩
  .cases i with
   |zero=>simp at hi;subst hi;rw [hl];exact h6 0 r1 rfl|succ i=>simp at hi
  .simp at hrow;subst hrow;exact hs
  .cases i with
   |succ i=>simp at hi|zero=>
    simp at hi;subst hi;have hj1:j<r1.length:=(by rw [<- hl];exact (aA.1 hj).1);obtain ⟨v,q1,q2⟩:=h8 0 r1 j r1[j] rfl (aW hj1);exact ⟨v,q1,hr j _ _ v (aW hj1) hj q2⟩
theorem aor {P:Program}{ρ σ:List AV}{w:World}{E E':Env}{mZ:nX}{v x:SV}{s:Src}{b sz:Nat}{val:Value}{tm:Tm}
  (h5:(v=.nil/\x=.sc .sl .nl/\s=.empty)\/(∃b' off l k,v=.os b' sz off l/\mZ.ah.get b'=some k/\(Vz k off l=true/\∀s∈JK k off l,s.holds P ρ)/\ayI sz k off=some x/\s=.at b' (off*sz)))
  (ho:E'.own b=E8 E s) (hr0:Rep w E (v.den ρ) val) (htm:(tm.den σ).R=(x.den ρ).D.R):Rep w E' (.os b sz 0 ((Tm.den σ (.rlen tm)).I.toNat)) val:=by
 have e9:(Tm.den σ (.rlen tm)).I.toNat=(x.den ρ).D.R.length:=by
  simp only [Tm.den,nM,D.I,htm];simp
 rw [e9];rcases h5 with ⟨hev,rfl,rfl⟩|⟨b',off,l,k,hev,hk,hl,hrw,rfl⟩
 .rw [hev] at hr0;have:∃a1,val=.slice a1 0 0:=by
   cases hr0 with
   |slnil full a1=>exact ⟨a1,rfl⟩|sl _ _ _ _ _ cap _ _ hfull=>have:=hfull rfl;subst this;exact ⟨_,rfl⟩
  obtain ⟨a1,rfl⟩:=this;exact .kM b sz 0 a1 (by rw [ho];simp [E8])
 .obtain ⟨rs,R,d1,d2,d3,d4⟩:=PY (ρ:=ρ) hrw;obtain ⟨hle,hlen⟩:=aaF hl.1 hl.2 d1;have e8:(x.den ρ).D.R.length=(l.den ρ).I.toNat:=by
   rw [hlen,d2];show R.length=_;rw [<- d4];simp
  rw [e8];rw [hev] at hr0;simp only [SV.den] at hr0;simp only [E8] at ho;generalize (l.den ρ).I.toNat=len at hr0 ⊢;cases hr0 with
  |kM _ _ _ a1 hb1=>exact .kM b sz 0 a1 (by rw [ho];cases hq:E.own b'<;>simp_all [Own.shift])|os _ _ _ _ c o cap hb1 hcap hsize=>
   have:=Rep.os (w:=w) (E:=E') b sz 0 len c (o+off*sz) cap (by rw [ho,hb1];rfl) hcap (by
    obtain ⟨arr,ty,fz,q1,q2⟩:=hsize;refine ⟨arr,ty,fz,q1,?_⟩;rw [Nat.zero_add];rw [bQ] at q2;omega)
   simpa using this
theorem WQ : ∀{l:List SV},zy l=l.flatMap SV.zx
 |[]=>rfl|x::r=>by rw [zy,WQ (l:=r)];rfl
theorem OH {ρ:List AV}:∀{l:List SV},(∀z∈dK ρ l,z.iL=true)->∀y∈dK ρ (jK l),y.iL=true
 |[],_,y,hy=>by simp [jK,dK] at hy
 |x::r,h,y,hy=>by
  simp only [jK,dK] at hy;cases hy with
  |head=>rw [aae];exact h _ (by simp [dK])|tail _ hy=>exact OH (l:=r) (fun z hz=>h z (by simp [dK,hz])) y hy
theorem OI {ρ:List AV}:∀{l:List SV} {m:Nat} {x1 x2:AV},(dK ρ l)[m]?=some x1->(dK ρ (jK l))[m]?=some x2->∃y∈jK l,x2=y.den ρ/\Weak x1 x2
 |y::r,0,x1,x2,h1,h2=>by
  simp only [dK,jK,List.getElem?_cons_zero,aj] at h1 h2;subst h1 h2;exact ⟨y.nrm,by simp [jK],rfl,AY⟩
 |y::r,m+1,x1,x2,h1,h2=>by
  simp only [dK,jK,List.getElem?_cons_succ] at h1 h2;obtain ⟨z,q1,q2,q3⟩:=OI h1 h2;exact ⟨z,by simp [jK,q1],q2,q3⟩
 |[],m,x1,x2,h1,h2=>by simp [dK] at h1
theorem aos {P:Program}{ρ:List AV}{bs:Nat}{w:World}{E E':Env}{mZ:nX}{v x:SV}{s:Src}{b sz:Nat}{SR:List (Nat×Src)}{Z:Prop}(hfix:E'.fix=E.fix)(hρ:fU ρ=true)(blk:∀{b:Nat} {k:SB},mZ.ah.get b=some k->nN bs w E b (k.den ρ))
  (h5:(v=.nil/\x=.sc .sl .nl/\s=.empty)\/(∃b' off l k,v=.os b' sz off l/\mZ.ah.get b'=some k/\(Vz k off l=true/\∀s∈JK k off l,s.holds P ρ)/\ayI sz k off=some x/\s=.at b' (off*sz)))
  (ho:E'.own b=E8 E s) (hri:x.zx=[]) (hm:(b,s)∈SR):nN bs w E' b (.rows sz (x.den ρ).D.R)/\(Z\/(∃s,(b,s)∈SR/\∀b' d,s=.at b' d->∃k',mZ.ah.get b'=some k')):=by
 rcases h5 with ⟨hev,rfl,rfl⟩|⟨b',off,l,k,hev,hk',hl,hrw,rfl⟩
 .exact ⟨.inl ⟨ho,rfl⟩,.inr ⟨_,hm,fun b' d h=>by cases h⟩⟩
 .obtain ⟨rs,R,d1,d2,d3,d4⟩:=PY (ρ:=ρ) hrw;obtain ⟨hle,-⟩:=aaF hl.1 hl.2 d1;have hb1:=blk hk';rw [d1] at hb1;refine ⟨?_,.inr ⟨_,hm,fun b2 d h=>by cases h;exact ⟨k,hk'⟩⟩⟩;have hrf:(x.den ρ).refs=[]:=by rw [qm hρ,hri]
  rw [d2] at hrf ⊢;simp only [AV.refs] at hrf;rcases hb1 with ⟨h1,h2⟩|⟨c,o,arr,ty,h1,h2,h3,h4,h5,h6,h7,h8⟩
  .subst h2;have:R=[]:=List.length_eq_zero_iff.1 (by rw [<- d4];simp);exact .inl ⟨by rw [ho];simp [E8,h1,Own.shift],this⟩
  .have hd:RowsIn w E arr (o+off*sz) sz (rs.drop off):=by
    refine ⟨?_,fun i row hi=>?_,fun row hrow=>h7 row (List.mem_of_mem_drop hrow),fun i row j x hi hj=>?_⟩
    .have e:rs.length=off+(rs.drop off).length:=(by simp;omega);rw [e,bQ] at h5;omega
    .rw [List.getElem?_drop] at hi;exact h6 _ row hi
    .rw [List.getElem?_drop] at hi;obtain ⟨v,q1,q2⟩:=h8 _ row j x hi hj;refine ⟨v,?_,q2⟩;rw [<- q1,bQ];congr 1;omega
   exact .inr ⟨c,o+off*sz,arr,ty,by rw [ho];simp [E8,h1,Own.shift],h2,by rw [hfix];exact h3,h4,T_ (by rw [hfix];exact fun _ _ h=>h) (hd.weak d3) (fun y hy=>by
    simp only [AV.D,D.R] at hy;rw [hrf] at hy;cases hy)⟩
theorem OJ : ∀{l:List AV},(∀x∈l,x.refs=[])->jf l=[]
 |[],_=>rfl|x::r,h=>by rw [jf,h x (by simp),OJ fun y hy=>h y (by simp [hy])];rfl
theorem JL : ∀{l:List AV},jf l=[]->∀x∈l,x.refs=[]
 |y::r,h,x,hx=>by
  rw [jf,List.append_eq_nil_iff] at h;cases hx with
  |head=>exact h.1|tail _ hx=>exact JL h.2 x hx
theorem H9 : ∀{l:List (List AV)},jo l=[]->∀x∈l,jf x=[]
 |y::r,h,x,hx=>by
  rw [jo,List.append_eq_nil_iff] at h;cases hx with
  |head=>exact h.1|tail _ hx=>exact H9 h.2 x hx
theorem Ua {a:Bool}{f:List AV->List AV}(hf:∀row,∀x∈f row,x∈row){l:List (List AV)}(h:jo l=[]):jf (l.map fun row=>lQ a (f row))=[]:=by
 refine OJ fun x hx=>?_;obtain ⟨row,hr,rfl⟩:=aU.1 hx;have hrow:=H9 h row hr;have hfr:∀y∈f row,y.refs=[]:=fun y hy=>JL hrow y (hf row y hy);cases a with
 |true=>exact OJ hfr|false=>
  show (match f row with|x::_=>x | []=>eX).refs=[];generalize hg:f row=q at hfr;cases q with
  |nil=>rfl|cons x r=>exact hfr x (by simp)
theorem ay1 {P:Program}{pc:Pc}{base nE j:Nat}{ins:List Nat}{p:zD}{cs mZ:nX}{vals:List SV}(hρ:fU ρ=true)(hag:AgreeV base ρ σ)(hfit:aaD pc base nE ins p cs mZ=some vals)
  (hcf:∀t e,cs.fr.get t=some e->t∈ins) (hcb:∀b k,cs.ah.get b=some k->b<nE) (hcm:∀b k,cs.ah.get b=some k->∃sz rs,k.den ρ=.rows sz rs/\jo rs=k.zx) (hp:pc.holds ρ) (hsd:∀s∈KO mZ p,s.holds P ρ)
  (hv:∀(i:Nat) (v:SV),vals[i]?=some v->σ.getD (j+i) eX=v.den ρ) {bs:Nat} {w:World} {E:Env} {fr:jB} {ah:AH} {nx:Nat} {a:Act} (hst:Gv ρ N mZ fr ah nx) (iE:Le bs w E fr ah nx a) :
  ∃E' fr' dV,Gv σ N (ay8 p j cs) fr' dV p.nx/\Le bs w E' fr' dV p.nx a/\E'.fix=E.fix/\(∀b,b<nE->E'.own b=E.own b)/\∀b c o,E'.own b=.at c o->∃b' o',E.own b'=.at c o':=by
 unfold aaD at hfit;split at hfit;rotate_left
 .cases hfit
 rename_i f fb ft fo hf hb ht hoo;dsimp only at hfit;cases hc:(ag9 base nE ins p cs mZ&&(TJ nE p.nx p cs (E5 p.fr f++Hz p.ob fo)&&(HY (f.map (·.1)++(fb++(ft++fo.map (·.1))))&&(Nat.ble nE p.nx&&(below nE (p.bl.map (·.1))&&(below nE (p.tb.map (·.1))&&below nE (p.ob.map (·.1))))))))
 .simp [hc] at hfit
 simp only [hc,cond_true,aj] at hfit;subst hfit;simp only [ak] at hc;obtain ⟨hC,hS,hR,hN,hbl,htb,hob⟩:=hc;obtain ⟨SR,hSR⟩:∃SR,SR=E5 p.fr f++Hz p.ob fo:=⟨_,rfl⟩;rw [<- hSR] at hS;have inF:∀{b:Nat} {s:Src},(b,s)∈E5 p.fr f->(b,s)∈SR:=fun h=>by rw [hSR];exact b_ _ h
 have inO:∀{b:Nat} {s:Src},(b,s)∈Hz p.ob fo->(b,s)∈SR:=fun h=>by rw [hSR];exact cO _ h
 have auB:∀s∈TI mZ p.fr,s.holds P ρ:=fun s h=>hsd s (b_ _ h);have auC:∀s∈ag8 mZ p.ob,s.holds P ρ:=fun s h=>hsd s (cO _ h);have hN:=aC hN;obtain ⟨fl,ajH⟩:=WI hf;obtain ⟨bl,arR⟩:=WJ hb;obtain ⟨tl,arS⟩:=WL ht;obtain ⟨ol,arT⟩:=WM hoo;let E':=arQ E nE SR;have hfix:E'.fix=E.fix:=rfl;have hfx:∀c o,E.fix c o->E'.fix c o:=fun _ _ h=>h;have hown:∀b,b<nE->E'.own b=E.own b:=fun b hb=>by show (if b<nE then _ else _)=_;rw [if_pos hb]
 have aaQ:∀{b:Nat} {s:Src},(b,s)∈SR->E'.own b=E8 E s:=fun {b s} hm=>by
  obtain ⟨q1,q2,-,-⟩:=xQ (E:=E) hS hm;show (if b<nE then _ else H7 E _ b)=_;rw [if_neg (by omega),q1]
 have blk:∀{b:Nat} {k:SB},mZ.ah.get b=some k->nN bs w E b (k.den ρ):=fun {b k} hk=>by
  obtain ⟨k0,h0,hw⟩:=hst.ah b k hk;exact hw _ _ _ _ (iE.heap.blk b k0 h0)
 
 have osI:∀{i t b sz:Nat},p.fr[i]?=some (t,.os b sz)->∃e x s,mZ.fr.get t=some e/\e.sure pc=true/\(b,s)∈SR/\σ.getD (j+i) eX=x.den ρ/\
   ((e.v=.nil/\x=.sc .sl .nl/\s=.empty)\/(∃b' off l k,e.v=.os b' sz off l/\mZ.ah.get b'=some k/\(Vz k off l=true/\∀s∈JK k off l,s.holds P ρ)/\ayI sz k off=some x/\s=.at b' (off*sz))):=by
  intro i t b sz hi;obtain ⟨e,x,s,q1,q2,q3,q4⟩:=ajH i t _ hi;refine ⟨e,x,s,q1,q2,inF (TQ hi q4),hv i x (Fa q4),?_⟩;simp only [VA] at q3;split at q3
  .rename_i hev;simp only [aj,aJ] at q3;exact .inl ⟨hev,q3.1.symm,q3.2.symm⟩
  .rename_i b' sz' off l hev;split at q3
   .rename_i k hk;cases hcc:(Nat.beq sz sz'&&Vz k off l)
    .simp [hcc] at q3
    .simp only [hcc,cond_true] at q3;simp only [ak] at hcc;have e1:=au hcc.1;subst e1;split at q3
     .rename_i r hr;simp only [aj,aJ] at q3;obtain ⟨rfl,rfl⟩:=q3;exact .inr ⟨b',off,l,k,hev,hk,⟨hcc.2,WH auB hi q1 hev hk⟩,hr,rfl⟩
     .cases q3
   .cases q3
  .cases q3
 
 have obI:∀{i b:Nat} {o:Ob},p.ob[i]?=some (b,o)->∃(u:List SV) (v:SV) (q:List SV) (x:SV) (s:Src),mZ.ah.get b=some (.rows o.n [u++v::q])/\pW o.pre u=true/\pW o.post q=true/\(o.b,s)∈SR/\
   σ.getD (j+(p.fr.length+(p.bl.length+p.tb.length))+i) eX=.agg (dK ρ (jK u)++x.den ρ::dK ρ (jK q))/\(jK u++x::jK q).flatMap SV.zx=[]/\
   ((v=.nil/\x=.sc .sl .nl/\s=.empty)\/(∃b' off l k,v=.os b' o.sz off l/\mZ.ah.get b'=some k/\(Vz k off l=true/\∀s∈JK k off l,s.holds P ρ)/\ayI o.sz k off=some x/\s=.at b' (off*o.sz))):=by
  intro i b o hi;obtain ⟨u,v,q,x,s,q1,qv,q2,q3,q4,q5⟩:=arT i b o hi;have hval:=hv _ _ (afb (f:=f) (b:=fb) (t:=ft) q5);have hri:=qw hR (afb (f:=f) (b:=fb) (t:=ft) q5);refine ⟨u,v,q,x,s,q1,q2,q3,inO (TN hi q5),?_,?_,?_⟩
  .rw [<- fl,<- bl,<- tl,Nat.add_assoc,Nat.add_assoc,Nat.add_assoc,hval];simp only [SV.den,jr,dK]
  .simp only [SV.zx] at hri;rw [WQ] at hri;exact hri
  .simp only [VA] at q4;split at q4
   .simp only [aj,aJ] at q4;exact .inl ⟨rfl,q4.1.symm,q4.2.symm⟩
   .rename_i b' sz' off l;split at q4
    .rename_i k hk;cases hcc:(Nat.beq o.sz sz'&&Vz k off l)
     .simp [hcc] at q4
     .simp only [hcc,cond_true] at q4;simp only [ak] at hcc;have e1:=au hcc.1;split at q4
      .rename_i r hr;simp only [aj,aJ] at q4;obtain ⟨rfl,rfl⟩:=q4;exact .inr ⟨b',off,l,k,by rw [e1],hk,⟨hcc.2,aaG auC hi qv hk⟩,hr,rfl⟩
      .cases q4
    .cases q4
   .cases q4
 
 have hframe:∀t e,(ay8 p j cs).fr.get t=some e->∃v,a.tmps[t]?=some v/\Rep w E' (e.den σ) v/\t<N:=by
  intro t e he;rcases aau he with ⟨i,q,hi,rfl⟩|⟨hnp,he⟩
  .obtain ⟨e0,x,s,q1,q2,q3,q4⟩:=ajH i t q hi;obtain ⟨a0,ha0,hw0⟩:=hst.fr t e0 q1;obtain ⟨v,hv',hr⟩:=iE.fr.get t a0 ha0;have hlt:t<N:=(by rw [<- hst.len];exact yC ha0);have hr0:Rep w E (e0.v.den ρ) v:=(by rw [<- oq.ZP hp q2];exact hw0 _ _ _ hr);refine ⟨v,hv',?_,hlt⟩;show Rep w E' ((q.sv (j+i)).den σ) v;cases q with
   |os b sz=>
    obtain ⟨e1,x1,s1,r1,r2,r3,r4,r5⟩:=osI hi;rw [q1] at r1;simp only [aj] at r1;subst r1;exact aor r5 (aaQ r3) hr0 (tm:=.var (j+i) []) (by simp only [Tm.den,ayr,r4])
   |sc k=>
    obtain ⟨hwk,he2⟩:=ae6 (σ:=σ) (ρ:=ρ) (j:=j+i) q3 (fun _ _ h=>by cases h) (hv i x (Fa q4));refine qU hfx (hwk _ _ _ hr0) (fun b hb=>?_);rw [he2,qm hρ,qw hR (Fa q4)] at hb;cases hb
   |agg ks=>
    obtain ⟨hwk,he2⟩:=ae6 (σ:=σ) (ρ:=ρ) (j:=j+i) q3 (fun _ _ h=>by cases h) (hv i x (Fa q4));refine qU hfx (hwk _ _ _ hr0) (fun b hb=>?_);rw [he2,qm hρ,qw hR (Fa q4)] at hb;cases hb
  .obtain ⟨h1,h2,h3⟩:=amM hC (hcf t e he) hnp he;obtain ⟨a0,ha0,hw0⟩:=hst.fr t e h3;obtain ⟨v,hv',hr⟩:=iE.fr.get t a0 ha0;have hlt:t<N:=(by rw [<- hst.len];exact yC ha0);refine ⟨v,hv',?_,hlt⟩;rw [<- oq.lq hag h1];refine qU hfx (hw0 _ _ _ hr) (fun b hb=>hown b (h2 b ?_));unfold oq.den at hb;cases hcnd:(e.h.all fun x=>(x.1.den ρ).B == x.2)
   .rw [hcnd] at hb;simp [eX,AV.refs] at hb
   .rw [hcnd] at hb;simp only [cond_true] at hb;rwa [qm hρ] at hb
 
 have hheap:∀b k,(ay8 p j cs).ah.get b=some k->nN bs w E' b (k.den σ)/\((b<nE/\(∃k',mZ.ah.get b=some k')/\((∃ks,(b,ks)∈p.bl)\/(∃sz,(b,sz)∈p.tb)\/(∃o,(b,o)∈p.ob)\/(cs.ah.get b).isSome=true))\/(∃s,(b,s)∈SR/\∀b' d,s=.at b' d->∃k',mZ.ah.get b'=some k')):=by
  intro b k hk;rcases MF hk with ⟨i,t,sz,hi,rfl⟩|⟨hno,hk⟩
  .obtain ⟨e1,x1,s1,r1,r2,r3,r4,r5⟩:=osI hi;have ho:=aaQ r3;have e3:(SB.fZ sz (.var (j+i) [])).den σ=.rows sz (x1.den ρ).D.R:=(by simp only [SB.den,Tm.den,ayr,r4]);rw [e3];have hri:x1.zx=[]:=by
    obtain ⟨e,x,s,q1,q2,q3,q4⟩:=ajH i t _ hi;have:=hv i x (Fa q4);rw [r1] at q1;simp only [aj] at q1;subst q1;rcases r5 with ⟨hev,rfl,-⟩|⟨b',off,l,k,hev,hk',hl,hrw,rfl⟩
    .rfl
    .simp only [VA,hev,hk'] at q3;have hcc:(Nat.beq sz sz&&Vz k off l)=true:=(by simp [hl.1]);rw [hcc] at q3;simp only [cond_true,hrw,aj,aJ] at q3;obtain ⟨rfl,-⟩:=q3;exact qw hR (Fa q4)
   exact aos hfix hρ blk r5 ho hri r3
  .rcases aav hk with ⟨i,ks,hi,rfl⟩|⟨hnb,hk⟩
   .obtain ⟨row,q1,q2,q3⟩:=arR i b ks hi;have hbn:b<nE:=DN hbl b (aU.2 ⟨_,aG hi,rfl⟩);have hval:=hv _ _ (afa (f:=f) (t:=ft++fo.map (·.1)) q3);have e4:dK σ (kG (j+p.fr.length+i) [] 0 ks)=dK ρ (jK row):=by
     have:=TK (σ:=σ) (ρ:=ρ) (j:=j+p.fr.length+i) (pre:=[]) q2 (by rw [<- fl,Nat.add_assoc,hval];rfl);simpa using this
    have hb1:=blk q1;refine ⟨?_,.inl ⟨hbn,⟨_,q1⟩,.inl ⟨ks,aG hi⟩⟩⟩;simp only [SB.den,fQ] at hb1 ⊢;rw [e4];have hb2:=pI.rows (sz:=ks.length) (az:=[dK ρ row]) (bs:=[dK ρ (jK row)]) (.cons lS .nil) _ _ _ _ hb1;refine OG hfix hb2 (hown b hbn) (fun x hx=>?_);have hri:=qw hR (afa (f:=f) (t:=ft++fo.map (·.1)) q3);simp only [SV.zx] at hri;simp only [jo,cu,oz hρ,hri] at hx;cases hx
   .rcases aaw hk with ⟨i,sz,hi,rfl⟩|⟨hnt,hk⟩
    .obtain ⟨k0,x,q1,q2,q3⟩:=arS i b sz hi;cases sz with
     |map msh=>
      have hbn:b<nE:=DN htb b (aU.2 ⟨_,aG hi,rfl⟩);have hval:=hv _ _ (QG (f:=f) (b:=fb) (t:=ft++fo.map (·.1)) (by rw [bf (aA.1 q3).1];exact q3));have e4:σ.getD (j+(p.fr.length+p.bl.length)+i) eX=x.den ρ:=by
       rw [<- fl,<- bl,<- hval];congr 1;omega
      obtain ⟨es,R,d1,d2,d3⟩:=ade (ρ:=ρ) q2;have hb1:=blk q1;rw [d1] at hb1;refine ⟨?_,.inl ⟨hbn,⟨_,q1⟩,.inr (.inl ⟨_,aG hi⟩)⟩⟩;have e5:((Tb.map msh).sb (j+(p.fr.length+p.bl.length)+i)).den σ=.map es:=by
       simp only [Tb.sb,SB.den,Tm.den,ayr,e4,d2];rw [<- d3];rfl
      rw [e5];have hri:=qw hR (QG (f:=f) (b:=fb) (t:=ft++fo.map (·.1)) (by rw [bf (aA.1 q3).1];exact q3));have hrr:jo R=[]:=by
       have:(x.den ρ).refs=[]:=(by rw [qm hρ,hri]);rw [d2] at this;exact this
      refine hb1.env hfx (fun c o off _ h=>h) (hown b hbn) (fun y hy=>?_);rw [<- d3] at hy;simp only [qO.uh,List.map_map] at hy;rw [show ((fun x:AV×AV=>x.1)∘pV msh)=fun row=>lQ msh.ka (row.take msh.kn) from rfl,show ((fun x:AV×AV=>x.2)∘pV msh)=fun row=>lQ msh.va (row.drop msh.kn) from rfl] at hy;rw [Ua (f:=fun row=>row.take msh.kn) (fun row x hx=>bJ hx) hrr,Ua (f:=fun row=>row.drop msh.kn) (fun row x hx=>List.mem_of_mem_drop hx) hrr] at hy;cases hy
     |rows sz=>
     have hbn:b<nE:=DN htb b (aU.2 ⟨_,aG hi,rfl⟩);have hval:=hv _ _ (QG (f:=f) (b:=fb) (t:=ft++fo.map (·.1)) (by rw [bf (aA.1 q3).1];exact q3));have e4:σ.getD (j+(p.fr.length+p.bl.length)+i) eX=x.den ρ:=by
      rw [<- fl,<- bl,<- hval];congr 1;omega
     obtain ⟨rs,R,d1,d2,d3,d4⟩:=H6 (ρ:=ρ) q2;have hb1:=blk q1;rw [d1] at hb1;have hb2:=pI.rows (sz:=sz) d3 _ _ _ _ hb1;refine ⟨?_,.inl ⟨hbn,⟨_,q1⟩,.inr (.inl ⟨_,aG hi⟩)⟩⟩;have e5:(SB.fZ sz (.var (j+(p.fr.length+p.bl.length)+i) [])).den σ=.rows sz R:=by
      simp only [SB.den,Tm.den,ayr,e4,d2];rfl
     rw [show (Tb.rows sz).sb (j+(p.fr.length+p.bl.length)+i)=SB.fZ sz (.var (j+(p.fr.length+p.bl.length)+i) []) from rfl,e5];refine OG hfix hb2 (hown b hbn) (fun y hy=>?_);have hri:=qw hR (QG (f:=f) (b:=fb) (t:=ft++fo.map (·.1)) (by rw [bf (aA.1 q3).1];exact q3));have:(x.den ρ).refs=[]:=(by rw [qm hρ,hri]);rw [d2] at this;simp only [AV.refs] at this;rw [this] at hy;cases hy
    .rcases aax hk with ⟨i,o,hi,rfl⟩|⟨i,a0,o,hi,rfl,rfl⟩|⟨auD,hk⟩
     .obtain ⟨u,v,q,x,s,q1,q2,q3,q4,q5,q6,q7⟩:=obI hi;have hbn:b<nE:=DN hob b (aU.2 ⟨_,aG hi,rfl⟩);refine ⟨?_,.inl ⟨hbn,⟨_,q1⟩,.inr (.inr (.inl ⟨o,aG hi⟩))⟩⟩;have hb1:=blk q1;generalize j+(p.fr.length+(p.bl.length+p.tb.length))+i=jj at q5 ⊢;have lu:=OC q2;have lu':(dK ρ (jK u)).length=o.pre.length:=(by rw [dX,Ce,lu]);have e1:=OB (σ:=σ) (ρ:=ρ) (j:=jj) (pre:=[]) (suf:=x.den ρ::dK ρ (jK q)) q2 (by rw [q5];rfl);have e2:=OB (σ:=σ) (ρ:=ρ) (j:=jj) (pre:=dK ρ (jK u)++[x.den ρ]) (suf:=[]) q3 (by rw [q5];simp);rw [bG,List.length_singleton,lu'] at e2;have htm:(Tm.den σ (.var jj [o.pre.length])).R=(x.den ρ).D.R:=by
       simp only [Tm.den,q5,ayr];rw [aB,bI (by rw [lu'];exact dD _),lu',Nat.sub_self];rfl
      have e3:dK σ (o.row jj)=dK ρ (jK u)++.os o.b o.sz 0 ((Tm.den σ (.rlen (.var jj [o.pre.length]))).I.toNat)::dK ρ (jK q):=by
       unfold Ob.row;rw [jr];simp only [dK];rw [show dK σ (kG jj [] 0 o.pre)=dK ρ (jK u) from e1,e2];rfl
      simp only [SB.den,fQ] at hb1 ⊢;rw [e3];rw [jr] at hb1;simp only [dK] at hb1;have hsc:∀y∈dK ρ u++v.den ρ::dK ρ q,y.iL=true:=by
       rcases hb1 with ⟨-,h2⟩|⟨_,_,_,_,_,_,_,_,h5⟩
       .cases h2
       .exact fun y hy=>h5.2.2.1 _ (by simp) y hy
      have hcl:∀y∈jK u++x::jK q,(y.den ρ).refs=[]:=fun y hy=>by
       rw [qm hρ];exact List.flatMap_eq_nil_iff.1 q6 y hy
      refine ahc hfix hb1 (hown b hbn) ?_ ?_ ?_
      .simp [dX,Ce]
      .intro y hy;rcases aH.1 hy with hy|hy
       .exact OH (fun z hz=>hsc z (b_ _ hz)) y hy
       .cases hy with
        |head=>rfl|tail _ hy=>exact OH (fun z hz=>hsc z (cO _ (aN _ hz))) y hy
      .intro m x1 x2 val h1 h2 h3;have lu1:(dK ρ u).length=o.pre.length:=(by rw [dX,lu]);by_cases hm:m<o.pre.length
       .rw [bf (by omega)] at h1 h2;obtain ⟨y,hy1,hy2,hy3⟩:=OI h1 h2;refine qU hfx (hy3 _ _ _ h3) (fun b hb=>?_);rw [hy2,hcl _ (b_ _ hy1)] at hb;cases hb
       .rw [bI (by omega)] at h1 h2;rw [lu1] at h1;rw [lu'] at h2;obtain ⟨d,hd⟩:∃d,m-o.pre.length=d:=⟨_,rfl⟩;rw [hd] at h1 h2;cases d with
        |zero=>
         simp only [List.getElem?_cons_zero,aj] at h1 h2;subst h1 h2;exact aor q7 (aaQ q4) h3 htm
        |succ d=>
         simp only [List.getElem?_cons_succ] at h1 h2;obtain ⟨y,hy1,hy2,hy3⟩:=OI h1 h2;refine qU hfx (hy3 _ _ _ h3) (fun b hb=>?_);rw [hy2,hcl _ (cO _ (aN _ hy1))] at hb;cases hb
     .obtain ⟨u,v,q,x,s,q1,q2,q3,q4,q5,q6,q7⟩:=obI hi;generalize j+(p.fr.length+(p.bl.length+p.tb.length))+i=jj at q5 ⊢;have ho:=aaQ q4;have lu':(dK ρ (jK u)).length=o.pre.length:=(by rw [dX,Ce,OC q2]);have htm:Tm.den σ (.var jj [o.pre.length])=(x.den ρ).D:=by
       simp only [Tm.den,q5,ayr];rw [aB,bI (by rw [lu'];exact dD _),lu',Nat.sub_self];rfl
      have e3:(SB.fZ o.sz (.var jj [o.pre.length])).den σ=.rows o.sz (x.den ρ).D.R:=(by simp only [SB.den,htm]);rw [e3];exact aos hfix hρ blk q7 ho (List.flatMap_eq_nil_iff.1 q6 x (by simp)) q4
     have hbn:=hcb b k hk;obtain ⟨q1,q2,q3⟩:=amN hC hbn hnb hnt auD hk;obtain ⟨sz,rs,d1,d2⟩:=hcm b k hk;refine ⟨?_,.inl ⟨hbn,⟨_,q3⟩,.inr (.inr (.inr (by rw [hk];rfl)))⟩⟩;rw [<- SB.lq hag q1,d1];have hb1:=blk q3;rw [d1] at hb1;exact OG hfix hb1 (hown b hbn) (fun x hx=>hown x (q2 x (by rw [<- d2];exact hx)))
 have arU:∀{b b':Nat} {k k':SB} {c o c' o':Nat},b≠b'->mZ.ah.get b=some k->mZ.ah.get b'=some k'->E.own b=.at c o->E.own b'=.at c' o'->c≠c':=by
  intro b b' k k' c o c' o' hne h1 h2 h3 h4;obtain ⟨k0,q0,-⟩:=hst.ah b k h1;obtain ⟨k1,q1,-⟩:=hst.ah b' k' h2;exact iE.heap.sep b b' k0 k1 c o c' o' hne q0 q1 h3 h4
 
 have hsrc:∀{b:Nat} {k:SB} {c o:Nat},(ay8 p j cs).ah.get b=some k->E'.own b=.at c o->∃b0 k0 o0,mZ.ah.get b0=some k0/\E.own b0=.at c o0/\((b0=b/\b<nE/\((∃ks,(b,ks)∈p.bl)\/(∃sz,(b,sz)∈p.tb)\/(∃o,(b,o)∈p.ob)\/(cs.ah.get b).isSome=true))\/∃d,(b,.at b0 d)∈SR):=by
  intro b k c o hk ho;rcases (hheap b k hk).2 with ⟨q1,⟨k',q2⟩,q3⟩|⟨s,q1,q2⟩
  .exact ⟨b,k',o,q2,by rw [<- hown b q1];exact ho,.inl ⟨rfl,q1,q3⟩⟩
  .have h2:=aaQ q1;rw [ho] at h2;cases s with
   |no=>cases h2
   |empty=>cases h2
   |«at» b0 d=>
    obtain ⟨k',hk'⟩:=q2 b0 d rfl;obtain ⟨o0,h0⟩:=Own.TP h2.symm;exact ⟨b0,k',o0,hk',h0,.inr ⟨d,q1⟩⟩
 refine ⟨E',TU σ N (ay8 p j cs).fr,gq σ (ay8 p j cs).ah,?_,⟨⟨?_,?_,?_,iE.heap.iY,iE.heap.bs,?_⟩,⟨?_,?_,iE.fr.Gg⟩,iE.defers⟩,rfl,hown,fun b c o hb=>?_⟩
 rotate_right
 .change (if b<nE then E.own b else H7 E SR b)=.at c o at hb;split at hb
  .exact ⟨b,o,hb⟩
  .by_cases hm:∃s,(b,s)∈SR
   .obtain ⟨s,hm⟩:=hm;rw [(xQ (E:=E) hS hm).1] at hb;cases s with
    |no=>cases hb
    |empty=>cases hb
    |«at» b0 d=>exact ⟨b0,Own.TP hb⟩
   .rw [E_ (fun s hs=>hm ⟨s,hs⟩)] at hb;cases hb
 .refine ⟨fun t e he=>?_,fun b k hk=>⟨k.den σ,by unfold gq;rw [hk];rfl,pI.refl _⟩,by simp [TU],dD _⟩;obtain ⟨v,-,-,hlt⟩:=hframe t e he;exact ⟨e.den σ,by rw [Af,if_pos hlt,he];rfl,Weak.refl _⟩
 .intro b k hb;unfold gq at hb;simp only [ay] at hb;obtain ⟨k1,hk1,rfl⟩:=hb;exact (hheap b k1 hk1).1
 .intro b b' k k' c o c' o' hne h1 h2 h3 h4;unfold gq at h1 h2;simp only [ay] at h1 h2;obtain ⟨k1,hk1,-⟩:=h1;obtain ⟨k2,hk2,-⟩:=h2;obtain ⟨x,kx,ox,x1,x2,x3⟩:=hsrc hk1 h3;obtain ⟨y,ky,oy,y1,y2,y3⟩:=hsrc hk2 h4;by_cases hxy:x=y
  .subst hxy;rcases x3 with ⟨rfl,x4,x5⟩|⟨dx,x3⟩
   .rcases y3 with ⟨rfl,-,-⟩|⟨dy,y3⟩
    .exact absurd rfl hne
    .obtain ⟨-,-,-,q⟩:=xQ (E:=E) hS y3;rcases q x _ rfl with q|⟨q1,q2,q4,q3⟩
     .omega
     .rcases x5 with ⟨ks,h⟩|⟨sz,h⟩|⟨o,h⟩|h
      .exact absurd h (q1 ks)
      .exact absurd h (q2 sz)
      .exact absurd h (q4 o)
      .rw [q3] at h;cases h
   .rcases y3 with ⟨rfl,y4,y5⟩|⟨dy,y3⟩
    .obtain ⟨-,-,-,q⟩:=xQ (E:=E) hS x3;rcases q x _ rfl with q|⟨q1,q2,q4,q3⟩
     .omega
     .rcases y5 with ⟨ks,h⟩|⟨sz,h⟩|⟨o,h⟩|h
      .exact absurd h (q1 ks)
      .exact absurd h (q2 sz)
      .exact absurd h (q4 o)
      .rw [q3] at h;cases h
    .exact absurd (aaH hS x3 y3) hne
  .exact arU hxy x1 y1 x2 y2
 .intro b hb;show (if b<nE then _ else H7 E _ b)=_;rw [if_neg (by omega)];refine E_ (fun s hs=>?_);have:=(xQ (E:=E) hS hs).2.2.1;omega
 .intro b c o hb;change (if b<nE then E.own b else H7 E SR b)=.at c o at hb;split at hb
  .exact iE.heap.je b c o hb
  .by_cases hm:∃s,(b,s)∈SR
   .obtain ⟨s,hm⟩:=hm;rw [(xQ (E:=E) hS hm).1] at hb;cases s with
    |no=>cases hb
    |empty=>cases hb
    |«at» b0 d=>
     obtain ⟨o0,h0⟩:=Own.TP hb;exact iE.heap.je b0 c o0 h0
   .rw [E_ (fun s hs=>hm ⟨s,hs⟩)] at hb;cases hb
 .have:=iE.fr.size;rw [hst.len] at this;simpa [TU] using this
 .intro i x hx;rw [Af] at hx;split at hx
  .simp only [ay] at hx;obtain ⟨e,he,rfl⟩:=hx;obtain ⟨v,q1,q2,-⟩:=hframe i e he;exact ⟨v,q1,q2⟩
  .cases hx
end
end Go.Fw
end
section
namespace Go.Fw
variable [iT]
 mutual
def AV.bnd : AV->Prop
  | .p _ | .str _ | .nan=>True| .agg cs=>Fe cs| .gW cs=>Fe cs| .sl rows _=>rows.length<=4294967296/\afd rows| .vp row _=>Fe row| .fn _ x y=>Fe x/\Fe y| .kY _ v=>v.bnd| .os _ _ _ n=>n<=4294967296| .op .. | .mp _=>True
def Fe : List AV->Prop
  |[]=>True|a::r=>a.bnd/\Fe r
def afd : List (List AV)->Prop
  |[]=>True|a::r=>Fe a/\afd r
end
theorem Fg : ∀{l:List AV},(∀a∈l,a.bnd)->Fe l
 |[],_=>trivial|a::r,h=>⟨h a (by simp),Fg fun b hb=>h b (by simp [hb])⟩
theorem aaR : ∀{l:List (List AV)},(∀a∈l,Fe a)->afd l
 |[],_=>trivial|a::r,h=>⟨h a (by simp),aaR fun b hb=>h b (by simp [hb])⟩
theorem WS : ∀{l:List (List AV)},afd l->∀a∈l,Fe a
 |x::r,h,a,ha=>by
  cases ha with
  |head=>exact h.1|tail _ ha=>exact WS h.2 a ha
theorem QH {w:World}{E:Env}{a:AV}{v:Value}(h:Rep w E a v):a.bnd:=by
 have mem:∀{l:List AV} {vs:List Value},l.length=vs.length->(∀(i:Nat) (c:AV) (v:Value),l[i]?=some c->vs[i]?=some v->c.bnd)->Fe l:=by
  intro l vs hl hh;refine Fg fun c hc=>?_;obtain ⟨i,hi⟩:=bF.1 hc;have hlt:i<vs.length:=by rw [<- hl];exact (aA.1 hi).1
  exact hh i c vs[i] hi (by simp [hlt])
 induction h with
 |p h=>trivial|str s l h=>trivial|agg cs vs hl hs _ ih=>exact mem (vs:=vs.toList) (by simpa using hl) (fun i c v h1 h2=>ih i c v h1 (by simpa using h2))|gW cs vs hl _ ih=>exact mem (vs:=vs.toList) (by simpa using hl) (fun i c v h1 h2=>ih i c v h1 (by simpa using h2))|slnil full a=>exact ⟨by simp,trivial⟩|sl rows full sz c o cap g hcap hfull hsz hfix hcell iQ _ ih=>
  refine ⟨hcap.2,aaR fun row hr=>Fg fun x hx=>?_⟩;obtain ⟨i,hi⟩:=bF.1 hr;obtain ⟨j,hj⟩:=bF.1 hx;exact ih i row j x hi hj
 |vp row off c o g hfix hcell iQ _ ih=>
  refine Fg fun x hx=>?_;obtain ⟨j,hj⟩:=bF.1 hx;exact ih j x hj
 |kM b sz off a hb=>exact dB _|os b sz off len c o cap hb hcap hsize=>exact hcap.2|op b sz row off c o hb=>trivial|fn f first captured vs us hl hl' _ _ ih ih'=>exact ⟨mem (vs:=vs.toList) (by simpa using hl) (fun i c v h1 h2=>ih i c v h1 (by simpa using h2)),mem (vs:=us.toList) (by simpa using hl') (fun i c v h1 h2=>ih' i c v h1 (by simpa using h2))⟩|kY t a v _ ih=>exact ih|mp b c hb=>trivial|nan n hn=>trivial
end Go.Fw
namespace Go.Fw
variable [iT]
theorem ajI {P:Program}{f:FuncId}{args:List AV}{r:AV}(h:Fe args->PC P f args r):PC P f args r:=by
 intro w fix vs hfix hG hargs;refine h (Fg fun a ha=>?_) w fix vs hfix hG hargs;obtain ⟨i,hi⟩:=bF.1 ha;have hlt:i<vs.length:=by rw [<- hargs.1];exact (aA.1 hi).1
 exact QH (hargs.2 i a vs[i] hi (by simp [hlt]))
end Go.Fw
end
section
namespace Go.Fw
variable [iT]
section
variable {P : Program} {ρ:List AV} {N:Nat}
theorem aaS {base:Nat}{w0 w:World}{E0 E E':Env}(h:Step base w0 E0 w E)(hf:E'.fix=E.fix)(ho:∀b,E0.own b≠.free->E'.own b=E.own b)(hs:∀b c o,E'.own b=.at c o->∃b' o',E.own b'=.at c o'):Step base w0 E0 w E':=
 ⟨⟨fun c o h0=>by rw [hf];exact h.ext.fix c o h0,h.ext.cell,fun b hb=>(ho b hb).trans (h.ext.own b hb),h.ext.arr⟩,h.below,fun c o hc h0=>h.wZ c o hc (by rw [<- hf];exact h0),h.keep,
  fun b c o h0 hc=>let ⟨b',o',h1⟩:=hs b c o h0;h.CX b' c o' h1 hc,fun c o h0 hc=>h.w_ c o (by rw [<- hf];exact h0) hc⟩
theorem aaT {h:DT}{id base nE:Nat}{cs:nX}:∀{l:List Out} {pc:Pc} {outs:List (Tm×Nat×List SV)} {e:Exit} {st:nX},aaJ h id base nE cs pc l=some outs->pc.holds ρ->sel ρ l=some (e,st)->
  ∃kk vals pc' g,BF ρ outs=some (kk,vals)/\Pc.holds ρ pc'/\ag_ h id base nE cs pc' ⟨g,e,st⟩=some (g,kk,vals)/\∀s∈aaK h id ⟨g,e,st⟩,(pc',s)∈ae7 h id pc l
 |[],pc,outs,e,st,hc,hp,hs=>by simp [sel] at hs
 |[o],pc,outs,e,st,hc,hp,hs=>by
  simp only [sel,aj,aJ] at hs;obtain ⟨rfl,rfl⟩:=hs;simp only [aaJ] at hc;split at hc
  .rename_i x hx;simp only [aj] at hc;subst hc;obtain ⟨g,kk,vals⟩:=x;have hg:o.g=g:=by
    unfold ag_ at hx;split at hx
    .split at hx
     .simp only [aj,aJ] at hx;exact hx.1
     .cases hx
    .split at hx
     .split at hx
      .simp only [aj,aJ] at hx;exact hx.1
      .cases hx
     .cases hx
   subst hg;exact ⟨kk,vals,pc,o.g,rfl,hp,hx,fun s hm=>aU.2 ⟨s,hm,rfl⟩⟩
  .cases hc
 |o::o'::r,pc,outs,e,st,hc,hp,hs=>by
  simp only [aaJ] at hc;split at hc
  .cases hc
  .rename_i x hx;split at hc
   .rename_i l hl;simp only [aj] at hc;subst hc;obtain ⟨g,kk,vals⟩:=x;have hg:o.g=g:=by
     unfold ag_ at hx;split at hx
     .split at hx
      .simp only [aj,aJ] at hx;exact hx.1
      .cases hx
     .split at hx
      .split at hx
       .simp only [aj,aJ] at hx;exact hx.1
       .cases hx
      .cases hx
    subst hg;have aaU:∃y s,l=y::s:=by
     cases l with
     |cons y s=>exact ⟨y,s,rfl⟩|nil=>
      cases r with
      |nil=>
       simp only [aaJ] at hl;split at hl
       .simp at hl
       .cases hl
      |cons o2 r2=>
       simp only [aaJ] at hl;split at hl
       .cases hl
       .split at hl
        .simp at hl
        .cases hl
    obtain ⟨y,s,rfl⟩:=aaU;simp only [sel] at hs;cases hb:(o.g.den ρ).B
    .rw [hb] at hs;obtain ⟨kk',vals',pc',g',q1,q2,q3,q4⟩:=aaT hl (dY hb hp) hs;exact ⟨kk',vals',pc',g',by simp only [BF,hb,cond_false];exact q1,q2,q3,fun s hm=>cO _ (q4 s hm)⟩
    .rw [hb] at hs;simp only [cond_true,aj,aJ] at hs;obtain ⟨rfl,rfl⟩:=hs;exact ⟨kk,vals,_,o.g,by simp only [BF,hb,cond_true],dY hb hp,hx,fun s hm=>b_ _ (aU.2 ⟨s,hm,rfl⟩)⟩
   .cases hc
theorem WT {id:Nat}{e:Exit}:∀{l:List (Exit×zD)} {k0 k:Nat} {p:zD},TS id e k0 l=some (k,p)->∃i x,k=k0+i/\l[i]?=some (x,p)/\amI id x e=true
 |[],k0,k,p,h=>by simp [TS] at h
 |x::r,k0,k,p,h=>by
  simp only [TS] at h;cases hx:amI id x.1 e
  .simp only [hx,cond_false] at h;obtain ⟨i,y,q1,q2,q3⟩:=WT h;exact ⟨i+1,y,by omega,by simpa using q2,q3⟩
  .simp only [hx,cond_true,aj,aJ] at h;obtain ⟨rfl,rfl⟩:=h;exact ⟨0,x.1,rfl,rfl,hx⟩
theorem WU {cs:nX}{nv:Nat}:∀{l:List (Exit×zD)} {k0 q i:Nat} {x:Exit} {p:zD},l[i]?=some (x,p)->(1<l.length->(ρ.getD nv eX).D.I=((k0+i:Nat):Int))->
  sel ρ (Ci cs nv k0 q l)=some (x,ay8 p (q+((l.map fun y=>y.2.m).take i).sum) cs)
 |[],k0,q,i,x,p,h,hs=>by simp at h
 |[y],k0,q,i,x,p,h,hs=>by
  cases i with
  |zero=>simp at h;subst h;simp [Ci,sel]|succ i=>simp at h
 |y::z::r,k0,q,i,x,p,h,hs=>by
  have hsel:=hs (by simp);have hg:(Tm.den ρ (.bin .eql (.int .i64) (.var nv []) (.li k0))).B=decide (i=0):=by
   simp only [Tm.den,oL,D.B,ayr,hsel,dU];show ((((k0+i:Nat)):Int) == (k0:Int))=_;by_cases hi:i=0
   .subst hi;simp
   .simp [hi];omega
  cases i with
  |zero=>
   simp at h;subst h;cases r<;>simp [Ci,sel,hg]
  |succ i=>
   have ih:=WU (cs:=cs) (nv:=nv) (l:=z::r) (k0:=k0+1) (q:=q+y.2.m) (i:=i) (x:=x) (p:=p) (by simpa using h) (fun _=>by rw [hsel];congr 1;omega);have e1:sel ρ (Ci cs nv k0 q (y::z::r))=sel ρ (Ci cs nv (k0+1) (q+y.2.m) (z::r)):=by
    have hne:∃o s,Ci cs nv (k0+1) (q+y.2.m) (z::r)=o::s:=by cases r<;>exact ⟨_,_,rfl⟩
    obtain ⟨o,s,hos⟩:=hne;simp only [Ci,hos,sel,hg];simp
   rw [e1,ih];simp only [aX,List.take_succ_cons,List.sum_cons,Nat.add_assoc]
theorem ajJ {st:nX}{l:List Nat}{t:Nat}{e:oq}(h:(st.cut l).fr.get t=some e):t∈l:=(Tr.DR h).1
theorem apY {st:nX}{l:List Nat}{b:Nat}{k:SB}(h:(st.cut l).ah.get b=some k):b<st.nx:=by
 have:=(Tr.DR h).1;rw [List.mem_filter,List.mem_range] at this;exact this.1
theorem ajK {st:nX}{l:List Nat}{b:Nat}{k:SB}(hρ:fU ρ=true)(h:(st.cut l).ah.get b=some k):∃sz rs,k.den ρ=.rows sz rs/\jo rs=k.zx:=by
 obtain ⟨h1,h2⟩:=Tr.DR h;rw [List.mem_filter] at h1;cases k with
 |rows sz rs=>exact ⟨sz,_,rfl,xK hρ⟩|fZ sz t=>exact ⟨sz,_,rfl,kZ (gQ (Tm.kH hρ t))⟩|map es=>
  have:=h1.2;unfold aaI at this;rw [h2] at this;cases this
 |xC m t=>
  have:=h1.2;unfold aaI at this;rw [h2] at this;cases this
 |it m n k=>
  have:=h1.2;unfold aaI at this;rw [h2] at this;cases this
 |mQ sz t i off x=>exact ⟨sz,_,rfl,by rw [SN (gQ (Tm.kH hρ t)),qm hρ];rfl⟩|iD ty sz rs=>
  have:=h1.2;unfold aaI at this;rw [h2] at this;cases this
theorem afe {st:nX}{h:DT}{b:Nat}{k:SB}(hk:(st.Qn h).ah.get b=some k):b<st.nx:=apY (st:=st) (l:=h.ins) (KP hk)
theorem WV {st:nX}{h:DT}{b:Nat}{k:SB}(hρ:fU ρ=true)(hk:(st.Qn h).ah.get b=some k):∃sz rs,k.den ρ=.rows sz rs/\jo rs=k.zx:=ajK (st:=st) (l:=h.ins) hρ (KP hk)
theorem ajL {a b:List AV}{i:Nat}(h:i<a.length):(a++b).getD i eX=a.getD i eX:=by
 simp [aB,bf h]
theorem Ub {base:Nat}{vs cs:List AV}(h:base<=ρ.length):AgreeV base ρ (ρ.take base++vs++cs):=by
 intro i hi;have hl:(ρ.take base).length=base:=by simp;omega
 rw [cZ,ajL (by omega)];simp [aB,bH,hi]
theorem AgreeV.symm {n:Nat}{a b:List AV}(h:AgreeV n a b):AgreeV n b a:=fun i hi=>(h i hi).symm
theorem AgreeV.trans {n:Nat}{a b c:List AV}(h:AgreeV n a b)(k:AgreeV n b c):AgreeV n a c:=fun i hi=>(h i hi).trans (k i hi)
theorem ajM {base i:Nat}{vs cs:List AV}{v:AV}(h:base<=ρ.length)(hv:vs[i]?=some v):(ρ.take base++vs++cs).getD (base+i) eX=v:=by
 have hl:(ρ.take base).length=base:=by simp;omega
 have hi:=(aA.1 hv).1;rw [cZ];simp only [aB];rw [bI (by omega),hl,Nat.add_sub_cancel_left,bf hi,hv];rfl
theorem WW {l:List SV}{i:Nat}{v:SV}(h:l[i]?=some v):(dK ρ l)[i]?=some (v.den ρ):=by
 rw [agl];simp [h]
theorem ajN {t x:Tm}:∀{l:List Tm},x∈amG l t->x∈l\/x=t:=by
 intro l h;unfold amG at h;cases hc:(l.any fun x=>x.beq t)
 .simp only [hc,cond_false,aH,bT] at h;exact h
 .simp only [hc,cond_true] at h;exact .inl h
theorem Uc {x:Tm}:∀{l acc:List Tm},x∈l.foldl amG acc->x∈acc\/x∈l
 |[],acc,h=>.inl h|y::r,acc,h=>by
  simp only [List.foldl_cons] at h;rcases Uc h with h|h
  .rcases ajN h with h|h
   .exact .inl h
   .exact .inr (by simp [h])
  .exact .inr (by simp [h])
theorem Ud : ∀{l:List AV},Fe l->∀x∈l,x.bnd
 |a::r,h,x,hx=>by
  cases hx with
  |head=>exact h.1|tail _ hx=>exact Ud h.2 x hx
theorem amP {st:nX}{v:SV}(h:(v.den ρ).bnd):∀t∈v.slT st.ah,(t.den ρ).R.length<=4294967296:=by
 intro t ht;cases v with
 |sc k tm=>
  cases k with
  |sl=>
   simp only [SV.slT,bT] at ht;subst ht;exact h.1
  |_=>simp [SV.slT] at ht
 |agg l=>
  simp only [SV.slT,List.mem_filterMap] at ht;obtain ⟨x,hx,he⟩:=ht;split at he
  .rename_i tm;simp only [aj] at he;subst he;have:(AV.sl (Tm.den ρ tm).R false).bnd:=by
    refine Ud (l:=dK ρ l) h _ ?_;rw [agl];exact aU.2 ⟨_,hx,rfl⟩
   exact this.1
  .cases he
 |os b sz off len=>
  simp only [SV.slT] at ht;split at ht
  .rename_i sz' tm hb;cases hc:len.beq (.rlen tm)
   .simp [hc] at ht
   .simp only [hc,cond_true,bT] at ht;subst ht;have e:=Tm.beq_eq hc;subst e;exact h
  .cases ht
 |_=>simp [SV.slT] at ht
theorem amQ {st:nX}{ins:List Nat}{fr:jB}{ah:AH}{nx:Nat}(hst:Gv ρ N st fr ah nx){bs:Nat}{w:World}{E:Env}{a:Act}(iE:Le bs w E fr ah nx a):∀t∈amH st ins,(t.den ρ).R.length<=4294967296:=by
 intro t ht;unfold amH at ht;rcases Uc ht with h|h
 .cases h
 .obtain ⟨s,-,h⟩:=List.mem_flatMap.1 h;unfold aoo at h;split at h
  .rename_i e he;obtain ⟨a0,ha0,hw⟩:=hst.fr s e he;obtain ⟨v,-,hr⟩:=iE.fr.get s a0 ha0;have hb:=QH (hw _ _ _ hr);split at h
   .rename_i hh;have:e.den ρ=e.v.den ρ:=(by unfold oq.den;rw [hh];rfl);rw [this] at hb;exact amP hb t h
   .cases h
  .cases h
theorem ahd {c:Code}{id:Nat}{h:DT}{pc:Pc}{base:Nat}{st:nX}{ent:List SV}{xo:List Out}{outs:List (Tm×Nat×List SV)}{sd:List (Pc×Side)}{aw:List Lo}{bn:List Tm}(hρ:fU ρ=true)(hp:pc.holds ρ)
  (hent:aaD pc base st.nx h.ins h.p (st.Qn h) st=some ent) (hcls:aaJ h id base st.nx (st.Qn h) (pc.old base) xo=some outs) (arV:∀s∈KO st h.p,s.holds P ρ) (arW:∀x∈ae7 h id (pc.old base) xo,x∈sd)
  (hbody:∀σ,fU σ=true->Pc.holds σ (pc.old base)->qR P σ sd->QD P aw σ->∀fr ah nx,Gv σ N (ay8 h.p base (st.Qn h)) fr ah nx->AW P c fr ah nx (EX σ N xo))
  (hlo:Lo.holds P (.mk pc base h.p.m ent outs sd aw (h.xs.map fun y=>y.2.m) bn) ρ) (hbn:bn=amH st h.ins) {fr:jB} {ah:AH} {nx:Nat} (hst:Gv ρ N st fr ah nx) :
  AW P (.block id (.loop c)) fr ah nx (EX ρ N (Ci (st.Qn h) base 0 (ayH base (h.xs.map fun y=>y.2.m) 0) h.xs)):=by
 unfold Lo.holds at hlo;subst hbn;refine Sj ?_;intro bs w E a iE;obtain ⟨hbl,n,k,us,hrun,hres⟩:=hlo hp (amQ hst iE);have hE0:∀b,E.own b≠.free->b<st.nx:=fun b hb=>Nat.lt_of_not_le fun hle=>hb (iE.heap.fresh b (bW hst.nx hle));let J:Nat->Act->World->Prop:=fun n a' w'=>∃n' vs cs' E' fr' dV,n=n'+1/\fU (ρ.take base++vs++cs')=true/\(qR P (ρ.take base++vs++cs') sd/\QD P aw (ρ.take base++vs++cs'))/\
  (match BF (ρ.take base++vs++cs') outs with
   |none=>False|some (0,l)=>ac3 (fun σ=>qR P σ sd/\QD P aw σ) outs (ρ.take base) h.p.m n' (dK (ρ.take base++vs++cs') l) k us|some (j+1,l)=>k=j/\us=dK (ρ.take base++vs++cs') l)/\
  Gv (ρ.take base++vs++cs') N (ay8 h.p base (st.Qn h)) fr' dV h.p.nx/\Le bs w' E' fr' dV h.p.nx a'/\Step bs w E w' E'
 
 have enter:∀{n vals τ pcτ mZ fr1 Vm nx1 w1 E1 a1},ac3 (fun σ=>qR P σ sd/\QD P aw σ) outs (ρ.take base) h.p.m n (dK τ vals) k us->fU τ=true->AgreeV base ρ τ->Pc.holds τ pcτ->(∀s∈KO mZ h.p,s.holds P τ)->aaD pcτ base st.nx h.ins h.p (st.Qn h) mZ=some vals->
   Gv τ N mZ fr1 Vm nx1->Le bs w1 E1 fr1 Vm nx1 a1->Step bs w E w1 E1->J n a1 w1:=by
  intro n vals τ pcτ mZ fr1 Vm nx1 w1 E1 a1 hr hτ hag hpτ auG hfit hs1 ajO adg;cases n with
  |zero=>exact hr.elim|succ n=>
   obtain ⟨cs',h1,h2,h3,h4⟩:=hr;obtain ⟨E2,fr2,ah2,q1,q2,q3,q4,q5⟩:=ay1 (j:=base) hτ (hag.symm.trans (Ub (vs:=dK τ vals) (cs:=cs') hbl)) hfit (fun t e he=>ajJ (st:=st) he) (fun b k hk=>afe hk) (fun b k hk=>WV hτ hk) hpτ auG
    (fun i v hv=>ajM hbl (WW hv)) hs1 ajO
   exact ⟨n,_,cs',E2,fr2,ah2,rfl,h2,h3,h4,q1,q2,aaS adg q3 (fun b hb=>q4 b (hE0 b hb)) q5⟩
 refine wp_loop_ghost J n (enter hrun hρ (fun _ _=>rfl) hp arV hent hst iE (Step.refl _ _ _)) ?_;intro n0 a1 w1 ⟨n',vs,cs',E1,fr1,Vm,hn,hfz,hS,hmatch,hst1,ajO,adg⟩;subst hn;have hag:=Ub (ρ:=ρ) (vs:=vs) (cs:=cs') hbl;generalize hσ:ρ.take base++vs++cs'=σ at *;have hpo:Pc.holds σ (pc.old base):=Pc.ag7 hag hp;refine wp_mono (hbody σ hfz hpo hS.1 hS.2 fr1 Vm _ hst1 bs w1 E1 a1 ajO) fun e a2 w2 hpost=>?_;obtain ⟨E2,fr2,ah2,nx2,⟨st2,hsel,hst2⟩,aot,hstep2⟩:=hpost;have hstep:=adg.trans hstep2;obtain ⟨kk,vals,pc',g,q1,q2,q3,q4⟩:=aaT hcls hpo hsel;have hsd2:∀s∈aaK h id ⟨g,e,st2⟩,s.holds P σ:=fun s hm=>hS.1 (pc',s) (arW _ (q4 s hm)) q2;rw [q1] at hmatch
 
 have leave:∀(k':Nat) (p:zD),TS id e 0 h.xs=some (k',p)->(∀s∈KO st2 p,s.holds P σ)->aaD pc' base st.nx h.ins p (st.Qn h) st2=some vals->kk=k'+1->y9 bs w E (AIn id (EX ρ N (Ci (st.Qn h) base 0 (ayH base (h.xs.map fun y=>y.2.m) 0) h.xs))) e a2 w2:=by
  intro k' p hf auH hfit hkk;subst hkk;obtain ⟨rfl,rfl⟩:=hmatch;obtain ⟨i,x,hi,hx,hex⟩:=WT hf;rw [Nat.zero_add] at hi;subst hi;have hpos:ayH base (h.xs.map fun y=>y.2.m) k=ayH base (h.xs.map fun y=>y.2.m) 0+((h.xs.map fun y=>y.2.m).take k).sum:=by
   unfold ayH;simp
  obtain ⟨E3,fr3,ah3,r1,r2,r3,r4,r5⟩:=ay1 (j:=ayH base (h.xs.map fun y=>y.2.m) k) hfz hag.symm hfit (fun t e he=>ajJ (st:=st) he) (fun b k hk=>afe hk) (fun b k hk=>WV hfz hk) q2 auH
    (fun i v hv=>hres.2 i _ (WW hv)) hst2 aot
  have hs3:=aaS hstep r3 (fun b hb=>r4 b (hE0 b hb)) r5;have hQ:EX ρ N (Ci (st.Qn h) base 0 (ayH base (h.xs.map fun y=>y.2.m) 0) h.xs) x fr3 ah3 p.nx:=by
   refine ⟨_,WU hx (fun hl=>?_),?_⟩
   .rw [Nat.zero_add];exact hres.1 (by simpa using hl)
   .rw [<- hpos];exact r1
  refine ⟨E3,fr3,ah3,p.nx,?_,r2,hs3⟩;cases x<;>cases e<;>simp only [amI,ak,Bool.not_eq_true'] at hex
  all_goals first
   |(cases hex;done)
   |exact hQ
   |(have:=au hex;subst this;simp only [AIn,if_true];exact hQ)
   |(
     obtain ⟨g1,g2⟩:=hex;have:=au g1;subst this;simp only [AIn];split
     .rename_i hj;subst hj;simp at g2
     .exact hQ)
 unfold ag_ at q3;cases e with
 |normal=>
  dsimp only at q3;split at q3
  .rename_i v hv;simp only [aj,aJ,true_and] at q3;obtain ⟨rfl,rfl⟩:=q3;exact ⟨n',Nat.lt_succ_self _,enter hmatch hfz hag q2 hsd2 hv hst2 aot hstep⟩
  .cases q3
 |_=>
  dsimp only at q3;split at q3
  .rename_i k' p hf;split at q3
   .rename_i v hv;simp only [aj,aJ,true_and] at q3;obtain ⟨rfl,rfl⟩:=q3;exact leave k' p hf (by simpa only [aaK,hf] using hsd2) hv rfl
   .cases q3
  .cases q3
end
end Go.Fw
end
