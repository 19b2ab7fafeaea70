/- Machinery of this seat's proofs (S12, S13, S14, L1, L2, Rg, S15, L3, Bn, L4): lemmas that the last text uses; no statement of its own. -/
import Derived.Test.YtlnenmklgkgaeaaFwD
import Derived.Test.YtlnenmklgkgaeaaFwB
import Derived.Test.YtlnenmklgkgaeaaFwC
section
set_option linter.unusedVariables false
set_option linter.unusedSimpArgs false
set_option linter.unusedSectionVars false
namespace Go.Fw
variable [Glob]
set_option linter.unusedSimpArgs false
set_option linter.unusedVariables false
set_option linter.unusedSectionVars false
def addPc : Tm→Bool→Pc→Pc
 | .lb _,_,pc=>pc
 | .not t,b,pc=>addPc t (!b) pc
 | .and x y,true,pc=>addPc x true (addPc y true pc)
 | .or x y,false,pc=>addPc x false (addPc y false pc)
 |t,b,pc=>(t,b)::pc
theorem addPc_holds {ρ:List AV}:∀{t:Tm} {b:Bool} {pc:Pc},(t.den ρ).B=b→Pc.holds ρ pc→Pc.holds ρ (addPc t b pc):=by
 intro t
 induction t with
 |lb v=>intro b pc _ hp;exact hp
 |not t ih=>
  intro b pc h hp
  exact ih (by simp only [Tm.den,D.B_b] at h;rw [← h];simp) hp
 |and x y ihx ihy=>
  intro b pc h hp
  cases b with
  |true=>
   simp only [Tm.den,D.B_b,Bool.and_eq_true] at h
   exact ihx h.1 (ihy h.2 hp)
  |false=>exact Pc.holds_cons h hp
 |or x y ihx ihy=>
  intro b pc h hp
  cases b with
  |false=>
   simp only [Tm.den,D.B_b,Bool.or_eq_false_iff] at h
   exact ihx h.1 (ihy h.2 hp)
  |true=>exact Pc.holds_cons h hp
 |_=>intro b pc h hp;exact Pc.holds_cons h hp
def selG {α:Type}(ρ:List AV):List (Tm×α)→Option α
 |[]=>none
 |[x]=>some x.2
 |x::y::r=>bif (x.1.den ρ).B then some x.2 else selG ρ (y::r)
def gdA {α:Type}(g:Tm):List (Tm×α)→List (Tm×α)
 |[]=>[]
 |[x]=>[(g,x.2)]
 |x::y::r=>(mkAnd g x.1,x.2)::gdA g (y::r)
theorem selG_ne {α:Type}{ρ:List AV}:∀{l:List (Tm×α)},l≠[]→∃x,selG ρ l=some x
 |[],h=>absurd rfl h
 |[x],_=>⟨_,rfl⟩
 |x::y::r,_=>by
  simp only [selG]
  cases (x.1.den ρ).B
  ·exact selG_ne (l:=y::r) (by simp)
  ·exact ⟨_,rfl⟩
theorem gdA_ne {α:Type}{g:Tm}:∀{l:List (Tm×α)},l≠[]→gdA g l≠[]
 |[],h=>absurd rfl h
 |[x],_=>by simp [gdA]
 |x::y::r,_=>by simp [gdA]
theorem selG_gdA {α:Type}{ρ:List AV}{g:Tm}:∀{l rest:List (Tm×α)},rest≠[]→l≠[]→selG ρ (gdA g l++rest)=bif (g.den ρ).B then selG ρ l else selG ρ rest
 |[],rest,hr,hl=>absurd rfl hl
 |[x],rest,hr,_=>by
  obtain ⟨z,s,rfl⟩:=List.exists_cons_of_ne_nil hr
  simp only [gdA,List.cons_append,List.nil_append,selG]
 |x::y::r,rest,hr,_=>by
  have ih:=selG_gdA (ρ:=ρ) (g:=g) (l:=y::r) hr (by simp)
  obtain ⟨u,v,huv⟩:=List.exists_cons_of_ne_nil (gdA_ne (g:=g) (l:=y::r) (by simp))
  simp only [gdA,List.cons_append]
  rw [huv] at ih ⊢
  simp only [List.cons_append] at ih ⊢
  simp only [selG,mkAnd_den,ih]
  cases (g.den ρ).B<;>cases (x.1.den ρ).B<;>rfl
structure CO where
 v:SV
 th:Tr SB
 nx:Nat
structure CR where
 outs:List (Tm×CO)
 nv:Nat
 sd:List (Pc×Sd)
abbrev Inl :=Pc→Tr SB→Nat→Nat→FuncId→List SV→Option CR
def InlOk (P:Program)(ρ:List AV)(inl:Inl):Prop:=
 ∀pc th nx nv f args R,inl pc th nx nv f args=some R→Pc.holds ρ pc→SidesX P ρ R.sd→
  ∀base w E ah vs,AhR ρ th ah→HeapOk base w E ah (fun b=>nx≤b)→GOk w E.fix→RepL w E (denL ρ args) vs→
   ∀(o:Oper) (a:Act),(∀w',(execOp a.eval o).run P w'=(callFunc f vs.toArray).run P w')→∀(next:Act→World→Prop) (Q:Exit→Act→World→Prop),
    (∀c,selG ρ R.outs=some c→∀v w' E' ah',AhR ρ c.th ah'→Step base w E w' E'→HeapOk base w' E' ah' (fun b=>c.nx≤b)→Rep w' E' (c.v.den ρ) v→next (a.put o.dst v) w')→o.wp P a w next Q
def methOf (P:Program)(t:TypeId)(name:String):Option FuncId:=
 match P.info? t with
 |none=>none
 |some i=>match i.methods.find? (·.name == name) with
  |none=>none
  |some m=>match m.path.toList,m.func,P.underlying t with
   |[],some (f,true),some (.pointer _)=>some f
   |_,_,_=>none
def calleeOf (P:Program)(isI:FuncId→Bool)(pc:Pc)(tr:Tr Ent)(op:Op):Option (FuncId×List SV):=
 match op with
 | .call ⟨.value x,args,_⟩=>match evS pc tr x with
  |some (.fn f first captured)=>bif (match x with | .func _=>isI f|_=>true) then
    (match evSA pc tr args.toList with|some l=>some (f,first++l++captured)|none=>none) else none
  |_=>none
 | .call ⟨.invoke x name,args,_⟩=>match evS pc tr x with
  |some (.ifc t v)=>match methOf P t name with
   |some f=>(match evSA pc tr args.toList with|some l=>some (f,v::l)|none=>none)
   |none=>none
  |_=>none
 |_=>none
structure RQ where
 tr:Tr Ent
 th:Tr SB
 nx:Nat
structure SQ where
 outs:List (Tm×RQ)
 nv:Nat
 sd:List (Pc×Sd)
def sFork (k:Pc→CO→Nat→Option SQ):Pc→List (Tm×CO)→Nat→Option SQ
 |_,[],_=>none
 |pc,[x],nv=>k pc x.2 nv
 |pc,x::y::r,nv=>match k (addPc x.1 true pc) x.2 nv with
  |none=>none
  |some a=>match sFork k (addPc x.1 false pc) (y::r) a.nv with
   |none=>none
   |some b=>some ⟨gdA x.1 a.outs++b.outs,b.nv,a.sd++b.sd⟩
def sSeq (P:Program)(X:Ext')(inl:Inl)(isI:FuncId→Bool)(N:Nat)(ops:Array Oper):List Oper→Pc→RQ→Nat→Option SQ
 |[],_,R,nv=>some ⟨[(.lb true,R)],nv,[]⟩
 |o::rest,pc,R,nv=>
  bif dstOk N o.dst then
   match sWhen ops pc R.tr o with
   |none=>none
   |some .no=>sSeq P X inl isI N ops rest pc {R with tr:=putE R.tr o.dst ⟨[],.c .undef⟩} nv
   |some .yes=>match calleeOf P isI pc R.tr o.op with
    |some (f,args)=>match inl pc R.th R.nx nv f args with
     |none=>none
     |some C=>match sFork (fun pc c nv=>sSeq P X inl isI N ops rest pc ⟨putE R.tr o.dst ⟨[],c.v⟩,c.th,c.nx⟩ nv) pc C.outs C.nv with
      |none=>none
      |some y=>some ⟨y.outs,y.nv,C.sd++y.sd⟩
    |none=>match sOp P X pc R.tr R.th R.nx nv o.op with
     |none=>none
     |some r=>match sSeq P X inl isI N ops rest pc ⟨putE R.tr o.dst ⟨[],r.v⟩,wrT R.th r.wr,R.nx+1⟩ r.nv with
      |none=>none
      |some y=>some ⟨y.outs,y.nv,tagX pc r.sd y.sd⟩
   |some (.maybe l)=>match sOp P X (l++pc) R.tr R.th R.nx nv o.op with
    |none=>match l with
     |[(t,b)]=>match calleeOf P isI (addPc t b pc) R.tr o.op with
      |none=>none
      |some (f,args)=>match inl (addPc t b pc) R.th R.nx nv f args with
       |none=>none
       |some C=>match sFork (fun pc c nv=>sSeq P X inl isI N ops rest pc ⟨putE R.tr o.dst ⟨[],c.v⟩,c.th,c.nx⟩ nv) (addPc t b pc) C.outs C.nv with
        |none=>none
        |some y=>match sSeq P X inl isI N ops rest (addPc t (!b) pc) {R with tr:=putE R.tr o.dst ⟨[],.c .undef⟩} y.nv with
         |none=>none
         |some z=>some ⟨bif b then gdA t y.outs++z.outs else gdA t z.outs++y.outs,z.nv,C.sd++(y.sd++z.sd)⟩
     |_=>none
    |some r=>bif r.wr.isEmpty then match sSeq P X inl isI N ops rest pc ⟨putE R.tr o.dst ⟨l,r.v⟩,R.th,R.nx+1⟩ r.nv with
      |none=>none
      |some y=>some ⟨y.outs,y.nv,tagX (l++pc) r.sd y.sd⟩
     else match l with
     |[(t,b)]=>match sOp P X (addPc t b pc) R.tr R.th R.nx nv o.op with
      |none=>none
      |some r=>match sSeq P X inl isI N ops rest (addPc t b pc) ⟨putE R.tr o.dst ⟨[],r.v⟩,wrT R.th r.wr,R.nx+1⟩ r.nv with
       |none=>none
       |some y=>match sSeq P X inl isI N ops rest (addPc t (!b) pc) {R with tr:=putE R.tr o.dst ⟨[],.c .undef⟩} y.nv with
        |none=>none
        |some z=>some ⟨bif b then gdA t y.outs++z.outs else gdA t z.outs++y.outs,z.nv,tagX (addPc t b pc) r.sd (y.sd++z.sd)⟩
     |_=>none
  else none
def bitsB (M:List Nat)(i:Nat)(l:List Nat):Bool:=l.all fun k=>(M.getD i 0).testBit k
def addF (fs:List Foot)(i:Nat)(rd wr:List Nat):List Foot:=bif rd.isEmpty&&wr.isEmpty then fs else ⟨i,rd,wr⟩::fs
def sameB : Option SB→Option SB→Bool
 |some (.rows a r),some (.rows b s)=>Nat.beq a b&&beqLL r s
 |some (.rowsT a t),some (.rowsT b u)=>Nat.beq a b&&t.beq u
 |_,_=>false
theorem sameB_eq {x y:Option SB}(h:sameB x y=true):∃k,x=some k∧y=some k:=by
 unfold sameB at h
 split at h
 ·simp only [Bool.and_eq_true] at h;rw [Nat.eq_of_beq_eq_true h.1,beqLL_eq h.2];exact ⟨_,rfl,rfl⟩
 ·simp only [Bool.and_eq_true] at h;rw [Nat.eq_of_beq_eq_true h.1,Tm.beq_eq h.2];exact ⟨_,rfl,rfl⟩
 ·cases h
def sameC (th:Tr SB)(outs:List (Tm×CO))(b:Nat):Bool:=outs.all fun x=>sameB (x.2.th.get b) (th.get b)
def callOk (M:List Nat)(i:Nat)(qs:List Nat)(fs:List Foot)(th:Tr SB)(outs:List (Tm×CO)):Bool:=
 bitsB M i qs&&fs.all (fun f=>(M.getD i 0).testBit f.i||(f.wr.isEmpty&&f.rd.all (fun b=>sameC th outs b)))
abbrev CS :=List (Nat×(Nat→Bool)×(Unit→Bool))
def framedC (th:Tr SB)(nx:Nat)(args:List SV)(outs:List (Tm×CO))(_:Unit):Bool:=framed0 th nx args&&outs.all fun x=>framed1 th nx x.2.nx x.2.th x.2.v
def bitsC (M:List Nat)(i:Nat)(cs:CS):Bool:=cs.all fun c=>(M.getD i 0).testBit c.1
def csOk (M:List Nat)(i:Nat)(pu:Bool)(own:Nat)(rd wr:List Nat)(cs:CS):Bool:=cs.all fun c=>(M.getD i 0).testBit c.1||(rd.all c.2.1&&((pu&&wr.isEmpty)||(wr.all (Nat.beq own)&&c.2.2 ())))
def Tr.filt {α:Type}:Tr α→(Nat→α→Bool)→Tr α
 | .e,_=>.e
 | .n l x r,f=>.n (Tr.filt l (fun j=>f (2*j+1))) (match x with|none=>none|some a=>bif f 0 a then some a else none) (Tr.filt r (fun j=>f (2*j+2)))
theorem Tr.filt_get {α:Type}:∀{t:Tr α} {f:Nat→α→Bool} {k:Nat} {a:α},(t.filt f).get k=some a→t.get k=some a
 | .e,f,k,a,h=>by simp [Tr.filt,Tr.get] at h
 | .n l x r,f,k,a,h=>by
  simp only [Tr.filt,Tr.get] at h ⊢
  cases h1:Nat.beq k 0
  ·simp only [h1,cond_false] at h ⊢
   cases h2:Nat.beq (k % 2) 1
   ·simp only [h2,cond_false] at h ⊢;exact Tr.filt_get h
   ·simp only [h2,cond_true] at h ⊢;exact Tr.filt_get h
  ·simp only [h1,cond_true] at h ⊢
   cases x with
   |none=>cases h
   |some y=>
    simp only at h
    cases hf:f 0 y
    ·simp [hf] at h
    ·simpa [hf] using h
def cleanT (nx:Nat):Nat→Tr SB→Tr SB
 |0,th=>th
 |n+1,th=>cleanT nx n (th.filt fun b k=>Nat.ble (b+1) nx&&k.rfs.all (isIn th))
theorem cleanT_get {nx:Nat}:∀{n:Nat} {th:Tr SB} {b:Nat} {k:SB},(cleanT nx n th).get b=some k→th.get b=some k
 |0,th,b,k,h=>h
 |n+1,th,b,k,h=>Tr.filt_get (cleanT_get (n:=n) h)
def firstO {α:Type}(a:Option α)(b:Unit→Option α):Option α:=match a with|some y=>some y|none=>b ()
theorem firstO_some {α:Type}{a:Option α}{b:Unit→Option α}{y:α}(h:firstO a b=some y):a=some y∨b ()=some y:=by
 unfold firstO at h
 split at h
 ·exact .inl h
 ·exact .inr h
def addQ (i:Nat)(op:Op)(qs:List Nat):List Nat:=bif purO op then qs else i::qs
def sDraw (P:Program)(X:Ext')(inl:Inl)(isI:FuncId→Bool)(N:Nat)(ops:Array Oper)(M:List Nat):Nat→List Oper→Pc→List Nat→CS→List Foot→RQ→Nat→Option SQ
 |_,[],_,_,_,_,R,nv=>some ⟨[(.lb true,R)],nv,[]⟩
 |i,o::rest,pc,qs,cs,fs,R,nv=>
  bif dstOk N o.dst then
   match sWhen ops pc R.tr o with
   |none=>none
   |some .no=>sDraw P X inl isI N ops M (i+1) rest pc qs cs fs {R with tr:=putE R.tr o.dst ⟨[],.c .undef⟩} nv
   |some .yes=>match calleeOf P isI pc R.tr o.op with
    |some (f,args)=>
      firstO ((fun th0=>
      match inl pc th0 R.nx nv f args with
      |none=>none
      |some C=>bif bitsC M i cs&&callOk M i qs fs th0 C.outs then match sFork (fun pc c nv=>sDraw P X inl isI N ops M (i+1) rest pc qs ((i,sameC th0 C.outs,framedC th0 R.nx args C.outs)::cs) fs ⟨putE R.tr o.dst ⟨[],c.v⟩,c.th,Nat.max c.nx R.nx⟩ nv) pc C.outs C.nv with
       |none=>none
       |some y=>some ⟨y.outs,y.nv,C.sd++y.sd⟩
       else none) R.th) (fun _=>(fun th0=>
      match inl pc th0 R.nx nv f args with
      |none=>none
      |some C=>bif bitsC M i cs&&callOk M i qs fs th0 C.outs then match sFork (fun pc c nv=>sDraw P X inl isI N ops M (i+1) rest pc qs ((i,sameC th0 C.outs,framedC th0 R.nx args C.outs)::cs) fs ⟨putE R.tr o.dst ⟨[],c.v⟩,c.th,Nat.max c.nx R.nx⟩ nv) pc C.outs C.nv with
       |none=>none
       |some y=>some ⟨y.outs,y.nv,C.sd++y.sd⟩
       else none) (cleanT R.nx 4 R.th))
    |none=>match sOp P X pc R.tr R.th R.nx nv o.op with
     |none=>none
     |some r=>bif csOk M i (purO o.op) R.nx r.rd (r.wr.map (·.1)) cs&&fs.all (fun f=>apartB M i r.rd (r.wr.map (·.1)) f) then
       match sDraw P X inl isI N ops M (i+1) rest pc (addQ i o.op qs) cs (addF fs i r.rd (r.wr.map (·.1))) ⟨putE R.tr o.dst ⟨[],r.v⟩,wrT R.th r.wr,R.nx+1⟩ r.nv with
       |none=>none
       |some y=>some ⟨y.outs,y.nv,tagX pc r.sd y.sd⟩
      else none
   |some (.maybe l)=>match sOp P X (l++pc) R.tr R.th R.nx nv o.op with
    |none=>none
    |some r=>bif r.wr.isEmpty&&(csOk M i (purO o.op) R.nx r.rd [] cs&&fs.all (fun f=>apartB M i r.rd (r.wr.map (·.1)) f)) then
      match sDraw P X inl isI N ops M (i+1) rest pc (addQ i o.op qs) cs (addF fs i r.rd []) ⟨putE R.tr o.dst ⟨l,r.v⟩,R.th,R.nx+1⟩ r.nv with
      |none=>none
      |some y=>some ⟨y.outs,y.nv,tagX (l++pc) r.sd y.sd⟩
     else match l with
     |[(t,b)]=>match sOp P X (addPc t b pc) R.tr R.th R.nx nv o.op with
      |none=>none
      |some r=>bif csOk M i (purO o.op) R.nx r.rd (r.wr.map (·.1)) cs&&fs.all (fun f=>apartB M i r.rd (r.wr.map (·.1)) f) then
        match sDraw P X inl isI N ops M (i+1) rest (addPc t b pc) (addQ i o.op qs) cs (addF fs i r.rd (r.wr.map (·.1))) ⟨putE R.tr o.dst ⟨[],r.v⟩,wrT R.th r.wr,R.nx+1⟩ r.nv with
        |none=>none
        |some y=>match sDraw P X inl isI N ops M (i+1) rest (addPc t (!b) pc) qs cs fs {R with tr:=putE R.tr o.dst ⟨[],.c .undef⟩} y.nv with
         |none=>none
         |some z=>some ⟨bif b then gdA t y.outs++z.outs else gdA t z.outs++y.outs,z.nv,tagX (addPc t b pc) r.sd (y.sd++z.sd)⟩
       else none
     |_=>none
  else none
section
variable {P : Program} {ρ:List AV} {pc:Pc} {X:Ext'} {inl:Inl} {isI:FuncId→Bool}
theorem callee_run {w:World}{E:Env}{fr:AFr}{o:Oper}{a:Act}{f:FuncId}(hfr:FrOk w E fr a.tmps){x:Operand}{l:Array Operand}{ts:Array TypeId}{first captured m:List AV}(hop:o.op=.call ⟨.value x,l,ts⟩)
  (hx:ev fr x=some (.fn (.func f) first captured)) (hm:evA fr l.toList=some m):∃vs,RepL w E (first++m++captured) vs∧∀w',(execOp a.eval o).run P w'=(callFunc f vs.toArray).run P w':=by
 have hv:=ev_rep hfr hx
 have hl:=evA_rep hfr hm
 obtain ⟨vs,us,h1,h2,hval⟩:∃vs us:Array Value,RepL w E first vs.toList∧RepL w E captured us.toList∧a.eval x=.func (.func f) vs us:=by
  generalize a.eval x=val at hv
  cases hv with
  |fn _ _ _ vs us q1 q2 q3 q4=>exact ⟨vs,us,⟨by simpa using q1,fun i c v e1 e2=>q3 i c v e1 (by simpa using e2)⟩,⟨by simpa using q2,fun i c v e1 e2=>q4 i c v e1 (by simpa using e2)⟩,rfl⟩
 refine ⟨vs.toList++l.toList.map a.eval++us.toList,RepL.append (RepL.append h1 hl) h2,?_⟩
 have e:vs++l.map a.eval++us=(vs.toList++l.toList.map a.eval++us.toList).toArray:=by apply Array.ext';simp
 intro w'
 congr 1
 simp only [execOp,hop,resolve,hval,Deferred.ofValue,invoke]
 rw [← e]
 rfl
def CalleeRun (P:Program)(fr:AFr)(op:Op)(f:FuncId)(args:List AV):Prop:=
 ∀(w:World) (E:Env) (fr':AFr) (a:Act) (o:Oper),o.op=op→Agree fr fr' op.operands.toList→FrOk w E fr' a.tmps→∃vs,RepL w E args vs∧∀w',(execOp a.eval o).run P w'=(callFunc f vs.toArray).run P w'
theorem method_run {t:TypeId}{name:String}{f:FuncId}(h:methOf P t name=some f)(v:Value)(w:World)(n:Nat):(method (n+1) t v name).run P w=.ok (f,v) w:=by
 unfold methOf at h
 split at h
 ·cases h
 ·rename_i i hi
  split at h
  ·cases h
  ·rename_i m hm
   split at h
   ·rename_i f' e hp hf hu
    simp only [Option.some.injEq] at h;subst h
    simp [method,typeInfo,hi,hm,hp,hf,follow,receiverAt,run_underlying hu,Place.get]
   ·cases h
theorem calleeOf_ok {fr:AFr}{tr:Tr Ent}{op:Op}{f:FuncId}{args:List SV}(hp:pc.holds ρ)(hf:FrR ρ tr fr)(h:calleeOf P isI pc tr op=some (f,args)):CalleeRun P fr op f (denL ρ args):=by
 unfold calleeOf at h
 split at h
 ·rename_i x l ts
  split at h
  ·rename_i f' first captured hx
   generalize (match x with | .func _=>isI f' | _=>true)=g at h
   cases g
   ·cases h
   ·simp only [cond_true] at h
    split at h
    ·rename_i m hm
     simp only [Option.some.injEq,Prod.mk.injEq] at h
     obtain ⟨rfl,rfl⟩:=h
     intro w E fr' a o hop hag hfr
     rw [denL_append,denL_append]
     have hx':ev fr' x=_:=(ev_congr hag (by simp [Op.operands,Call.operands])).trans (evS_ev hp hf hx)
     have hm':evA fr' l.toList=_:=(evA_congr hag (by intro z hz;simp [Op.operands,Call.operands];exact .inr (by simpa using hz))).trans (evSA_ev hp hf hm)
     exact callee_run (P:=P) hfr hop hx' hm'
    ·cases h
  ·cases h
 ·rename_i x name l ts
  split at h
  ·rename_i t v hx
   split at h
   ·rename_i f' hmeth
    split at h
    ·rename_i m hm
     simp only [Option.some.injEq,Prod.mk.injEq] at h
     obtain ⟨rfl,rfl⟩:=h
     intro w E fr' a o hop hag hfr
     have hx':ev fr' x=some (.ifc t (v.den ρ)):=(ev_congr hag (by simp [Op.operands,Call.operands])).trans (evS_ev hp hf hx)
     have hm':evA fr' l.toList=_:=(evA_congr hag (by intro z hz;simp [Op.operands,Call.operands];exact .inr (by simpa using hz))).trans (evSA_ev hp hf hm)
     have hv:=ev_rep hfr hx'
     have hl:=evA_rep hfr hm'
     obtain ⟨u,hu,hval⟩:∃u,Rep w E (v.den ρ) u∧a.eval x=.iface t u:=by
      generalize a.eval x=val at hv
      cases hv with
      |ifc _ _ u q=>exact ⟨u,q,rfl⟩
     refine ⟨u::l.toList.map a.eval,RepL.cons hu hl,?_⟩
     intro w'
     have e:(#[u]++(#[Value.iface t u]++l.map a.eval).extract 1 (#[Value.iface t u]++l.map a.eval).size)=(u::l.toList.map a.eval).toArray:=by
      apply Array.ext';simp [List.take_of_length_le]
     obtain ⟨n,hn⟩:∃n,P.types.size+Made.depth=n+1:=⟨P.types.size+99,rfl⟩
     have e0:(#[Value.iface t u]++l.map a.eval)[0]?=some (.iface t u):=by rw [Array.getElem?_append_left (by simp)];rfl
     simp only [execOp,hop,resolve,hval,Sem.run_bind,Sem.run_pure,Result.andThen_ok,invoke,e0,callMethod,run_program,hn,method_run hmeth,e]
    ·cases h
   ·cases h
  ·cases h
 ·cases h
def SPost (P:Program)(ρ:List AV)(N base:Nat)(w:World)(E:Env)(a:Act)(R:RQ)(a':Act)(w':World):Prop:=
 ∃E' fr' ah',FrR ρ R.tr fr'∧AhR ρ R.th ah'∧fr'.length=N∧Step base w E w' E'∧HeapOk base w' E' ah' (fun b=>R.nx≤b)∧FrOk w' E' fr' a'.tmps∧a'.defers=a.defers
theorem sFork_ne {k:Pc→CO→Nat→Option SQ}(hk:∀pc c nv y,k pc c nv=some y→y.outs≠[]):∀{l:List (Tm×CO)} {pc:Pc} {nv:Nat} {y:SQ},sFork k pc l nv=some y→y.outs≠[]
 |[],pc,nv,y,h=>by simp [sFork] at h
 |[x],pc,nv,y,h=>hk _ _ _ _ h
 |x::z::r,pc,nv,y,h=>by
  simp only [sFork] at h
  split at h
  ·cases h
  ·split at h
   ·cases h
   ·rename_i b hb
    simp only [Option.some.injEq] at h;subst h
    have:=sFork_ne hk hb
    simp [this]
theorem sFork_ok {k:Pc→CO→Nat→Option SQ}(hk:∀pc c nv y,k pc c nv=some y→y.outs≠[]):∀{l:List (Tm×CO)} {pc:Pc} {nv:Nat} {y:SQ},sFork k pc l nv=some y→Pc.holds ρ pc→SidesX P ρ y.sd→
  ∀c,selG ρ l=some c→∃pc' nv' y',k pc' c nv'=some y'∧Pc.holds ρ pc'∧SidesX P ρ y'.sd∧∀R,selG ρ y'.outs=some R→selG ρ y.outs=some R
 |[],pc,nv,y,h,hp,hs,c,hc=>by simp [sFork] at h
 |[x],pc,nv,y,h,hp,hs,c,hc=>by
  simp only [selG,Option.some.injEq] at hc;subst hc
  exact ⟨pc,nv,y,h,hp,hs,fun R h=>h⟩
 |x::z::r,pc,nv,y,h,hp,hs,c,hc=>by
  simp only [sFork] at h
  split at h
  ·cases h
  ·rename_i a ha
   split at h
   ·cases h
   ·rename_i b hb
    simp only [Option.some.injEq] at h;subst h
    have hane:=hk _ _ _ _ ha
    have hbne:=sFork_ne hk hb
    have hsel:=selG_gdA (ρ:=ρ) (g:=x.1) (l:=a.outs) hbne hane
    simp only [selG] at hc
    cases hg:(x.1.den ρ).B
    ·rw [hg] at hc hsel
     obtain ⟨pc',nv',y',q1,q2,q3,q4⟩:=sFork_ok hk hb (addPc_holds hg hp) (fun s hm=>hs s (by simp [hm])) c hc
     exact ⟨pc',nv',y',q1,q2,q3,fun R hR=>by rw [hsel];exact q4 R hR⟩
    ·rw [hg] at hc hsel
     simp only [cond_true,Option.some.injEq] at hc;subst hc
     exact ⟨_,_,a,ha,addPc_holds hg hp,fun s hm=>hs s (by simp [hm]),fun R hR=>by rw [hsel];exact hR⟩
theorem sSeq_ne {N:Nat}{ops:Array Oper}:∀{l:List Oper} {pc:Pc} {R:RQ} {nv:Nat} {y:SQ},sSeq P X inl isI N ops l pc R nv=some y→y.outs≠[]
 |[],pc,R,nv,y,h=>by simp only [sSeq,Option.some.injEq] at h;subst h;simp
 |o::rest,pc,R,nv,y,h=>by
  unfold sSeq at h
  cases hd:dstOk N o.dst
  ·simp [hd] at h
  ·simp only [hd,cond_true] at h
   split at h
   ·cases h
   ·exact sSeq_ne h
   ·split at h
    ·split at h
     ·cases h
     ·split at h
      ·cases h
      ·rename_i z hz
       simp only [Option.some.injEq] at h;subst h
       exact (sFork_ne (fun _ _ _ _ h=>sSeq_ne h) hz:z.outs≠[])
    ·split at h
     ·cases h
     ·split at h
      ·cases h
      ·rename_i z hz
       simp only [Option.some.injEq] at h;subst h
       exact (sSeq_ne hz:z.outs≠[])
   ·split at h
    ·split at h
     ·split at h
      ·cases h
      ·split at h
       ·cases h
       ·split at h
        ·cases h
        ·rename_i y hy
         split at h
         ·cases h
         ·rename_i z hz
          simp only [Option.some.injEq] at h;subst h
          have n1:y.outs≠[]:=sFork_ne (fun _ _ _ _ h=>sSeq_ne h) hy
          have n2:z.outs≠[]:=sSeq_ne hz
          dsimp only
          rw [Bool.cond_eq_ite]
          split
          ·intro e;exact n2 (List.append_eq_nil_iff.1 e).2
          ·intro e;exact n1 (List.append_eq_nil_iff.1 e).2
     ·cases h
    ·rename_i r hr
     cases hE:r.wr.isEmpty
     ·simp only [hE,cond_false] at h
      split at h
      ·split at h
       ·cases h
       ·split at h
        ·cases h
        ·rename_i y hy
         split at h
         ·cases h
         ·rename_i z hz
          simp only [Option.some.injEq] at h;subst h
          have n1:y.outs≠[]:=sSeq_ne hy
          have n2:z.outs≠[]:=sSeq_ne hz
          dsimp only
          rw [Bool.cond_eq_ite]
          split
          ·intro e;exact n2 (List.append_eq_nil_iff.1 e).2
          ·intro e;exact n1 (List.append_eq_nil_iff.1 e).2
      ·cases h
     ·simp only [hE,cond_true] at h
      split at h
      ·cases h
      ·rename_i z hz
       simp only [Option.some.injEq] at h;subst h
       exact (sSeq_ne hz:z.outs≠[])
theorem sSeq_ok {N:Nat}{ops:Array Oper}(hρ:fzL ρ=true)(hX:ExtOk P ρ X)(hI:InlOk P ρ inl){Q:Exit→Act→World→Prop}{base:Nat}:∀(l:List Oper) (i:Nat) {pc:Pc} {R:RQ} {nv:Nat} {S:SQ} (fr:AFr) (ah:AH) (w:World) (E:Env) (a:Act),
  sSeq P X inl isI N ops l pc R nv=some S→Pc.holds ρ pc→SidesX P ρ S.sd→FrR ρ R.tr fr→AhR ρ R.th ah→fr.length=N→(∀j:Nat,l[j]?=ops[i+j]?)→
  HeapOk base w E ah (fun b=>R.nx≤b)→FrOk w E fr a.tmps→(∀R',selG ρ S.outs=some R'→∀a' w',SPost P ρ N base w E a R' a' w'→Q .normal a' w')→wpOps P ops Q (List.range' i l.length) a w
 |[],i,pc,R,nv,S,fr,ah,w,E,a,h,hp,hs,hf,ha,hN,hl,hh,hfr,hQ=>by
  simp only [sSeq,Option.some.injEq] at h;subst h
  simp only [List.length_nil,List.range'_zero,wpOps]
  exact hQ R rfl a w ⟨E,fr,ah,hf,ha,hN,Step.refl _ _ _,hh,hfr,rfl⟩
 |o::rest,i,pc,R,nv,S,fr,ah,w,E,a,h,hp,hs,hf,ha,hN,hl,hh,hfr,hQ=>by
  have ho:ops[i]?=some o:=by simpa using (hl 0).symm
  simp only [List.length_cons,List.range'_succ]
  rw [wpOps_cons]
  unfold wpOp
  rw [ho]
  dsimp only
  have hl':∀j:Nat,rest[j]?=ops[i+1+j]?:=fun j=>by have:=hl (j+1);simp at this;rw [this];congr 1;omega
  have lift:∀{w1:World} {E1:Env} {a1:Act},Step base w E w1 E1→a1.defers=a.defers→∀R',selG ρ S.outs=some R'→∀a' w',SPost P ρ N base w1 E1 a1 R' a' w'→Q .normal a' w':=by
   intro w1 E1 a1 hst hdf R' hR' a' w' hpost
   obtain ⟨E2,fr2,ah2,q1,q2,q3,q4,q5,q6,q7⟩:=hpost
   exact hQ R' hR' a' w' ⟨E2,fr2,ah2,q1,q2,q3,hst.trans q4,q5,q6,by rw [q7,hdf]⟩
  unfold sSeq at h
  cases hd:dstOk N o.dst
  ·simp [hd] at h
  ·simp only [hd,cond_true] at h
   split at h
   ·cases h
   ·rename_i hw
    obtain ⟨wt,hk,hwt⟩:=aWanted_run (ops:=ops) hfr (sWhen_ok hp hf hw (k:=fun b=>When.sem ρ .no b) fun b hb=>hb)
    simp only [When.sem] at hk;subst hk
    rw [if_neg (by rw [hwt];simp)]
    exact sSeq_ok hρ hX hI rest (i+1) _ _ w E _ h hp hs (FrR_put (e:=⟨[],.c .undef⟩) hf hd hN) ha (by rw [fput_length,hN]) hl' hh (hfr.put o.dst (.p rfl)) (lift (Step.refl _ _ _) (put_defers _ _ _))
   ·rename_i hw
    obtain ⟨wt,hk,hwt⟩:=aWanted_run (ops:=ops) hfr (sWhen_ok hp hf hw (k:=fun b=>When.sem ρ .yes b) fun b hb=>hb)
    simp only [When.sem] at hk;subst hk
    rw [if_pos hwt]
    split at h
    ·rename_i f args hc
     split at h
     ·cases h
     ·rename_i C hC
      split at h
      ·cases h
      ·rename_i y hy
       simp only [Option.some.injEq] at h;subst h
       obtain ⟨vs,hvs,he⟩:=calleeOf_ok (P:=P) hp hf hc w E fr a o rfl (fun _ _=>rfl) hfr
       refine .inl (hI _ _ _ _ _ _ _ hC hp (fun x hx=>hs x (by simp [hx])) base w E ah vs ha hh hfr.glob hvs o a he _ _ (fun c hc v w' E' ah' q1 q2 q3 q4=>?_))
       obtain ⟨pc',nv',y',g1,g2,g3,g4⟩:=sFork_ok (P:=P) (fun _ _ _ _ h=>sSeq_ne h) hy hp (fun x hx=>hs x (by simp [hx])) c hc
       exact sSeq_ok hρ hX hI rest (i+1) _ _ w' E' _ g1 g2 g3 (FrR_put (e:=⟨[],c.v⟩) hf hd hN) q1 (by rw [fput_length,hN]) hl' q3 ((hfr.mono q2.ext).put o.dst q4) (fun R' hR'=>lift q2 (put_defers _ _ _) R' (g4 R' hR'))
    ·split at h
     ·cases h
     ·rename_i r hr
      split at h
      ·cases h
      ·rename_i y hy
       simp only [Option.some.injEq] at h;subst h
       have hsd:=tagX_ok hs
       refine .inl (aOp_wp (id:=R.nx) (K:=fun r'=>r'=r.den ρ) hh (Nat.le_refl _) hfr (sOp_ok hρ hX hp hf ha hr (hsd.1 hp) rfl) (fun r' v w' E' hr' hst hh' hv=>?_))
       subst hr'
       exact sSeq_ok hρ hX hI rest (i+1) _ _ w' E' _ hy hp hsd.2 (FrR_put (e:=⟨[],r.v⟩) hf hd hN) (AhR_wr ha) (by rw [fput_length,hN]) hl' (hh'.weaken fun b hb=>⟨Nat.le_of_succ_le hb,Nat.ne_of_gt hb⟩) ((hfr.mono hst.ext).put o.dst hv) (lift hst (put_defers _ _ _))
   ·rename_i l hw
    split at h
    ·split at h
     ·rename_i t b hno
      split at h
      ·cases h
      ·rename_i f args hc
       split at h
       ·cases h
       ·rename_i C hC
        split at h
        ·cases h
        ·rename_i y hy
         split at h
         ·cases h
         ·rename_i z hz
          simp only [Option.some.injEq] at h;subst h
          have n1:y.outs≠[]:=sFork_ne (fun _ _ _ _ h=>sSeq_ne h) hy
          have n2:z.outs≠[]:=sSeq_ne hz
          obtain ⟨wt,hk,hwt⟩:=aWanted_run (ops:=ops) hfr (sWhen_ok hp hf hw (k:=fun q=>When.sem ρ (.maybe [(t,b)]) q) fun q hq=>hq)
          simp only [When.sem,List.all_cons,List.all_nil,Bool.and_true] at hk
          have hsel:∀R',selG ρ (bif b then gdA t y.outs++z.outs else gdA t z.outs++y.outs)=some R'↔selG ρ (bif (t.den ρ).B == b then y.outs else z.outs)=some R':=by
           intro R'
           cases b
           ·simp only [cond_false]
            rw [selG_gdA n1 n2]
            cases (t.den ρ).B<;>rfl
           ·simp only [cond_true]
            rw [selG_gdA n2 n1]
            cases (t.den ρ).B<;>rfl
          cases wt with
          |true=>
           rw [if_pos hwt]
           have hB:(t.den ρ).B=b:=by simpa using hk.symm
           have hp1:=addPc_holds hB hp
           obtain ⟨vs,hvs,he⟩:=calleeOf_ok (P:=P) hp1 hf hc w E fr a o rfl (fun _ _=>rfl) hfr
           refine .inl (hI _ _ _ _ _ _ _ hC hp1 (fun x hx=>hs x (by simp [hx])) base w E ah vs ha hh hfr.glob hvs o a he _ _ (fun c hc v w' E' ah' q1 q2 q3 q4=>?_))
           obtain ⟨pc',nv',y',g1,g2,g3,g4⟩:=sFork_ok (P:=P) (fun _ _ _ _ h=>sSeq_ne h) hy hp1 (fun x hx=>hs x (by simp [hx])) c hc
           exact sSeq_ok hρ hX hI rest (i+1) _ _ w' E' _ g1 g2 g3 (FrR_put (e:=⟨[],c.v⟩) hf hd hN) q1 (by rw [fput_length,hN]) hl' q3 ((hfr.mono q2.ext).put o.dst q4) (fun R' hR'=>lift q2 (put_defers _ _ _) R' ((hsel R').2 (by rw [← hk];exact g4 R' hR')))
          |false=>
           rw [if_neg (by rw [hwt];simp)]
           have hB:(t.den ρ).B=!b:=by cases hb:(t.den ρ).B<;>cases b<;>simp [hb] at hk ⊢
           exact sSeq_ok hρ hX hI rest (i+1) _ _ w E _ hz (addPc_holds hB hp) (fun x hx=>hs x (by simp [hx])) (FrR_put (e:=⟨[],.c .undef⟩) hf hd hN) ha (by rw [fput_length,hN]) hl' hh (hfr.put o.dst (.p rfl)) (fun R' hR'=>lift (Step.refl _ _ _) (put_defers _ _ _) R' ((hsel R').2 (by rw [← hk];exact hR')))
     ·cases h
    ·rename_i r hr
     cases hE:r.wr.isEmpty
     ·simp only [hE,cond_false] at h
      split at h
      ·rename_i t b
       split at h
       ·cases h
       ·rename_i r hr
        split at h
        ·cases h
        ·rename_i y hy
         split at h
         ·cases h
         ·rename_i z hz
          simp only [Option.some.injEq] at h;subst h
          have n1:y.outs≠[]:=sSeq_ne hy
          have n2:z.outs≠[]:=sSeq_ne hz
          have hsd:=tagX_ok hs
          obtain ⟨wt,hk,hwt⟩:=aWanted_run (ops:=ops) hfr (sWhen_ok hp hf hw (k:=fun q=>When.sem ρ (.maybe [(t,b)]) q) fun q hq=>hq)
          simp only [When.sem,List.all_cons,List.all_nil,Bool.and_true] at hk
          have hsel:∀R',selG ρ (bif b then gdA t y.outs++z.outs else gdA t z.outs++y.outs)=some R'↔selG ρ (bif (t.den ρ).B == b then y.outs else z.outs)=some R':=by
           intro R'
           cases b
           ·simp only [cond_false]
            rw [selG_gdA n1 n2]
            cases (t.den ρ).B<;>rfl
           ·simp only [cond_true]
            rw [selG_gdA n2 n1]
            cases (t.den ρ).B<;>rfl
          cases wt with
          |true=>
           rw [if_pos hwt]
           have hB:(t.den ρ).B=b:=by simpa using hk.symm
           have hp1:=addPc_holds hB hp
           refine .inl (aOp_wp (id:=R.nx) (K:=fun r'=>r'=r.den ρ) hh (Nat.le_refl _) hfr (sOp_ok hρ hX hp1 hf ha hr (hsd.1 hp1) rfl) (fun r' v w' E' hr' hst hh' hv=>?_))
           subst hr'
           exact sSeq_ok hρ hX hI rest (i+1) _ _ w' E' _ hy hp1 (fun x hx=>hsd.2 x (by simp [hx])) (FrR_put (e:=⟨[],r.v⟩) hf hd hN) (AhR_wr ha) (by rw [fput_length,hN]) hl' (hh'.weaken fun b hb=>⟨Nat.le_of_succ_le hb,Nat.ne_of_gt hb⟩) ((hfr.mono hst.ext).put o.dst hv)
            (fun R' hR'=>lift hst (put_defers _ _ _) R' ((hsel R').2 (by rw [← hk];exact hR')))
          |false=>
           rw [if_neg (by rw [hwt];simp)]
           have hB:(t.den ρ).B=!b:=by cases hb:(t.den ρ).B<;>cases b<;>simp [hb] at hk ⊢
           exact sSeq_ok hρ hX hI rest (i+1) _ _ w E _ hz (addPc_holds hB hp) (fun x hx=>hsd.2 x (by simp [hx])) (FrR_put (e:=⟨[],.c .undef⟩) hf hd hN) ha (by rw [fput_length,hN]) hl' hh (hfr.put o.dst (.p rfl)) (fun R' hR'=>lift (Step.refl _ _ _) (put_defers _ _ _) R' ((hsel R').2 (by rw [← hk];exact hR')))
      ·cases h
     ·simp only [hE,cond_true] at h
      split at h
      ·cases h
      ·rename_i y hy
       simp only [Option.some.injEq] at h;subst h
       have hwr:r.wr=[]:=by simpa using hE
       have hsd:=tagX_ok hs
       obtain ⟨wt,hk,hwt⟩:=aWanted_run (ops:=ops) hfr (sWhen_ok hp hf hw (k:=fun b=>When.sem ρ (.maybe l) b) fun b hb=>hb)
       simp only [When.sem] at hk
       have hput:=FrR_put (e:=⟨l,r.v⟩) hf hd hN
       cases wt with
       |true=>
        rw [if_pos hwt]
        have hpl:=Pc.holds_append hk.symm hp
        have e2:(⟨l,r.v⟩:Ent).den ρ=r.v.den ρ:=by simp only [Ent.den,← hk];rfl
        rw [e2] at hput
        refine .inl (aOp_wp (id:=R.nx) (K:=fun r'=>r'=r.den ρ) hh (Nat.le_refl _) hfr (sOp_ok hρ hX hpl hf ha hr (hsd.1 hpl) rfl) (fun r' v w' E' hr' hst hh' hv=>?_))
        subst hr'
        have e3:upds ah (SR.den ρ r).wr=ah:=by simp [SR.den,hwr,upds]
        rw [e3] at hh'
        exact sSeq_ok hρ hX hI rest (i+1) _ _ w' E' _ hy hp hsd.2 hput ha (by rw [fput_length];exact hN) hl' (hh'.weaken fun b hb=>⟨Nat.le_of_succ_le hb,Nat.ne_of_gt hb⟩) ((hfr.mono hst.ext).put o.dst hv) (lift hst (put_defers _ _ _))
       |false=>
        rw [if_neg (by rw [hwt];simp)]
        have e1:(⟨l,r.v⟩:Ent).den ρ=undefA:=by simp only [Ent.den,← hk];rfl
        rw [e1] at hput
        exact sSeq_ok hρ hX hI rest (i+1) _ _ w E _ hy hp hsd.2 hput ha (by rw [fput_length];exact hN) hl' (hh.weaken fun b hb=>Nat.le_of_succ_le hb) (hfr.put o.dst (.p rfl)) (lift (Step.refl _ _ _) (put_defers _ _ _))
structure OpRec where
 fr:AFr
 ah:AH
 rv:AV
 WR:Nat→Bool
 RD:Nat→Bool
 NEW:Nat→Prop
 REQ:Nat→Prop
 nx:Nat
 call:Bool
def StepD (P:Program)(ops:Array Oper)(base j:Nat)(o:Oper)(r:OpRec)(ahn:AH):Prop:=
 ∀(frL:AFr) (ahL:AH) (w:World) (E:Env) (a:Act) (F:Nat→Prop),AgreeS r.fr frL (o.looksAt ops)→(∀b,r.RD b=true→ahL b=r.ah b)→
  HeapOk base w E ahL F→(∀b,r.REQ b→F b)→FrOk w E frL a.tmps→∀(Q:Exit→Act→World→Prop) (K:Act→World→Prop),
   (∀v w' E' ahN,(∀b,ahN b=if r.WR b=true then ahn b else ahL b)→Step base w E w' E'→HeapOk base w' E' ahN (fun b=>F b∧¬r.NEW b)→Rep w' E' r.rv v→K (a.put o.dst v) w')→wpOp P ops Q j K a w
def atO {α:Type}(f:OpRec→α)(L:List OpRec)(e:α)(k:Nat):α:=match L[k]? with|some r=>f r|none=>e
def FootD (r' r:OpRec):Prop:=(∀b,r'.WR b=true→r.RD b=false∧r.WR b=false)∧∀b,r'.RD b=true→r.WR b=false
def FootF (f:Foot)(r:OpRec):Prop:=(∀b∈f.wr,r.RD b=false∧r.WR b=false)∧∀b∈f.rd,r.WR b=false
structure DGood (P:Program)(ops:Array Oper)(base:Nat)(M:List Nat)(i:Nat)(l:List Oper)(L:List OpRec)(frE:AFr)(ahE:AH)(nxE:Nat)(qs:List Nat)(cs:CS)(fs:List Foot)(k:Nat)(o:Oper)(r:OpRec):Prop where
 step:StepD P ops base (i+k) o r (atO (·.ah) L ahE (k+1))
 fr:atO (·.fr) L frE (k+1)=fput r.fr o.dst r.rv
 ah:∀b,r.WR b=false→atO (·.ah) L ahE (k+1) b=r.ah b
 nx:r.nx≤atO (·.nx) L nxE (k+1)
 req:∀b,r.REQ b→r.nx≤b
 new:∀b,r.NEW b→b<atO (·.nx) L nxE (k+1)
 plain:r.call=false→(∀b,r.REQ b→b<atO (·.nx) L nxE (k+1))∧∀b,r.NEW b→r.nx≤b
 ccall:r.call=true→∀m∈qs,(M.getD (i+k) 0).testBit m=true
 calls:∀c∈cs,(M.getD (i+k) 0).testBit c.1=true∨((∀b,r.WR b=false)∧(∀b,r.RD b=true→c.2.1 b=true)∧∀b,¬r.NEW b)∨(c.2.2 ()=true∧(∀b,r.WR b=true→r.nx≤b)∧(∀b,r.RD b=true→c.2.1 b=true)∧∀b,r.NEW b→r.nx≤b)
 ccs:r.call=true→∀c∈cs,(M.getD (i+k) 0).testBit c.1=true
 foots:∀f∈fs,(M.getD (i+k) 0).testBit f.i=true∨FootF f r
 prev:∀k' r',k' < k→L[k']?=some r'→((M.getD (i+k) 0).testBit (i+k')=true∨FootD r' r)∧(r'.call=true→(M.getD (i+k) 0).testBit (i+k')=true∨∀b,r'.REQ b→¬r.NEW b)∧(r.call=true→(M.getD (i+k) 0).testBit (i+k')=true∨∀b,¬r'.REQ b)
theorem HeapOk.sub {base:Nat}{w:World}{E:Env}{ah ah0:AH}{F:Nat→Prop}(h:HeapOk base w E ah F)(hs:∀b k,ah0 b=some k→ah b=some k):HeapOk base w E ah0 F:=
 ⟨fun b k hb=>h.blk b k (hs b k hb),fun b b' k k' c o c' o' hne h1 h2=>h.sep b b' k k' c o c' o' hne (hs _ _ h1) (hs _ _ h2),h.fresh,h.fixlt,h.bs,h.ownlt⟩
theorem atO_cons {α:Type}{f:OpRec→α}{r:OpRec}{L:List OpRec}{e:α}{k:Nat}:atO f (r::L) e (k+1)=atO f L e k:=rfl
theorem DGood.cons {P:Program}{ops:Array Oper}{base:Nat}{M:List Nat}{i:Nat}{l:List Oper}{L:List OpRec}{frE:AFr}{ahE:AH}{nxE:Nat}{qs qs':List Nat}{cs cs':CS}{fs fs':List Foot}{o:Oper}{r:OpRec}
  (hl:L.length=l.length) (h0:DGood P ops base M i (o::l) (r::L) frE ahE nxE qs cs fs 0 o r) (ht:∀k o' r',l[k]?=some o'→L[k]?=some r'→DGood P ops base M (i+1) l L frE ahE nxE qs' cs' fs' k o' r')
  (hqs:∀c∈qs,c∈qs') (hq:r.call=false→i∈qs'∨∀b,¬r.REQ b) (hcs:∀c∈cs,c∈cs') (hfs:∀f∈fs,f∈fs') (hc:r.call=true→∃S G,(i,S,G)∈cs'∧(∀b,S b=true→r.WR b=false)∧(G ()=true→∀b,(r.WR b=true∨r.RD b=true∨r.REQ b)→b<atO (·.nx) L nxE 0)) (hf:r.call=false→(∃f∈fs',f.i=i∧∀r',FootF f r'→FootD r r')∨∀r',FootD r r') :
  ∀k o' r',(o::l)[k]?=some o'→(r::L)[k]?=some r'→DGood P ops base M i (o::l) (r::L) frE ahE nxE qs cs fs k o' r':=by
 intro k o' r' h1 h2
 cases k with
 |zero=>simp at h1 h2;subst h1;subst h2;exact h0
 |succ k=>
  simp at h1 h2
  obtain ⟨q1,q2,q3,q4,q5,q6,q7,q8,q9,qc,q10,q11⟩:=ht k o' r' h1 h2
  have e:i+1+k=i+(k+1):=by omega
  rw [e] at q1 q8 q9 qc q10 q11
  refine ⟨q1,q2,q3,q4,q5,q6,q7,fun hcl m hm=>q8 hcl m (hqs m hm),fun c hm=>q9 c (hcs c hm),fun hcl c hm=>qc hcl c (hcs c hm),fun f hm=>q10 f (hfs f hm),fun k' s hk hs=>?_⟩
  have hnx:∀m,m≤k→atO (·.nx) L nxE 0≤atO (·.nx) L nxE m:=by
   intro m
   induction m with
   |zero=>intro _;exact Nat.le_refl _
   |succ m ih=>
    intro hm
    have h3:=(List.getElem?_eq_some_iff.1 h2).1
    have hm1:m<L.length:=by omega
    have:=(ht m l[m] L[m] (by simp [← hl,hm1]) (by simp [hm1])).nx
    refine Nat.le_trans (ih (by omega)) ?_
    have e:atO (·.nx) L nxE m=L[m].nx:=by unfold atO;simp [hm1]
    rw [e];exact this
  have hnx':atO (·.nx) L nxE 0≤r'.nx:=by
   have:=hnx k (Nat.le_refl _)
   have e:atO (·.nx) L nxE k=r'.nx:=by unfold atO;rw [h2]
   rwa [e] at this
  cases k' with
  |zero=>
   simp at hs;subst hs
   refine ⟨?_,fun hcall=>?_,fun hcl=>?_⟩
   rotate_left
   ·obtain ⟨S,G,hm,hS,hG⟩:=hc hcall
    rcases q9 _ hm with h|⟨-,-,h⟩|⟨h0,-,-,h⟩
    ·exact .inl (by simpa using h)
    ·exact .inr fun b _=>h b
    ·refine .inr fun b hb hn=>?_
     have e1:=hG h0 b (.inr (.inr hb))
     have e2:=h b hn
     omega
   ·cases hcall:r.call with
    |true=>
     obtain ⟨S,G,hm,hS,hG⟩:=hc hcall
     exact .inl (by simpa using qc hcl _ hm)
    |false=>
     rcases hq hcall with h|h
     ·exact .inl (by simpa using q8 hcl i h)
     ·exact .inr h
   cases hcall:r.call with
   |true=>
    obtain ⟨S,G,hm,hS,hG⟩:=hc hcall
    rcases q9 _ hm with h|⟨h1,h2,-⟩|⟨h0,h1,h2,-⟩
    ·exact .inl (by simpa using h)
    ·refine .inr ⟨fun b hb=>⟨?_,h1 b⟩,fun b _=>h1 b⟩
     cases hd:r'.RD b
     ·rfl
     ·have:=hS b (h2 b hd);rw [hb] at this;cases this
    ·have lo:∀b,(r.WR b=true∨r.RD b=true∨r.REQ b)→r'.WR b=false:=fun b hb=>by
      cases hd:r'.WR b
      ·rfl
      ·have e1:=hG h0 b hb
       have e2:=h1 b hd
       omega
     refine .inr ⟨fun b hb=>⟨?_,lo b (.inl hb)⟩,fun b hb=>lo b (.inr (.inl hb))⟩
     cases hd:r'.RD b
     ·rfl
     ·have:=hS b (h2 b hd);rw [hb] at this;cases this
   |false=>
    rcases hf hcall with ⟨f,hm,rfl,hff⟩|hff
    ·rcases q10 f hm with h|h
     ·exact .inl h
     ·exact .inr (hff _ h)
    ·exact .inr (hff _)
  |succ k'=>
   simp at hs
   have:=q11 k' s (by omega) hs
   have e2:i+1+k'=i+(k'+1):=by omega
   rw [e2] at this
   exact this
theorem sDraw_ne {N:Nat}{ops:Array Oper}{M:List Nat}:∀{l:List Oper} {i:Nat} {pc:Pc} {qs:List Nat} {cs:CS} {fs:List Foot} {R:RQ} {nv:Nat} {y:SQ},sDraw P X inl isI N ops M i l pc qs cs fs R nv=some y→y.outs≠[]
 |[],i,pc,qs,cs,fs,R,nv,y,h=>by simp only [sDraw,Option.some.injEq] at h;subst h;simp
 |o::rest,i,pc,qs,cs,fs,R,nv,y,h=>by
  unfold sDraw at h
  generalize (dstOk N o.dst)=g at h
  cases g
  ·cases h
  ·simp only [cond_true] at h
   split at h
   ·cases h
   ·exact sDraw_ne h
   ·split at h
    ·obtain ⟨th0,h⟩:∃th0,(match inl pc th0 R.nx nv _ _ with
       |none=>none
       |some C=>bif bitsC M i cs&&callOk M i qs fs th0 C.outs then match sFork (fun pc c nv=>sDraw P X inl isI N ops M (i+1) rest pc qs ((i,sameC th0 C.outs,framedC th0 R.nx _ C.outs)::cs) fs ⟨putE R.tr o.dst ⟨[],c.v⟩,c.th,Nat.max c.nx R.nx⟩ nv) pc C.outs C.nv with
        |none=>none
        |some y=>some ⟨y.outs,y.nv,C.sd++y.sd⟩
        else none)=some y:=(firstO_some h).elim (fun h=>⟨_,h⟩) (fun h=>⟨_,h⟩)
     split at h
     ·cases h
     ·generalize (bitsC _ _ _&&callOk _ _ _ _ _ _)=g at h
      cases g
      ·cases h
      ·simp only [cond_true] at h
       split at h
       ·cases h
       ·rename_i z hz
        simp only [Option.some.injEq] at h;subst h
        exact (sFork_ne (fun _ _ _ _ h=>sDraw_ne h) hz:z.outs≠[])
    ·split at h
     ·cases h
     ·rename_i r hr
      generalize (csOk _ _ _ _ _ _ _&&fs.all _)=g at h
      cases g
      ·cases h
      ·simp only [cond_true] at h
       split at h
       ·cases h
       ·rename_i z hz
        simp only [Option.some.injEq] at h;subst h
        exact (sDraw_ne hz:z.outs≠[])
   ·split at h
    ·cases h
    ·rename_i r hr
     generalize (r.wr.isEmpty&&(csOk _ _ _ _ _ _ _&&fs.all _))=g at h
     cases g
     ·simp only [cond_false] at h
      split at h
      ·split at h
       ·cases h
       ·rename_i r hr
        generalize (csOk _ _ _ _ _ _ _&&fs.all _)=g at h
        cases g
        ·cases h
        ·simp only [cond_true] at h
         split at h
         ·cases h
         ·rename_i y hy
          split at h
          ·cases h
          ·rename_i z hz
           simp only [Option.some.injEq] at h;subst h
           have n1:y.outs≠[]:=sDraw_ne hy
           have n2:z.outs≠[]:=sDraw_ne hz
           dsimp only
           rw [Bool.cond_eq_ite]
           split
           ·intro e;exact n2 (List.append_eq_nil_iff.1 e).2
           ·intro e;exact n1 (List.append_eq_nil_iff.1 e).2
      ·cases h
     ·simp only [cond_true] at h
      split at h
      ·cases h
      ·rename_i z hz
       simp only [Option.some.injEq] at h;subst h
       exact (sDraw_ne hz:z.outs≠[])
theorem bitsB_ok {M:List Nat}{i:Nat}{l:List Nat}(h:bitsB M i l=true):∀c∈l,(M.getD i 0).testBit c=true:=by
 unfold bitsB at h
 rw [List.all_eq_true] at h
 exact h
theorem upds_ite {ah ahL:AH}{wr:List (Nat×Option Blk)}(b:Nat):upds ahL wr b=if decide (b∈wr.map (·.1))=true then upds ah wr b else ahL b:=by
 by_cases h:b∈wr.map (·.1)
 ·rw [if_pos (by simpa using h)];exact upds_in h
 ·rw [if_neg (by simpa using h)];exact upds_not h
theorem stepD_no {ops:Array Oper}{base j:Nat}{o:Oper}(ho:ops[j]?=some o){fr:AFr}{ah:AH}{nx:Nat}{RD:Nat→Bool}{v:AV}(hv:v=.p undef)(h:aWanted ops fr o (fun b=>b=false)) :
  StepD P ops base j o ⟨fr,ah,v,fun _=>false,RD,fun b=>purO o.op=false∧b=nx,fun b=>purO o.op=false∧b=nx,nx,false⟩ ah:=by
 intro frL ahL w E a F hag hrd hh hreq hfr Q K hK
 obtain ⟨wt,hk,hloc⟩:=aWanted_loc h
 obtain ⟨wt',hk',hw⟩:=aWanted_run hfr (hloc frL hag (fun b=>b=wt) rfl)
 subst hk';subst hk
 unfold wpOp
 rw [ho]
 dsimp only
 rw [if_neg (by rw [hw];simp)]
 exact hK undef w E ahL (fun b=>by simp) (Step.refl _ _ _) (hh.weaken fun b hb=>hb.1) (by rw [hv];exact .p rfl)
theorem stepD_op {ops:Array Oper}{base j:Nat}{o:Oper}(ho:ops[j]?=some o){fr:AFr}{ah:AH}{nx:Nat}{r:Res}(h:aWanted ops fr o (fun b=>b=true))(hop:aOp P nx fr ah o.op fun r'=>r'=r) :
  StepD P ops base j o ⟨fr,ah,r.v,fun b=>decide (b∈r.wr.map (·.1)),fun b=>decide (b∈r.rd),fun b=>purO o.op=false∧b=nx,fun b=>purO o.op=false∧b=nx,nx,false⟩ (upds ah r.wr):=by
 intro frL ahL w E a F hag hrd hh hreq hfr Q K hK
 obtain ⟨wt,hk,hloc⟩:=aWanted_loc h
 obtain ⟨wt',hk',hw⟩:=aWanted_run hfr (hloc frL hag (fun b=>b=wt) rfl)
 subst hk';subst hk
 obtain ⟨r',rfl,hl⟩:=aOp_loc hop
 unfold wpOp
 rw [ho]
 dsimp only
 rw [if_pos hw]
 cases hpu:purO o.op with
 |false=>
  refine .inl (aOp_wp (id:=nx) hh (hreq nx ⟨hpu,rfl⟩) hfr (hl frL ahL (looks_agree hag) (fun b hb=>hrd b (by simpa using hb))) (fun r2 v w' E' hr hst hh' hv=>?_))
  subst hr
  exact hK v w' E' _ (fun b=>upds_ite b) hst (hh'.weaken fun b hb=>⟨hb.1,fun e=>hb.2 ⟨hpu,e⟩⟩) hv
 |true=>
  refine .inl (aOp_rd (id:=nx) hh hfr hpu (hl frL ahL (looks_agree hag) (fun b hb=>hrd b (by simpa using hb))) (fun r2 v hr hwr hv=>?_))
  subst hr
  exact hK v w E ahL (fun b=>by simp [hwr]) (Step.refl _ _ _) (hh.weaken fun b hb=>hb.1) hv
theorem selG_mem {α:Type}:∀{l:List (Tm×α)} {c:α},selG ρ l=some c→∃x∈l,x.2=c
 |[],c,h=>by simp [selG] at h
 |[x],c,h=>by simp only [selG,Option.some.injEq] at h;exact ⟨x,by simp,h⟩
 |x::y::r,c,h=>by
  simp only [selG] at h
  cases hg:(x.1.den ρ).B
  ·rw [hg] at h
   obtain ⟨z,hz,e⟩:=selG_mem (l:=y::r) h
   exact ⟨z,List.mem_cons_of_mem _ hz,e⟩
  ·rw [hg] at h
   simp only [cond_true,Option.some.injEq] at h
   exact ⟨x,by simp,h⟩
theorem callOk_ok {M:List Nat}{i:Nat}{qs:List Nat}{fs:List Foot}{th:Tr SB}{outs:List (Tm×CO)}(h:callOk M i qs fs th outs=true) :
  (∀q∈qs,(M.getD i 0).testBit q=true)∧(∀f∈fs,(M.getD i 0).testBit f.i=true∨(f.wr=[]∧∀b∈f.rd,sameC th outs b=true)):=by
 unfold callOk at h
 simp only [Bool.and_eq_true,List.all_eq_true] at h
 obtain ⟨h1,h2⟩:=h
 refine ⟨bitsB_ok h1,fun f hf=>?_⟩
 cases hbit:(M.getD i 0).testBit f.i with
 |true=>exact .inl rfl
 |false=>
  have:=h2 f hf
  simp only [hbit,Bool.false_or,Bool.and_eq_true,List.isEmpty_iff,List.all_eq_true] at this
  exact .inr this
theorem sameC_ok {th:Tr SB}{outs:List (Tm×CO)}{b:Nat}(h:sameC th outs b=true){x:Tm×CO}(hx:x∈outs):∃k,x.2.th.get b=some k∧th.get b=some k:=by
 unfold sameC at h
 rw [List.all_eq_true] at h
 exact sameB_eq (h x hx)
theorem bitsC_ok {M:List Nat}{i:Nat}{cs:CS}(h:bitsC M i cs=true):∀c∈cs,(M.getD i 0).testBit c.1=true:=by
 unfold bitsC at h
 rw [List.all_eq_true] at h
 exact h
theorem csOk_ok {M:List Nat}{i own:Nat}{pu:Bool}{rd wr:List Nat}{cs:CS}(h:csOk M i pu own rd wr cs=true):∀c∈cs,(M.getD i 0).testBit c.1=true∨((∀b∈rd,c.2.1 b=true)∧((pu=true∧wr=[])∨((∀b∈wr,own=b)∧c.2.2 ()=true))):=by
 unfold csOk at h
 rw [List.all_eq_true] at h
 intro c hc
 cases hbit:(M.getD i 0).testBit c.1 with
 |true=>exact .inl rfl
 |false=>
  have:=h c hc
  simp only [hbit,Bool.false_or,Bool.and_eq_true,Bool.or_eq_true,List.isEmpty_iff,List.all_eq_true] at this
  exact .inr ⟨this.1,this.2.imp id fun h=>⟨fun b hb=>Nat.eq_of_beq_eq_true (h.1 b hb),h.2⟩⟩
theorem addQ_in {i:Nat}{op:Op}{qs:List Nat}(h:purO op=false):i∈addQ i op qs:=by unfold addQ;rw [h];exact List.mem_cons_self
theorem addQ_old {i:Nat}{op:Op}{qs:List Nat}:∀c∈qs,c∈addQ i op qs:=fun c hc=>by
 unfold addQ
 cases purO op
 ·exact List.mem_cons_of_mem _ hc
 ·exact hc
theorem addQ_or {i:Nat}{op:Op}{qs:List Nat}{nx:Nat}:i∈addQ i op qs∨∀b,¬(purO op=false∧b=nx):=by
 cases h:purO op with
 |false=>exact .inl (addQ_in h)
 |true=>exact .inr fun b hb=>by cases hb.1
def DOk (P:Program)(ρ:List AV)(N:Nat)(ops:Array Oper)(M:List Nat)(base i:Nat)(l:List Oper)(qs:List Nat)(cs:CS)(fs:List Foot)(nx:Nat)(outs:List (Tm×RQ))(fr:AFr)(ah:AH):Prop:=
 ∃(R':RQ) (L:List OpRec) (frE:AFr) (ahE:AH),selG ρ outs=some R'∧L.length=l.length∧FrR ρ R'.tr frE∧AhR ρ R'.th ahE∧frE.length=N∧atO (·.fr) L frE 0=fr∧atO (·.ah) L ahE 0=ah∧atO (·.nx) L R'.nx 0=nx∧
  ∀k o r,l[k]?=some o→L[k]?=some r→DGood P ops base M i l L frE ahE R'.nx qs cs fs k o r
theorem draw_no {N:Nat}{ops:Array Oper}{M:List Nat}{base i:Nat}{o:Oper}{rest:List Oper}{qs:List Nat}{cs:CS}{fs:List Foot}{nx:Nat}{outs:List (Tm×RQ)}{fr:AFr}{ah:AH}(ho:ops[i]?=some o)(hwt:aWanted ops fr o (fun b=>b=false))
  (h:DOk P ρ N ops M base (i+1) rest qs cs fs nx outs (fput fr o.dst (.p undef)) ah):DOk P ρ N ops M base i (o::rest) qs cs fs nx outs fr ah:=by
 obtain ⟨R',L,frE,ahE,q1,q2,q3,q4,q5,q6,q7,q8,q9⟩:=h
 refine ⟨R',⟨fr,ah,.p undef,fun _=>false,fun _=>false,fun _=>False,fun _=>False,nx,false⟩::L,frE,ahE,q1,by simp [q2],q3,q4,q5,rfl,rfl,rfl,?_⟩
 refine DGood.cons q2 ⟨?_,?_,?_,?_,?_,?_,?_,?_,?_,?_,?_,?_⟩ q9 (fun _ h=>h) (fun _=>.inr fun b h=>h) (fun _ h=>h) (fun _ h=>h) (fun h=>by cases h) (fun _=>.inr fun r'=>⟨fun b h=>(by cases h),fun b h=>(by cases h)⟩)
 ·rw [atO_cons,q7]
  intro frL ahL w E a F hag hrd hh hreq hfr Q K hK
  obtain ⟨wt,hk,hloc⟩:=aWanted_loc hwt
  obtain ⟨wt',hk',hw⟩:=aWanted_run hfr (hloc frL hag (fun b=>b=wt) rfl)
  subst hk';subst hk
  unfold wpOp
  rw [show ops[i+0]?=some o from ho]
  dsimp only
  rw [if_neg (by rw [hw];simp)]
  exact hK undef w E ahL (fun b=>by simp) (Step.refl _ _ _) (hh.weaken fun b hb=>hb.1) (.p rfl)
 ·rw [atO_cons,q6];try rfl
 ·intro b _;rw [atO_cons,q7]
 ·rw [atO_cons,q8];exact Nat.le_refl _
 ·intro b h;exact h.elim
 ·intro b h;exact h.elim
 ·intro _;exact ⟨fun b h=>h.elim,fun b h=>h.elim⟩
 ·intro h;cases h
 ·intro c _;exact .inr (.inl ⟨fun _=>rfl,fun b hb=>(by cases hb),fun b hb=>hb⟩)
 ·intro h;cases h
 ·intro f _;exact .inr ⟨fun b _=>⟨rfl,rfl⟩,fun b _=>rfl⟩
 ·intro k' r' hk;omega
theorem draw_op {N:Nat}{ops:Array Oper}{M:List Nat}{base i:Nat}{o:Oper}{rest:List Oper}{qs:List Nat}{cs:CS}{fs:List Foot}{R:RQ}{outs:List (Tm×RQ)}{fr:AFr}{ah:AH}{r:SR}(ho:ops[i]?=some o)(hwt:aWanted ops fr o (fun b=>b=true))
  (hop:aOp P R.nx fr ah o.op (fun r'=>r'=r.den ρ)) (hcs0:csOk M i (purO o.op) R.nx r.rd (r.wr.map (·.1)) cs=true) (hap:fs.all (fun f=>apartB M i r.rd (r.wr.map (·.1)) f)=true)
  (h:DOk P ρ N ops M base (i+1) rest (addQ i o.op qs) cs (addF fs i r.rd (r.wr.map (·.1))) (R.nx+1) outs (fput fr o.dst (r.v.den ρ)) (upds ah (r.den ρ).wr)):DOk P ρ N ops M base i (o::rest) qs cs fs R.nx outs fr ah:=by
 have hcs:=csOk_ok hcs0
 have hids:(r.den ρ).wr.map (·.1)=r.wr.map (·.1):=by simp [SR.den]
 have hrd0:(r.den ρ).rd=r.rd:=rfl
 obtain ⟨R',L,frE,ahE,q1,q2,q3,q4,q5,q6,q7,q8,q9⟩:=h
 refine ⟨R',⟨fr,ah,(r.den ρ).v,fun b=>decide (b∈(r.den ρ).wr.map (·.1)),fun b=>decide (b∈(r.den ρ).rd),fun b=>purO o.op=false∧b=R.nx,fun b=>purO o.op=false∧b=R.nx,R.nx,false⟩::L,frE,ahE,q1,by simp [q2],q3,q4,q5,rfl,rfl,rfl,?_⟩
 refine DGood.cons q2 ⟨?_,?_,?_,?_,?_,?_,?_,?_,?_,?_,?_,?_⟩ q9 addQ_old (fun _=>addQ_or) (fun _ h=>h) (fun f hm=>?_) (fun h=>by cases h) (fun _=>?_)
 ·rw [atO_cons,q7]
  exact stepD_op (show ops[i+0]?=some o from ho) hwt hop
 ·rw [atO_cons,q6];try rfl
 ·intro b hb;rw [atO_cons,q7]
  have hb':b∉(r.den ρ).wr.map (·.1):=by simpa using hb
  exact upds_not hb'
 ·rw [atO_cons,q8];exact Nat.le_succ _
 ·intro b h;exact Nat.le_of_eq h.2.symm
 ·intro b h;rw [atO_cons,q8,h.2];exact Nat.lt_succ_self _
 ·intro _;exact ⟨fun b h=>by rw [atO_cons,q8,h.2];exact Nat.lt_succ_self _,fun b h=>Nat.le_of_eq h.2.symm⟩
 ·intro h;cases h
 ·intro c hc
  rcases hcs c hc with h|⟨h3,⟨h1,h2⟩|⟨h1,h2⟩⟩
  ·exact .inl h
  ·refine .inr (.inl ⟨fun b=>?_,fun b hb=>?_,fun b hb=>?_⟩)
   ·simp only [hids,h2];simp
   ·exact h3 b (by simpa [hrd0] using hb)
   ·rw [h1] at hb;cases hb.1
  ·refine .inr (.inr ⟨h2,fun b hb=>?_,fun b hb=>?_,fun b hb=>Nat.le_of_eq hb.2.symm⟩)
   ·simp only [hids,decide_eq_true_eq] at hb
    exact Nat.le_of_eq (h1 b hb)
   ·exact h3 b (by simpa [hrd0] using hb)
 ·intro h;cases h
 ·intro f hm
  rcases apartF_of (List.all_eq_true.1 hap f hm) with h|⟨h1,h2⟩
  ·exact .inl (by simpa using h)
  ·refine .inr ⟨fun b hb=>?_,fun b hb=>?_⟩
   ·have:=h1 b hb
    rw [hids,hrd0]
    exact ⟨by simpa using this.1,by simpa using this.2⟩
   ·have:=h2 b hb
    simp only [hids]
    simpa using this
 ·intro k' r' hk;omega
 ·unfold addF
  cases (r.rd.isEmpty&&(r.wr.map (·.1)).isEmpty)
  ·exact List.mem_cons_of_mem _ hm
  ·exact hm
 ·cases hE:(r.rd.isEmpty&&(r.wr.map (·.1)).isEmpty)
  ·refine .inl ⟨⟨i,r.rd,r.wr.map (·.1)⟩,by unfold addF;rw [hE];simp,rfl,fun r' h=>⟨fun b hb=>h.1 b ?_,fun b hb=>h.2 b ?_⟩⟩
   ·rw [hids] at hb;simpa using hb
   ·rw [hrd0] at hb;simpa using hb
  ·simp only [Bool.and_eq_true,List.isEmpty_iff] at hE
   refine .inr fun r'=>⟨fun b hb=>?_,fun b hb=>?_⟩
   ·simp only [hids,hE.2] at hb;simp at hb
   ·simp only [hrd0,hE.1] at hb;simp at hb
theorem sDraw_ok {N:Nat}{ops:Array Oper}{M:List Nat}{base:Nat}(hρ:fzL ρ=true)(hX:ExtOk P ρ X)(hI:InlOk P ρ inl):∀(l:List Oper) (i:Nat) {pc:Pc} {qs:List Nat} {cs:CS} {fs:List Foot} {R:RQ} {nv:Nat} {S:SQ} (fr:AFr) (ah:AH),
  sDraw P X inl isI N ops M i l pc qs cs fs R nv=some S→Pc.holds ρ pc→SidesX P ρ S.sd→FrR ρ R.tr fr→AhR ρ R.th ah→fr.length=N→(∀j:Nat,l[j]?=ops[i+j]?)→
  ∃(R':RQ) (L:List OpRec) (frE:AFr) (ahE:AH),selG ρ S.outs=some R'∧L.length=l.length∧FrR ρ R'.tr frE∧AhR ρ R'.th ahE∧frE.length=N∧atO (·.fr) L frE 0=fr∧atO (·.ah) L ahE 0=ah∧atO (·.nx) L R'.nx 0=R.nx∧
   ∀k o r,l[k]?=some o→L[k]?=some r→DGood P ops base M i l L frE ahE R'.nx qs cs fs k o r
 |[],i,pc,qs,cs,fs,R,nv,S,fr,ah,h,hp,hs,hf,ha,hN,hl=>by
  simp only [sDraw,Option.some.injEq] at h;subst h
  exact ⟨R,[],fr,ah,rfl,rfl,hf,ha,hN,rfl,rfl,rfl,fun k o r h=>by simp at h⟩
 |o::rest,i,pc,qs,cs,fs,R,nv,S,fr,ah,h,hp,hs,hf,ha,hN,hl=>by
  have ho:ops[i]?=some o:=by simpa using (hl 0).symm
  have hl':∀j:Nat,rest[j]?=ops[i+1+j]?:=fun j=>by have:=hl (j+1);simp at this;rw [this];congr 1;omega
  unfold sDraw at h
  cases hd:dstOk N o.dst
  ·simp [hd] at h
  ·simp only [hd,cond_true] at h
   split at h
   ·cases h
   ·rename_i hw
    have hwt:aWanted ops fr o (fun b=>b=false):=sWhen_ok hp hf hw fun b hb=>hb
    have ih:=sDraw_ok hρ hX hI rest (i+1) (base:=base) _ _ h hp hs (FrR_put (e:=⟨[],.c .undef⟩) hf hd hN) ha (by rw [fput_length,hN]) hl'
    exact draw_no ho hwt ih
   ·rename_i hw
    have hwt:aWanted ops fr o (fun b=>b=true):=sWhen_ok hp hf hw fun b hb=>hb
    split at h
    ·rename_i f args hc
     obtain ⟨th0,ha0,h⟩:∃th0,AhR ρ th0 ah∧(match inl pc th0 R.nx nv f args with
       |none=>none
       |some C=>bif bitsC M i cs&&callOk M i qs fs th0 C.outs then match sFork (fun pc c nv=>sDraw P X inl isI N ops M (i+1) rest pc qs ((i,sameC th0 C.outs,framedC th0 R.nx args C.outs)::cs) fs ⟨putE R.tr o.dst ⟨[],c.v⟩,c.th,Nat.max c.nx R.nx⟩ nv) pc C.outs C.nv with
        |none=>none
        |some y=>some ⟨y.outs,y.nv,C.sd++y.sd⟩
        else none)=some S:=(firstO_some h).elim (fun h=>⟨R.th,ha,h⟩) (fun h=>⟨cleanT R.nx 4 R.th,fun b k hk=>ha b k (cleanT_get hk),h⟩)
     clear ha
     have ha:=ha0
     split at h
     ·cases h
     ·rename_i C hC
      cases hb:bitsC M i cs&&callOk M i qs fs th0 C.outs
      ·simp [hb] at h
      ·simp only [hb,cond_true] at h
       simp only [Bool.and_eq_true] at hb
       have hcs:=bitsC_ok hb.1
       obtain ⟨hq1,hq2⟩:=callOk_ok hb.2
       split at h
       ·cases h
       ·rename_i y hy
        simp only [Option.some.injEq] at h;subst h
        have hCne:∃c,selG ρ C.outs=some c:=by
         refine selG_ne ?_
         intro e;rw [e] at hy;simp [sFork] at hy
        obtain ⟨c,hc0⟩:=hCne
        obtain ⟨xc,hxc,exc⟩:=selG_mem hc0
        have hsame:∀b,sameC th0 C.outs b=true→toAh ρ c.th b=ah b:=fun b hb=>by
         obtain ⟨k,k1,k2⟩:=sameC_ok hb hxc
         rw [exc] at k1
         rw [ha b k k2]
         unfold toAh
         rw [k1];rfl
        obtain ⟨pc',nv',y',g1,g2,g3,g4⟩:=sFork_ok (P:=P) (fun _ _ _ _ h=>sDraw_ne h) hy hp (fun x hx=>hs x (by simp [hx])) c hc0
        cases hfm:framedC th0 R.nx args C.outs ()
        case false=>
         obtain ⟨R',L,frE,ahE,q1,q2,q3,q4,q5,q6,q7,q8,q9⟩:=sDraw_ok hρ hX hI rest (i+1) (base:=base) (fput fr o.dst (c.v.den ρ)) (toAh ρ c.th) g1 g2 g3 (FrR_put (e:=⟨[],c.v⟩) hf hd hN) (fun b k hk=>by unfold toAh;rw [hk];rfl) (by rw [fput_length,hN]) hl'
         refine ⟨R',⟨fr,ah,c.v.den ρ,fun b=>!sameC th0 C.outs b,fun _=>true,fun b=>b<Nat.max c.nx R.nx,fun b=>R.nx≤b,R.nx,true⟩::L,frE,ahE,g4 _ q1,by simp [q2],q3,q4,q5,rfl,rfl,rfl,?_⟩
         refine DGood.cons q2 ⟨?_,?_,?_,?_,?_,?_,?_,?_,?_,?_,?_,?_⟩ q9 (fun _ h=>h) (fun h=>by cases h) (fun _ h=>List.mem_cons_of_mem _ h) (fun _ h=>h) (fun _=>⟨_,_,List.mem_cons_self,fun b hb=>by simp [hb],fun hg=>by rw [hfm] at hg;cases hg⟩) (fun h=>by cases h)
         ·rw [atO_cons,q7]
          intro frL ahL w E a F hag hrd hh hreq hfr Q K hK
          obtain ⟨wt,hk,hloc⟩:=aWanted_loc hwt
          obtain ⟨wt',hk',hw⟩:=aWanted_run hfr (hloc frL hag (fun b=>b=wt) rfl)
          subst hk';subst hk
          have e0:ahL=ah:=funext fun b=>hrd b rfl
          subst e0
          obtain ⟨vs,hvs,he⟩:=calleeOf_ok hp hf hc w E frL a o rfl (looks_agree hag) hfr
          unfold wpOp
          rw [show ops[i+0]?=some o from ho]
          dsimp only
          rw [if_pos hw]
          refine .inl (hI _ _ _ _ _ _ _ hC hp (fun x hx=>hs x (by simp [hx])) base w E _ vs ha (hh.weaken hreq) hfr.glob hvs o a he _ _ (fun c' hc' v w' E' ah' r1 r2 r3 r4=>?_))
          rw [hc0] at hc'
          cases hc'
          refine hK v w' E' (toAh ρ c.th) (fun b=>?_) r2 ((r3.sub (ah0:=toAh ρ c.th) (fun b k hk=>?_)).weaken fun b hb=>?_) r4
          ·cases hbu:sameC th0 C.outs b
           ·simp [hbu]
           ·simp [hbu,hsame b hbu]
          ·unfold toAh at hk
           simp only [Option.map_eq_some_iff] at hk
           obtain ⟨z,hz,rfl⟩:=hk
           exact r1 b z hz
          ·have:=hb.2
           have h2:Nat.max c.nx R.nx≤b:=Nat.le_of_not_lt this
           exact Nat.le_trans (Nat.le_max_left _ _) h2
         ·rw [atO_cons,q6]
         ·intro b hb
          rw [atO_cons,q7]
          exact hsame b (by simpa using hb)
         ·rw [atO_cons,q8];exact Nat.le_max_right _ _
         ·intro b h;exact h
         ·intro b h;rw [atO_cons,q8];exact h
         ·intro h;cases h
         ·intro _ m hm;exact hq1 m hm
         ·exact fun c hc=>.inl (hcs c hc)
         ·exact fun _ c hc=>hcs c hc
         ·intro f hm
          rcases hq2 f hm with h|⟨h1,h2⟩
          ·exact .inl h
          ·exact .inr ⟨fun b hb=>(by rw [h1] at hb;cases hb),fun b hb=>by simpa using h2 b hb⟩
         ·intro k' r' hk;omega
        case true=>
         have hfm0:=hfm
         unfold framedC at hfm0
         simp only [Bool.and_eq_true,List.all_eq_true] at hfm0
         obtain ⟨f1,f2,f3⟩:=framed0_ok hρ hfm0.1
         have hfx:=hfm0.2 xc hxc
         rw [exc] at hfx
         obtain ⟨f4,f5,f6⟩:=framed1_ok hρ hfx
         have hasub:∀b k,toAh ρ th0 b=some k→ah b=some k:=fun b k hk=>by
          obtain ⟨z,hz,rfl⟩:=toAh_some hk
          exact ha b z hz
         have sameIn:∀b,sameC th0 C.outs b=true→b<R.nx:=fun b hb=>by
          obtain ⟨k,k1,k2⟩:=sameC_ok hb hxc
          exact f1 b (k.den ρ) (by unfold toAh;rw [k2];rfl)
         obtain ⟨R',L,frE,ahE,q1,q2,q3,q4,q5,q6,q7,q8,q9⟩:=sDraw_ok hρ hX hI rest (i+1) (base:=base) (fput fr o.dst (c.v.den ρ)) (fun b=>if c.nx≤b then ah b else toAh ρ c.th b) g1 g2 g3 (FrR_put (e:=⟨[],c.v⟩) hf hd hN) (fun b k hk=>by
          have h1:toAh ρ c.th b=some (k.den ρ):=by unfold toAh;rw [hk];rfl
          have h2:=(f5 b _ h1).1
          show (if c.nx≤b then ah b else toAh ρ c.th b)=_
          rw [if_neg (by omega)];exact h1) (by rw [fput_length,hN]) hl'
         refine ⟨R',⟨fr,ah,c.v.den ρ,fun b=>!sameC th0 C.outs b&&decide (b<c.nx),fun b=>decide (b<R.nx),fun b=>R.nx≤b∧b<c.nx,fun b=>R.nx≤b∧b<c.nx,R.nx,true⟩::L,frE,ahE,g4 _ q1,by simp [q2],q3,q4,q5,rfl,rfl,rfl,?_⟩
         have hnext:c.nx≤atO (·.nx) L R'.nx 0:=by rw [q8];exact Nat.le_max_left _ _
         refine DGood.cons q2 ⟨?_,?_,?_,?_,?_,?_,?_,?_,?_,?_,?_,?_⟩ q9 (fun _ h=>h) (fun h=>by cases h) (fun _ h=>List.mem_cons_of_mem _ h) (fun _ h=>h) (fun _=>⟨_,_,List.mem_cons_self,fun b hb=>by simp [hb],fun _ b hb=>?_⟩) (fun h=>by cases h)
         rotate_right
         ·rcases hb with hb|hb|hb
          ·simp only [Bool.and_eq_true,decide_eq_true_eq] at hb;omega
          ·simp only [decide_eq_true_eq] at hb;omega
          ·have:=hb.2;omega
         ·rw [atO_cons,q7]
          intro frL ahL w E a F hag hrd hh hreq hfr Q K hK
          obtain ⟨wt,hk,hloc⟩:=aWanted_loc hwt
          obtain ⟨wt',hk',hw⟩:=aWanted_run hfr (hloc frL hag (fun b=>b=wt) rfl)
          subst hk';subst hk
          obtain ⟨vs,hvs,he⟩:=calleeOf_ok hp hf hc w E frL a o rfl (looks_agree hag) hfr
          unfold wpOp
          rw [show ops[i+0]?=some o from ho]
          dsimp only
          rw [if_pos hw]
          have hsub:∀b k,toAh ρ th0 b=some k→ahL b=some k:=fun b k hk=>by
           rw [hrd b (by simpa using f1 b k hk)];exact hasub b k hk
          have hvs':RepL w (E.part (toAh ρ th0)) (denL ρ args) vs:=
           ⟨hvs.1,fun i a v h1 h2=>part_rep (hvs.2 i a v h1 h2) fun x hx=>f3 x (refsL_get i a h1 hx)⟩
          refine .inl (hI _ _ _ _ _ _ _ hC hp (fun x hx=>hs x (by simp [hx])) base w (E.part (toAh ρ th0)) (toAh ρ th0) vs (fun b k hk=>by unfold toAh;rw [hk];rfl) (part_heap hh hsub f1 f2) hfr.glob hvs' o a he _ _ (fun c' hc' v w' E' ah' r1 r2 r3 r4=>?_))
          rw [hc0] at hc'
          cases hc'
          obtain ⟨u1,u2,u3⟩:=part_back hh hsub f1 f4 (fun b h1 h2=>hreq b ⟨h1,h2⟩) r2 (r3.sub (ah0:=toAh ρ c.th) (fun b k hk=>by
           obtain ⟨z,hz,rfl⟩:=toAh_some hk
           exact r1 b z hz)) f5 (ahN:=fun b=>if c.nx≤b then ahL b else toAh ρ c.th b) (fun b=>rfl)
          refine hK v w' _ _ (fun b=>?_) u1 u2 (u3 _ _ r4 f6)
          dsimp only
          by_cases hle:c.nx≤b
          ·rw [if_pos hle,if_neg (by simp;omega)]
          ·rw [if_neg hle]
           rcases Bool.eq_false_or_eq_true (sameC th0 C.outs b) with hbu|hbu
           ·rw [if_neg (by simp [hbu]),hsame b hbu,hrd b (by simpa using sameIn b hbu)]
           ·rw [if_pos (by simp [hbu,show b<c.nx by omega]),if_neg hle]
         ·rw [atO_cons,q6]
         ·intro b hb
          rw [atO_cons,q7]
          dsimp only
          by_cases hle:c.nx≤b
          ·rw [if_pos hle]
          ·rw [if_neg hle]
           refine hsame b ?_
           cases hbu:sameC th0 C.outs b
           ·simp [hbu,show b<c.nx by omega] at hb
           ·rfl
         ·rw [atO_cons,q8];exact Nat.le_max_right _ _
         ·intro b h;exact h.1
         ·intro b h;rw [atO_cons];exact Nat.lt_of_lt_of_le h.2 hnext
         ·intro h;cases h
         ·intro _ m hm;exact hq1 m hm
         ·exact fun c hc=>.inl (hcs c hc)
         ·exact fun _ c hc=>hcs c hc
         ·intro f hm
          rcases hq2 f hm with h|⟨h1,h2⟩
          ·exact .inl h
          ·exact .inr ⟨fun b hb=>(by rw [h1] at hb;cases hb),fun b hb=>by simp [h2 b hb]⟩
         ·intro k' r' hk;omega
    ·split at h
     ·cases h
     ·rename_i r hr
      cases hap:csOk M i (purO o.op) R.nx r.rd (r.wr.map (·.1)) cs&&fs.all (fun f=>apartB M i r.rd (r.wr.map (·.1)) f)
      ·simp [hap] at h
      ·simp only [hap,cond_true] at h
       simp only [Bool.and_eq_true] at hap
       obtain ⟨hcs,hap⟩:=hap
       split at h
       ·cases h
       ·rename_i y hy
        simp only [Option.some.injEq] at h;subst h
        have hsd:=tagX_ok hs
        have hop:=sOp_ok hρ hX hp hf ha hr (hsd.1 hp) (K:=fun r'=>r'=r.den ρ) rfl
        have ih:=sDraw_ok hρ hX hI rest (i+1) (base:=base) _ _ hy hp hsd.2 (FrR_put (e:=⟨[],r.v⟩) hf hd hN) (AhR_wr ha) (by rw [fput_length,hN]) hl'
        exact draw_op ho hwt hop hcs hap ih
   ·rename_i l hw
    split at h
    ·cases h
    ·rename_i r hr
     cases hap:r.wr.isEmpty&&(csOk M i (purO o.op) R.nx r.rd [] cs&&fs.all (fun f=>apartB M i r.rd (r.wr.map (·.1)) f))
     ·simp only [hap,cond_false] at h
      clear hap
      split at h
      ·rename_i t b
       split at h
       ·cases h
       ·clear hr r
        rename_i r hr
        cases hap:csOk M i (purO o.op) R.nx r.rd (r.wr.map (·.1)) cs&&fs.all (fun f=>apartB M i r.rd (r.wr.map (·.1)) f)
        ·simp [hap] at h
        ·simp only [hap,cond_true] at h
         simp only [Bool.and_eq_true] at hap
         split at h
         ·cases h
         ·rename_i y hy
          split at h
          ·cases h
          ·rename_i z hz
           simp only [Option.some.injEq] at h;subst h
           have n1:y.outs≠[]:=sDraw_ne hy
           have n2:z.outs≠[]:=sDraw_ne hz
           have hsd:=tagX_ok hs
           have hwt:aWanted ops fr o (fun q=>q=((t.den ρ).B == b)):=sWhen_ok hp hf hw fun q hq=>by simpa [When.sem] using hq
           have hsel:∀R',selG ρ (bif b then gdA t y.outs++z.outs else gdA t z.outs++y.outs)=some R'↔selG ρ (bif (t.den ρ).B == b then y.outs else z.outs)=some R':=by
            intro R'
            cases b
            ·simp only [cond_false]
             rw [selG_gdA n1 n2]
             cases (t.den ρ).B<;>rfl
            ·simp only [cond_true]
             rw [selG_gdA n2 n1]
             cases (t.den ρ).B<;>rfl
           cases hB:((t.den ρ).B == b) with
           |true=>
            rw [hB] at hwt hsel
            have hp1:=addPc_holds (by simpa using hB) hp
            have ih:=sDraw_ok hρ hX hI rest (i+1) (base:=base) _ _ hy hp1 (fun x hx=>hsd.2 x (by simp [hx])) (FrR_put (e:=⟨[],r.v⟩) hf hd hN) (AhR_wr ha) (by rw [fput_length,hN]) hl'
            obtain ⟨R',L,frE,ahE,q1,q2⟩:=draw_op ho hwt (sOp_ok hρ hX hp1 hf ha hr (hsd.1 hp1) (K:=fun r'=>r'=r.den ρ) rfl) hap.1 hap.2 ih
            exact ⟨R',L,frE,ahE,(hsel R').2 q1,q2⟩
           |false=>
            rw [hB] at hwt hsel
            have hB2:(t.den ρ).B=!b:=by cases hb:(t.den ρ).B<;>cases b<;>simp [hb] at hB ⊢
            have ih:=sDraw_ok hρ hX hI rest (i+1) (base:=base) _ _ hz (addPc_holds hB2 hp) (fun x hx=>hsd.2 x (by simp [hx])) (FrR_put (e:=⟨[],.c .undef⟩) hf hd hN) ha (by rw [fput_length,hN]) hl'
            obtain ⟨R',L,frE,ahE,q1,q2⟩:=draw_no ho hwt ih
            exact ⟨R',L,frE,ahE,(hsel R').2 q1,q2⟩
      ·cases h
     ·simp only [hap,cond_true] at h
      simp only [Bool.and_eq_true] at hap
      obtain ⟨hE,hcs,hap⟩:=hap
      have hcs:=csOk_ok hcs
      have hwr:r.wr=[]:=by simpa using hE
      split at h
      ·cases h
      ·rename_i y hy
       simp only [Option.some.injEq] at h;subst h
       have hsd:=tagX_ok hs
       have hwt:aWanted ops fr o (fun b=>b=l.all (fun x=>(x.1.den ρ).B == x.2)):=sWhen_ok hp hf hw fun b hb=>hb
       have hput:=FrR_put (e:=⟨l,r.v⟩) hf hd hN
       obtain ⟨R',L,frE,ahE,q1,q2,q3,q4,q5,q6,q7,q8,q9⟩:=sDraw_ok hρ hX hI rest (i+1) (base:=base) _ ah hy hp hsd.2 hput ha (by rw [fput_length,hN]) hl'
       refine ⟨R',⟨fr,ah,(⟨l,r.v⟩:Ent).den ρ,fun _=>false,fun b=>decide (b∈r.rd),fun b=>purO o.op=false∧b=R.nx,fun b=>purO o.op=false∧b=R.nx,R.nx,false⟩::L,frE,ahE,q1,by simp [q2],q3,q4,q5,rfl,rfl,rfl,?_⟩
       refine DGood.cons q2 ⟨?_,?_,?_,?_,?_,?_,?_,?_,?_,?_,?_,?_⟩ q9 addQ_old (fun _=>addQ_or) (fun _ h=>h) (fun f hm=>?_) (fun h=>by cases h) (fun _=>?_)
       ·rw [atO_cons,q7]
        cases hb:l.all (fun x=>(x.1.den ρ).B == x.2)
        ·rw [hb] at hwt
         exact stepD_no (show ops[i+0]?=some o from ho) (by simp only [Ent.den,hb];rfl) hwt
        ·rw [hb] at hwt
         have hpl:=Pc.holds_append hb hp
         have hop:=sOp_ok hρ hX hpl hf ha hr (hsd.1 hpl) (K:=fun r'=>r'=r.den ρ) rfl
         have:=stepD_op (base:=base) (show ops[i+0]?=some o from ho) hwt hop
         have e1:(r.den ρ).wr=[]:=by simp [SR.den,hwr]
         have e2:(⟨l,r.v⟩:Ent).den ρ=(r.den ρ).v:=by simp only [Ent.den,hb];rfl
         rw [e2]
         rw [e1] at this
         have e3:(r.den ρ).rd=r.rd:=rfl
         rw [e3] at this
         simpa [upds] using this
       ·rw [atO_cons,q6]
       ·intro b hb;rw [atO_cons,q7]
       ·rw [atO_cons,q8];exact Nat.le_succ _
       ·intro b h;exact Nat.le_of_eq h.2.symm
       ·intro b h;rw [atO_cons,q8,h.2];exact Nat.lt_succ_self _
       ·intro _;exact ⟨fun b h=>by rw [atO_cons,q8,h.2];exact Nat.lt_succ_self _,fun b h=>Nat.le_of_eq h.2.symm⟩
       ·intro h;cases h
       ·intro c hc
        rcases hcs c hc with h|⟨h3,⟨h1,-⟩|⟨-,h2⟩⟩
        ·exact .inl h
        ·exact .inr (.inl ⟨fun b=>rfl,fun b hb=>h3 b (by simpa using hb),fun b hb=>by rw [h1] at hb;cases hb.1⟩)
        ·exact .inr (.inr ⟨h2,fun b hb=>(by cases hb),fun b hb=>h3 b (by simpa using hb),fun b hb=>Nat.le_of_eq hb.2.symm⟩)
       ·intro h;cases h
       ·intro f hm
        rcases apartF_of (List.all_eq_true.1 hap f hm) with h|⟨h1,h2⟩
        ·exact .inl (by simpa using h)
        ·exact .inr ⟨fun b hb=>⟨by simpa using (h1 b hb).1,rfl⟩,fun b hb=>rfl⟩
       ·intro k' r' hk;omega
       ·unfold addF
        cases (r.rd.isEmpty&&([]:List Nat).isEmpty)
        ·exact List.mem_cons_of_mem _ hm
        ·exact hm
       ·cases hE:(r.rd.isEmpty&&([]:List Nat).isEmpty)
        ·exact .inl ⟨⟨i,r.rd,[]⟩,by unfold addF;rw [hE];simp,rfl,fun r' h=>⟨fun b hb=>(by cases hb),fun b hb=>h.2 b (by simpa using hb)⟩⟩
        ·simp only [Bool.and_eq_true,List.isEmpty_iff] at hE
         exact .inr fun r'=>⟨fun b hb=>(by cases hb),fun b hb=>(by simp only [hE.1] at hb;simp at hb)⟩
end
end Go.Fw
end
section
set_option linter.unusedVariables false
set_option linter.unusedSimpArgs false
set_option linter.unusedSectionVars false
namespace Go.Fw
variable [Glob]
set_option linter.unusedSimpArgs false
set_option linter.unusedVariables false
set_option linter.unusedSectionVars false
structure St' where
 fr:Tr Ent
 ah:Tr SB
 nx:Nat
structure Out where
 g:Tm
 e:Exit
 st:St'
def sel (ρ:List AV):List Out→Option (Exit×St')
 |[]=>none
 |[o]=>some (o.e,o.st)
 |o::o'::r=>bif (o.g.den ρ).B then some (o.e,o.st) else sel ρ (o'::r)
def notSl : Kd→Bool | .sl=>false|_=>true
def mrgB (g:Tm)(x y:SV):Option SV:=
 match x,y with
 | .sc k x,.sc k' y=>bif decide (k=k') then bif notSl k||x.beq y then some (.sc k (mkIteK k g x y)) else none else none
 | .os b s o l,.os b' s' o' l'=>bif Nat.beq b b'&&(Nat.beq s s'&&Nat.beq o o') then some (.os b s o (mkIte g l l')) else none
 | .op b s r o,.op b' s' r' o'=>bif Nat.beq b b'&&(Nat.beq s s'&&Nat.beq o o') then some (.op b s (mkIte g r r') o) else none
 |x,y=>bif x.beq y then some x else none
 mutual
def mrgV (g:Tm):SV→SV→Option SV
  | .agg x,.agg y=>match mrgL g x y with|some z=>some (.agg z)|none=>none
  | .tup x,.tup y=>match mrgL g x y with|some z=>some (.tup z)|none=>none
  |x,y=>mrgB g x y
def mrgL (g:Tm):List SV→List SV→Option (List SV)
  |[],[]=>some []
  |x::r,y::s=>match mrgV g x y,mrgL g r s with|some z,some l=>some (z::l)|_,_=>none
  |_,_=>none
end
section
variable {P : Program} {ρ:List AV} {pc:Pc}
theorem Weak.of_eq {a b:AV}(h:a=b):Weak a b:=by subst h;exact Weak.refl a
theorem and3 {a b c:Bool}(h:(a&&(b&&c))=true):a=true∧b=true∧c=true:=by simpa using h
theorem mrgB_ok {g:Tm}{x y z:SV}(h:mrgB g x y=some z):Weak (bif (g.den ρ).B then x.den ρ else y.den ρ) (z.den ρ)∧(z.den ρ).scal=(x.den ρ).scal∧(z.den ρ).scal=(y.den ρ).scal:=by
 unfold mrgB at h
 split at h
 ·rename_i k x k' y
  by_cases hk:k=k'
  ·subst hk
   simp only [decide_true,cond_true] at h
   cases hq:notSl k||x.beq y
   ·simp [hq] at h
   ·simp only [hq,cond_true,Option.some.injEq] at h;subst h
    exact ⟨Weak.of_eq mkIteK_den.symm,by cases k<;>exact ⟨rfl,rfl⟩⟩
  ·simp [hk] at h
 ·rename_i b s o l b' s' o' l'
  cases hc:(Nat.beq b b'&&(Nat.beq s s'&&Nat.beq o o'))
  ·simp [hc] at h
  ·simp only [hc,cond_true,Option.some.injEq] at h;subst h
   obtain ⟨h1,h2,h3⟩:=and3 hc
   have e1:=Nat.eq_of_beq_eq_true h1
   have e2:=Nat.eq_of_beq_eq_true h2
   have e3:=Nat.eq_of_beq_eq_true h3
   subst e1;subst e2;subst e3
   refine ⟨?_,rfl,rfl⟩
   simp only [SV.den,mkIte_den]
   cases (g.den ρ).B<;>exact Weak.refl _
 ·rename_i b s r o b' s' r' o'
  cases hc:(Nat.beq b b'&&(Nat.beq s s'&&Nat.beq o o'))
  ·simp [hc] at h
  ·simp only [hc,cond_true,Option.some.injEq] at h;subst h
   obtain ⟨h1,h2,h3⟩:=and3 hc
   have e1:=Nat.eq_of_beq_eq_true h1
   have e2:=Nat.eq_of_beq_eq_true h2
   have e3:=Nat.eq_of_beq_eq_true h3
   subst e1;subst e2;subst e3
   refine ⟨?_,rfl,rfl⟩
   simp only [SV.den,mkIte_den]
   cases (g.den ρ).B<;>exact Weak.refl _
 ·cases hb:x.beq y
  ·simp [hb] at h
  ·simp only [hb,cond_true,Option.some.injEq] at h;subst h
   rw [SV.beq_eq hb]
   refine ⟨?_,rfl,rfl⟩
   cases (g.den ρ).B<;>exact Weak.refl _
 mutual
theorem mrgV_ok {g:Tm}{x y z:SV}(h:mrgV g x y=some z):Weak (bif (g.den ρ).B then x.den ρ else y.den ρ) (z.den ρ)∧(z.den ρ).scal=(x.den ρ).scal∧(z.den ρ).scal=(y.den ρ).scal:=by
   unfold mrgV at h
   split at h
   ·split at h
    ·rename_i l hl;simp only [Option.some.injEq] at h;subst h
     have:=mrgL_weak hl
     refine ⟨?_,rfl,rfl⟩
     cases hg:(g.den ρ).B<;>rw [hg] at this<;>exact Weak.agg this
    ·cases h
   ·split at h
    ·rename_i l hl;simp only [Option.some.injEq] at h;subst h
     have:=mrgL_weak hl
     refine ⟨?_,rfl,rfl⟩
     cases hg:(g.den ρ).B<;>rw [hg] at this<;>exact Weak.tup this
    ·cases h
   ·exact mrgB_ok h
  termination_by SizeOf.sizeOf x
theorem mrgL_weak {g:Tm}{x y z:List SV}(h:mrgL g x y=some z):WeakL (bif (g.den ρ).B then denL ρ x else denL ρ y) (denL ρ z):=by
   match x,y with
   |[],[]=>simp only [mrgL,Option.some.injEq] at h;subst h;cases (g.den ρ).B<;>exact .nil
   |x::r,y::s=>
    simp only [mrgL] at h
    split at h
    ·rename_i a l ha hl
     simp only [Option.some.injEq] at h;subst h
     have h1:=mrgV_ok ha
     have h2:=mrgL_weak hl
     cases hg:(g.den ρ).B
     ·rw [hg] at h1 h2;exact .cons h1.1 h1.2.2 h2
     ·rw [hg] at h1 h2;exact .cons h1.1 h1.2.1 h2
    ·cases h
   |[],_::_=>simp [mrgL] at h
   |_::_,[]=>simp [mrgL] at h
  termination_by SizeOf.sizeOf x
end
end
end Go.Fw
end
section
set_option linter.unusedVariables false
set_option linter.unusedSimpArgs false
set_option linter.unusedSectionVars false
namespace Go.Fw
variable [Glob]
set_option linter.unusedSimpArgs false
set_option linter.unusedVariables false
set_option linter.unusedSectionVars false
def mrgLL (g:Tm):List (List SV)→List (List SV)→Option (List (List SV))
 |[],[]=>some []
 |x::r,y::s=>match mrgL g x y,mrgLL g r s with|some z,some l=>some (z::l)|_,_=>none
 |_,_=>none
def mrgSB (g:Tm)(x y:SB):Option SB:=
 match x,y with
 | .rows sz rs,.rows sz' rs'=>bif Nat.beq sz sz' then (match mrgLL g rs rs' with|some l=>some (.rows sz l)|none=>none) else none
 | .rowsT sz t,.rowsT sz' t'=>bif Nat.beq sz sz'&&t.beq t' then some (.rowsT sz t) else none
 | .mapT m t,.mapT m' t'=>bif decide (m=m') then some (.mapT m (mkIte g t t')) else none
 | .map es,.map es'=>bif beqL (es.map (·.1)) (es'.map (·.1))&&beqL (es.map (·.2)) (es'.map (·.2)) then some (.map es) else none
 | .it m n k,.it m' n' k'=>bif Nat.beq m m'&&(n.beq n'&&Nat.beq k k') then some (.it m n k) else none
 | .rowsF sz t i o x,.rowsF sz' t' i' o' x'=>bif Nat.beq sz sz'&&(t.beq t'&&(i.beq i'&&(Nat.beq o o'&&x.beq x'))) then some (.rowsF sz t i o x) else none
 | .rowsE ty sz rs,.rowsE ty' sz' rs'=>bif (Nat.beq ty ty'&&Nat.beq sz sz')&&beqLL rs rs' then some (.rowsE ty sz rs) else none
 |_,_=>none
def WeakB (k k':Blk):Prop:=∀base w E b,BlkOk base w E b k→BlkOk base w E b k'
theorem WeakB.refl (k:Blk):WeakB k k:=fun _ _ _ _ h=>h
def Tr.mrg {α:Type}(f:α→α→Option α):Tr α→Tr α→Tr α
 | .n l x r,.n l' x' r'=>.n (Tr.mrg f l l') (match x,x' with|some a,some b=>f a b|_,_=>none) (Tr.mrg f r r')
 |_,_=>.e
theorem Tr.get_mrg {α:Type}{f:α→α→Option α}:∀{a b:Tr α} {t:Nat} {x:α},(Tr.mrg f a b).get t=some x→∃y z,a.get t=some y∧b.get t=some z∧f y z=some x
 | .e,b,t,x,h=>by simp [Tr.mrg,Tr.get] at h
 | .n _ _ _,.e,t,x,h=>by simp [Tr.mrg,Tr.get] at h
 | .n l u r,.n l' u' r',t,x,h=>by
  simp only [Tr.mrg,Tr.get] at h
  cases h1:Nat.beq t 0
  ·simp only [h1,cond_false] at h
   cases h2:Nat.beq (t % 2) 1
   ·simp only [h2,cond_false] at h
    obtain ⟨y,z,q1,q2,q3⟩:=Tr.get_mrg h
    exact ⟨y,z,by simpa [Tr.get,h1,h2] using q1,by simpa [Tr.get,h1,h2] using q2,q3⟩
   ·simp only [h2,cond_true] at h
    obtain ⟨y,z,q1,q2,q3⟩:=Tr.get_mrg h
    exact ⟨y,z,by simpa [Tr.get,h1,h2] using q1,by simpa [Tr.get,h1,h2] using q2,q3⟩
  ·simp only [h1,cond_true] at h
   split at h
   ·rename_i a b
    exact ⟨a,b,by simp [Tr.get,h1],by simp [Tr.get,h1],h⟩
   ·cases h
def mrgEnt (g:Tm)(a b:Ent):Option Ent:=
 match a.h,b.h with
 |[],[]=>match mrgV g a.v b.v with|some v=>some ⟨[],v⟩|none=>none
 |_,_=>none
def lostT {α:Type}(a b c:Tr α)(t:Nat):Bool:=(a.get t).isSome&&((b.get t).isSome&&(c.get t).isNone)
structure Kp where
 ks:List Nat
 low:Nat
def closeB (th:Tr SB):Nat→List Nat→List Nat→List Nat
 |0,_,acc=>acc
 |n+1,[],acc=>acc
 |n+1,b::r,acc=>bif memB b acc then closeB th n r acc else
  match th.get b with
  |none=>closeB th n r acc
  |some k=>closeB th n ((match k with | .rows _ rs=>rfsLL rs | .rowsT _ _=>[] | .mapT _ _=>[] | .map es=>rfsL (es.map (·.1))++rfsL (es.map (·.2)) | .it m _ _=>[m] | .rowsE _ _ rs=>rfsLL rs | .rowsF _ _ _ _ x=>x.rfs)++r) (b::acc)
def lossB (low:Nat)(refs:List Nat)(a b c:Tr SB):Bool:=(closeB a 2000 (refs++List.range low) []).any (lostT a b c)
def refsOf (fr:Tr Ent):List Nat→List Nat
 |[]=>[]
 |t::r=>match fr.get t with|some e=>e.v.rfs++refsOf fr r|none=>refsOf fr r
def mrgBad (keep:Kp)(a b:St')(fr:Tr Ent)(th:Tr SB):Bool:=keep.ks.any (lostT a.fr b.fr fr)||lossB keep.low (refsOf fr keep.ks) a.ah b.ah th
def mrgSt (keep:Kp)(g:Tm)(a b:St'):Option St':=
 let fr:=Tr.mrg (mrgEnt g) a.fr b.fr
 let th:=Tr.mrg (mrgSB g) a.ah b.ah
 bif mrgBad keep a b fr th then none else
 some ⟨fr,th,Nat.max a.nx b.nx⟩
structure StW (ρ:List AV)(N:Nat)(st:St')(fr0:AFr)(ah0:AH)(nx0:Nat):Prop where
 fr:∀t e,st.fr.get t=some e→∃a,fget fr0 t=some a∧Weak a (e.den ρ)
 ah:∀b k,st.ah.get b=some k→∃k0,ah0 b=some k0∧WeakB k0 (k.den ρ)
 len:fr0.length=N
 nx:nx0≤st.nx
section
variable {P : Program} {ρ:List AV} {pc:Pc} {N:Nat} {fr:AFr} {ah:AH} {nx:Nat}
theorem mrgLL_weak {g:Tm}:∀{x y z:List (List SV)},mrgLL g x y=some z→WeakLL (bif (g.den ρ).B then denLL ρ x else denLL ρ y) (denLL ρ z)
 |[],[],z,h=>by simp only [mrgLL,Option.some.injEq] at h;subst h;cases (g.den ρ).B<;>exact .nil
 |x::r,y::s,z,h=>by
  simp only [mrgLL] at h
  split at h
  ·rename_i a l ha hl
   simp only [Option.some.injEq] at h;subst h
   have h1:=mrgL_weak (ρ:=ρ) ha
   have h2:=mrgLL_weak hl
   cases hg:(g.den ρ).B
   ·rw [hg] at h1 h2;exact .cons h1 h2
   ·rw [hg] at h1 h2;exact .cons h1 h2
  ·cases h
 |[],_::_,z,h=>by simp [mrgLL] at h
 |_::_,[],z,h=>by simp [mrgLL] at h
theorem RowsIn.weak {w:World}{E:Env}{arr:Array Value}{o sz:Nat}{az bs:List (List AV)}(h5:RowsIn w E arr o sz az)(h:WeakLL az bs):RowsIn w E arr o sz bs:=by
 obtain ⟨q1,q2,q3,q4⟩:=h5
 refine ⟨by rw [← h.length];exact q1,fun i row hr=>?_,fun row hm x hx=>?_,fun i row j x hr hx=>?_⟩
 ·obtain ⟨row',hr',hw⟩:=h.get i row hr
  rw [← hw.length];exact q2 i row' hr'
 ·obtain ⟨i,hi⟩:=mem_get hm
  obtain ⟨j,hj⟩:=mem_get hx
  obtain ⟨row',hr',hw⟩:=h.get i row hi
  have hlt:j<row'.length:=by rw [hw.length];exact (List.getElem?_eq_some_iff.1 hj).1
  have hx':row'[j]?=some row'[j]:=by simp [hlt]
  rw [(hw.get j _ x hx' hj).2]
  exact q3 row' (List.mem_of_getElem? hr') _ (List.mem_of_getElem? hx')
 ·obtain ⟨row',hr',hw⟩:=h.get i row hr
  have hlt:j<row'.length:=by rw [hw.length];exact (List.getElem?_eq_some_iff.1 hx).1
  have hx':row'[j]?=some row'[j]:=by simp [hlt]
  obtain ⟨v,hv,hrep⟩:=q4 i row' j _ hr' hx'
  exact ⟨v,hv,(hw.get j _ x hx' hx).1 _ _ _ hrep⟩
theorem WeakB.rows {sz:Nat}{az bs:List (List AV)}(h:WeakLL az bs):WeakB (.rows sz az) (.rows sz bs):=by
 intro base w E b hk
 rcases hk with ⟨h1,h2⟩|⟨c,o,arr,ty,h1,h2,h3,h4,h5⟩
 ·subst h2
  refine .inl ⟨h1,?_⟩
  have:=h.length
  cases bs with|nil=>rfl|cons=>simp at this
 ·exact .inr ⟨c,o,arr,ty,h1,h2,h3,h4,h5.weak h⟩
theorem mrgSB_weak {g:Tm}{x y z:SB}(h:mrgSB g x y=some z):WeakB (bif (g.den ρ).B then x.den ρ else y.den ρ) (z.den ρ):=by
 unfold mrgSB at h
 split at h
 ·rename_i sz rs sz' rs'
  cases h1:Nat.beq sz sz'
  ·simp [h1] at h
  ·simp only [h1,cond_true] at h
   have e:=Nat.eq_of_beq_eq_true h1
   subst e
   split at h
   ·rename_i l hl
    simp only [Option.some.injEq] at h;subst h
    have:=mrgLL_weak (ρ:=ρ) hl
    cases hg:(g.den ρ).B<;>rw [hg] at this<;>exact WeakB.rows this
   ·cases h
 ·rename_i sz t sz' t'
  cases h1:Nat.beq sz sz'&&t.beq t'
  ·simp [h1] at h
  ·simp only [h1,cond_true,Option.some.injEq] at h
   simp only [Bool.and_eq_true] at h1
   have e:=Nat.eq_of_beq_eq_true h1.1
   have e2:=Tm.beq_eq h1.2
   subst e;subst e2;subst h
   cases (g.den ρ).B<;>exact WeakB.refl _
 ·rename_i m t m' t'
  cases h1:decide (m=m')
  ·simp [h1] at h
  ·simp only [h1,cond_true,Option.some.injEq] at h
   have e:=of_decide_eq_true h1
   subst e;subst h
   simp only [SB.den,mkIte_den]
   cases (g.den ρ).B<;>exact WeakB.refl _
 ·rename_i es es'
  cases h1:beqL (es.map (·.1)) (es'.map (·.1))&&beqL (es.map (·.2)) (es'.map (·.2))
  ·simp [h1] at h
  ·simp only [h1,cond_true,Option.some.injEq] at h;subst h
   simp only [Bool.and_eq_true] at h1
   have e1:=beqL_eq h1.1
   have e2:=beqL_eq h1.2
   have:es=es':=by
    apply List.ext_getElem
    ·have:=congrArg List.length e1;simpa using this
    ·intro i hi hi'
     have a1:(es.map (·.1))[i]?=(es'.map (·.1))[i]?:=by rw [e1]
     have a2:(es.map (·.2))[i]?=(es'.map (·.2))[i]?:=by rw [e2]
     simp [hi,hi'] at a1 a2
     exact Prod.ext a1 a2
   subst this
   cases (g.den ρ).B<;>exact WeakB.refl _
 ·rename_i m n k m' n' k'
  cases h1:Nat.beq m m'&&(n.beq n'&&Nat.beq k k')
  ·simp [h1] at h
  ·simp only [h1,cond_true,Option.some.injEq] at h;subst h
   simp only [Bool.and_eq_true] at h1
   obtain rfl:=Nat.eq_of_beq_eq_true h1.1
   obtain rfl:=Tm.beq_eq h1.2.1
   obtain rfl:=Nat.eq_of_beq_eq_true h1.2.2
   cases (g.den ρ).B<;>exact WeakB.refl _
 ·rename_i sz t i o x sz' t' i' o' x'
  cases h1:Nat.beq sz sz'&&(t.beq t'&&(i.beq i'&&(Nat.beq o o'&&x.beq x')))
  ·simp [h1] at h
  ·simp only [h1,cond_true,Option.some.injEq] at h
   simp only [Bool.and_eq_true] at h1
   obtain rfl:=Nat.eq_of_beq_eq_true h1.1
   obtain rfl:=Tm.beq_eq h1.2.1
   obtain rfl:=Tm.beq_eq h1.2.2.1
   obtain rfl:=Nat.eq_of_beq_eq_true h1.2.2.2.1
   obtain rfl:=SV.beq_eq h1.2.2.2.2
   subst h
   cases (g.den ρ).B<;>exact WeakB.refl _
 ·rename_i ty sz rs ty' sz' rs'
  cases h1:(Nat.beq ty ty'&&Nat.beq sz sz')&&beqLL rs rs'
  ·simp [h1] at h
  ·simp only [h1,cond_true,Option.some.injEq] at h
   simp only [Bool.and_eq_true] at h1
   obtain rfl:=Nat.eq_of_beq_eq_true h1.1.1
   obtain rfl:=Nat.eq_of_beq_eq_true h1.1.2
   obtain rfl:=beqLL_eq h1.2
   subst h
   cases (g.den ρ).B<;>exact WeakB.refl _
 ·cases h
theorem Weak.trans {a b c:AV}(h:Weak a b)(k:Weak b c):Weak a c:=fun w E v hr=>k w E v (h w E v hr)
theorem WeakB.trans {a b c:Blk}(h:WeakB a b)(k:WeakB b c):WeakB a c:=fun base w E x hr=>k base w E x (h base w E x hr)
theorem mrgEnt_ok {g:Tm}{a b c:Ent}(h:mrgEnt g a b=some c):Weak (bif (g.den ρ).B then a.den ρ else b.den ρ) (c.den ρ):=by
 obtain ⟨ah,av⟩:=a
 obtain ⟨bh,bv⟩:=b
 unfold mrgEnt at h
 split at h
 ·rename_i h1 h2
  dsimp only at h1 h2
  subst h1;subst h2
  split at h
  ·rename_i v hv
   simp only [Option.some.injEq] at h;subst h
   exact (mrgV_ok hv).1
  ·cases h
 ·cases h
theorem mrgSt_l {keep:Kp}{g:Tm}{a b c:St'}(h:mrgSt keep g a b=some c)(hg:(g.den ρ).B=true)(hs:StW ρ N a fr ah nx):StW ρ N c fr ah nx:=by
 unfold mrgSt at h
 dsimp only at h
 generalize (mrgBad keep _ _ _ _)=q at h
 cases q
 ·simp only [cond_false,Option.some.injEq] at h;subst h
  refine ⟨fun t e he=>?_,fun b k hk=>?_,hs.len,Nat.le_trans hs.nx (Nat.le_max_left _ _)⟩
  ·obtain ⟨y,z,h1,h2,h3⟩:=Tr.get_mrg he
   obtain ⟨x,hx,hw⟩:=hs.fr t y h1
   have:=mrgEnt_ok (ρ:=ρ) h3
   rw [hg] at this
   exact ⟨x,hx,hw.trans this⟩
  ·obtain ⟨y,z,h1,h2,h3⟩:=Tr.get_mrg hk
   obtain ⟨x,hx,hw⟩:=hs.ah b y h1
   have:=mrgSB_weak (ρ:=ρ) h3
   rw [hg] at this
   exact ⟨x,hx,hw.trans this⟩
 ·cases h
theorem mrgSt_r {keep:Kp}{g:Tm}{a b c:St'}(h:mrgSt keep g a b=some c)(hg:(g.den ρ).B=false)(hs:StW ρ N b fr ah nx):StW ρ N c fr ah nx:=by
 unfold mrgSt at h
 dsimp only at h
 generalize (mrgBad keep _ _ _ _)=q at h
 cases q
 ·simp only [cond_false,Option.some.injEq] at h;subst h
  refine ⟨fun t e he=>?_,fun b k hk=>?_,hs.len,Nat.le_trans hs.nx (Nat.le_max_right _ _)⟩
  ·obtain ⟨y,z,h1,h2,h3⟩:=Tr.get_mrg he
   obtain ⟨x,hx,hw⟩:=hs.fr t z h2
   have:=mrgEnt_ok (ρ:=ρ) h3
   rw [hg] at this
   exact ⟨x,hx,hw.trans this⟩
  ·obtain ⟨y,z,h1,h2,h3⟩:=Tr.get_mrg hk
   obtain ⟨x,hx,hw⟩:=hs.ah b z h2
   have:=mrgSB_weak (ρ:=ρ) h3
   rw [hg] at this
   exact ⟨x,hx,hw.trans this⟩
 ·cases h
def Sel (ρ:List AV)(N:Nat)(outs:List Out):AQ:=fun e fr ah nx=>∃st,sel ρ outs=some (e,st)∧StW ρ N st fr ah nx
def guardN (g:Tm)(l:List Out):List Out:=l.map fun o=>{o with g:=mkAnd g o.g}
def guardA (g:Tm):List Out→List Out
 |[]=>[]
 |[o]=>[{o with g:=g}]
 |o::o'::r=>{o with g:=mkAnd g o.g}::guardA g (o'::r)
theorem guardA_ne {g:Tm}:∀{l:List Out},l≠[]→guardA g l≠[]
 |[],h=>absurd rfl h
 |[o],_=>by simp [guardA]
 |o::o'::r,_=>by simp [guardA]
theorem sel_guardA {g:Tm}:∀{l rest:List Out},rest≠[]→sel ρ (guardA g l++rest)=if (g.den ρ).B=true∧l≠[] then sel ρ l else sel ρ rest
 |[],rest,hr=>by simp [guardA]
 |[o],rest,hr=>by
  obtain ⟨x,r,rfl⟩:=List.exists_cons_of_ne_nil hr
  simp only [guardA,List.cons_append,List.nil_append,sel]
  cases (g.den ρ).B<;>simp
 |o::o'::r,rest,hr=>by
  have ih:=sel_guardA (g:=g) (l:=o'::r) (rest:=rest) hr
  obtain ⟨x,s,hx⟩:=List.exists_cons_of_ne_nil (guardA_ne (g:=g) (l:=o'::r) (by simp))
  simp only [guardA,List.cons_append]
  rw [hx] at ih ⊢
  simp only [List.cons_append,sel,mkAnd_den] at ih ⊢
  rw [ih]
  cases hg:(g.den ρ).B
  ·simp
  ·cases (o.g.den ρ).B<;>simp
def twoWays (t:Tm)(x y:List Out):List Out:=guardA t x++y
theorem sel_two {t:Tm}{x y:List Out}(hx:x≠[])(hy:y≠[]):sel ρ (twoWays t x y)=if (t.den ρ).B=true then sel ρ x else sel ρ y:=by
 unfold twoWays
 rw [sel_guardA hy]
 simp [hx]
def splitLast : List Out→Option (List Out×Out)
 |[]=>none
 |[o]=>some ([],o)
 |o::o'::r=>match splitLast (o'::r) with|some (l,n)=>some (o::l,n)|none=>none
theorem splitLast_eq : ∀{l r:List Out} {n:Out},splitLast l=some (r,n)→l=r++[n]
 |[],r,n,h=>by simp [splitLast] at h
 |[o],r,n,h=>by simp only [splitLast,Option.some.injEq,Prod.mk.injEq] at h;obtain ⟨rfl,rfl⟩:=h;rfl
 |o::o'::s,r,n,h=>by
  simp only [splitLast] at h
  split at h
  ·rename_i l m hl
   simp only [Option.some.injEq,Prod.mk.injEq] at h;obtain ⟨rfl,rfl⟩:=h
   rw [splitLast_eq hl];rfl
  ·cases h
def isN : Exit→Bool | .normal=>true|_=>false
def mrgO (keep:Kp):List Out→List Out
 |[]=>[]
 |o::r=>
  bif isN o.e then
   match splitLast (mrgO keep r) with
   |none=>[o]
   |some (l,n)=>bif isN n.e then
     match mrgSt keep o.g o.st n.st with
     |some m=>guardN (mkNot o.g) l++[{n with st:=m}]
     |none=>o::(l++[n])
    else guardA (mkNot o.g) (l++[n])++[o]
  else o::mrgO keep r
theorem sel_ne {l:List Out}{x:Exit×St'}(h:sel ρ l=some x):l≠[]:=by rintro rfl;cases h
theorem sel_some : ∀{l:List Out},l≠[]→∃x,sel ρ l=some x
 |[],h=>absurd rfl h
 |[o],_=>⟨_,rfl⟩
 |o::o'::r,_=>by
  simp only [sel]
  cases (o.g.den ρ).B
  ·exact sel_some (l:=o'::r) (by simp)
  ·exact ⟨_,rfl⟩
theorem sel_append1 {n m:Out}(he:m.e=n.e):∀{l:List Out} {x:Exit×St'},sel ρ (l++[n])=some x→(sel ρ (l++[m])=some x)∨(x=(n.e,n.st)∧sel ρ (l++[m])=some (m.e,m.st))
 |[],x,h=>by simp only [List.nil_append,sel,Option.some.injEq] at h ⊢;exact .inr ⟨h.symm,trivial⟩
 |[o],x,h=>by
  simp only [List.cons_append,List.nil_append,sel] at h ⊢
  cases hg:(o.g.den ρ).B
  ·rw [hg] at h;simp only [cond_false,Option.some.injEq] at h ⊢;exact .inr ⟨h.symm,trivial⟩
  ·rw [hg] at h;exact .inl h
 |o::o'::r,x,h=>by
  simp only [List.cons_append,sel] at h ⊢
  cases hg:(o.g.den ρ).B
  ·rw [hg] at h;exact sel_append1 he (l:=o'::r) h
  ·rw [hg] at h;exact .inl h
theorem sel_guardN {g:Tm}{m:Out}:∀{l:List Out},sel ρ (guardN g l++[m])=if (g.den ρ).B=true then sel ρ (l++[m]) else some (m.e,m.st)
 |[]=>by simp [guardN,sel]
 |[o]=>by
  simp only [guardN,List.map_cons,List.map_nil,List.cons_append,List.nil_append,sel,mkAnd_den]
  cases (g.den ρ).B<;>simp
 |o::o'::r=>by
  have ih:=sel_guardN (g:=g) (m:=m) (l:=o'::r)
  simp only [guardN,List.map_cons,List.cons_append,sel,mkAnd_den] at ih ⊢
  rw [ih]
  cases (g.den ρ).B<;>simp
theorem isN_eq {e:Exit}(h:isN e=true):e=.normal:=by cases e<;>first|rfl|cases h
theorem mrgO_ok {keep:Kp}:∀{l:List Out} {e:Exit},Sel ρ N l e fr ah nx→Sel ρ N (mrgO keep l) e fr ah nx
 |[],e,h=>h
 |o::r,e,h=>by
  obtain ⟨st,hsel,hst⟩:=h
  unfold mrgO
  -- what it is of the rest
  have rest:r≠[]→((o.g.den ρ).B=true∧e=o.e∧st=o.st)∨((o.g.den ρ).B=false∧Sel ρ N (mrgO keep r) e fr ah nx):=by
   intro hr
   obtain ⟨o',r',rfl⟩:=List.exists_cons_of_ne_nil hr
   simp only [sel] at hsel
   cases hg:(o.g.den ρ).B
   ·rw [hg] at hsel;exact .inr ⟨rfl,mrgO_ok ⟨st,hsel,hst⟩⟩
   ·rw [hg] at hsel;simp only [cond_true,Option.some.injEq,Prod.mk.injEq] at hsel;exact .inl ⟨rfl,hsel.1.symm,hsel.2.symm⟩
  have consOk:∀{l':List Out},l'≠[]→((o.g.den ρ).B=true∧e=o.e∧st=o.st)∨((o.g.den ρ).B=false∧Sel ρ N l' e fr ah nx)→Sel ρ N (o::l') e fr ah nx:=by
   intro l' hl' hc
   obtain ⟨x,s,rfl⟩:=List.exists_cons_of_ne_nil hl'
   rcases hc with ⟨hg,rfl,rfl⟩|⟨hg,st',h1,h2⟩
   ·exact ⟨o.st,by simp [sel,hg],hst⟩
   ·exact ⟨st',by simp [sel,hg,h1],h2⟩
  by_cases hr:r=[]
  ·subst hr
   have e1:mrgO keep []=[]:=rfl
   rw [e1]
   cases hn:isN o.e
   ·exact ⟨st,hsel,hst⟩
   ·simp only [cond_true,splitLast];exact ⟨st,hsel,hst⟩
  ·have hrest:=rest hr
   have hne:mrgO keep r≠[]:=by
    obtain ⟨x,hx⟩:=sel_some (ρ:=ρ) hr
    -- the rest has an outcome at some frame: by form
    intro he
    have:∀l:List Out,l≠[]→mrgO keep l≠[]:=by
     intro l
     induction l with
     |nil=>intro h;exact absurd rfl h
     |cons o r ih=>
      intro _
      unfold mrgO
      cases isN o.e
      ·simp
      ·simp only [cond_true]
       split
       ·simp
       ·rename_i l n _
        cases isN n.e
        ·simp
        ·simp only [cond_true];split<;>simp
    exact this r hr he
   cases hn:isN o.e
   ·simp only [cond_false]
    exact consOk hne hrest
   ·simp only [cond_true]
    split
    ·rename_i hs
     exfalso
     obtain ⟨x,s,hx⟩:=List.exists_cons_of_ne_nil hne
     rw [hx] at hs
     have:∀(s:List Out) (x:Out),splitLast (x::s)≠none:=by
      intro s
      induction s with
      |nil=>intro x;simp [splitLast]
      |cons y s ih=>
       intro x
       simp only [splitLast]
       cases hq:splitLast (y::s) with
       |none=>exact absurd hq (ih y)
       |some v=>simp
     exact this s x hs
    ·rename_i l n hs
     have heq:=splitLast_eq hs
     rw [heq] at hrest
     cases hn2:isN n.e
     ·simp only [cond_false]
      rcases hrest with ⟨hg,rfl,rfl⟩|⟨hg,st',h1,h2⟩
      ·refine ⟨o.st,?_,hst⟩
       rw [sel_guardA (by simp),mkNot_den,hg]
       simp [sel]
      ·refine ⟨st',?_,h2⟩
       rw [sel_guardA (by simp),mkNot_den,hg]
       simp [h1]
     ·simp only [cond_true]
      have e1:=isN_eq hn
      have e2:=isN_eq hn2
      split
      ·rename_i m hm
       rcases hrest with ⟨hg,rfl,rfl⟩|⟨hg,st',h1,h2⟩
       ·refine ⟨m,?_,mrgSt_l hm hg hst⟩
        rw [sel_guardN,mkNot_den,hg]
        simp [e1,e2]
       ·rcases sel_append1 (n:=n) (m:={n with st:=m}) rfl h1 with h3|⟨h3,h4⟩
        ·refine ⟨st',?_,h2⟩
         rw [sel_guardN,mkNot_den,hg]
         simpa using h3
        ·simp only [Prod.mk.injEq] at h3
         obtain ⟨h3,rfl⟩:=h3
         refine ⟨m,?_,mrgSt_r hm hg h2⟩
         rw [sel_guardN,mkNot_den,hg]
         simp only [Bool.not_false,if_true,h4,h3]
      ·exact consOk (by simp) hrest
end
end Go.Fw
end
section
set_option linter.unusedVariables false
set_option linter.unusedSimpArgs false
set_option linter.unusedSectionVars false
namespace Go.Fw
variable [Glob]
set_option linter.unusedSimpArgs false
set_option linter.unusedVariables false
set_option linter.unusedSectionVars false
def Tm.lt (n:Nat):Tm→Bool
 | .lb _ | .li _ | .lf _ | .ls _ | .nl=>true
 | .var i _=>Nat.ble (i+1) n
 | .bin _ _ x y=>x.lt n&&y.lt n
 | .and x y=>x.lt n&&y.lt n
 | .or x y=>x.lt n&&y.lt n
 | .byte x y=>x.lt n&&y.lt n
 | .not x=>x.lt n
 | .neg _ x=>x.lt n
 | .com _ x=>x.lt n
 | .conv _ x=>x.lt n
 | .toF x=>x.lt n
 | .toI x=>x.lt n
 | .slen x=>x.lt n
 | .rlen x=>x.lt n
 | .bts x=>x.lt n
 | .sbs x=>x.lt n
 | .rdrop _ x=>x.lt n
 | .ite c x y=>c.lt n&&(x.lt n&&y.lt n)
 | .ssub c x y=>c.lt n&&(x.lt n&&y.lt n)
def AgreeV (n:Nat)(ρ σ:List AV):Prop:=∀i,i<n→ρ.getD i undefA=σ.getD i undefA
theorem Tm.lt_den {n:Nat}{ρ σ:List AV}(h:AgreeV n ρ σ):∀{t:Tm},t.lt n=true→t.den ρ=t.den σ:=by
 intro t
 induction t with
 |lb|li|lf|ls|nl=>intro _;rfl
 |var i p=>intro hl;simp only [Tm.den];rw [h i (Nat.le_of_ble_eq_true hl)]
 |bin o k x y ihx ihy=>intro hl;simp only [Tm.lt,Bool.and_eq_true] at hl;simp only [Tm.den,ihx hl.1,ihy hl.2]
 |and x y ihx ihy=>intro hl;simp only [Tm.lt,Bool.and_eq_true] at hl;simp only [Tm.den,ihx hl.1,ihy hl.2]
 |or x y ihx ihy=>intro hl;simp only [Tm.lt,Bool.and_eq_true] at hl;simp only [Tm.den,ihx hl.1,ihy hl.2]
 |byte x y ihx ihy=>intro hl;simp only [Tm.lt,Bool.and_eq_true] at hl;simp only [Tm.den,ihx hl.1,ihy hl.2]
 |ite c x y ihc ihx ihy=>intro hl;simp only [Tm.lt,Bool.and_eq_true] at hl;simp only [Tm.den,ihc hl.1,ihx hl.2.1,ihy hl.2.2]
 |ssub c x y ihc ihx ihy=>intro hl;simp only [Tm.lt,Bool.and_eq_true] at hl;simp only [Tm.den,ihc hl.1,ihx hl.2.1,ihy hl.2.2]
 |not x ih=>intro hl;simp only [Tm.den,ih hl]
 |neg k x ih=>intro hl;simp only [Tm.den,ih hl]
 |com k x ih=>intro hl;simp only [Tm.den,ih hl]
 |conv k x ih=>intro hl;simp only [Tm.den,ih hl]
 |toF x ih=>intro hl;simp only [Tm.den,ih hl]
 |toI x ih=>intro hl;simp only [Tm.den,ih hl]
 |slen x ih=>intro hl;simp only [Tm.den,ih hl]
 |rlen x ih=>intro hl;simp only [Tm.den,ih hl]
 |bts x ih=>intro hl;simp only [Tm.den,ih hl]
 |sbs x ih=>intro hl;simp only [Tm.den,ih hl]
 |rdrop k x ih=>intro hl;simp only [Tm.den,ih hl]
 mutual
def SV.lt (n:Nat):SV→Bool
  | .sc _ t=>t.lt n
  | .c _ | .nil | .nan | .mp _=>true
  | .sf t=>t.lt n
  | .agg l=>ltL n l
  | .tup l=>ltL n l
  | .slc r _=>ltLL n r
  | .vp row _=>ltL n row
  | .os _ _ _ t=>t.lt n
  | .op _ _ t _=>t.lt n
  | .fn _ x y=>ltL n x&&ltL n y
  | .ifc _ v=>v.lt n
  | .ost _ _ t u=>t.lt n&&u.lt n
def ltL (n:Nat):List SV→Bool
  |[]=>true
  |x::r=>x.lt n&&ltL n r
def ltLL (n:Nat):List (List SV)→Bool
  |[]=>true
  |x::r=>ltL n x&&ltLL n r
end
section
variable {n : Nat} {ρ σ:List AV} (h:AgreeV n ρ σ)
 include h
 mutual
theorem SV.lt_den : ∀{x:SV},x.lt n=true→x.den ρ=x.den σ
  | .sc k t,hl=>by simp only [SV.den];rw [Tm.lt_den h hl]
  | .c _,_=>rfl
  | .nil,_=>rfl
  | .nan,_=>rfl
  | .mp _,_=>rfl
  | .ost _ _ t u,hl=>by simp only [SV.lt,Bool.and_eq_true] at hl;simp only [SV.den];rw [Tm.lt_den h hl.1,Tm.lt_den h hl.2]
  | .sf t,hl=>by simp only [SV.den];rw [Tm.lt_den h hl]
  | .agg l,hl=>by simp only [SV.den];rw [ltL_den (l:=l) hl]
  | .tup l,hl=>by simp only [SV.den];rw [ltL_den (l:=l) hl]
  | .slc r _,hl=>by simp only [SV.den];rw [ltLL_den (l:=r) hl]
  | .vp row _,hl=>by simp only [SV.den];rw [ltL_den (l:=row) hl]
  | .os _ _ _ t,hl=>by simp only [SV.den];rw [Tm.lt_den h hl]
  | .op _ _ t _,hl=>by simp only [SV.den];rw [Tm.lt_den h hl]
  | .fn _ x y,hl=>by simp only [SV.lt,Bool.and_eq_true] at hl;simp only [SV.den];rw [ltL_den (l:=x) hl.1,ltL_den (l:=y) hl.2]
  | .ifc _ v,hl=>by simp only [SV.den];rw [SV.lt_den (x:=v) hl]
theorem ltL_den : ∀{l:List SV},ltL n l=true→denL ρ l=denL σ l
  |[],_=>rfl
  |x::r,hl=>by simp only [ltL,Bool.and_eq_true] at hl;simp only [denL];rw [SV.lt_den (x:=x) hl.1,ltL_den (l:=r) hl.2]
theorem ltLL_den : ∀{l:List (List SV)},ltLL n l=true→denLL ρ l=denLL σ l
  |[],_=>rfl
  |x::r,hl=>by simp only [ltLL,Bool.and_eq_true] at hl;simp only [denLL];rw [ltL_den (l:=x) hl.1,ltLL_den (l:=r) hl.2]
end
end
def Pc.lt (n:Nat)(pc:Pc):Bool:=pc.all fun x=>x.1.lt n
def Ent.lt (n:Nat)(e:Ent):Bool:=Pc.lt n e.h&&e.v.lt n
theorem Ent.lt_den {n:Nat}{ρ σ:List AV}(h:AgreeV n ρ σ){e:Ent}(hl:e.lt n=true):e.den ρ=e.den σ:=by
 simp only [Ent.lt,Bool.and_eq_true] at hl
 have:(e.h.all fun x=>(x.1.den ρ).B == x.2)=(e.h.all fun x=>(x.1.den σ).B == x.2):=by
  have h1:=hl.1
  unfold Pc.lt at h1
  rw [List.all_eq_true] at h1
  rw [Bool.eq_iff_iff,List.all_eq_true,List.all_eq_true]
  constructor
  ·intro q x hx;rw [← Tm.lt_den h (h1 x hx)];exact q x hx
  ·intro q x hx;rw [Tm.lt_den h (h1 x hx)];exact q x hx
 unfold Ent.den
 rw [this,SV.lt_den h hl.2]
def Pc.old (n:Nat)(pc:Pc):Pc:=pc.filter fun x=>x.1.lt n
theorem Pc.old_holds {n:Nat}{ρ σ:List AV}(h:AgreeV n ρ σ){pc:Pc}(hp:pc.holds ρ):(pc.old n).holds σ:=by
 intro x hx
 unfold Pc.old at hx
 rw [List.mem_filter] at hx
 rw [← Tm.lt_den h hx.2]
 exact hp x hx.1
def SB.lt (n:Nat):SB→Bool
 | .rows _ rs=>ltLL n rs
 | .rowsT _ t=>t.lt n
 | .mapT _ t=>t.lt n
 | .map es=>ltL n (es.map (·.1))&&ltL n (es.map (·.2))
 | .it _ t _=>t.lt n
 | .rowsE _ _ rs=>ltLL n rs
 | .rowsF _ t i _ x=>t.lt n&&(i.lt n&&x.lt n)
theorem SB.lt_den {n:Nat}{ρ σ:List AV}(h:AgreeV n ρ σ){k:SB}(hl:k.lt n=true):k.den ρ=k.den σ:=by
 cases k with
 |rows sz rs=>simp only [SB.den];rw [ltLL_den h hl]
 |rowsT sz t=>simp only [SB.den];rw [Tm.lt_den h hl]
 |mapT m t=>simp only [SB.den];rw [Tm.lt_den h hl]
 |it m t k=>simp only [SB.den];rw [Tm.lt_den h hl]
 |rowsE ty sz rs=>simp only [SB.den];rw [ltLL_den h hl]
 |rowsF sz t i off x=>simp only [SB.lt,Bool.and_eq_true] at hl;simp only [SB.den];rw [Tm.lt_den h hl.1,Tm.lt_den h hl.2.1,SV.lt_den h hl.2.2]
 |map es=>
  simp only [SB.lt,Bool.and_eq_true] at hl
  have h1:=ltL_den h hl.1
  have h2:=ltL_den h hl.2
  rw [denL_map,denL_map] at h1 h2
  simp only [SB.den]
  congr 1
  apply List.map_congr_left
  intro e he
  have a1:e.1.den ρ=e.1.den σ:=by
   have:=List.map_inj_left.1 h1 e.1 (List.mem_map.2 ⟨e,he,rfl⟩);exact this
  have a2:e.2.den ρ=e.2.den σ:=by
   have:=List.map_inj_left.1 h2 e.2 (List.mem_map.2 ⟨e,he,rfl⟩);exact this
  rw [a1,a2]
inductive Pat where
 |sc (k:Kd)
 |agg (ks:List Kd)
 |os (b sz:Nat)
def Pat.sv (j:Nat):Pat→SV
 | .sc k=>.sc k (.var j [])
 | .agg ks=>.agg (cellsV j [] 0 ks)
 | .os b sz=>.os b sz 0 (.rlen (.var j []))
inductive Tb where
 |rows (sz:Nat)
 |map (m:MSh)
instance (n : Nat):OfNat Tb n:=⟨.rows n⟩
def Tb.sb (j:Nat):Tb→SB
 | .rows sz=>.rowsT sz (.var j [])
 | .map m=>.mapT m (.var j [])
structure Ob where
 pre:List Kd
 b:Nat
 sz:Nat
 post:List Kd
def Ob.n (o:Ob):Nat:=o.pre.length+(o.post.length+1)
def Ob.row (j:Nat)(o:Ob):List SV:=cellsV j [] 0 o.pre++.os o.b o.sz 0 (.rlen (.var j [o.pre.length]))::cellsV j [] (o.pre.length+1) o.post
structure Pats where
 fr:List (Nat×Pat)
 bl:List (Nat×List Kd)
 tb:List (Nat×Tb)
 nx:Nat
 ob:List (Nat×Ob)
def Pats.m (p:Pats):Nat:=p.fr.length+(p.bl.length+(p.tb.length+p.ob.length))
def tmFr : Nat→List (Nat×Pat)→Tr Ent→Tr Ent
 |_,[],tr=>tr
 |j,(t,p)::r,tr=>(tmFr (j+1) r tr).upd fuelT t (some ⟨[],p.sv j⟩)
def tmOs : Nat→List (Nat×Pat)→Tr SB→Tr SB
 |_,[],th=>th
 |j,(_,.os b sz)::r,th=>(tmOs (j+1) r th).upd fuelT b (some (.rowsT sz (.var j [])))
 |j,_::r,th=>tmOs (j+1) r th
def tmBl : Nat→List (Nat×List Kd)→Tr SB→Tr SB
 |_,[],th=>th
 |j,(b,ks)::r,th=>(tmBl (j+1) r th).upd fuelT b (some (.rows ks.length [cellsV j [] 0 ks]))
def tmTb : Nat→List (Nat×Tb)→Tr SB→Tr SB
 |_,[],th=>th
 |j,(b,sz)::r,th=>(tmTb (j+1) r th).upd fuelT b (some (sz.sb j))
def tmOb : Nat→List (Nat×Ob)→Tr SB→Tr SB
 |_,[],th=>th
 |j,(b,o)::r,th=>((tmOb (j+1) r th).upd fuelT o.b (some (.rowsT o.sz (.var j [o.pre.length])))).upd fuelT b (some (.rows o.n [o.row j]))
def tmpl (p:Pats)(j:Nat)(c:St'):St':=
 ⟨tmFr j p.fr c.fr,tmOs j p.fr (tmBl (j+p.fr.length) p.bl (tmTb (j+(p.fr.length+p.bl.length)) p.tb (tmOb (j+(p.fr.length+(p.bl.length+p.tb.length))) p.ob c.ah))),p.nx⟩
theorem get_tmFr : ∀{l:List (Nat×Pat)} {j:Nat} {tr:Tr Ent} {t:Nat} {e:Ent},(tmFr j l tr).get t=some e→(∃(i:Nat) (p:Pat),l[i]?=some (t,p)∧e=⟨[],p.sv (j+i)⟩)∨((∀p,(t,p)∉l)∧tr.get t=some e)
 |[],j,tr,t,e,h=>.inr ⟨by simp,h⟩
 |(s,p)::r,j,tr,t,e,h=>by
  simp only [tmFr] at h
  rcases Tr.get_upd _ _ _ _ _ _ h with ⟨rfl,h1⟩|⟨hne,h1⟩
  ·simp only [Option.some.injEq] at h1;exact .inl ⟨0,p,rfl,by simpa using h1.symm⟩
  ·rcases get_tmFr h1 with ⟨i,q,h2,h3⟩|⟨h2,h3⟩
   ·exact .inl ⟨i+1,q,by simpa using h2,by rw [h3];congr 2;omega⟩
   ·refine .inr ⟨fun q hq=>?_,h3⟩
    cases hq with
    |head=>exact hne rfl
    |tail _ hq=>exact h2 q hq
theorem get_tmOs : ∀{l:List (Nat×Pat)} {j:Nat} {th:Tr SB} {b:Nat} {k:SB},(tmOs j l th).get b=some k→(∃(i t sz:Nat),l[i]?=some (t,.os b sz)∧k=.rowsT sz (.var (j+i) []))∨((∀t sz,(t,.os b sz)∉l)∧th.get b=some k)
 |[],j,th,b,k,h=>.inr ⟨by simp,h⟩
 |(s,.os b' sz)::r,j,th,b,k,h=>by
  simp only [tmOs] at h
  rcases Tr.get_upd _ _ _ _ _ _ h with ⟨rfl,h1⟩|⟨hne,h1⟩
  ·simp only [Option.some.injEq] at h1;exact .inl ⟨0,s,sz,rfl,by simpa using h1.symm⟩
  ·rcases get_tmOs h1 with ⟨i,t,sz',h2,h3⟩|⟨h2,h3⟩
   ·exact .inl ⟨i+1,t,sz',by simpa using h2,by rw [h3];congr 2;omega⟩
   ·refine .inr ⟨fun t sz' hq=>?_,h3⟩
    cases hq with
    |head=>exact hne rfl
    |tail _ hq=>exact h2 _ _ hq
 |(s,.sc kd)::r,j,th,b,k,h=>by
  simp only [tmOs] at h
  rcases get_tmOs h with ⟨i,t,sz',h2,h3⟩|⟨h2,h3⟩
  ·exact .inl ⟨i+1,t,sz',by simpa using h2,by rw [h3];congr 2;omega⟩
  ·exact .inr ⟨fun t sz' hq=>by cases hq with|tail _ hq=>exact h2 _ _ hq,h3⟩
 |(s,.agg kd)::r,j,th,b,k,h=>by
  simp only [tmOs] at h
  rcases get_tmOs h with ⟨i,t,sz',h2,h3⟩|⟨h2,h3⟩
  ·exact .inl ⟨i+1,t,sz',by simpa using h2,by rw [h3];congr 2;omega⟩
  ·exact .inr ⟨fun t sz' hq=>by cases hq with|tail _ hq=>exact h2 _ _ hq,h3⟩
theorem get_tmBl : ∀{l:List (Nat×List Kd)} {j:Nat} {th:Tr SB} {b:Nat} {k:SB},(tmBl j l th).get b=some k→(∃(i:Nat) (ks:List Kd),l[i]?=some (b,ks)∧k=.rows ks.length [cellsV (j+i) [] 0 ks])∨((∀ks,(b,ks)∉l)∧th.get b=some k)
 |[],j,th,b,k,h=>.inr ⟨by simp,h⟩
 |(b',ks)::r,j,th,b,k,h=>by
  simp only [tmBl] at h
  rcases Tr.get_upd _ _ _ _ _ _ h with ⟨rfl,h1⟩|⟨hne,h1⟩
  ·simp only [Option.some.injEq] at h1;exact .inl ⟨0,ks,rfl,by simpa using h1.symm⟩
  ·rcases get_tmBl h1 with ⟨i,q,h2,h3⟩|⟨h2,h3⟩
   ·exact .inl ⟨i+1,q,by simpa using h2,by rw [h3,Nat.add_assoc,Nat.add_comm 1 i]⟩
   ·refine .inr ⟨fun q hq=>?_,h3⟩
    cases hq with
    |head=>exact hne rfl
    |tail _ hq=>exact h2 q hq
theorem get_tmTb : ∀{l:List (Nat×Tb)} {j:Nat} {th:Tr SB} {b:Nat} {k:SB},(tmTb j l th).get b=some k→(∃(i:Nat) (sz:Tb),l[i]?=some (b,sz)∧k=sz.sb (j+i))∨((∀sz,(b,sz)∉l)∧th.get b=some k)
 |[],j,th,b,k,h=>.inr ⟨by simp,h⟩
 |(b',sz)::r,j,th,b,k,h=>by
  simp only [tmTb] at h
  rcases Tr.get_upd _ _ _ _ _ _ h with ⟨rfl,h1⟩|⟨hne,h1⟩
  ·simp only [Option.some.injEq] at h1;exact .inl ⟨0,sz,rfl,by simpa using h1.symm⟩
  ·rcases get_tmTb h1 with ⟨i,q,h2,h3⟩|⟨h2,h3⟩
   ·exact .inl ⟨i+1,q,by simpa using h2,by rw [h3];rw [Nat.add_assoc,Nat.add_comm 1 i]⟩
   ·refine .inr ⟨fun q hq=>?_,h3⟩
    cases hq with
    |head=>exact hne rfl
    |tail _ hq=>exact h2 q hq
theorem get_tmOb : ∀{l:List (Nat×Ob)} {j:Nat} {th:Tr SB} {b:Nat} {k:SB},(tmOb j l th).get b=some k→(∃(i:Nat) (o:Ob),l[i]?=some (b,o)∧k=.rows o.n [o.row (j+i)])∨
  (∃(i a:Nat) (o:Ob),l[i]?=some (a,o)∧b=o.b∧k=.rowsT o.sz (.var (j+i) [o.pre.length]))∨((∀o,(b,o)∉l)∧th.get b=some k)
 |[],j,th,b,k,h=>.inr (.inr ⟨by simp,h⟩)
 |(b',o)::r,j,th,b,k,h=>by
  simp only [tmOb] at h
  rcases Tr.get_upd _ _ _ _ _ _ h with ⟨rfl,h1⟩|⟨hne,h1⟩
  ·simp only [Option.some.injEq] at h1;exact .inl ⟨0,o,rfl,h1.symm⟩
  ·rcases Tr.get_upd _ _ _ _ _ _ h1 with ⟨rfl,h2⟩|⟨hne2,h2⟩
   ·simp only [Option.some.injEq] at h2;exact .inr (.inl ⟨0,b',o,rfl,rfl,h2.symm⟩)
   ·rcases get_tmOb h2 with ⟨i,q,h3,h4⟩|⟨i,a,q,h3,h4,h5⟩|⟨h3,h4⟩
    ·exact .inl ⟨i+1,q,by simpa using h3,by rw [h4,Nat.add_assoc,Nat.add_comm 1 i]⟩
    ·exact .inr (.inl ⟨i+1,a,q,by simpa using h3,h4,by rw [h5,Nat.add_assoc,Nat.add_comm 1 i]⟩)
    ·refine .inr (.inr ⟨fun q hq=>?_,h4⟩)
     cases hq with
     |head=>exact hne rfl
     |tail _ hq=>exact h3 q hq
def kdOk (k:Kd):SV→Bool
 | .sc k' _=>decide (k=k')
 | .nil=>decide (k=.sl)
 | .sf _=>decide (k=.sl)
 | .slc r _=>decide (k=.sl)
 |_=>false
def kdsOk : List Kd→List SV→Bool
 |[],[]=>true
 |k::r,x::s=>kdOk k x&&kdsOk r s
 |_,_=>false
inductive Src where
 |no
 |empty
 |at (b k:Nat)
def rowsOf' (sz:Nat):SB→Option SV
 | .rowsT sz' t=>bif Nat.beq sz sz' then some (.sc .sl t) else none
 | .rows sz' rs=>bif Nat.beq sz sz' then some (.slc (nrmLL rs) false) else none
 |_=>none
def lenOf : SB→Tm→Bool
 | .rowsT _ t,l=>l.beq (.rlen t)
 | .rows _ rs,l=>match natT l with|some n=>Nat.beq n rs.length|none=>false
 |_,_=>false
def lenW : SB→Tm→Bool
 | .rowsT _ _,_=>true
 | .rows _ rs,l=>match natT l with|some n=>Nat.beq n rs.length|none=>false
 |_,_=>false
def lenSd : SB→Tm→List Side
 | .rowsT _ t,l=>lenS l t
 |_,_=>[]
def offW (k:SB)(off:Nat)(l:Tm):Bool:=bif Nat.beq off 0 then lenW k l else match k with
 | .rowsT _ t=>l.beq (.bin .sub (.int .i64) (.rlen t) (.li (.ofNat off)))
 | .rows _ rs=>(match natT l with|some n=>Nat.beq (n+off) rs.length|none=>false)
 |_=>false
def offSd (k:SB)(off:Nat)(l:Tm):List Side:=bif Nat.beq off 0 then lenSd k l else match k with
 | .rowsT _ t=>[.tm (.bin .leq (.int .i64) (.li (.ofNat off)) (.rlen t)),.tm (.bin .leq (.int .i64) (.rlen t) (.li 4294967296))]
 |_=>[]
def rowsOff (sz:Nat)(k:SB)(off:Nat):Option SV:=bif Nat.beq off 0 then rowsOf' sz k else match k with
 | .rowsT sz' t=>bif Nat.beq sz sz' then some (.sc .sl (.rdrop off t)) else none
 | .rows sz' rs=>bif Nat.beq sz sz' then some (.slc (nrmLL (rs.drop off)) false) else none
 |_=>none
def fitV (th:Tr SB)(v:SV):Pat→Option (SV×Src)
 | .sc k=>bif kdOk k v then some (v.nrm,.no) else none
 | .agg ks=>match v with | .agg l=>bif kdsOk ks l then some (.agg (nrmL l),.no) else none|_=>none
 | .os _ sz=>match v with
  | .nil=>some (.sc .sl .nl,.empty)
  | .os b' sz' off l=>match th.get b' with
   |some k=>bif Nat.beq sz sz'&&offW k off l then (match rowsOff sz k off with|some r=>some (r,.at b' (off*sz))|none=>none) else none
   |none=>none
  |_=>none
def fitFr (pc:Pc)(sta:St'):List (Nat×Pat)→Option (List (SV×Src))
 |[]=>some []
 |(t,p)::r=>match sta.fr.get t with
  |none=>none
  |some e=>bif e.sure pc then (match fitV sta.ah e.v p,fitFr pc sta r with|some x,some l=>some (x::l)|_,_=>none) else none
def fitSd (sta:St'):List (Nat×Pat)→List Side
 |[]=>[]
 |(t,.os _ _)::r=>(match sta.fr.get t with
  |some e=>match e.v with
   | .os b' _ off l=>match sta.ah.get b' with
    |some k=>offSd k off l
    |none=>[]
   |_=>[]
  |none=>[])++fitSd sta r
 |_::r=>fitSd sta r
def fitBl (sta:St'):List (Nat×List Kd)→Option (List SV)
 |[]=>some []
 |(b,ks)::r=>match sta.ah.get b with
  |some (.rows sz [row])=>bif Nat.beq sz ks.length&&kdsOk ks row then (match fitBl sta r with|some l=>some (.agg (nrmL row)::l)|none=>none) else none
  |_=>none
def sc1 : SV→Bool
 | .sc .sl _=>false
 | .sc _ _=>true
 |_=>false
def packOk (a:Bool)(n:Nat)(v:SV):Bool:=match a,v with
 |true,.agg l=>Nat.beq l.length n&&l.all sc1
 |false,v=>Nat.beq n 1&&sc1 v
 |_,_=>false
def mapOf' (m:MSh):SB→Option SV
 | .mapT m' t=>bif decide (m=m') then some (.sc .sl t) else none
 | .map es=>bif es.all fun e=>packOk m.ka m.kn e.1&&packOk m.va m.vn e.2 then some (.slc (es.map fun e=>e.1.cells++e.2.cells) false) else none
 |_=>none
def Tb.of : Tb→SB→Option SV
 | .rows sz,k=>rowsOf' sz k
 | .map m,k=>mapOf' m k
def fitTb (sta:St'):List (Nat×Tb)→Option (List SV)
 |[]=>some []
 |(b,sz)::r=>match sta.ah.get b with
  |some k=>match sz.of k,fitTb sta r with|some x,some l=>some (x::l)|_,_=>none
  |none=>none
def fitO (th:Tr SB)(o:Ob)(row:List SV):Option (SV×Src):=
 match row.drop o.pre.length with
 |v::q=>bif kdsOk o.pre (row.take o.pre.length)&&kdsOk o.post q then (match fitV th v (.os o.b o.sz) with|some x=>some (.agg (nrmL (row.take o.pre.length)++x.1::nrmL q),x.2)|none=>none) else none
 |[]=>none
def fitOb (sta:St'):List (Nat×Ob)→Option (List (SV×Src))
 |[]=>some []
 |(b,o)::r=>match sta.ah.get b with
  |some (.rows sz [row])=>bif Nat.beq sz o.n then (match fitO sta.ah o row,fitOb sta r with|some x,some l=>some (x::l)|_,_=>none) else none
  |_=>none
def obV (sta:St')(b:Nat)(o:Ob):Option SV:=match sta.ah.get b with
 |some (.rows _ [row])=>(row.drop o.pre.length).head?
 |_=>none
def obSd (sta:St'):List (Nat×Ob)→List Side
 |[]=>[]
 |(b,o)::r=>(match obV sta b o with
  |some (.os b' _ off l)=>(match sta.ah.get b' with|some k=>offSd k off l|none=>[])
  |_=>[])++obSd sta r
def fitSdP (sta:St')(p:Pats):List Side:=fitSd sta p.fr++obSd sta p.ob
def obDrop (sta:St'):List (Nat×Ob)→List Nat
 |[]=>[]
 |(b,o)::r=>(match obV sta b o with
  |some (.os b' _ _ _)=>[b']
  |_=>[])++obDrop sta r
end Go.Fw
end
section
set_option linter.unusedVariables false
set_option linter.unusedSimpArgs false
set_option linter.unusedSectionVars false
namespace Go.Fw
variable [Glob]
set_option linter.unusedSimpArgs false
set_option linter.unusedVariables false
set_option linter.unusedSectionVars false
def pcBeq : Pc→Pc→Bool
 |[],[]=>true
 |x::r,y::s=>x.1.beq y.1&&(x.2 == y.2&&pcBeq r s)
 |_,_=>false
theorem pcBeq_eq : ∀{x y:Pc},pcBeq x y=true→x=y
 |[],[],_=>rfl
 |(a,b)::r,(c,d)::s,h=>by
  simp only [pcBeq,Bool.and_eq_true,beq_iff_eq] at h
  rw [Tm.beq_eq h.1,h.2.1,pcBeq_eq h.2.2]
def Ent.beq (x y:Ent):Bool:=pcBeq x.h y.h&&x.v.beq y.v
theorem Ent.beq_eq {x y:Ent}(h:x.beq y=true):x=y:=by
 simp only [Ent.beq,Bool.and_eq_true] at h
 cases x;cases y
 simp only at h
 rw [pcBeq_eq h.1,SV.beq_eq h.2]
def SB.beq : SB→SB→Bool
 | .rows a r,.rows b s=>Nat.beq a b&&beqLL r s
 | .rowsT a r,.rowsT b s=>Nat.beq a b&&r.beq s
 | .rowsF a r i o x,.rowsF b s j p y=>Nat.beq a b&&(r.beq s&&(i.beq j&&(Nat.beq o p&&x.beq y)))
 |_,_=>false
theorem SB.beq_eq {x y:SB}(h:x.beq y=true):x=y:=by
 unfold SB.beq at h
 split at h
 ·simp only [Bool.and_eq_true] at h
  rw [Nat.eq_of_beq_eq_true h.1,beqLL_eq h.2]
 ·simp only [Bool.and_eq_true] at h
  rw [Nat.eq_of_beq_eq_true h.1,Tm.beq_eq h.2]
 ·simp only [Bool.and_eq_true] at h
  rw [Nat.eq_of_beq_eq_true h.1,Tm.beq_eq h.2.1,Tm.beq_eq h.2.2.1,Nat.eq_of_beq_eq_true h.2.2.2.1,SV.beq_eq h.2.2.2.2]
 ·cases h
def below (n:Nat)(l:List Nat):Bool:=l.all fun b=>Nat.ble (b+1) n
theorem below_lt {n:Nat}{l:List Nat}(h:below n l=true):∀b∈l,b<n:=fun b hb=>by
 unfold below at h
 rw [List.all_eq_true] at h
 exact Nat.le_of_ble_eq_true (h b hb)
def fitC (base nE:Nat)(ins:List Nat)(p:Pats)(c sta:St'):Bool:=
 (ins.all fun t=>(p.fr.any fun x=>Nat.beq x.1 t)||match c.fr.get t with
  |none=>true
  |some e=>e.lt base&&(below nE e.v.rfs&&match sta.fr.get t with|some e'=>e'.beq e|none=>false))&&
 ((List.range nE).all fun b=>((p.bl.any fun x=>Nat.beq x.1 b)||((p.tb.any fun x=>Nat.beq x.1 b)||(p.ob.any fun x=>Nat.beq x.1 b)))||match c.ah.get b with
  |none=>true
  |some k=>k.lt base&&(below nE k.rfs&&match sta.ah.get b with|some k'=>k'.beq k|none=>false))
def srcsOf : List (Nat×Pat)→List (SV×Src)→List (Nat×Src)
 |(_,.os b _)::r,(_,s)::l=>(b,s)::srcsOf r l
 |_::r,_::l=>srcsOf r l
 |_,_=>[]
def srcsOb : List (Nat×Ob)→List (SV×Src)→List (Nat×Src)
 |(_,o)::r,(_,s)::l=>(o.b,s)::srcsOb r l
 |_,_=>[]
def srcOk (nE nx:Nat)(p:Pats)(c:St'):List (Nat×Src)→Bool
 |[]=>true
 |(b,s)::r=>Nat.ble nE b&&(Nat.ble (b+1) nx&&((r.all fun x=>!Nat.beq x.1 b)&&(srcOk nE nx p c r&&
  match s with
  | .no=>false
  | .empty=>true
  | .at b' _=>(r.all fun x=>match x.2 with | .at b2 _=>!Nat.beq b2 b' | _=>true)&&
   (Nat.ble nE b'||(!(p.bl.any fun x=>Nat.beq x.1 b')&&(!(p.tb.any fun x=>Nat.beq x.1 b')&&(!(p.ob.any fun x=>Nat.beq x.1 b')&&(c.ah.get b').isNone)))))))
def noRefs : List SV→Bool
 |[]=>true
 |x::r=>(match x.rfs with | []=>true|_=>false)&&noRefs r
def fitS (pc:Pc)(base nE:Nat)(ins:List Nat)(p:Pats)(c sta:St'):Option (List SV):=
 match fitFr pc sta p.fr,fitBl sta p.bl,fitTb sta p.tb,fitOb sta p.ob with
 |some f,some b,some t,some o=>
  let vals:=f.map (·.1)++(b++(t++o.map (·.1)))
  bif fitC base nE ins p c sta&&(srcOk nE p.nx p c (srcsOf p.fr f++srcsOb p.ob o)&&(noRefs vals&&(Nat.ble nE p.nx&&(below nE (p.bl.map (·.1))&&(below nE (p.tb.map (·.1))&&below nE (p.ob.map (·.1))))))) then some vals else none
 |_,_,_,_=>none
theorem nrm_kd {ρ:List AV}{k:Kd}{v:SV}(h:kdOk k v=true):k.av ((v.nrm.den ρ).D)=v.nrm.den ρ:=by
 cases v with
 |sc k' t=>simp only [kdOk,decide_eq_true_eq] at h;subst h;cases k<;>rfl
 |nil=>simp only [kdOk,decide_eq_true_eq] at h;subst h;rfl
 |sf t=>simp only [kdOk,decide_eq_true_eq] at h;subst h;rfl
 |slc r f=>simp only [kdOk,decide_eq_true_eq] at h;subst h;rfl
 |_=>simp [kdOk] at h
theorem cells_kd {ρ σ:List AV}{j:Nat}:∀{ks:List Kd} {l:List SV} {pre:List AV},kdsOk ks l=true→σ.getD j undefA=.agg (pre++denL ρ (nrmL l))→denL σ (cellsV j [] pre.length ks)=denL ρ (nrmL l)
 |[],[],pre,_,_=>rfl
 |k::r,x::s,pre,h,hj=>by
  simp only [kdsOk,Bool.and_eq_true] at h
  simp only [cellsV,denL,nrmL]
  have e1:SV.den σ (.sc k (.var j ([]++[pre.length])))=x.nrm.den ρ:=by
   simp only [SV.den,Tm.den,hj]
   have:cellAt (.agg (pre++denL ρ (nrmL (x::s)))) ([]++[pre.length])=x.nrm.den ρ:=by
    simp [cellAt,nrmL,denL,List.getD_eq_getElem?_getD]
   rw [this]
   exact nrm_kd h.1
  have e2:=cells_kd (σ:=σ) (ρ:=ρ) (j:=j) (pre:=pre++[x.nrm.den ρ]) h.2 (by rw [hj];simp [nrmL,denL])
  rw [e1]
  simp only [List.length_append,Nat.zero_add,List.length_cons,List.length_nil] at e2
  rw [e2]
 |[],_::_,pre,h,_=>by simp [kdsOk] at h
 |_::_,[],pre,h,_=>by simp [kdsOk] at h
theorem cells_kd' {ρ σ:List AV}{j:Nat}{suf:List AV}:∀{ks:List Kd} {l:List SV} {pre:List AV},kdsOk ks l=true→σ.getD j undefA=.agg (pre++(denL ρ (nrmL l)++suf))→denL σ (cellsV j [] pre.length ks)=denL ρ (nrmL l)
 |[],[],pre,_,_=>rfl
 |k::r,x::s,pre,h,hj=>by
  simp only [kdsOk,Bool.and_eq_true] at h
  simp only [cellsV,denL,nrmL]
  have e1:SV.den σ (.sc k (.var j ([]++[pre.length])))=x.nrm.den ρ:=by
   simp only [SV.den,Tm.den,hj]
   have:cellAt (.agg (pre++(denL ρ (nrmL (x::s))++suf))) ([]++[pre.length])=x.nrm.den ρ:=by
    simp [cellAt,nrmL,denL,List.getD_eq_getElem?_getD]
   rw [this]
   exact nrm_kd h.1
  have e2:=cells_kd' (σ:=σ) (ρ:=ρ) (j:=j) (suf:=suf) (pre:=pre++[x.nrm.den ρ]) h.2 (by rw [hj];simp [nrmL,denL])
  rw [e1]
  simp only [List.length_append,Nat.zero_add,List.length_cons,List.length_nil] at e2
  rw [e2]
 |[],_::_,pre,h,_=>by simp [kdsOk] at h
 |_::_,[],pre,h,_=>by simp [kdsOk] at h
theorem kdsOk_len : ∀{ks:List Kd} {l:List SV},kdsOk ks l=true→l.length=ks.length
 |[],[],_=>rfl
 |k::r,x::s,h=>by simp only [kdsOk,Bool.and_eq_true] at h;simp [kdsOk_len h.2]
 |[],_::_,h=>by simp [kdsOk] at h
 |_::_,[],h=>by simp [kdsOk] at h
theorem nrmL_length : ∀{l:List SV},(nrmL l).length=l.length
 |[]=>rfl
 |x::r=>by simp [nrmL,nrmL_length (l:=r)]
theorem fitV_no {ρ σ:List AV}{th:Tr SB}{v x:SV}{p:Pat}{s:Src}{j:Nat}(h:fitV th v p=some (x,s))(hp:∀b sz,p≠.os b sz)(hj:σ.getD j undefA=x.den ρ):Weak (v.den ρ) ((p.sv j).den σ)∧(p.sv j).den σ=x.den ρ:=by
 cases p with
 |os b sz=>exact absurd rfl (hp b sz)
 |sc k=>
  simp only [fitV] at h
  cases hk:kdOk k v
  ·simp [hk] at h
  ·simp only [hk,cond_true,Option.some.injEq,Prod.mk.injEq] at h
   obtain ⟨rfl,rfl⟩:=h
   have e:(Pat.sv j (.sc k)).den σ=v.nrm.den ρ:=by
    simp only [Pat.sv,SV.den,Tm.den,cellAt,hj]
    exact nrm_kd hk
   exact ⟨by rw [e];exact nrm_weak,e⟩
 |agg ks=>
  simp only [fitV] at h
  split at h
  ·rename_i l
   cases hk:kdsOk ks l
   ·simp [hk] at h
   ·simp only [hk,cond_true,Option.some.injEq,Prod.mk.injEq] at h
    obtain ⟨rfl,rfl⟩:=h
    have e:(Pat.sv j (.agg ks)).den σ=(SV.agg (nrmL l)).den ρ:=by
     simp only [Pat.sv,SV.den]
     have:=cells_kd (σ:=σ) (ρ:=ρ) (j:=j) (pre:=[]) hk (by rw [hj];rfl)
     simp only [List.length_nil] at this
     rw [this]
    refine ⟨?_,e⟩
    rw [e]
    exact nrm_weak (x:=.agg l)
  ·cases h
theorem rowsOf'_den {ρ:List AV}{sz:Nat}{k:SB}{r:SV}(h:rowsOf' sz k=some r):∃rs R,k.den ρ=.rows sz rs∧r.den ρ=.sl R false∧WeakLL rs R∧rs.length=R.length:=by
 cases k with
 |rowsT sz' t=>
  simp only [rowsOf'] at h
  cases hc:Nat.beq sz sz'
  ·simp [hc] at h
  ·simp only [hc,cond_true,Option.some.injEq] at h;subst h
   have:=Nat.eq_of_beq_eq_true hc;subst this
   exact ⟨_,_,rfl,rfl,WeakLL.refl _,rfl⟩
 |rows sz' rs=>
  simp only [rowsOf'] at h
  cases hc:Nat.beq sz sz'
  ·simp [hc] at h
  ·simp only [hc,cond_true,Option.some.injEq] at h;subst h
   have:=Nat.eq_of_beq_eq_true hc;subst this
   exact ⟨_,_,rfl,rfl,nrmLL_weak,(nrmLL_weak (ρ:=ρ)).length⟩
 |map es=>simp [rowsOf'] at h
 |mapT m t=>simp [rowsOf'] at h
 |it m n k=>simp [rowsOf'] at h
 |rowsE ty sz rs=>simp [rowsOf'] at h
 |rowsF sz t i off x=>simp [rowsOf'] at h
theorem sc1_kd {v:SV}(h:sc1 v=true):∃k t,v=.sc k t∧k≠.sl:=by
 cases v with
 |sc k t=>refine ⟨k,t,rfl,fun e=>?_⟩;subst e;simp [sc1] at h
 |_=>simp [sc1] at h
theorem sc1_refs {ρ:List AV}{v:SV}(h:sc1 v=true):(v.den ρ).refs=[]:=by
 obtain ⟨k,t,rfl,hk⟩:=sc1_kd h
 cases k<;>first|rfl|exact absurd rfl hk
theorem packOk_den {ρ:List AV}{a:Bool}{n:Nat}{v:SV}(h:packOk a n v=true):v.cells.length=n∧packA a (denL ρ v.cells)=v.den ρ∧(v.den ρ).refs=[]:=by
 unfold packOk at h
 split at h
 ·rename_i l
  simp only [Bool.and_eq_true] at h
  refine ⟨Nat.eq_of_beq_eq_true h.1,rfl,?_⟩
  have h2:=List.all_eq_true.1 h.2
  simp only [SV.den,AV.refs]
  clear h
  induction l with
  |nil=>rfl
  |cons x r ih=>simp only [denL,refsL,sc1_refs (h2 x (by simp)),ih (fun y hy=>h2 y (by simp [hy])),List.append_nil]
 ·simp only [Bool.and_eq_true] at h
  have e:=Nat.eq_of_beq_eq_true h.1
  obtain ⟨k,t,rfl,hk⟩:=sc1_kd h.2
  exact ⟨e.symm,rfl,sc1_refs h.2⟩
 ·cases h
theorem mapOf'_den {ρ:List AV}{m:MSh}{k:SB}{r:SV}(h:mapOf' m k=some r):∃es R,k.den ρ=.map es∧r.den ρ=.sl R false∧R.map (entOf m)=es:=by
 cases k with
 |mapT m' t=>
  simp only [mapOf'] at h
  cases hc:decide (m=m')
  ·simp [hc] at h
  ·simp only [hc,cond_true,Option.some.injEq] at h;subst h
   have:=of_decide_eq_true hc;subst this
   exact ⟨_,_,rfl,rfl,rfl⟩
 |map es=>
  simp only [mapOf'] at h
  cases hc:(es.all fun e=>packOk m.ka m.kn e.1&&packOk m.va m.vn e.2)
  ·simp [hc] at h
  ·simp only [hc,cond_true,Option.some.injEq] at h;subst h
   refine ⟨_,_,rfl,rfl,?_⟩
   rw [denLL_map,List.map_map,List.map_map]
   apply List.map_congr_left
   intro e he
   have:=List.all_eq_true.1 hc e he
   simp only [Bool.and_eq_true] at this
   obtain ⟨a1,a2,-⟩:=packOk_den (ρ:=ρ) this.1
   obtain ⟨b1,b2,-⟩:=packOk_den (ρ:=ρ) this.2
   simp only [Function.comp,entOf,denL_append]
   have hl:(denL ρ e.1.cells).length=m.kn:=by rw [denL_length,a1]
   rw [show (denL ρ e.1.cells++denL ρ e.2.cells).take m.kn=denL ρ e.1.cells by rw [← hl];simp,show (denL ρ e.1.cells++denL ρ e.2.cells).drop m.kn=denL ρ e.2.cells by rw [← hl];simp,a2,b2]
 |rows sz rs=>simp [mapOf'] at h
 |rowsT sz t=>simp [mapOf'] at h
 |it m n k=>simp [mapOf'] at h
 |rowsE ty sz rs=>simp [mapOf'] at h
 |rowsF sz t i off x=>simp [mapOf'] at h
theorem lenW_den {P:Program}{ρ:List AV}{k:SB}{l:Tm}{sz:Nat}{rs:List (List AV)}(h:lenW k l=true)(hs:∀s∈lenSd k l,s.holds P ρ)(hk:k.den ρ=.rows sz rs):(l.den ρ).I.toNat=rs.length:=by
 cases k with
 |rowsT sz' t=>
  simp only [SB.den,Blk.rows.injEq] at hk
  rw [lenS_ok hs,← hk.2]
 |rows sz' rs'=>
  simp only [SB.den,Blk.rows.injEq] at hk
  simp only [lenW] at h
  split at h
  ·rename_i n hn
   rw [(natT_den hn).2,Nat.eq_of_beq_eq_true h,← hk.2,denLL_map];simp
  ·cases h
 |map es=>simp [lenW] at h
 |mapT m t=>simp [lenW] at h
 |it m n k=>simp [lenW] at h
 |rowsE ty sz rs=>simp [lenW] at h
 |rowsF sz t i off x=>simp [lenW] at h
theorem offW_den {P:Program}{ρ:List AV}{k:SB}{off:Nat}{l:Tm}{sz:Nat}{rs:List (List AV)}(h:offW k off l=true)(hs:∀s∈offSd k off l,s.holds P ρ)(hk:k.den ρ=.rows sz rs):off≤rs.length∧(l.den ρ).I.toNat=rs.length-off:=by
 unfold offW at h
 unfold offSd at hs
 cases h0:Nat.beq off 0
 ·simp only [h0,cond_false] at h hs
  cases k with
  |rowsT sz' t=>
   simp only [SB.den,Blk.rows.injEq] at hk
   have e:=Tm.beq_eq h
   have h1:=hs _ (by simp:Side.tm (.bin .leq (.int .i64) (.li (.ofNat off)) (.rlen t))∈_)
   have h2:=hs _ (by simp:Side.tm (.bin .leq (.int .i64) (.rlen t) (.li 4294967296))∈_)
   have h1':(off:Int)≤rs.length:=by
    have:=of_decide_eq_true (show decide ((off:Int)≤lLen (t.den ρ).R)=true from h1)
    rw [hk.2] at this;exact this
   have h2':(rs.length:Int)≤4294967296:=by
    have:=of_decide_eq_true (show decide (lLen (t.den ρ).R≤(4294967296:Int))=true from h2)
    rw [hk.2] at this;exact this
   refine ⟨by omega,?_⟩
   rw [e]
   simp only [Tm.den,binD,D.I,lLen,hk.2]
   show (iSub .i64 (rs.length:Int) (off:Int)).toNat=_
   rw [iSubC (by omega) (by omega)]
   omega
  |rows sz' rs'=>
   simp only [SB.den,Blk.rows.injEq] at hk
   dsimp only at h
   split at h
   ·rename_i n hn
    have e:=Nat.eq_of_beq_eq_true h
    have hl:rs.length=rs'.length:=by rw [← hk.2,denLL_map];simp
    rw [(natT_den hn).2]
    omega
   ·cases h
  |map es=>cases h
  |mapT m t=>cases h
  |it m n k=>cases h
  |rowsE ty sz rs=>cases h
  |rowsF sz t i off x=>cases h
 ·simp only [h0,cond_true] at h hs
  have:=Nat.eq_of_beq_eq_true h0
  subst this
  exact ⟨Nat.zero_le _,by rw [lenW_den h hs hk];rfl⟩
theorem rowsOff_den {ρ:List AV}{sz off:Nat}{k:SB}{r:SV}(h:rowsOff sz k off=some r):∃rs R,k.den ρ=.rows sz rs∧r.den ρ=.sl R false∧WeakLL (rs.drop off) R∧(rs.drop off).length=R.length:=by
 unfold rowsOff at h
 cases h0:Nat.beq off 0
 ·simp only [h0,cond_false] at h
  cases k with
  |rowsT sz' t=>
   dsimp only at h
   cases hc:Nat.beq sz sz'
   ·simp [hc] at h
   ·simp only [hc,cond_true,Option.some.injEq] at h;subst h
    have:=Nat.eq_of_beq_eq_true hc;subst this
    exact ⟨_,_,rfl,rfl,WeakLL.refl _,rfl⟩
  |rows sz' rs=>
   dsimp only at h
   cases hc:Nat.beq sz sz'
   ·simp [hc] at h
   ·simp only [hc,cond_true,Option.some.injEq] at h;subst h
    have:=Nat.eq_of_beq_eq_true hc;subst this
    refine ⟨_,_,rfl,rfl,?_,?_⟩
    ·have e:(denLL ρ rs).drop off=denLL ρ (rs.drop off):=by rw [denLL_map,denLL_map,List.map_drop]
     rw [e];exact nrmLL_weak
    ·have e:(denLL ρ rs).drop off=denLL ρ (rs.drop off):=by rw [denLL_map,denLL_map,List.map_drop]
     rw [e];exact (nrmLL_weak (ρ:=ρ)).length
  |map es=>cases h
  |mapT m t=>cases h
  |it m n k=>cases h
  |rowsE ty sz rs=>cases h
  |rowsF sz t i off x=>cases h
 ·simp only [h0,cond_true] at h
  have:=Nat.eq_of_beq_eq_true h0
  subst this
  exact rowsOf'_den h
theorem fitSd_mem {P:Program}{ρ:List AV}{sta:St'}:∀{l:List (Nat×Pat)},(∀s∈fitSd sta l,s.holds P ρ)→∀{i t b sz:Nat},l[i]?=some (t,.os b sz)→∀{e:Ent} {b' sz' off:Nat} {len:Tm} {k:SB},sta.fr.get t=some e→e.v=.os b' sz' off len→sta.ah.get b'=some k→∀s∈offSd k off len,s.holds P ρ
 |(t0,p0)::r,h,0,t,b,sz,hi,e,b',sz',off,len,k,he,hv,hk,s,hs=>by
  simp at hi
  obtain ⟨rfl,rfl⟩:=hi
  refine h s ?_
  simp only [fitSd,he,hv,hk,List.mem_append]
  exact .inl hs
 |(t0,p0)::r,h,i+1,t,b,sz,hi,e,b',sz',off,len,k,he,hv,hk,s,hs=>by
  refine fitSd_mem (l:=r) (fun s hs=>h s ?_) (by simpa using hi) he hv hk s hs
  cases p0<;>simp [fitSd,hs]
 |[],h,i,t,b,sz,hi,_,_,_,_,_,_,_,_,_,_,_=>by simp at hi
theorem fitFr_get {pc:Pc}{sta:St'}:∀{l:List (Nat×Pat)} {f:List (SV×Src)},fitFr pc sta l=some f→f.length=l.length∧∀(i t:Nat) (p:Pat),l[i]?=some (t,p)→∃e x s,sta.fr.get t=some e∧e.sure pc=true∧fitV sta.ah e.v p=some (x,s)∧f[i]?=some (x,s)
 |[],f,h=>by simp only [fitFr,Option.some.injEq] at h;subst h;exact ⟨rfl,by simp⟩
 |(t0,p0)::r,f,h=>by
  simp only [fitFr] at h
  split at h
  ·cases h
  ·rename_i e he
   cases hs:e.sure pc
   ·simp [hs] at h
   ·simp only [hs,cond_true] at h
    split at h
    ·rename_i x l hx hl
     simp only [Option.some.injEq] at h;subst h
     obtain ⟨h1,h2⟩:=fitFr_get hl
     refine ⟨by simp [h1],fun i t p hi=>?_⟩
     cases i with
     |zero=>
      simp only [List.getElem?_cons_zero,Option.some.injEq,Prod.mk.injEq] at hi
      obtain ⟨rfl,rfl⟩:=hi
      exact ⟨e,x.1,x.2,he,hs,hx,rfl⟩
     |succ i=>
      obtain ⟨e,x,s,q1,q2,q3,q4⟩:=h2 i t p (by simpa using hi)
      exact ⟨e,x,s,q1,q2,q3,by simpa using q4⟩
    ·cases h
theorem fitBl_get {sta:St'}:∀{l:List (Nat×List Kd)} {f:List SV},fitBl sta l=some f→f.length=l.length∧∀(i b:Nat) (ks:List Kd),l[i]?=some (b,ks)→∃row,sta.ah.get b=some (.rows ks.length [row])∧kdsOk ks row=true∧f[i]?=some (.agg (nrmL row))
 |[],f,h=>by simp only [fitBl,Option.some.injEq] at h;subst h;exact ⟨rfl,by simp⟩
 |(b0,k0)::r,f,h=>by
  simp only [fitBl] at h
  split at h
  ·rename_i sz row hrow
   cases hc:Nat.beq sz k0.length&&kdsOk k0 row
   ·simp [hc] at h
   ·simp only [hc,cond_true] at h
    split at h
    ·rename_i l hl
     simp only [Option.some.injEq] at h;subst h
     simp only [Bool.and_eq_true] at hc
     have hsz:=Nat.eq_of_beq_eq_true hc.1
     subst hsz
     obtain ⟨h1,h2⟩:=fitBl_get hl
     refine ⟨by simp [h1],fun i b ks hi=>?_⟩
     cases i with
     |zero=>
      simp only [List.getElem?_cons_zero,Option.some.injEq,Prod.mk.injEq] at hi
      obtain ⟨rfl,rfl⟩:=hi
      exact ⟨row,hrow,hc.2,rfl⟩
     |succ i=>
      obtain ⟨row,q1,q2,q3⟩:=h2 i b ks (by simpa using hi)
      exact ⟨row,q1,q2,by simpa using q3⟩
    ·cases h
  ·cases h
theorem fitTb_get {sta:St'}:∀{l:List (Nat×Tb)} {f:List SV},fitTb sta l=some f→f.length=l.length∧∀(i b:Nat) (sz:Tb),l[i]?=some (b,sz)→∃k x,sta.ah.get b=some k∧sz.of k=some x∧f[i]?=some x
 |[],f,h=>by simp only [fitTb,Option.some.injEq] at h;subst h;exact ⟨rfl,by simp⟩
 |(b0,k0)::r,f,h=>by
  simp only [fitTb] at h
  split at h
  ·rename_i k hk
   split at h
   ·rename_i x l hx hl
    simp only [Option.some.injEq] at h;subst h
    obtain ⟨h1,h2⟩:=fitTb_get hl
    refine ⟨by simp [h1],fun i b sz hi=>?_⟩
    cases i with
    |zero=>
     simp only [List.getElem?_cons_zero,Option.some.injEq,Prod.mk.injEq] at hi
     obtain ⟨rfl,rfl⟩:=hi
     exact ⟨k,x,hk,hx,rfl⟩
    |succ i=>
     obtain ⟨row,x,q1,q2,q3⟩:=h2 i b sz (by simpa using hi)
     exact ⟨row,x,q1,q2,by simpa using q3⟩
   ·cases h
  ·cases h
theorem fitOb_get {sta:St'}:∀{l:List (Nat×Ob)} {f:List (SV×Src)},fitOb sta l=some f→f.length=l.length∧∀(i b:Nat) (o:Ob),l[i]?=some (b,o)→∃(u:List SV) (v:SV) (q:List SV) (x:SV) (s:Src),sta.ah.get b=some (.rows o.n [u++v::q])∧obV sta b o=some v∧
  kdsOk o.pre u=true∧kdsOk o.post q=true∧fitV sta.ah v (.os o.b o.sz)=some (x,s)∧f[i]?=some (.agg (nrmL u++x::nrmL q),s)
 |[],f,h=>by simp only [fitOb,Option.some.injEq] at h;subst h;exact ⟨rfl,by simp⟩
 |(b0,o0)::r,f,h=>by
  simp only [fitOb] at h
  split at h
  ·rename_i sz row hrow
   cases hc:Nat.beq sz o0.n
   ·simp [hc] at h
   ·simp only [hc,cond_true] at h
    have hsz:=Nat.eq_of_beq_eq_true hc
    subst hsz
    split at h
    ·rename_i x l hx hl
     simp only [Option.some.injEq] at h;subst h
     obtain ⟨h1,h2⟩:=fitOb_get hl
     refine ⟨by simp [h1],fun i b o hi=>?_⟩
     cases i with
     |zero=>
      simp only [List.getElem?_cons_zero,Option.some.injEq,Prod.mk.injEq] at hi
      obtain ⟨rfl,rfl⟩:=hi
      simp only [fitO] at hx
      split at hx
      ·rename_i v q hv
       cases hk:(kdsOk o0.pre (row.take o0.pre.length)&&kdsOk o0.post q)
       ·simp [hk] at hx
       ·simp only [hk,cond_true] at hx
        simp only [Bool.and_eq_true] at hk
        split at hx
        ·rename_i y hy
         simp only [Option.some.injEq] at hx;subst hx
         have hrow':row.take o0.pre.length++v::q=row:=by rw [← hv];exact List.take_append_drop _ _
         refine ⟨row.take o0.pre.length,v,q,y.1,y.2,?_,?_,hk.1,hk.2,hy,rfl⟩
         ·rw [hrow'];exact hrow
         ·unfold obV;rw [hrow];simp [hv]
        ·cases hx
      ·cases hx
     |succ i=>
      obtain ⟨u,v,q,x,s,q1,q2⟩:=h2 i b o (by simpa using hi)
      exact ⟨u,v,q,x,s,q1,q2.1,q2.2.1,q2.2.2.1,q2.2.2.2.1,by simpa using q2.2.2.2.2⟩
    ·cases h
  ·cases h
theorem obSd_mem {P:Program}{ρ:List AV}{sta:St'}:∀{l:List (Nat×Ob)},(∀s∈obSd sta l,s.holds P ρ)→∀{i b:Nat} {o:Ob},l[i]?=some (b,o)→∀{b' sz' off:Nat} {len:Tm} {k:SB},obV sta b o=some (.os b' sz' off len)→sta.ah.get b'=some k→∀s∈offSd k off len,s.holds P ρ
 |(b0,o0)::r,h,0,b,o,hi,b',sz',off,len,k,hv,hk,s,hs=>by
  simp at hi
  obtain ⟨rfl,rfl⟩:=hi
  refine h s ?_
  simp only [obSd,hv,hk,List.mem_append]
  exact .inl hs
 |(b0,o0)::r,h,i+1,b,o,hi,b',sz',off,len,k,hv,hk,s,hs=>
  obSd_mem (l:=r) (fun s hs=>h s (by simp [obSd,hs])) (by simpa using hi) hv hk s hs
 |[],h,i,b,o,hi,_,_,_,_,_,_,_,_,_=>by simp at hi
theorem srcsOb_mem : ∀{l:List (Nat×Ob)} {f:List (SV×Src)} {i b:Nat} {o:Ob} {x:SV} {s:Src},l[i]?=some (b,o)→f[i]?=some (x,s)→(o.b,s)∈srcsOb l f
 |(b0,o0)::r,(x0,s0)::g,0,b,o,x,s,h1,h2=>by
  simp at h1 h2
  obtain ⟨rfl,rfl⟩:=h1
  obtain ⟨rfl,rfl⟩:=h2
  simp [srcsOb]
 |(b0,o0)::r,(x0,s0)::g,i+1,b,o,x,s,h1,h2=>by
  have ih:=srcsOb_mem (l:=r) (f:=g) (i:=i) (by simpa using h1) (by simpa using h2)
  simp [srcsOb,ih]
 |[],f,i,b,o,x,s,h1,h2=>by simp at h1
 |_::_,[],i,b,o,x,s,h1,h2=>by simp at h2
theorem noRefs_get : ∀{l:List SV} {i:Nat} {x:SV},noRefs l=true→l[i]?=some x→x.rfs=[]
 |y::r,0,x,h,hi=>by
  simp at hi;subst hi
  simp only [noRefs,Bool.and_eq_true] at h
  have:=h.1
  split at this
  ·assumption
  ·cases this
 |y::r,i+1,x,h,hi=>by
  simp only [noRefs,Bool.and_eq_true] at h
  exact noRefs_get h.2 (by simpa using hi)
 |[],i,x,h,hi=>by simp at hi
def Own.shift (k:Nat):Own→Own
 | .at c o=>.at c (o+k)
 |x=>x
theorem Own.shift_at {x:Own}{k c o:Nat}(h:x.shift k=.at c o):∃o',x=.at c o':=by
 cases x with
 |«at» a b=>simp only [Own.shift,Own.at.injEq] at h;exact ⟨b,by rw [h.1]⟩
 |free=>cases h
 |empty=>cases h
def srcOwn (E:Env):Src→Own
 | .no=>.free
 | .empty=>.empty
 | .at b' k=>(E.own b').shift k
def ownOf (E:Env):List (Nat×Src)→Nat→Own
 |[],_=>.free
 |(b,s)::r,x=>if b=x then srcOwn E s else ownOf E r x
theorem ownOf_mem {E:Env}{nE nx:Nat}{p:Pats}{c:St'}:∀{l:List (Nat×Src)} {b:Nat} {s:Src},srcOk nE nx p c l=true→(b,s)∈l→ownOf E l b=srcOwn E s∧nE≤b∧b<nx∧(∀b' k,s=.at b' k→nE≤b'∨((∀ks,(b',ks)∉p.bl)∧(∀sz,(b',sz)∉p.tb)∧(∀o,(b',o)∉p.ob)∧c.ah.get b'=none))
 |(b0,s0)::r,b,s,h,hm=>by
  simp only [srcOk,Bool.and_eq_true] at h
  obtain ⟨h1,h2,h3,h4,h5⟩:=h
  cases hm with
  |head=>
   refine ⟨by simp [ownOf],Nat.le_of_ble_eq_true h1,Nat.le_of_ble_eq_true h2,fun b' k e=>?_⟩
   subst e
   simp only [Bool.and_eq_true,Bool.or_eq_true,Bool.not_eq_true',List.any_eq_false,Option.isNone_iff_eq_none] at h5
   rcases h5.2 with h6|⟨h6,h7,h9,h8⟩
   ·exact .inl (Nat.le_of_ble_eq_true h6)
   ·exact .inr ⟨fun ks hk=>by have:=h6 _ hk;simp at this,fun ks hk=>by have:=h7 _ hk;simp at this,fun ks hk=>by have:=h9 _ hk;simp at this,h8⟩
  |tail _ hm=>
   have ih:=ownOf_mem (E:=E) h4 hm
   have hne:b0≠b:=by
    rw [List.all_eq_true] at h3
    have:=h3 _ hm
    intro e;subst e;simp at this
   simp only [ownOf,if_neg hne]
   exact ih
theorem ownOf_free {E:Env}:∀{l:List (Nat×Src)} {b:Nat},(∀s,(b,s)∉l)→ownOf E l b=.free
 |[],b,_=>rfl
 |(b0,s0)::r,b,h=>by
  have hne:b0≠b:=by intro e;subst e;exact h s0 (by simp)
  simp only [ownOf,if_neg hne]
  exact ownOf_free (fun s hs=>h s (by simp [hs]))
theorem srcs_sep {nE nx:Nat}{p:Pats}{c:St'}:∀{l:List (Nat×Src)} {b1 b2 b' k1 k2:Nat},srcOk nE nx p c l=true→(b1,.at b' k1)∈l→(b2,.at b' k2)∈l→b1=b2
 |(b0,s0)::r,b1,b2,b',k1,k2,h,h1,h2=>by
  simp only [srcOk,Bool.and_eq_true] at h
  obtain ⟨_,_,_,q4,q5⟩:=h
  cases h1 with
  |head=>
   cases h2 with
   |head=>rfl
   |tail _ h2=>
    simp only [Bool.and_eq_true,List.all_eq_true] at q5
    have:=q5.1 _ h2
    simp at this
  |tail _ h1=>
   cases h2 with
   |head=>
    simp only [Bool.and_eq_true,List.all_eq_true] at q5
    have:=q5.1 _ h1
    simp at this
   |tail _ h2=>exact srcs_sep q4 h1 h2
theorem srcsOf_mem : ∀{l:List (Nat×Pat)} {f:List (SV×Src)} {i t b sz:Nat} {x:SV} {s:Src},l[i]?=some (t,.os b sz)→f[i]?=some (x,s)→(b,s)∈srcsOf l f
 |(t0,p0)::r,(x0,s0)::g,0,t,b,sz,x,s,h1,h2=>by
  simp at h1 h2
  obtain ⟨rfl,rfl⟩:=h1
  obtain ⟨rfl,rfl⟩:=h2
  simp [srcsOf]
 |(t0,p0)::r,(x0,s0)::g,i+1,t,b,sz,x,s,h1,h2=>by
  have ih:=srcsOf_mem (l:=r) (f:=g) (i:=i) (by simpa using h1) (by simpa using h2)
  cases p0<;>simp [srcsOf,ih]
 |[],f,i,t,b,sz,x,s,h1,h2=>by simp at h1
 |_::_,[],i,t,b,sz,x,s,h1,h2=>by simp at h2
def Tr.only (tr:Tr Ent):List Nat→Tr Ent
 |[]=>.e
 |t::r=>match tr.get t with|some x=>(Tr.only tr r).upd fuelT t (some x)|none=>Tr.only tr r
def reach (th:Tr SB):Nat→List Nat→Tr SB→Tr SB
 |0,_,acc=>acc
 |n+1,[],acc=>acc
 |n+1,b::r,acc=>match acc.get b with
  |some _=>reach th n r acc
  |none=>match th.get b with
   |none=>reach th n r acc
   |some k=>reach th n ((match k with | .rows _ rs=>rfsLL rs | .rowsT _ _=>[] | .mapT _ _=>[] | .map es=>rfsL (es.map (·.1))++rfsL (es.map (·.2)) | .it m _ _=>[m] | .rowsE _ _ rs=>rfsLL rs | .rowsF _ _ _ _ x=>x.rfs)++r) (acc.upd fuelT b (some k))
def St'.only (st:St')(l:List Nat):St':=
 ⟨st.fr.only l,reach st.ah 2000 (l.flatMap fun t=>match st.fr.get t with|some e=>e.v.rfs|none=>bif Nat.ble 1000000 t then [t-1000000] else []) .e,st.nx⟩
def Tr.onlyG {α:Type}(tr:Tr α):List Nat→Tr α
 |[]=>.e
 |t::r=>match tr.get t with|some x=>(Tr.onlyG tr r).upd fuelT t (some x)|none=>Tr.onlyG tr r
theorem Tr.get_onlyG {α:Type}{tr:Tr α}:∀{l:List Nat} {t:Nat} {y:α},(Tr.onlyG tr l).get t=some y→t∈l∧tr.get t=some y
 |[],t,y,h=>by simp [Tr.onlyG,Tr.get] at h
 |s::r,t,y,h=>by
  simp only [Tr.onlyG] at h
  split at h
  ·rename_i x hx
   rcases Tr.get_upd _ _ _ _ _ _ h with ⟨rfl,h1⟩|⟨-,h1⟩
   ·simp only [Option.some.injEq] at h1;subst h1;exact ⟨by simp,hx⟩
   ·have:=Tr.get_onlyG h1;exact ⟨by simp [this.1],this.2⟩
  ·have:=Tr.get_onlyG h;exact ⟨by simp [this.1],this.2⟩
def noMap (th:Tr SB)(b:Nat):Bool:=match th.get b with|some (.map _)=>false|some (.mapT _ _)=>false|some (.it _ _ _)=>false|some (.rowsE _ _ _)=>false|_=>true
def St'.cut (st:St')(l:List Nat):St':=⟨st.fr.onlyG l,(st.only l).ah.onlyG ((List.range st.nx).filter (noMap (st.only l).ah)),st.nx⟩
structure LoopH where
 ins:List Nat
 p:Pats
 xs:List (Exit×Pats)
def dropBs : List Nat→Tr SB→Tr SB
 |[],th=>th
 |b::r,th=>(dropBs r th).upd fuelT b none
theorem dropBs_get : ∀{l:List Nat} {th:Tr SB} {b:Nat} {k:SB},(dropBs l th).get b=some k→th.get b=some k
 |[],th,b,k,h=>h
 |c::r,th,b,k,h=>by
  simp only [dropBs] at h
  rcases Tr.get_upd _ _ _ _ _ _ h with ⟨_,h1⟩|⟨_,h1⟩
  ·cases h1
  ·exact dropBs_get h1
def St'.cutH (st:St')(h:LoopH):St':=⟨(st.cut h.ins).fr,dropBs (obDrop st h.p.ob) (st.cut h.ins).ah,st.nx⟩
def SV.slT (th:Tr SB):SV→List Tm
 | .sc .sl t=>[t]
 | .agg l=>l.filterMap fun x=>match x with | .sc .sl t=>some t|_=>none
 | .os b _ _ l=>match th.get b with
  |some (.rowsT _ t)=>bif l.beq (.rlen t) then [t] else []
  |_=>[]
 |_=>[]
def addT (l:List Tm)(t:Tm):List Tm:=bif l.any fun x=>x.beq t then l else l++[t]
def slotT (st:St')(t:Nat):List Tm:=match st.fr.get t with
 |some e=>(match e.h with | []=>e.v.slT st.ah|_=>[])
 |none=>[]
def bnOf (st:St')(ins:List Nat):List Tm:=(ins.flatMap (slotT st)).foldl addT []
def exOk (id:Nat):Exit→Exit→Bool
 | .normal,.exit j=>Nat.beq j id
 | .exit i,.exit j=>Nat.beq i j&&!Nat.beq j id
 | .ret,.ret=>true
 |_,_=>false
def findX (id:Nat)(e:Exit):Nat→List (Exit×Pats)→Option (Nat×Pats)
 |_,[]=>none
 |k,x::r=>bif exOk id x.1 e then some (k,x.2) else findX id e (k+1) r
def oneO (h:LoopH)(id base nE:Nat)(cs:St')(pc:Pc)(o:Out):Option (Tm×Nat×List SV):=
 match o.e with
 | .normal=>match fitS pc base nE h.ins h.p cs o.st with|some v=>some (o.g,0,v)|none=>none
 |e=>match findX id e 0 h.xs with
  |some (k,p)=>match fitS pc base nE h.ins p cs o.st with|some v=>some (o.g,k+1,v)|none=>none
  |none=>none
def clsO (h:LoopH)(id base nE:Nat)(cs:St'):Pc→List Out→Option (List (Tm×Nat×List SV))
 |_,[]=>some []
 |pc,[o]=>match oneO h id base nE cs pc o with|some x=>some [x]|none=>none
 |pc,o::o'::r=>match oneO h id base nE cs (addPc o.g true pc) o with
  |none=>none
  |some x=>match clsO h id base nE cs (addPc o.g false pc) (o'::r) with|some l=>some (x::l)|none=>none
def oneSd (h:LoopH)(id:Nat)(o:Out):List Side:=
 match o.e with
 | .normal=>fitSdP o.st h.p
 |e=>match findX id e 0 h.xs with
  |some (_,p)=>fitSdP o.st p
  |none=>[]
def clsSd (h:LoopH)(id:Nat):Pc→List Out→List (Pc×Side)
 |_,[]=>[]
 |pc,[o]=>(oneSd h id o).map fun s=>(pc,s)
 |pc,o::o'::r=>(oneSd h id o).map (fun s=>(addPc o.g true pc,s))++clsSd h id (addPc o.g false pc) (o'::r)
def xOuts (cs:St')(nv:Nat):Nat→Nat→List (Exit×Pats)→List Out
 |_,_,[]=>[]
 |k,q,[x]=>[⟨.lb true,x.1,tmpl x.2 q cs⟩]
 |k,q,x::y::r=>⟨.bin .eql (.int .i64) (.var nv []) (.li k),x.1,tmpl x.2 q cs⟩::xOuts cs nv (k+1) (q+x.2.m) (y::r)
end Go.Fw
end
section
set_option linter.unusedVariables false
set_option linter.unusedSimpArgs false
set_option linter.unusedSectionVars false
namespace Go.Fw
set_option linter.unusedSectionVars false
variable [Glob]
set_option linter.unusedSimpArgs false
set_option linter.unusedVariables false
section
variable {P : Program} {base:Nat} {w w':World} {E:Env} {ah:AH} {F:Nat→Prop}
theorem setIt_ok (hh:HeapOk base w E ah F){q c:Nat}{o0:Obj}(o1:Obj)(ho:E.own q=.at c 0)(hsep:∀b k c' o',ah b=some k→E.own b=.at c' o'→c'≠c)(hnf:∀off,¬E.fix c off)
  (hc:w.heap[c]?=some o0) (hnc:∀arr t f,o0≠.cells arr t f) (d:Nat) :
  Step base w E {w with drawn:=d,heap:=w.heap.setIfInBounds c o1} E∧HeapOk base {w with drawn:=d,heap:=w.heap.setIfInBounds c o1} E ah F:=by
 obtain ⟨hbase,hlt⟩:=hh.ownlt q c 0 ho
 obtain ⟨g1,g2⟩:=heap_set' (o':=o1) hc
 have hx:Ext w E {w with drawn:=d,heap:=w.heap.setIfInBounds c o1} E:=by
  refine ⟨fun _ _ h=>h,fun c' off h=>?_,fun _ _=>rfl,fun c' ar t fz h=>?_⟩
  ·have:c'≠c:=fun e=>hnf off (e▸h)
   simp only [World.cell?]
   rw [g2 c' this]
  ·have:c'≠c:=fun e=>by subst e;rw [hc] at h;cases h;exact hnc _ _ _ rfl
   exact ⟨ar,fz,by show (w.heap.setIfInBounds c _)[c']?=_;rw [g2 c' this];exact h,rfl⟩
 refine ⟨⟨hx,⟨rfl,rfl,rfl,by simp,fun j hj=>g2 j (by omega)⟩,fun _ _ _ h=>h,fun c' _ hno=>g2 c' (fun e=>hno q 0 (e▸ho)),fun b c o h _=>⟨b,o,h⟩,fun _ _ h _=>.inl h⟩,?_⟩
 refine ⟨fun b' k' hb'=>?_,hh.sep,hh.fresh,fun c' off h=>?_,by simpa using hh.bs,fun b c o h=>by simpa using hh.ownlt b c o h⟩
 ·exact (hh.blk b' k' hb').keep hx (fun c' o' ho'=>g2 c' (hsep b' k' c' o' hb' ho')) (fun _ _ _ _ h=>h)
 ·have:=hh.fixlt c' off h;simpa using this
theorem nodup_len : ∀{l m:List Nat},l.Nodup→(∀x∈l,x∈m)→l.length≤m.length
 |[],m,_,_=>by simp
 |a::l,m,h,hs=>by
  obtain ⟨h1,h2⟩:=List.nodup_cons.1 h
  have ha:a∈m:=hs a (by simp)
  have ih:=nodup_len (l:=l) (m:=m.erase a) h2 (fun x hx=>by
   have:x≠a:=fun e=>h1 (e▸hx)
   exact (List.mem_erase_of_ne this).2 (hs x (by simp [hx])))
  rw [List.length_erase_of_mem ha] at ih
  have:0<m.length:=List.length_pos_of_mem ha
  simp;omega
theorem nodup_all {n:Nat}{s:List Nat}(hs:s.Nodup)(hlt:∀j∈s,j<n)(hl:s.length=n):∀j,j<n→j∈s:=by
 intro j hj
 apply Classical.byContradiction
 intro hno
 have:=nodup_len (l:=j::s) (m:=List.range n) (List.nodup_cons.2 ⟨hno,hs⟩) (fun x hx=>by
  cases hx with
  |head=>exact List.mem_range.2 hj
  |tail _ hx=>exact List.mem_range.2 (hlt x hx))
 simp at this;omega
theorem next_run {cq cm n:Nat}{s:List Nat}{ces:Array MapEntry}{ty:TypeId}(hq:w.heap[cq]?=some (.mapIter (some cm) n s.toArray n))(hm:w.heap[cm]?=some (.map ces n))
  (hb:∀(i:Nat) (a:MapEntry),ces[i]?=some a→a.born=i) (hn:ces.size=n) (hs:s.Nodup) (hlt:∀j∈s,j<n) :
  (s.length=n∧(Instr.next (.pointer (some ⟨cq,0,none⟩)) false ty).run P w=.ok (.tuple #[.bool false]) w)∨
  ∃j ce d,ces[j]?=some ce∧j∉s∧(Instr.next (.pointer (some ⟨cq,0,none⟩)) false ty).run P w =
   .ok (.tuple #[.bool true,ce.key,ce.val]) {w with drawn:=d,heap:=w.heap.setIfInBounds cq (.mapIter (some cm) n (s++[j]).toArray n)}:=by
 have hgi:(getObj cq).run P w=.ok (.mapIter (some cm) n s.toArray n) w:=by simp [getObj,Sem.run,hq]
 have hgm:(getObj cm).run P w=.ok (.map ces n) w:=by simp [getObj,Sem.run,hm]
 have hcond:(!s.toArray.isEmpty&&!ces.isEmpty&&ces.all (·.born≥n))=false:=by
  cases he:ces.isEmpty
  ·have h0:0<ces.size:=by
    rcases Nat.eq_zero_or_pos ces.size with e|e
    ·have:ces=#[]:=Array.eq_empty_of_size_eq_zero e
     subst this;simp at he
    ·exact e
   have:ces.all (·.born≥n)=false:=by
    rw [Array.all_eq_false]
    refine ⟨0,h0,?_⟩
    have:=hb 0 ces[0] (by simp [h0])
    simp [this];omega
   rw [this];simp
  ·simp
 have hin:∀x∈ces.toList,x.born<n∧ces[x.born]?=some x:=by
  intro x hx
  obtain ⟨i,hi⟩:=List.mem_iff_getElem?.1 hx
  have hi':ces[i]?=some x:=by simpa using hi
  have:=hb i x hi'
  have hlt':=(Array.getElem?_eq_some_iff.1 hi').1
  rw [this];exact ⟨by omega,hi'⟩
 obtain ⟨left,hleft⟩:∃left,left=ces.filter fun e=>!s.toArray.contains e.born:=⟨_,rfl⟩
 have hlm:∀x,x∈left.toList↔x∈ces.toList∧x.born∉s:=by
  intro x
  rw [hleft,Array.toList_filter,List.mem_filter]
  simp
 have hold:left.filter (fun e=>decide (e.born<n))=left:=by
  apply Array.ext'
  rw [Array.toList_filter,List.filter_eq_self]
  intro x hx
  simpa using (hin x ((hlm x).1 hx).1).1
 have hnew:left.filter (fun e=>decide (e.born≥n))=#[]:=by
  apply Array.ext'
  rw [Array.toList_filter]
  simp only [List.filter_eq_nil_iff,decide_eq_true_eq]
  intro x hx
  have:=(hin x ((hlm x).1 hx).1).1
  omega
 rcases Nat.lt_or_ge s.length n with hlen|hlen
 ·right
  -- an entry is left
  obtain ⟨j0,hj0,hj0s⟩:∃j,j<n∧j∉s:=by
   apply Classical.byContradiction
   intro hno
   have hsub:∀j∈List.range n,j∈s:=fun j hj=>Classical.byContradiction fun h=>hno ⟨j,List.mem_range.1 hj,h⟩
   have:=nodup_len (List.nodup_range (n:=n)) hsub
   simp at this;omega
  have hne:left.size≠0:=by
   have:ces[j0]∈left.toList:=(hlm _).2 ⟨by simp,by rw [hb j0 ces[j0] (by simp [hn,hj0])];exact hj0s⟩
   intro h0
   have h1:left.toList.length=0:=by simpa using h0
   rw [List.length_eq_zero_iff] at h1
   rw [h1] at this;cases this
  have hempty:left.isEmpty=false:=by
   cases hh:left.isEmpty
   ·rfl
   ·rw [Array.isEmpty_iff_size_eq_zero] at hh;exact absurd hh hne
  -- which is drawn
  obtain ⟨i,w2,hch,hi,hw2⟩:∃i w2,(choose (.mapNext left.size)).run P w=.ok i w2∧i<left.size∧∃d,w2={w with drawn:=d}:=by
   rw [run_choose_drew]
   split
   ·rename_i hf
    refine ⟨0,w,rfl,by omega,w.drawn,rfl⟩
   ·refine ⟨_,_,rfl,?_,w.drawn+1,rfl⟩
    show _ % _<_
    exact Nat.mod_lt _ (by omega)
  obtain ⟨d,rfl⟩:=hw2
  have hce:left[i]∈left.toList:=by simp
  obtain ⟨h1,h2⟩:=(hlm _).1 hce
  obtain ⟨h3,h4⟩:=hin _ h1
  refine ⟨left[i].born,left[i],d,h4,h2,?_⟩
  have hset:∀o,(setObj cq o).run P {w with drawn:=d}=.ok () {w with drawn:=d,heap:=w.heap.setIfInBounds cq o}:=fun o=>by simp [setObj,Sem.run,hq]
  simp only [Instr.next,Sem.run_bind,hgi,hgm,Result.andThen_ok]
  simp only [hcond,← hleft,Bool.false_eq_true,if_false,Sem.run_pure,Result.andThen_ok,hold,hnew]
  simp only [hempty,Bool.false_eq_true,if_false,Array.append_empty,Array.empty_append,Array.size_map,hch,Result.andThen_ok]
  rw [Sem.run_bind,hch]
  simp [hi,hset,Result.andThen]
 ·left
  have hl:s.length=n:=by
   have:=nodup_len hs (m:=List.range n) fun x hx=>List.mem_range.2 (hlt x hx)
   simp at this;omega
  refine ⟨hl,?_⟩
  have hemp:left=#[]:=by
   apply Array.ext'
   rw [show (#[]:Array MapEntry).toList=[] from rfl,List.eq_nil_iff_forall_not_mem]
   intro x hx
   obtain ⟨h1,h2⟩:=(hlm x).1 hx
   exact h2 (nodup_all hs hlt hl _ (hin x h1).1)
  simp only [Instr.next,Sem.run_bind,hgi,hgm,Result.andThen_ok]
  simp only [hcond,← hleft,hemp,Bool.false_eq_true,if_false,Sem.run_pure,Result.andThen_ok]
  simp [Question.forced]
theorem entry_run {cq cm n j:Nat}{s:List Nat}{ces:Array MapEntry}{ce:MapEntry}(hq:w.heap[cq]?=some (.mapIter (some cm) n (s++[j]).toArray n))(hm:w.heap[cm]?=some (.map ces n))
  (hb:∀(i:Nat) (a:MapEntry),ces[i]?=some a→a.born=i) (hj:ces[j]?=some ce) :
  (Instr.entry (.pointer (some ⟨cq,0,none⟩))).run P w=.ok (.tuple #[ce.key,ce.val]) w:=by
 have hgi:(getObj cq).run P w=.ok (.mapIter (some cm) n (s++[j]).toArray n) w:=by simp [getObj,Sem.run,hq]
 have hgm:(getObj cm).run P w=.ok (.map ces n) w:=by simp [getObj,Sem.run,hm]
 have hf:ces.find? (fun e=>e.born == j)=some ce:=by
  rw [← Array.find?_toList,find_from (g:=fun e:MapEntry=>e.born) ces.toList 0 j (Nat.zero_le _) (fun i a h=>by simpa using hb i a (by simpa using h))]
  simpa using hj
 have hbk:(s++[j]).toArray.back?=some j:=by simp
 simp only [Instr.entry,Sem.run_bind,hgi,Result.andThen_ok,hbk,hgm]
 simp [hf]
theorem ops_step {ops:Array Oper}{i:Nat}{o:Oper}{rest:List Nat}{Q:Exit→Act→World→Prop}{a:Act}(ho:ops[i]?=some o)(hg:o.guard=none)(h:o.wp P a w (wpOps P ops Q rest) Q):wpOps P ops Q (i::rest) a w:=by
 rw [wpOps_cons]
 unfold wpOp
 rw [ho]
 have:Region.wanted o (yielded ops a.tmps)=true:=by unfold Region.wanted;rw [hg]
 dsimp only
 rw [if_pos this]
 exact .inl h
theorem pure_step {ops:Array Oper}{i:Nat}{o:Oper}{rest:List Nat}{Q:Exit→Act→World→Prop}{a:Act}{fr:AFr}{x:AV}{d:Nat}(hh:HeapOk base w E ah F)(hfr:FrOk w E fr a.tmps)(ho:ops[i]?=some o)(hg:o.guard=none)(hd:o.dst=some d)
  (hpu:purO o.op=true) (h:aOp P 0 fr ah o.op (fun r=>r.v=x)) (hn:∀a':Act,a'.defers=a.defers→FrOk w E (fset fr d x) a'.tmps→wpOps P ops Q rest a' w):wpOps P ops Q (i::rest) a w:=by
 refine ops_step ho hg (aOp_rd hh hfr hpu h fun r v hK _ hv=>?_)
 rw [hK] at hv
 have:=hfr.put o.dst hv
 rw [hd] at this
 exact hn _ (put_defers _ _ _) (by rw [hd];exact this)
def keyAt (es:List (AV×AV))(i j:Nat):Bool:=match es[j]? with|some e=>Nat.beq (kOf e.1) i|none=>false
def Marked (es:List (AV×AV))(s:List Nat)(rs rs':List (List AV)):Prop:=rs'.length=rs.length∧∀i,i<rs.length→rs'[i]?=if s.any (keyAt es i)=true then some TT else rs[i]?
theorem Marked.set {es:List (AV×AV)}{s:List Nat}{rs rs':List (List AV)}(h:Marked es s rs rs'){j:Nat}{e:AV×AV}(hj:es[j]?=some e):Marked es (s++[j]) rs (rs'.set (kOf e.1) TT):=by
 refine ⟨by rw [List.length_set];exact h.1,fun i hi=>?_⟩
 rw [List.getElem?_set]
 have hkey:keyAt es i j=Nat.beq (kOf e.1) i:=by unfold keyAt;rw [hj]
 rw [List.any_append,List.any_cons,List.any_nil,Bool.or_false,hkey]
 by_cases hk:kOf e.1=i
 ·subst hk
  have:kOf e.1<rs'.length:=by rw [h.1];exact hi
  have hb:Nat.beq (kOf e.1) (kOf e.1)=true:=by simp
  rw [if_pos rfl,if_pos this,hb,Bool.or_true,if_pos rfl]
 ·have hb:Nat.beq (kOf e.1) i=false:=by
   cases hbb:Nat.beq (kOf e.1) i
   ·rfl
   ·exact absurd (Nat.eq_of_beq_eq_true hbb) hk
  rw [if_neg hk,hb,Bool.or_false]
  exact h.2 i hi
theorem Marked.all {es:List (AV×AV)}{s:List Nat}{rs rs':List (List AV)}(h:Marked es s rs rs')(hs:s.Nodup)(hlt:∀j∈s,j<es.length)(hl:s.length=es.length) :
  ∀i,i<rs.length→rs'[i]?=if es.any (fun e=>Nat.beq (kOf e.1) i)=true then some TT else rs[i]?:=by
 intro i hi
 rw [h.2 i hi]
 have:s.any (keyAt es i)=es.any (fun e=>Nat.beq (kOf e.1) i):=by
  rw [Bool.eq_iff_iff,List.any_eq_true,List.any_eq_true]
  constructor
  ·rintro ⟨j,hj,hk⟩
   unfold keyAt at hk
   split at hk
   ·rename_i e he
    exact ⟨e,List.mem_of_getElem? he,hk⟩
   ·cases hk
  ·rintro ⟨e,he,hk⟩
   obtain ⟨j,hj⟩:=List.mem_iff_getElem?.1 he
   have hjl:=(List.getElem?_eq_some_iff.1 hj).1
   exact ⟨j,nodup_all hs hlt hl j hjl,by unfold keyAt;rw [hj];exact hk⟩
 rw [this]
structure MarkT where
 (it tn tb te tk t8 tD d1 d2 d3:Nat)
 (T TB:TypeId)
def MarkT.ts (m:MarkT):List Nat:=[m.tn,m.tb,m.te,m.tk,m.t8,m.d1,m.d2,m.d3]
structure MarkO (m:MarkT)(o1 o2 p1 p2 p3 q1 q2 q3 q4:Oper):Prop where
 o1:o1.op=.next (.tmp m.it) false∧o1.dst=some m.tn∧o1.guard=none
 o2:o2.op=.extract (.tmp m.tn) 0∧o2.dst=some m.tb∧o2.guard=none
 p1:p1.op=.entry (.tmp m.it)∧p1.dst=some m.te∧p1.guard=none
 p2:p2.op=.extract (.tmp m.te) 0∧p2.dst=some m.tk∧p2.guard=none
 p3:p3.op=.assign (.tmp m.tk)∧p3.dst=some m.t8∧p3.guard=none
 q1:q1.op=.move (.tmp m.tD)∧q1.dst=some m.d1∧q1.guard=none
 q2:q2.op=.move (.tmp m.t8)∧q2.dst=some m.d2∧q2.guard=none
 q3:q3.op=.indexAddr m.T (.tmp m.d1) (.tmp m.d2)∧q3.dst=some m.d3∧q3.guard=none
 q4:q4.op=.store m.TB (.tmp m.d3) (.const (.bool true))∧q4.dst=none∧q4.guard=none
theorem fg_eq {fr:AFr}{d:Nat}{x:AV}(h:d<fr.length):fget (fset fr d x) d=some x:=by rw [fget_fset,if_pos ⟨rfl,h⟩]
theorem fg_ne {fr:AFr}{d t:Nat}{x:AV}(h:t≠d):fget (fset fr d x) t=fget fr t:=by rw [fget_fset,if_neg (fun e=>h e.1)]
theorem AW_mark {m:MarkT}{o1 o2 p1 p2 p3 q1 q2 q3 q4:Oper}(hm:MarkO m o1 o2 p1 p2 p3 q1 q2 q3 q4){r1 r2 r3 id id5:Nat}{fr:AFr}{nx:Nat}{Q:AQ}
  {q sq mb bd len:Nat} {es:List (AV×AV)} {rs:List (List AV)} {tb:Nat}
  (hN:∀t∈m.ts,t<fr.length) (hit:m.it∉m.ts) (htD:m.tD∉m.ts) (hd1:m.t8≠m.d1) (hd2:m.d1≠m.d2)
  (hq:fget fr m.it=some (.op q sq 0 0)) (hqa:ah q=some (.it mb es.length 0)) (hma:ah mb=some (.map es)) (hD:fget fr m.tD=some (.os bd 1 0 len)) (hbd:ah bd=some (.rows 1 rs)) (hlen:len≤rs.length)
  (hT:slElem P m.T=some (1,tb)) (hTB:tyOf P m.TB=some (false,1)) (hks:∀e∈es,∃kk n,e.1=.p (.int kk n)∧0≤n∧n.toNat<len) (hne1:q≠mb) (hne2:q≠bd) (hne3:mb≠bd)
  (hQ:∀fr' rs',fr'.length=fr.length→(∀t,t∉m.ts→fget fr' t=fget fr t)→rs'.length=rs.length→(∀i,i<rs.length→rs'[i]?=if es.any (fun e=>Nat.beq (kOf e.1) i)=true then some TT else rs[i]?)→
   Q .normal fr' (upd (upd ah q none) bd (some (.rows 1 rs'))) nx) :
  AW P (.block id (.loop (.seq (.region r1 #[o1,o2] false) (.seq (.cond (.tmp m.tb) .skip (.exit id)) (.block id5 (.seq (.region r2 #[p1,p2,p3] false) (.region r3 #[q1,q2,q3,q4] false))))))) fr ah nx Q:=by
 intro base w E a hs
 obtain ⟨cq,cm,g1,g2,g3,g4,g5⟩:=hs.heap.blk q _ hqa
 obtain ⟨cm',ces0,clock0,f1,f2,f3,f4,f5⟩:=hs.heap.blk mb _ hma
 rw [g5] at f1;cases f1
 have hsepq:∀b k c o,b≠q→ah b=some k→E.own b=.at c o→c≠cq:=fun b k c o hb hk ho=>hs.heap.sep b q k _ c o cq 0 hb hk hqa ho g1
 have htn:=hN m.tn (by simp [MarkT.ts])
 have htb:=hN m.tb (by simp [MarkT.ts])
 have hte:=hN m.te (by simp [MarkT.ts])
 have htk:=hN m.tk (by simp [MarkT.ts])
 have ht8:=hN m.t8 (by simp [MarkT.ts])
 have hdd1:=hN m.d1 (by simp [MarkT.ts])
 have hdd2:=hN m.d2 (by simp [MarkT.ts])
 have hdd3:=hN m.d3 (by simp [MarkT.ts])
 simp only [MarkT.ts,List.mem_cons,List.not_mem_nil,or_false,not_or] at hit htD
 let AHs:List (List AV)→AH:=fun rs'=>upd (upd ah q none) bd (some (.rows 1 rs'))
 have hAm:∀rs',AHs rs' mb=some (.map es):=fun rs'=>by show upd (upd ah q none) bd _ mb=_;rw [upd_ne hne3,upd_ne (fun e=>hne1 e.symm)];exact hma
 have hAb:∀rs',AHs rs' bd=some (.rows 1 rs'):=fun rs'=>upd_eq rfl
 have hAsep:∀rs' b k c o,AHs rs' b=some k→E.own b=.at c o→c≠cq:=by
  intro rs' b k c o hk ho
  by_cases e:b=bd
  ·subst e;exact hsepq b _ c o (fun e=>hne2 e.symm) hbd ho
  ·have hk2:upd (upd ah q none) bd (some (.rows 1 rs')) b=some k:=hk
   rw [upd_ne e] at hk2
   by_cases e2:b=q
   ·rw [upd_eq e2] at hk2;cases hk2
   ·rw [upd_ne e2] at hk2;exact hsepq b k c o e2 hk2 ho
 let J:Nat→Act→World→Prop:=fun n a' w'=>∃s fr' rs',s.Nodup∧(∀j∈s,j<es.length)∧n+s.length=es.length∧fr'.length=fr.length∧(∀t,t∉m.ts→fget fr' t=fget fr t)∧Marked es s rs rs'∧
  HeapOk base w' E (AHs rs') (fun b=>nx≤b)∧w'.heap[cq]?=some (.mapIter (some cm) es.length s.toArray es.length)∧FrOk w' E fr' a'.tmps∧a'.defers=[]∧Step base w E w' E
 refine wp_block (wp_loop_ghost J es.length ?_ ?_)
 ·refine ⟨[],fr,rs,List.nodup_nil,by simp,by simp,rfl,fun _ _=>rfl,⟨rfl,fun i hi=>by simp⟩,?_,by rw [g4,show Array.range 0=#[] from by simp],hs.fr,hs.defers,Step.refl _ _ _⟩
  have:=(hs.heap.drop q).retell (b:=bd) (k:=.rows 1 rs) (k':=.rows 1 rs) (by rw [upd_ne (fun e=>hne2 e.symm)];exact hbd) (hs.heap.blk bd _ hbd)
  exact this
 ·intro n a1 w1 hJ
  obtain ⟨s,fr1,rs1,j1,j2,j3,j4,j5,j6,j7,j8,j9,j10,j11⟩:=hJ
  obtain ⟨cm',ces,clock,f1,f2,f3,f4,f5⟩:=j7.blk mb _ (hAm rs1)
  rw [g5] at f1;cases f1
  obtain ⟨m1,m2,m3,m4⟩:=f5
  have hcl:clock=es.length:=by omega
  subst hcl
  have hcmq:cm≠cq:=hsepq mb _ cm 0 (fun e=>hne1 e.symm) hma g5
  have hfit:fget fr1 m.it=some (.op q sq 0 0):=by rw [j5 _ (by simp only [MarkT.ts,List.mem_cons,List.not_mem_nil,or_false,not_or];exact hit)];exact hq
  have hftD:fget fr1 m.tD=some (.os bd 1 0 len):=by rw [j5 _ (by simp only [MarkT.ts,List.mem_cons,List.not_mem_nil,or_false,not_or];exact htD)];exact hD
  have hvit:∀(fr':AFr) (a':Act) (w':World),FrOk w' E fr' a'.tmps→fget fr' m.it=some (.op q sq 0 0)→a'.eval (.tmp m.it)=.pointer (some ⟨cq,0,none⟩):=by
   intro fr' a' w' hfr' hf
   obtain ⟨c,o,h1,h2⟩:=(ev_rep (x:=.tmp m.it) hfr' hf).op_inv
   rw [g1] at h2;cases h2
   simpa using h1
  refine wp_seq (wp_region ?_)
  have hr2:List.range (#[o1,o2]:Array Oper).size=[0,1]:=rfl
  rw [hr2]
  rcases next_run (P:=P) (ty:=o1.type) j8 f4 m4 m3.symm j1 j2 with ⟨hall,hrun⟩|⟨j,ce,d,hce,hjs,hrun⟩
  ·-- none is left
   refine ops_step (o:=o1) rfl hm.o1.2.2 (upon_value (s:=do pure (.value (← Instr.next (a1.eval (.tmp m.it)) false o1.type))) (v:=.tuple #[.bool false]) (w':=w1) (by simp [execOp,hm.o1.1]) (by rw [hvit fr1 a1 w1 j9 hfit];simp [hrun]) ?_)
   have hfr2:=j9.put o1.dst (x:=.tup [.p (.bool false)]) (v:=.tuple #[.bool false]) (.tup _ _ rfl (fun i x y h1 h2=>by
    match i,h1,h2 with
    |0,h1,h2=>cases h1;cases h2;exact .p rfl))
   rw [hm.o1.2.1] at hfr2
   refine pure_step (x:=.p (.bool false)) (fr:=fset fr1 m.tn (.tup [.p (.bool false)])) (o:=o2) j7 (by rw [hm.o1.2.1];exact hfr2) rfl hm.o2.2.2 hm.o2.2.1 (by rw [hm.o2.1];rfl)
    (by rw [hm.o2.1];exact withO_iff.2 ⟨_,fg_eq (by omega),withO_iff.2 ⟨_,rfl,rfl⟩⟩) fun a2 hdf2 hfr3=>?_
   show (Code.seq _ _).wp P _ a2 w1
   refine wp_seq (wp_cond (t:=false) ?_ ?_)
   ·exact (ev_rep (x:=.tmp m.tb) hfr3 (fg_eq (by rw [length_fset];omega))).p_inv
   ·refine wp_exit ?_
    show Exit.inBlock id (APost base w E Q) (.exit id) a2 w1
    simp only [Exit.inBlock,if_true]
    refine ⟨E,_,AHs rs1,nx,hQ _ rs1 ?_ ?_ j6.1 (j6.all j1 j2 hall),⟨j7,hfr3,by rw [hdf2,put_defers];exact j10⟩,j11⟩
    ·rw [length_fset,length_fset];exact j4
    ·intro t ht
     simp only [MarkT.ts,List.mem_cons,List.not_mem_nil,or_false,not_or] at ht
     rw [fg_ne ht.2.1,fg_ne ht.1]
     exact j5 t (by simp only [MarkT.ts,List.mem_cons,List.not_mem_nil,or_false,not_or];exact ht)
  ·-- one is drawn
   have hjl:j<es.length:=by have:=(Array.getElem?_eq_some_iff.1 hce).1;omega
   obtain ⟨e,he⟩:∃e,es[j]?=some e:=⟨es[j],by simp [hjl]⟩
   obtain ⟨re1,re2,-⟩:=m2 j e ce he hce
   obtain ⟨kk,kn,hke,hk0,hkl⟩:=hks e (List.mem_of_getElem? he)
   obtain ⟨s1,s2⟩:=setIt_ok (o0:=.mapIter (some cm) es.length s.toArray es.length) j7 (.mapIter (some cm) es.length (s++[j]).toArray es.length) g1 (hAsep rs1) g3 j8 (fun _ _ _ h=>by cases h) d
   obtain ⟨w2,hw2⟩:∃w2,w2={w1 with drawn:=d,heap:=w1.heap.setIfInBounds cq (.mapIter (some cm) es.length (s++[j]).toArray es.length)}:=⟨_,rfl⟩
   have hhq:w2.heap[cq]?=some (.mapIter (some cm) es.length (s++[j]).toArray es.length):=by rw [hw2];exact (heap_set' j8).1
   have hhm:w2.heap[cm]?=some (.map ces es.length):=by rw [hw2];exact ((heap_set' j8).2 cm hcmq).trans f4
   rw [← hw2] at s1 s2 hrun
   rw [hke] at re1
   refine ops_step (o:=o1) rfl hm.o1.2.2 (upon_value (s:=do pure (.value (← Instr.next (a1.eval (.tmp m.it)) false o1.type))) (v:=.tuple #[.bool true,ce.key,ce.val]) (w':=w2) (by simp [execOp,hm.o1.1]) (by rw [hvit fr1 a1 w1 j9 hfit];simp [hrun]) ?_)
   have hfr2:=(j9.mono s1.ext).put o1.dst (x:=.tup [.p (.bool true),.p (.int kk kn),e.2]) (v:=.tuple #[.bool true,ce.key,ce.val]) (.tup _ _ rfl (fun i x y h1 h2=>by
    match i,h1,h2 with
    |0,h1,h2=>cases h1;cases h2;exact .p rfl
    |1,h1,h2=>cases h1;cases h2;exact re1.mono s1.ext
    |2,h1,h2=>cases h1;cases h2;exact re2.mono s1.ext))
   rw [hm.o1.2.1] at hfr2
   refine pure_step (x:=.p (.bool true)) (fr:=fset fr1 m.tn (.tup [.p (.bool true),.p (.int kk kn),e.2])) (o:=o2) s2 (by rw [hm.o1.2.1];exact hfr2) rfl hm.o2.2.2 hm.o2.2.1 (by rw [hm.o2.1];rfl)
    (by rw [hm.o2.1];exact withO_iff.2 ⟨_,fg_eq (by omega),withO_iff.2 ⟨_,rfl,rfl⟩⟩) fun a2 hdf2 hfr3=>?_
   show (Code.seq _ _).wp P _ a2 w2
   refine wp_seq (wp_cond (t:=true) ?_ ?_)
   ·exact (ev_rep (x:=.tmp m.tb) hfr3 (fg_eq (by rw [length_fset];omega))).p_inv
   refine wp_skip ?_
   show (Code.block _ _).wp P _ a2 w2
   refine wp_block (wp_seq (wp_region ?_))
   have hr3:List.range (#[p1,p2,p3]:Array Oper).size=[0,1,2]:=rfl
   rw [hr3]
   have hfit3:fget (fset (fset fr1 m.tn (.tup [.p (.bool true),.p (.int kk kn),e.2])) m.tb (.p (.bool true))) m.it=some (.op q sq 0 0):=by rw [fg_ne hit.2.1,fg_ne hit.1];exact hfit
   refine ops_step (o:=p1) rfl hm.p1.2.2 (upon_value (s:=do pure (.value (← Instr.entry (a2.eval (.tmp m.it))))) (v:=.tuple #[ce.key,ce.val]) (w':=w2) (by simp [execOp,hm.p1.1]) (by rw [hvit _ a2 w2 hfr3 hfit3];simp [entry_run hhq hhm m4 hce]) ?_)
   have hfr4:=hfr3.put p1.dst (x:=.tup [.p (.int kk kn),e.2]) (v:=.tuple #[ce.key,ce.val]) (.tup _ _ rfl (fun i x y h1 h2=>by
    match i,h1,h2 with
    |0,h1,h2=>cases h1;cases h2;exact re1.mono s1.ext
    |1,h1,h2=>cases h1;cases h2;exact re2.mono s1.ext))
   rw [hm.p1.2.1] at hfr4
   obtain ⟨fr3,hfr3e⟩:∃fr3,fr3=fset (fset fr1 m.tn (.tup [.p (.bool true),.p (.int kk kn),e.2])) m.tb (.p (.bool true)):=⟨_,rfl⟩
   rw [← hfr3e] at hfr4
   have l3:fr3.length=fr.length:=by rw [hfr3e,length_fset,length_fset];exact j4
   refine pure_step (x:=.p (.int kk kn)) (fr:=fset fr3 m.te (.tup [.p (.int kk kn),e.2])) (o:=p2) s2 (by rw [hm.p1.2.1];exact hfr4) rfl hm.p2.2.2 hm.p2.2.1 (by rw [hm.p2.1];rfl)
    (by rw [hm.p2.1];exact withO_iff.2 ⟨_,fg_eq (by omega),withO_iff.2 ⟨_,rfl,rfl⟩⟩) fun a3 hdf3 hfr5=>?_
   refine pure_step (x:=.p (.int kk kn)) (o:=p3) s2 hfr5 rfl hm.p3.2.2 hm.p3.2.1 (by rw [hm.p3.1];rfl)
    (by rw [hm.p3.1];exact withO_iff.2 ⟨_,fg_eq (by rw [length_fset];omega),rfl⟩) fun a4 hdf4 hfr6=>?_
   show (Code.region _ _ _).wp P _ a4 w2
   refine wp_region ?_
   have hr4:List.range (#[q1,q2,q3,q4]:Array Oper).size=[0,1,2,3]:=rfl
   rw [hr4]
   obtain ⟨fr6,hfr6e⟩:∃fr6,fr6=fset (fset (fset fr3 m.te (.tup [.p (.int kk kn),e.2])) m.tk (.p (.int kk kn))) m.t8 (.p (.int kk kn)):=⟨_,rfl⟩
   rw [← hfr6e] at hfr6
   have l6:fr6.length=fr.length:=by rw [hfr6e,length_fset,length_fset,length_fset];exact l3
   have hftD6:fget fr6 m.tD=some (.os bd 1 0 len):=by
    rw [hfr6e,fg_ne htD.2.2.2.2.1,fg_ne htD.2.2.2.1,fg_ne htD.2.2.1,hfr3e,fg_ne htD.2.1,fg_ne htD.1];exact hftD
   have hft8:fget fr6 m.t8=some (.p (.int kk kn)):=by rw [hfr6e];exact fg_eq (by rw [length_fset,length_fset];omega)
   refine pure_step (x:=.os bd 1 0 len) (o:=q1) s2 hfr6 rfl hm.q1.2.2 hm.q1.2.1 (by rw [hm.q1.1];rfl)
    (by rw [hm.q1.1];exact withO_iff.2 ⟨_,hftD6,rfl⟩) fun a5 hdf5 hfr7=>?_
   refine pure_step (x:=.p (.int kk kn)) (o:=q2) s2 hfr7 rfl hm.q2.2.2 hm.q2.2.1 (by rw [hm.q2.1];rfl)
    (by rw [hm.q2.1];exact withO_iff.2 ⟨_,by show fget _ _=_;rw [fg_ne hd1];exact hft8,rfl⟩) fun a6 hdf6 hfr8=>?_
   refine pure_step (x:=.op bd 1 kn.toNat 0) (o:=q3) s2 hfr8 rfl hm.q3.2.2 hm.q3.2.1 (by rw [hm.q3.1];rfl)
    (by
     rw [hm.q3.1]
     refine withO_iff.2 ⟨.os bd 1 0 len,by show fget _ _=_;rw [fg_ne hd2];exact fg_eq (by omega),withO_iff.2 ⟨.p (.int kk kn),fg_eq (by rw [length_fset];omega),?_⟩⟩
     show withO (slElem P m.T) _
     rw [hT]
     exact ⟨hk0,hkl,rfl,by simp [Res.val]⟩) fun a7 hdf7 hfr9=>?_
   -- the store
   obtain ⟨fr9,hfr9e⟩:∃fr9,fr9=fset (fset (fset fr6 m.d1 (.os bd 1 0 len)) m.d2 (.p (.int kk kn))) m.d3 (.op bd 1 kn.toNat 0):=⟨_,rfl⟩
   rw [← hfr9e] at hfr9
   have l9:fr9.length=fr.length:=by rw [hfr9e,length_fset,length_fset,length_fset];exact l6
   have hfd3:fget fr9 m.d3=some (.op bd 1 kn.toNat 0):=by rw [hfr9e];exact fg_eq (by rw [length_fset,length_fset];omega)
   have hilt:kn.toNat<rs1.length:=by rw [j6.1];omega
   obtain ⟨row,hrow⟩:∃row,rs1[kn.toNat]?=some row:=⟨rs1[kn.toNat],by simp [hilt]⟩
   have hrl:row.length=1:=by
    rcases s2.blk bd _ (hAb rs1) with ⟨_,h0⟩|⟨c',o',arr,tt,h1,h2,h3,h4,h5⟩
    ·rw [h0] at hrow;simp at hrow
    ·exact h5.2.1 _ row hrow
   have hst:aStore P (AHs rs1) m.TB (.op bd 1 kn.toNat 0) (.p (.bool true)) (fun r=>r=⟨.p undef,[(bd,some (.rows 1 (rs1.set kn.toNat TT)))],[bd]⟩):=by
    refine withO_iff.2 ⟨_,hTB,?_⟩
    dsimp only
    rw [hAb]
    refine ⟨rfl,rfl,rfl,withO_iff.2 ⟨row,hrow,by rw [hrl];exact Nat.le_refl _,?_⟩⟩
    have:lay row 0 (AV.p (.bool true)).cells=TT:=by
     show row.take 0++[AV.p (.bool true)]++row.drop 1=_
     rw [List.drop_eq_nil_iff.2 (by omega)];simp [TT]
    rw [this]
   obtain ⟨r,w3,hr,hrun3,st3,hh3,-,hkeep⟩:=aStore_wr0 s2 hst (ev_rep (x:=.tmp m.d3) hfr9 hfd3) (ev_rep (x:=.const (.bool true)) (av:=.p (.bool true)) hfr9 rfl)
   subst hr
   refine ops_step (o:=q4) rfl hm.q4.2.2 ?_
   unfold Oper.wp
   have e4:(execOp a7.eval q4).run P w2=.ok .skip w3:=by simp [execOp,hm.q4.1,hrun3]
   rw [e4]
   show (∃n',n' < n∧J n' (a7.put q4.dst undef) w3)
   rw [hm.q4.2.1]
   refine ⟨n-1,?_,s++[j],fr9,rs1.set kn.toNat TT,?_,?_,?_,l9,?_,?_,?_,?_,hfr9.mono st3.ext,?_,(j11.trans s1).trans st3⟩
   ·have:=nodup_len (l:=j::s) (m:=List.range es.length) (List.nodup_cons.2 ⟨hjs,j1⟩) (fun x hx=>by
     cases hx with
     |head=>exact List.mem_range.2 hjl
     |tail _ hx=>exact List.mem_range.2 (j2 x hx))
    simp at this
    omega
   ·rw [List.nodup_append]
    refine ⟨j1,by simp,fun x hx y hy=>?_⟩
    simp at hy;subst hy
    intro e;subst e;exact hjs hx
   ·intro x hx
    simp only [List.mem_append,List.mem_singleton] at hx
    rcases hx with hx|rfl
    ·exact j2 x hx
    ·exact hjl
   ·have:=nodup_len (l:=j::s) (m:=List.range es.length) (List.nodup_cons.2 ⟨hjs,j1⟩) (fun x hx=>by
     cases hx with
     |head=>exact List.mem_range.2 hjl
     |tail _ hx=>exact List.mem_range.2 (j2 x hx))
    simp at this ⊢
    omega
   ·intro t ht
    have ht':=ht
    simp only [MarkT.ts,List.mem_cons,List.not_mem_nil,or_false,not_or] at ht
    rw [hfr9e,fg_ne ht.2.2.2.2.2.2.2,fg_ne ht.2.2.2.2.2.2.1,fg_ne ht.2.2.2.2.2.1,hfr6e,fg_ne ht.2.2.2.2.1,fg_ne ht.2.2.2.1,fg_ne ht.2.2.1,hfr3e,fg_ne ht.2.1,fg_ne ht.1]
    exact j5 t ht'
   ·have:=j6.set he
    rw [hke] at this
    exact this
   ·have e5:upds (AHs rs1) [(bd,some (Blk.rows 1 (rs1.set kn.toNat TT)))]=AHs (rs1.set kn.toNat TT):=by
     show upd (upd (upd ah q none) bd _) bd _=upd (upd ah q none) bd _
     rw [upd_upd]
    rw [← e5];exact hh3
   ·rw [hkeep cq ?_];exact hhq
    intro b ⟨k,hk⟩ hb o ho
    exact hAsep rs1 b k cq o hk ho rfl
   ·show a7.defers=[]
    rw [hdf7,hdf6,hdf5,hdf4,hdf3,put_defers,hdf2,put_defers];exact j10
end
end Go.Fw
end
section
set_option linter.unusedVariables false
set_option linter.unusedSimpArgs false
set_option linter.unusedSectionVars false
namespace Go.Fw
variable [Glob]
set_option linter.unusedSimpArgs false
set_option linter.unusedVariables false
set_option linter.unusedSectionVars false
section
variable {P : Program} {ρ:List AV} {pc:Pc} {N:Nat} {fr:AFr} {ah:AH} {nx:Nat}
def toFr (ρ:List AV)(N:Nat)(tr:Tr Ent):AFr:=(List.range N).map fun t=>(tr.get t).map (Ent.den ρ)
theorem fget_map (f:Nat→Option AV):∀(n s t:Nat),fget ((List.range' s n).map f) t=if t<n then f (s+t) else none
 |0,s,t=>by simp [fget]
 |n+1,s,0=>by simp [List.range'_succ,fget]
 |n+1,s,t+1=>by
  simp only [List.range'_succ,List.map_cons,fget]
  rw [fget_map f n (s+1) t]
  have e:s+1+t=s+(t+1):=by omega
  rw [e]
  by_cases h:t<n
  ·rw [if_pos h,if_pos (by omega)]
  ·rw [if_neg h,if_neg (by omega)]
theorem fget_toFr {tr:Tr Ent}{t:Nat}:fget (toFr ρ N tr) t=if t<N then (tr.get t).map (Ent.den ρ) else none:=by
 unfold toFr
 rw [List.range_eq_range',fget_map]
 simp
theorem AW_canon {c:Code}{Q:AQ}{st:St'}(hs:StW ρ N st fr ah nx)(h:∀fr0 ah0,FrR ρ st.fr fr0→AhR ρ st.ah ah0→fr0.length=N→AW P c fr0 ah0 st.nx Q):AW P c fr ah nx Q:=by
 have hf:FrR ρ st.fr (toFr ρ N st.fr):=by
  intro t e he
  obtain ⟨a,ha,-⟩:=hs.fr t e he
  have:=fget_lt ha
  rw [hs.len] at this
  rw [fget_toFr,if_pos this,he];rfl
 have ha:AhR ρ st.ah (toAh ρ st.ah):=fun b k hk=>by unfold toAh;rw [hk];rfl
 have h':=h _ _ hf ha (by simp [toFr])
 intro base w E a hsim
 refine h' base w E a ⟨⟨fun b k hb=>?_,fun b b' k k' c o c' o' hne h1 h2=>?_,fun b hb=>hsim.heap.fresh b (Nat.le_trans hs.nx hb),hsim.heap.fixlt,hsim.heap.bs,hsim.heap.ownlt⟩,⟨?_,fun i x hx=>?_,hsim.fr.glob⟩,hsim.defers⟩
 ·unfold toAh at hb
  simp only [Option.map_eq_some_iff] at hb
  obtain ⟨k1,hk1,rfl⟩:=hb
  obtain ⟨k0,h0,hw⟩:=hs.ah b k1 hk1
  exact hw _ _ _ _ (hsim.heap.blk b k0 h0)
 ·unfold toAh at h1 h2
  simp only [Option.map_eq_some_iff] at h1 h2
  obtain ⟨k1,hk1,rfl⟩:=h1
  obtain ⟨k2,hk2,rfl⟩:=h2
  obtain ⟨j1,q1,-⟩:=hs.ah b k1 hk1
  obtain ⟨j2,q2,-⟩:=hs.ah b' k2 hk2
  exact hsim.heap.sep b b' j1 j2 c o c' o' hne q1 q2
 ·have:=hsim.fr.size
  rw [hs.len] at this
  simpa [toFr] using this
 ·rw [fget_toFr] at hx
  split at hx
  ·simp only [Option.map_eq_some_iff] at hx
   obtain ⟨e,he,rfl⟩:=hx
   obtain ⟨y,hy,hw⟩:=hs.fr i e he
   obtain ⟨v,hv,hr⟩:=hsim.fr.get i y hy
   exact ⟨v,hv,hw _ _ _ hr⟩
  ·cases hx
theorem StW.of {tr:Tr Ent}{th:Tr SB}{n:Nat}(hf:FrR ρ tr fr)(ha:AhR ρ th ah)(hN:fr.length=N)(hn:nx≤n):StW ρ N ⟨tr,th,n⟩ fr ah nx:=
 ⟨fun t e he=>⟨_,hf t e he,Weak.refl _⟩,fun b k hk=>⟨_,ha b k hk,WeakB.refl _⟩,hN,hn⟩
end
structure FCfg where
 N:Nat
 keep:Kp
 loops:Nat→Option LoopH
structure CRes where
 outs:List Out
 nv:Nat
 sd:List (Pc×Sd)
 aw:List Lo
abbrev AwOk (P:Program)(ρ:List AV)(l:List Lo):Prop:=LoL P l ρ
def sThen (k:Pc→St'→Nat→Option CRes):Pc→List Out→Nat→Option CRes
 |_,[],_=>none
 |pc,[o],nv=>bif isN o.e then k pc o.st nv else some ⟨[o],nv,[],[]⟩
 |pc,o::o'::r,nv=>
  bif isN o.e then
   match k (addPc o.g true pc) o.st nv with
   |none=>none
   |some x=>match sThen k (addPc o.g false pc) (o'::r) x.nv with
    |none=>none
    |some y=>some ⟨guardA o.g x.outs++y.outs,y.nv,x.sd++y.sd,x.aw++y.aw⟩
  else match sThen k (addPc o.g false pc) (o'::r) nv with
   |none=>none
   |some y=>some ⟨o::y.outs,y.nv,y.sd,y.aw⟩
def lvE (id:Nat):Exit→Exit
 | .exit j=>bif Nat.beq j id then .normal else .exit j
 |e=>e
def leave (id:Nat)(l:List Out):List Out:=l.map fun o=>⟨o.g,lvE id o.e,o.st⟩
def sReg (P:Program)(X:Ext')(inl:Inl)(isI:FuncId→Bool)(N:Nat)(pc:Pc)(st:St')(nv:Nat)(ops:Array Oper)(draw:Bool):Option CRes:=
 match (bif draw then
   let M:=masks ops.toList []
   bif edgesOk ops&&slotsOk ops M then sDraw P X inl isI N ops M 0 ops.toList pc [] [] [] ⟨st.fr,st.ah,st.nx⟩ nv else none
  else sSeq P X inl isI N ops ops.toList pc ⟨st.fr,st.ah,st.nx⟩ nv) with
 |none=>none
 |some S=>some ⟨S.outs.map fun x=>⟨x.1,.normal,⟨x.2.tr,x.2.th,x.2.nx⟩⟩,S.nv,S.sd,[]⟩
def sLoop (body:Pc→St'→Nat→Option CRes):Nat→Pc→St'→Nat→Option CRes
 |0,_,_,_=>none
 |m+1,pc,st,nv=>match body pc st nv with
  |none=>none
  |some x=>match sThen (sLoop body m) pc x.outs x.nv with
   |none=>none
   |some y=>some ⟨y.outs,y.nv,x.sd++y.sd,x.aw++y.aw⟩
def hintOf (F:FCfg)(id:Nat):Code→Option (Code×LoopH)
 | .loop c=>match F.loops id with|some h=>some (c,h)|none=>none
 |_=>none
theorem hintOf_eq {F:FCfg}{id:Nat}{b c:Code}{h:LoopH}(e:hintOf F id b=some (c,h)):b=.loop c∧F.loops id=some h:=by
 unfold hintOf at e
 split at e
 ·split at e
  ·rename_i h' hh
   simp only [Option.some.injEq,Prod.mk.injEq] at e
   obtain ⟨rfl,rfl⟩:=e
   exact ⟨rfl,hh⟩
  ·cases e
 ·cases e
def swE (l:Nat):Exit→Exit
 | .normal=>.goto l
 | .goto m=>bif Nat.beq m l then .normal else .goto m
 |e=>e
def swO (l:Nat)(o:List Out):List Out:=o.map fun x=>⟨x.g,swE l x.e,x.st⟩
def gotoOf : List Out→Option Nat
 |[]=>none
 |o::r=>match o.e with | .goto l=>some l|_=>gotoOf r
def sJmp (run:Pc→St'→Nat→Code→Option CRes)(c:Code):Nat→Pc→List Out→Nat→Option CRes
 |0,_,_,_=>none
 |n+1,pc,outs,nv=>match gotoOf outs with
  |none=>some ⟨outs,nv,[],[]⟩
  |some l=>match findLabel c l with
   |none=>none
   |some rest=>match sThen (fun pc st nv=>match run pc st nv rest with
     |none=>none
     |some x=>match sJmp run c n pc x.outs x.nv with
      |none=>none
      |some y=>some ⟨swO l y.outs,y.nv,x.sd++y.sd,x.aw++y.aw⟩) pc (swO l outs) nv with
    |none=>none
    |some y=>match gotoOf (swO l y.outs) with|none=>some ⟨swO l y.outs,y.nv,y.sd,y.aw⟩|some _=>none
structure Cfg where
 X:Ext'
 isI:FuncId→Bool
 inl:Inl
 unr:Nat
def mk1 : List Oper→Option (Nat×Nat×Nat)
 |[o1,o2]=>match o1.guard,o1.dst,o1.op,o2.guard,o2.dst,o2.op with
  |none,some tn,.next (.tmp it) false,none,some tb,.extract (.tmp x) 0=>bif Nat.beq x tn then some (it,tn,tb) else none
  |_,_,_,_,_,_=>none
 |_=>none
def mk2 : List Oper→Option (Nat×Nat×Nat×Nat)
 |[p1,p2,p3]=>match p1.guard,p1.dst,p1.op,p2.guard,p2.dst,p2.op with
  |none,some te,.entry (.tmp it),none,some tk,.extract (.tmp x) 0=>(match p3.guard,p3.dst,p3.op with
   |none,some t8,.assign (.tmp y)=>bif Nat.beq x te&&Nat.beq y tk then some (it,te,tk,t8) else none
   |_,_,_=>none)
  |_,_,_,_,_,_=>none
 |_=>none
def mk3 : List Oper→Option (Nat×Nat×Nat×Nat×Nat×Nat×Nat)
 |[q1,q2,q3,q4]=>match q1.guard,q1.dst,q1.op,q2.guard,q2.dst,q2.op with
  |none,some d1,.move (.tmp tD),none,some d2,.move (.tmp t8)=>(match q3.guard,q3.dst,q3.op,q4.guard,q4.dst,q4.op with
   |none,some d3,.indexAddr T (.tmp x) (.tmp y),none,none,.store TB (.tmp z) (.const (.bool true))=>
    bif Nat.beq x d1&&(Nat.beq y d2&&Nat.beq z d3) then some (tD,d1,t8,d2,d3,T,TB) else none
   |_,_,_,_,_,_=>none)
  |_,_,_,_,_,_=>none
 |_=>none
theorem mk1_ok {l:List Oper}{it tn tb:Nat}(h:mk1 l=some (it,tn,tb)):∃o1 o2,l=[o1,o2]∧(o1.op=.next (.tmp it) false∧o1.dst=some tn∧o1.guard=none)∧(o2.op=.extract (.tmp tn) 0∧o2.dst=some tb∧o2.guard=none):=by
 unfold mk1 at h
 split at h
 ·rename_i o1 o2
  split at h
  ·rename_i tn' it' tb' x e1 e2 e3 e4 e5 e6
   cases hx:Nat.beq x tn'
   ·simp [hx] at h
   ·simp only [hx,cond_true,Option.some.injEq,Prod.mk.injEq] at h
    obtain ⟨rfl,rfl,rfl⟩:=h
    obtain rfl:=Nat.eq_of_beq_eq_true hx
    exact ⟨o1,o2,rfl,⟨e3,e2,e1⟩,⟨e6,e5,e4⟩⟩
  ·cases h
 ·cases h
theorem mk2_ok {l:List Oper}{it te tk t8:Nat}(h:mk2 l=some (it,te,tk,t8)):∃p1 p2 p3,l=[p1,p2,p3]∧(p1.op=.entry (.tmp it)∧p1.dst=some te∧p1.guard=none)∧(p2.op=.extract (.tmp te) 0∧p2.dst=some tk∧p2.guard=none)∧
  (p3.op=.assign (.tmp tk)∧p3.dst=some t8∧p3.guard=none):=by
 unfold mk2 at h
 split at h
 ·rename_i p1 p2 p3
  split at h
  ·rename_i te' it' tk' x e1 e2 e3 e4 e5 e6
   split at h
   ·rename_i t8' y e7 e8 e9
    cases hx:Nat.beq x te'&&Nat.beq y tk'
    ·simp [hx] at h
    ·simp only [hx,cond_true,Option.some.injEq,Prod.mk.injEq] at h
     obtain ⟨rfl,rfl,rfl,rfl⟩:=h
     simp only [Bool.and_eq_true] at hx
     obtain rfl:=Nat.eq_of_beq_eq_true hx.1
     obtain rfl:=Nat.eq_of_beq_eq_true hx.2
     exact ⟨p1,p2,p3,rfl,⟨e3,e2,e1⟩,⟨e6,e5,e4⟩,⟨e9,e8,e7⟩⟩
   ·cases h
  ·cases h
 ·cases h
theorem mk3_ok {l:List Oper}{tD d1 t8 d2 d3 T TB:Nat}(h:mk3 l=some (tD,d1,t8,d2,d3,T,TB)):∃q1 q2 q3 q4,l=[q1,q2,q3,q4]∧(q1.op=.move (.tmp tD)∧q1.dst=some d1∧q1.guard=none)∧(q2.op=.move (.tmp t8)∧q2.dst=some d2∧q2.guard=none)∧
  (q3.op=.indexAddr T (.tmp d1) (.tmp d2)∧q3.dst=some d3∧q3.guard=none)∧(q4.op=.store TB (.tmp d3) (.const (.bool true))∧q4.dst=none∧q4.guard=none):=by
 unfold mk3 at h
 split at h
 ·rename_i q1 q2 q3 q4
  split at h
  ·rename_i d1' tD' d2' t8' e1 e2 e3 e4 e5 e6
   split at h
   ·rename_i d3' T' x y TB' z e7 e8 e9 e10 e11 e12
    cases hx:Nat.beq x d1'&&(Nat.beq y d2'&&Nat.beq z d3')
    ·simp [hx] at h
    ·simp only [hx,cond_true,Option.some.injEq,Prod.mk.injEq] at h
     obtain ⟨rfl,rfl,rfl,rfl,rfl,rfl,rfl⟩:=h
     simp only [Bool.and_eq_true] at hx
     obtain rfl:=Nat.eq_of_beq_eq_true hx.1
     obtain rfl:=Nat.eq_of_beq_eq_true hx.2.1
     obtain rfl:=Nat.eq_of_beq_eq_true hx.2.2
     exact ⟨q1,q2,q3,q4,rfl,⟨e3,e2,e1⟩,⟨e6,e5,e4⟩,⟨e9,e8,e7⟩,⟨e12,e11,e10⟩⟩
   ·cases h
  ·cases h
 ·cases h
def markCode (id:Nat):Code→Option MarkT
 | .loop (.seq (.region _ r1 false) (.seq (.cond (.tmp tb) .skip (.exit i)) (.block _ (.seq (.region _ r2 false) (.region _ r3 false)))))=>
  bif Nat.beq i id then (match mk1 r1.toList,mk2 r2.toList,mk3 r3.toList with
   |some (it,tn,tb'),some (it',te,tk,t8),some (tD,d1,t8',d2,d3,T,TB)=>
    bif Nat.beq tb tb'&&(Nat.beq it it'&&Nat.beq t8 t8') then some ⟨it,tn,tb,te,tk,t8,tD,d1,d2,d3,T,TB⟩ else none
   |_,_,_=>none) else none
 |_=>none
theorem markCode_ok {id:Nat}{b:Code}{m:MarkT}(h:markCode id b=some m):∃r1 r2 r3 id5 o1 o2 p1 p2 p3 q1 q2 q3 q4,MarkO m o1 o2 p1 p2 p3 q1 q2 q3 q4∧
  b=.loop (.seq (.region r1 #[o1,o2] false) (.seq (.cond (.tmp m.tb) .skip (.exit id)) (.block id5 (.seq (.region r2 #[p1,p2,p3] false) (.region r3 #[q1,q2,q3,q4] false))))):=by
 unfold markCode at h
 split at h
 ·rename_i r1 a1 tb i id5 r2 a2 r3 a3
  cases hi:Nat.beq i id
  ·simp [hi] at h
  ·simp only [hi,cond_true] at h
   obtain rfl:=Nat.eq_of_beq_eq_true hi
   split at h
   ·rename_i it tn tb' it' te tk t8 tD d1 t8' d2 d3 T TB h1 h2 h3
    cases hx:Nat.beq tb tb'&&(Nat.beq it it'&&Nat.beq t8 t8')
    ·simp [hx] at h
    ·simp only [hx,cond_true,Option.some.injEq] at h
     subst h
     simp only [Bool.and_eq_true] at hx
     obtain rfl:=Nat.eq_of_beq_eq_true hx.1
     obtain rfl:=Nat.eq_of_beq_eq_true hx.2.1
     obtain rfl:=Nat.eq_of_beq_eq_true hx.2.2
     obtain ⟨o1,o2,k1,k2,k3⟩:=mk1_ok h1
     obtain ⟨p1,p2,p3,k4,k5,k6,k7⟩:=mk2_ok h2
     obtain ⟨q1,q2,q3,q4,k8,k9,k10,k11,k12⟩:=mk3_ok h3
     have e1:a1=#[o1,o2]:=Array.ext' k1
     have e2:a2=#[p1,p2,p3]:=Array.ext' k4
     have e3:a3=#[q1,q2,q3,q4]:=Array.ext' k8
     subst e1 e2 e3
     exact ⟨r1,r2,r3,id5,o1,o2,p1,p2,p3,q1,q2,q3,q4,⟨k2,k3,k5,k6,k7,k9,k10,k11,k12⟩,rfl⟩
   ·cases h
 ·cases h
def dropTs (tr:Tr Ent):List Nat→Tr Ent
 |[]=>tr
 |t::r=>(dropTs tr r).upd fuelT t none
theorem dropTs_get {tr:Tr Ent}:∀{l:List Nat} {t:Nat} {e:Ent},(dropTs tr l).get t=some e→t∉l∧tr.get t=some e
 |[],t,e,h=>⟨by simp,h⟩
 |s::r,t,e,h=>by
  simp only [dropTs] at h
  rcases Tr.get_upd _ _ _ _ _ _ h with ⟨_,h1⟩|⟨hne,h1⟩
  ·cases h1
  ·obtain ⟨h2,h3⟩:=dropTs_get h1
   exact ⟨by simp [hne,h2],h3⟩
def sMarkV (P:Program)(N:Nat)(pc:Pc)(st:St')(nv:Nat)(m:MarkT):Option CRes:=
 match evS pc st.fr (.tmp m.it),evS pc st.fr (.tmp m.tD) with
 |some (.op q _ (.li 0) 0),some (.os bd 1 0 len)=>(match st.ah.get q,st.ah.get bd with
  |some (.it mb n 0),some (.rowsT 1 d)=>(match st.ah.get mb with
   |some (.mapT mk t)=>
    bif n.beq (.rlen t)&&((m.ts.all fun x=>Nat.blt x N)&&(!m.ts.contains m.it&&(!m.ts.contains m.tD&&(!Nat.beq m.t8 m.d1&&(!Nat.beq m.d1 m.d2&&(!Nat.beq q mb&&(!Nat.beq q bd&&!Nat.beq mb bd))))))) then
     (match slElem P m.T,tyOf P m.TB with
     |some (1,_),some (false,1)=>some ⟨[⟨.lb true,.normal,⟨dropTs st.fr m.ts,(st.ah.upd fuelT q none).upd fuelT bd (some (.rowsT 1 (.var nv []))),st.nx⟩⟩],nv+1,[(pc,.s (.mark mk t d len (.var nv [])))],[]⟩
     |_,_=>none) else none
   |_=>none)
  |_,_=>none)
 |_,_=>none
def sMark (P:Program)(N:Nat)(pc:Pc)(st:St')(nv:Nat)(id:Nat)(b:Code):Option CRes:=
 match markCode id b with
 |none=>none
 |some m=>sMarkV P N pc st nv m
def sCode (P:Program)(G:Cfg)(F:FCfg):Nat→Pc→St'→Nat→Code→Option CRes
 |0,_,_,_,_=>none
 |n+1,pc,st,nv,c=>
  match c with
  | .skip=>some ⟨[⟨.lb true,.normal,st⟩],nv,[],[]⟩
  | .exit id=>some ⟨[⟨.lb true,.exit id,st⟩],nv,[],[]⟩
  | .ret=>some ⟨[⟨.lb true,.ret,st⟩],nv,[],[]⟩
  | .region _ ops draw=>sReg P G.X G.inl G.isI F.N pc st nv ops draw
  | .seq a b=>match sCode P G F n pc st nv a with
   |none=>none
   |some x=>match sThen (fun pc st nv=>sCode P G F n pc st nv b) pc x.outs x.nv with
    |none=>none
    |some y=>some ⟨mrgO F.keep y.outs,y.nv,x.sd++y.sd,x.aw++y.aw⟩
  | .cond c a b=>match evS pc st.fr c with
   |some (.sc .bool t)=>match pc.known t with
    |some true=>sCode P G F n pc st nv a
    |some false=>sCode P G F n pc st nv b
    |none=>match sCode P G F n (addPc t true pc) st nv a with
     |none=>none
     |some x=>match sCode P G F n (addPc t false pc) st x.nv b with
      |none=>none
      |some y=>some ⟨mrgO F.keep (twoWays t x.outs y.outs),y.nv,x.sd++y.sd,x.aw++y.aw⟩
   |_=>none
  | .block id b=>match hintOf F id b with
   |some (c,h)=>
    let cs:=st.cutH h
    match fitS pc nv st.nx h.ins h.p cs st with
    |none=>none
    |some ent=>match sCode P G F n (pc.old nv) (tmpl h.p nv cs) (nv+h.p.m) c with
     |none=>none
     |some x=>match clsO h id nv st.nx cs (pc.old nv) x.outs,h.xs with
      |some outs,_::_=>some ⟨xOuts cs nv 0 (posOf nv (h.xs.map fun y=>y.2.m) 0) h.xs,posOf nv (h.xs.map fun y=>y.2.m) h.xs.length,(fitSdP st h.p).map fun s=>(pc,.s s),[.mk pc nv h.p.m ent outs (exS x.sd++clsSd h id (pc.old nv) x.outs) (srtLo (x.aw++exL x.sd)) (h.xs.map fun y=>y.2.m) (bnOf st h.ins)]⟩
      |_,_=>none
   |none=>match sMark P F.N pc st nv id b with
    |some x=>some x
    |none=>match sCode P G F n pc st nv b with
     |none=>none
     |some x=>some ⟨mrgO F.keep (leave id x.outs),x.nv,x.sd,x.aw⟩
  | .label _=>some ⟨[⟨.lb true,.normal,st⟩],nv,[],[]⟩
  | .goto l=>some ⟨[⟨.lb true,.goto l,st⟩],nv,[],[]⟩
  | .scope b=>match sCode P G F n pc st nv b with
   |none=>none
   |some x=>match sJmp (fun pc st nv c=>sCode P G F n pc st nv c) b 60 pc x.outs x.nv with
    |none=>none
    |some y=>some ⟨mrgO F.keep y.outs,y.nv,x.sd++y.sd,x.aw++y.aw⟩
  | .loop b=>sLoop (fun pc st nv=>sCode P G F n pc st nv b) G.unr pc st nv
  |_=>none
end Go.Fw
end
section
set_option linter.unusedVariables false
set_option linter.unusedSimpArgs false
set_option linter.unusedSectionVars false
namespace Go.Fw
variable [Glob]
set_option linter.unusedSimpArgs false
set_option linter.unusedVariables false
set_option linter.unusedSectionVars false
section
variable {ρ σ:List AV} {N:Nat}
theorem fitC_fr {base nE:Nat}{ins:List Nat}{p:Pats}{c sta:St'}(h:fitC base nE ins p c sta=true){t:Nat}{e:Ent}(ht:t∈ins)(hp:∀q,(t,q)∉p.fr)(he:c.fr.get t=some e):e.lt base=true∧(∀b∈e.v.rfs,b<nE)∧sta.fr.get t=some e:=by
 unfold fitC at h
 simp only [Bool.and_eq_true,List.all_eq_true] at h
 have:=h.1 t ht
 rw [he] at this
 simp only [Bool.or_eq_true,List.any_eq_true,Bool.and_eq_true] at this
 rcases this with ⟨x,hx,hxt⟩|⟨h1,h2,h3⟩
 ·have:=Nat.eq_of_beq_eq_true hxt
  subst this
  exact absurd hx (hp x.2)
 ·refine ⟨h1,below_lt h2,?_⟩
  split at h3
  ·rename_i e' he';rw [he',Ent.beq_eq h3]
  ·cases h3
theorem fitC_bl {base nE:Nat}{ins:List Nat}{p:Pats}{c sta:St'}(h:fitC base nE ins p c sta=true){b:Nat}{k:SB}(hb:b<nE)(h1:∀ks,(b,ks)∉p.bl)(h2:∀sz,(b,sz)∉p.tb)(h3:∀o,(b,o)∉p.ob)(hk:c.ah.get b=some k):k.lt base=true∧(∀b∈k.rfs,b<nE)∧sta.ah.get b=some k:=by
 unfold fitC at h
 simp only [Bool.and_eq_true,List.all_eq_true] at h
 have:=h.2 b (List.mem_range.2 hb)
 rw [hk] at this
 simp only [Bool.or_eq_true,List.any_eq_true,Bool.and_eq_true] at this
 rcases this with (⟨x,hx,hxt⟩|⟨x,hx,hxt⟩|⟨x,hx,hxt⟩)|⟨q1,q2,q3⟩
 ·have:=Nat.eq_of_beq_eq_true hxt;subst this;exact absurd hx (h1 x.2)
 ·have:=Nat.eq_of_beq_eq_true hxt;subst this;exact absurd hx (h2 x.2)
 ·have:=Nat.eq_of_beq_eq_true hxt;subst this;exact absurd hx (h3 x.2)
 ·refine ⟨q1,below_lt q2,?_⟩
  split at q3
  ·rename_i k' hk';rw [hk',SB.beq_eq q3]
  ·cases q3
def envOf (E:Env)(nE:Nat)(srcs:List (Nat×Src)):Env:=⟨E.fix,fun b=>if b<nE then E.own b else ownOf E srcs b⟩
theorem rowsIn_own {w:World}{E E':Env}(hf:∀c o,E.fix c o→E'.fix c o){arr:Array Value}{o sz:Nat}{rs:List (List AV)}(h:RowsIn w E arr o sz rs)(hr:∀b∈refsLL rs,E'.own b=E.own b):RowsIn w E' arr o sz rs:=by
 obtain ⟨h1,h2,h3,h4⟩:=h
 refine ⟨h1,h2,h3,fun i row j x hi hj=>?_⟩
 obtain ⟨v,hv,hx⟩:=h4 i row j x hi hj
 exact ⟨v,hv,rep_own hf hx (fun b hb=>hr b (refsLL_get i row hi (refsL_get j x hj hb)))⟩
theorem blkOk_own {base:Nat}{w:World}{E E':Env}(hf:E'.fix=E.fix){b b':Nat}{sz:Nat}{rs:List (List AV)}(h:BlkOk base w E b (.rows sz rs))(hb:E'.own b'=E.own b)(hr:∀x∈refsLL rs,E'.own x=E.own x):BlkOk base w E' b' (.rows sz rs):=by
 rcases h with ⟨h1,h2⟩|⟨c,o,arr,ty,h1,h2,h3,h4,h5⟩
 ·exact .inl ⟨by rw [hb,h1],h2⟩
 ·exact .inr ⟨c,o,arr,ty,by rw [hb,h1],h2,by rw [hf];exact h3,h4,rowsIn_own (by rw [hf];exact fun _ _ h=>h) h5 hr⟩
theorem vals_at {f:List (SV×Src)}{b t:List SV}{i:Nat}{x:SV}{s:Src}(h:f[i]?=some (x,s)):(f.map (·.1)++(b++t))[i]?=some x:=by
 have hlt:=(List.getElem?_eq_some_iff.1 h).1
 rw [List.getElem?_append_left (by simpa using hlt)]
 simp [h]
theorem vals_bt {f:List (SV×Src)}{b t:List SV}{i:Nat}{x:SV}(h:b[i]?=some x):(f.map (·.1)++(b++t))[f.length+i]?=some x:=by
 have hlt:=(List.getElem?_eq_some_iff.1 h).1
 rw [List.getElem?_append_right (by simp)]
 simp only [List.length_map,Nat.add_sub_cancel_left]
 rw [List.getElem?_append_left hlt]
 exact h
theorem vals_tt {f:List (SV×Src)}{b t:List SV}{i:Nat}{x:SV}(h:t[i]?=some x):(f.map (·.1)++(b++t))[f.length+(b.length+i)]?=some x:=by
 rw [List.getElem?_append_right (by simp)]
 simp only [List.length_map,Nat.add_sub_cancel_left]
 rw [List.getElem?_append_right (by simp)]
 simp only [Nat.add_sub_cancel_left]
 exact h
theorem vals_to {f:List (SV×Src)}{b t:List SV}{g:List (SV×Src)}{i:Nat}{x:SV}{s:Src}(h:g[i]?=some (x,s)):(f.map (·.1)++(b++(t++g.map (·.1))))[f.length+(b.length+(t.length+i))]?=some x:=by
 have hlt:=(List.getElem?_eq_some_iff.1 h).1
 rw [List.getElem?_append_right (by simp)]
 simp only [List.length_map,Nat.add_sub_cancel_left]
 rw [List.getElem?_append_right (by simp)]
 simp only [Nat.add_sub_cancel_left]
 rw [List.getElem?_append_right (by simp)]
 simp [h]
theorem blkOk_row {base:Nat}{w:World}{E E':Env}(hf:E'.fix=E.fix){b n:Nat}{r1 r2:List AV}(h:BlkOk base w E b (.rows n [r1]))(hb:E'.own b=E.own b)(hl:r2.length=r1.length)(hs:∀x∈r2,x.scal=true)
  (hr:∀(j:Nat) (x1 x2:AV) (v:Value),r1[j]?=some x1→r2[j]?=some x2→Rep w E x1 v→Rep w E' x2 v):BlkOk base w E' b (.rows n [r2]):=by
 rcases h with ⟨h1,h2⟩|⟨c,o,arr,ty,h1,h2,h3,h4,h5,h6,h7,h8⟩
 ·cases h2
 ·refine .inr ⟨c,o,arr,ty,by rw [hb,h1],h2,by rw [hf];exact h3,h4,by simpa using h5,fun i row hi=>?_,fun row hrow=>?_,fun i row j x hi hj=>?_⟩
  ·cases i with
   |zero=>simp at hi;subst hi;rw [hl];exact h6 0 r1 rfl
   |succ i=>simp at hi
  ·simp at hrow;subst hrow;exact hs
  ·cases i with
   |succ i=>simp at hi
   |zero=>
    simp at hi;subst hi
    have hj1:j<r1.length:=by rw [← hl];exact (List.getElem?_eq_some_iff.1 hj).1
    obtain ⟨v,q1,q2⟩:=h8 0 r1 j r1[j] rfl (List.getElem?_eq_getElem hj1)
    exact ⟨v,q1,hr j _ _ v (List.getElem?_eq_getElem hj1) hj q2⟩
theorem osRep {P:Program}{ρ σ:List AV}{w:World}{E E':Env}{sta:St'}{v x:SV}{s:Src}{b sz:Nat}{val:Value}{tm:Tm}
  (h5:(v=.nil∧x=.sc .sl .nl∧s=.empty)∨(∃b' off l k,v=.os b' sz off l∧sta.ah.get b'=some k∧(offW k off l=true∧∀s∈offSd k off l,s.holds P ρ)∧rowsOff sz k off=some x∧s=.at b' (off*sz)))
  (ho:E'.own b=srcOwn E s) (hr0:Rep w E (v.den ρ) val) (htm:(tm.den σ).R=(x.den ρ).D.R):Rep w E' (.os b sz 0 ((Tm.den σ (.rlen tm)).I.toNat)) val:=by
 have e9:(Tm.den σ (.rlen tm)).I.toNat=(x.den ρ).D.R.length:=by
  simp only [Tm.den,lLen,D.I,htm];simp
 rw [e9]
 rcases h5 with ⟨hev,rfl,rfl⟩|⟨b',off,l,k,hev,hk,hl,hrw,rfl⟩
 ·rw [hev] at hr0
  have:∃a1,val=.slice a1 0 0:=by
   cases hr0 with
   |slnil full a1=>exact ⟨a1,rfl⟩
   |sl _ _ _ _ _ cap _ _ hfull=>have:=hfull rfl;subst this;exact ⟨_,rfl⟩
  obtain ⟨a1,rfl⟩:=this
  exact .osnil b sz 0 a1 (by rw [ho];simp [srcOwn])
 ·obtain ⟨rs,R,d1,d2,d3,d4⟩:=rowsOff_den (ρ:=ρ) hrw
  obtain ⟨hle,hlen⟩:=offW_den hl.1 hl.2 d1
  have e8:(x.den ρ).D.R.length=(l.den ρ).I.toNat:=by
   rw [hlen,d2]
   show R.length=_
   rw [← d4];simp
  rw [e8]
  rw [hev] at hr0
  simp only [SV.den] at hr0
  simp only [srcOwn] at ho
  generalize (l.den ρ).I.toNat=len at hr0 ⊢
  cases hr0 with
  |osnil _ _ _ a1 hb1=>exact .osnil b sz 0 a1 (by rw [ho];cases hq:E.own b'<;>simp_all [Own.shift])
  |os _ _ _ _ c o cap hb1 hcap hsize=>
   have:=Rep.os (w:=w) (E:=E') b sz 0 len c (o+off*sz) cap (by rw [ho,hb1];rfl) hcap (by
    obtain ⟨arr,ty,fz,q1,q2⟩:=hsize
    refine ⟨arr,ty,fz,q1,?_⟩
    rw [Nat.zero_add]
    rw [Nat.add_mul] at q2
    omega)
   simpa using this
theorem rfsL_flat : ∀{l:List SV},rfsL l=l.flatMap SV.rfs
 |[]=>rfl
 |x::r=>by rw [rfsL,rfsL_flat (l:=r)];rfl
theorem nrmL_scal {ρ:List AV}:∀{l:List SV},(∀z∈denL ρ l,z.scal=true)→∀y∈denL ρ (nrmL l),y.scal=true
 |[],_,y,hy=>by simp [nrmL,denL] at hy
 |x::r,h,y,hy=>by
  simp only [nrmL,denL] at hy
  cases hy with
  |head=>rw [nrm_scal];exact h _ (by simp [denL])
  |tail _ hy=>exact nrmL_scal (l:=r) (fun z hz=>h z (by simp [denL,hz])) y hy
theorem nrmL_cell {ρ:List AV}:∀{l:List SV} {m:Nat} {x1 x2:AV},(denL ρ l)[m]?=some x1→(denL ρ (nrmL l))[m]?=some x2→∃y∈nrmL l,x2=y.den ρ∧Weak x1 x2
 |y::r,0,x1,x2,h1,h2=>by
  simp only [denL,nrmL,List.getElem?_cons_zero,Option.some.injEq] at h1 h2
  subst h1 h2
  exact ⟨y.nrm,by simp [nrmL],rfl,nrm_weak⟩
 |y::r,m+1,x1,x2,h1,h2=>by
  simp only [denL,nrmL,List.getElem?_cons_succ] at h1 h2
  obtain ⟨z,q1,q2,q3⟩:=nrmL_cell h1 h2
  exact ⟨z,by simp [nrmL,q1],q2,q3⟩
 |[],m,x1,x2,h1,h2=>by simp [denL] at h1
theorem osBlk {P:Program}{ρ:List AV}{bs:Nat}{w:World}{E E':Env}{sta:St'}{v x:SV}{s:Src}{b sz:Nat}{SR:List (Nat×Src)}{Z:Prop}(hfix:E'.fix=E.fix)(hρ:fzL ρ=true)(blk:∀{b:Nat} {k:SB},sta.ah.get b=some k→BlkOk bs w E b (k.den ρ))
  (h5:(v=.nil∧x=.sc .sl .nl∧s=.empty)∨(∃b' off l k,v=.os b' sz off l∧sta.ah.get b'=some k∧(offW k off l=true∧∀s∈offSd k off l,s.holds P ρ)∧rowsOff sz k off=some x∧s=.at b' (off*sz)))
  (ho:E'.own b=srcOwn E s) (hri:x.rfs=[]) (hm:(b,s)∈SR):BlkOk bs w E' b (.rows sz (x.den ρ).D.R)∧(Z∨(∃s,(b,s)∈SR∧∀b' d,s=.at b' d→∃k',sta.ah.get b'=some k')):=by
 rcases h5 with ⟨hev,rfl,rfl⟩|⟨b',off,l,k,hev,hk',hl,hrw,rfl⟩
 ·exact ⟨.inl ⟨ho,rfl⟩,.inr ⟨_,hm,fun b' d h=>by cases h⟩⟩
 ·obtain ⟨rs,R,d1,d2,d3,d4⟩:=rowsOff_den (ρ:=ρ) hrw
  obtain ⟨hle,-⟩:=offW_den hl.1 hl.2 d1
  have hb1:=blk hk'
  rw [d1] at hb1
  refine ⟨?_,.inr ⟨_,hm,fun b2 d h=>by cases h;exact ⟨k,hk'⟩⟩⟩
  have hrf:(x.den ρ).refs=[]:=by rw [rfs_den hρ,hri]
  rw [d2] at hrf ⊢
  simp only [AV.refs] at hrf
  rcases hb1 with ⟨h1,h2⟩|⟨c,o,arr,ty,h1,h2,h3,h4,h5,h6,h7,h8⟩
  ·subst h2
   have:R=[]:=List.length_eq_zero_iff.1 (by rw [← d4];simp)
   exact .inl ⟨by rw [ho];simp [srcOwn,h1,Own.shift],this⟩
  ·have hd:RowsIn w E arr (o+off*sz) sz (rs.drop off):=by
    refine ⟨?_,fun i row hi=>?_,fun row hrow=>h7 row (List.mem_of_mem_drop hrow),fun i row j x hi hj=>?_⟩
    ·have e:rs.length=off+(rs.drop off).length:=by simp;omega
     rw [e,Nat.add_mul] at h5
     omega
    ·rw [List.getElem?_drop] at hi;exact h6 _ row hi
    ·rw [List.getElem?_drop] at hi
     obtain ⟨v,q1,q2⟩:=h8 _ row j x hi hj
     refine ⟨v,?_,q2⟩
     rw [← q1,Nat.add_mul]
     congr 1;omega
   exact .inr ⟨c,o+off*sz,arr,ty,by rw [ho];simp [srcOwn,h1,Own.shift],h2,by rw [hfix];exact h3,h4,rowsIn_own (by rw [hfix];exact fun _ _ h=>h) (hd.weak d3) (fun y hy=>by
    simp only [AV.D,D.R] at hy
    rw [hrf] at hy;cases hy)⟩
theorem refsL_nil : ∀{l:List AV},(∀x∈l,x.refs=[])→refsL l=[]
 |[],_=>rfl
 |x::r,h=>by rw [refsL,h x (by simp),refsL_nil fun y hy=>h y (by simp [hy])];rfl
theorem refsL_nil_mem : ∀{l:List AV},refsL l=[]→∀x∈l,x.refs=[]
 |y::r,h,x,hx=>by
  rw [refsL,List.append_eq_nil_iff] at h
  cases hx with
  |head=>exact h.1
  |tail _ hx=>exact refsL_nil_mem h.2 x hx
theorem refsLL_nil_mem : ∀{l:List (List AV)},refsLL l=[]→∀x∈l,refsL x=[]
 |y::r,h,x,hx=>by
  rw [refsLL,List.append_eq_nil_iff] at h
  cases hx with
  |head=>exact h.1
  |tail _ hx=>exact refsLL_nil_mem h.2 x hx
theorem packs_refs {a:Bool}{f:List AV→List AV}(hf:∀row,∀x∈f row,x∈row){l:List (List AV)}(h:refsLL l=[]):refsL (l.map fun row=>packA a (f row))=[]:=by
 refine refsL_nil fun x hx=>?_
 obtain ⟨row,hr,rfl⟩:=List.mem_map.1 hx
 have hrow:=refsLL_nil_mem h row hr
 have hfr:∀y∈f row,y.refs=[]:=fun y hy=>refsL_nil_mem hrow y (hf row y hy)
 cases a with
 |true=>exact refsL_nil hfr
 |false=>
  show (match f row with|x::_=>x | []=>undefA).refs=[]
  generalize hg:f row=q at hfr
  cases q with
  |nil=>rfl
  |cons x r=>exact hfr x (by simp)
theorem transfer {P:Program}{pc:Pc}{base nE j:Nat}{ins:List Nat}{p:Pats}{cs sta:St'}{vals:List SV}(hρ:fzL ρ=true)(hag:AgreeV base ρ σ)(hfit:fitS pc base nE ins p cs sta=some vals)
  (hcf:∀t e,cs.fr.get t=some e→t∈ins) (hcb:∀b k,cs.ah.get b=some k→b<nE) (hcm:∀b k,cs.ah.get b=some k→∃sz rs,k.den ρ=.rows sz rs∧refsLL rs=k.rfs) (hp:pc.holds ρ) (hsd:∀s∈fitSdP sta p,s.holds P ρ)
  (hv:∀(i:Nat) (v:SV),vals[i]?=some v→σ.getD (j+i) undefA=v.den ρ) {bs:Nat} {w:World} {E:Env} {fr:AFr} {ah:AH} {nx:Nat} {a:Act} (hst:StW ρ N sta fr ah nx) (hsim:Sim bs w E fr ah nx a) :
  ∃E' fr' ah',StW σ N (tmpl p j cs) fr' ah' p.nx∧Sim bs w E' fr' ah' p.nx a∧E'.fix=E.fix∧(∀b,b<nE→E'.own b=E.own b)∧∀b c o,E'.own b=.at c o→∃b' o',E.own b'=.at c o':=by
 unfold fitS at hfit
 split at hfit
 rotate_left
 ·cases hfit
 rename_i f fb ft fo hf hb ht hoo
 dsimp only at hfit
 cases hc:(fitC base nE ins p cs sta&&(srcOk nE p.nx p cs (srcsOf p.fr f++srcsOb p.ob fo)&&(noRefs (f.map (·.1)++(fb++(ft++fo.map (·.1))))&&(Nat.ble nE p.nx&&(below nE (p.bl.map (·.1))&&(below nE (p.tb.map (·.1))&&below nE (p.ob.map (·.1))))))))
 ·simp [hc] at hfit
 simp only [hc,cond_true,Option.some.injEq] at hfit
 subst hfit
 simp only [Bool.and_eq_true] at hc
 obtain ⟨hC,hS,hR,hN,hbl,htb,hob⟩:=hc
 obtain ⟨SR,hSR⟩:∃SR,SR=srcsOf p.fr f++srcsOb p.ob fo:=⟨_,rfl⟩
 rw [← hSR] at hS
 have inF:∀{b:Nat} {s:Src},(b,s)∈srcsOf p.fr f→(b,s)∈SR:=fun h=>by rw [hSR];exact List.mem_append_left _ h
 have inO:∀{b:Nat} {s:Src},(b,s)∈srcsOb p.ob fo→(b,s)∈SR:=fun h=>by rw [hSR];exact List.mem_append_right _ h
 have hsdF:∀s∈fitSd sta p.fr,s.holds P ρ:=fun s h=>hsd s (List.mem_append_left _ h)
 have hsdO:∀s∈obSd sta p.ob,s.holds P ρ:=fun s h=>hsd s (List.mem_append_right _ h)
 have hN:=Nat.le_of_ble_eq_true hN
 obtain ⟨fl,fget'⟩:=fitFr_get hf
 obtain ⟨bl,bget'⟩:=fitBl_get hb
 obtain ⟨tl,tget'⟩:=fitTb_get ht
 obtain ⟨ol,oget'⟩:=fitOb_get hoo
 let E':=envOf E nE SR
 have hfix:E'.fix=E.fix:=rfl
 have hfx:∀c o,E.fix c o→E'.fix c o:=fun _ _ h=>h
 have hown:∀b,b<nE→E'.own b=E.own b:=fun b hb=>by show (if b<nE then _ else _)=_;rw [if_pos hb]
 have hownB:∀{b:Nat} {s:Src},(b,s)∈SR→E'.own b=srcOwn E s:=fun {b s} hm=>by
  obtain ⟨q1,q2,-,-⟩:=ownOf_mem (E:=E) hS hm
  show (if b<nE then _ else ownOf E _ b)=_
  rw [if_neg (by omega),q1]
 have blk:∀{b:Nat} {k:SB},sta.ah.get b=some k→BlkOk bs w E b (k.den ρ):=fun {b k} hk=>by
  obtain ⟨k0,h0,hw⟩:=hst.ah b k hk
  exact hw _ _ _ _ (hsim.heap.blk b k0 h0)
 -- an owned slice
 have osI:∀{i t b sz:Nat},p.fr[i]?=some (t,.os b sz)→∃e x s,sta.fr.get t=some e∧e.sure pc=true∧(b,s)∈SR∧σ.getD (j+i) undefA=x.den ρ∧
   ((e.v=.nil∧x=.sc .sl .nl∧s=.empty)∨(∃b' off l k,e.v=.os b' sz off l∧sta.ah.get b'=some k∧(offW k off l=true∧∀s∈offSd k off l,s.holds P ρ)∧rowsOff sz k off=some x∧s=.at b' (off*sz))):=by
  intro i t b sz hi
  obtain ⟨e,x,s,q1,q2,q3,q4⟩:=fget' i t _ hi
  refine ⟨e,x,s,q1,q2,inF (srcsOf_mem hi q4),hv i x (vals_at q4),?_⟩
  simp only [fitV] at q3
  split at q3
  ·rename_i hev
   simp only [Option.some.injEq,Prod.mk.injEq] at q3
   exact .inl ⟨hev,q3.1.symm,q3.2.symm⟩
  ·rename_i b' sz' off l hev
   split at q3
   ·rename_i k hk
    cases hcc:(Nat.beq sz sz'&&offW k off l)
    ·simp [hcc] at q3
    ·simp only [hcc,cond_true] at q3
     simp only [Bool.and_eq_true] at hcc
     have e1:=Nat.eq_of_beq_eq_true hcc.1
     subst e1
     split at q3
     ·rename_i r hr
      simp only [Option.some.injEq,Prod.mk.injEq] at q3
      obtain ⟨rfl,rfl⟩:=q3
      exact .inr ⟨b',off,l,k,hev,hk,⟨hcc.2,fitSd_mem hsdF hi q1 hev hk⟩,hr,rfl⟩
     ·cases q3
   ·cases q3
  ·cases q3
 -- a block that holds an owned slice
 have obI:∀{i b:Nat} {o:Ob},p.ob[i]?=some (b,o)→∃(u:List SV) (v:SV) (q:List SV) (x:SV) (s:Src),sta.ah.get b=some (.rows o.n [u++v::q])∧kdsOk o.pre u=true∧kdsOk o.post q=true∧(o.b,s)∈SR∧
   σ.getD (j+(p.fr.length+(p.bl.length+p.tb.length))+i) undefA=.agg (denL ρ (nrmL u)++x.den ρ::denL ρ (nrmL q))∧(nrmL u++x::nrmL q).flatMap SV.rfs=[]∧
   ((v=.nil∧x=.sc .sl .nl∧s=.empty)∨(∃b' off l k,v=.os b' o.sz off l∧sta.ah.get b'=some k∧(offW k off l=true∧∀s∈offSd k off l,s.holds P ρ)∧rowsOff o.sz k off=some x∧s=.at b' (off*o.sz))):=by
  intro i b o hi
  obtain ⟨u,v,q,x,s,q1,qv,q2,q3,q4,q5⟩:=oget' i b o hi
  have hval:=hv _ _ (vals_to (f:=f) (b:=fb) (t:=ft) q5)
  have hri:=noRefs_get hR (vals_to (f:=f) (b:=fb) (t:=ft) q5)
  refine ⟨u,v,q,x,s,q1,q2,q3,inO (srcsOb_mem hi q5),?_,?_,?_⟩
  ·rw [← fl,← bl,← tl,Nat.add_assoc,Nat.add_assoc,Nat.add_assoc,hval]
   simp only [SV.den,denL_append,denL]
  ·simp only [SV.rfs] at hri
   rw [rfsL_flat] at hri;exact hri
  ·simp only [fitV] at q4
   split at q4
   ·simp only [Option.some.injEq,Prod.mk.injEq] at q4
    exact .inl ⟨rfl,q4.1.symm,q4.2.symm⟩
   ·rename_i b' sz' off l
    split at q4
    ·rename_i k hk
     cases hcc:(Nat.beq o.sz sz'&&offW k off l)
     ·simp [hcc] at q4
     ·simp only [hcc,cond_true] at q4
      simp only [Bool.and_eq_true] at hcc
      have e1:=Nat.eq_of_beq_eq_true hcc.1
      split at q4
      ·rename_i r hr
       simp only [Option.some.injEq,Prod.mk.injEq] at q4
       obtain ⟨rfl,rfl⟩:=q4
       exact .inr ⟨b',off,l,k,by rw [e1],hk,⟨hcc.2,obSd_mem hsdO hi qv hk⟩,hr,rfl⟩
      ·cases q4
    ·cases q4
   ·cases q4
 -- the template's frame
 have hframe:∀t e,(tmpl p j cs).fr.get t=some e→∃v,a.tmps[t]?=some v∧Rep w E' (e.den σ) v∧t<N:=by
  intro t e he
  rcases get_tmFr he with ⟨i,q,hi,rfl⟩|⟨hnp,he⟩
  ·obtain ⟨e0,x,s,q1,q2,q3,q4⟩:=fget' i t q hi
   obtain ⟨a0,ha0,hw0⟩:=hst.fr t e0 q1
   obtain ⟨v,hv',hr⟩:=hsim.fr.get t a0 ha0
   have hlt:t<N:=by rw [← hst.len];exact fget_lt ha0
   have hr0:Rep w E (e0.v.den ρ) v:=by rw [← Ent.sure_den hp q2];exact hw0 _ _ _ hr
   refine ⟨v,hv',?_,hlt⟩
   show Rep w E' ((q.sv (j+i)).den σ) v
   cases q with
   |os b sz=>
    obtain ⟨e1,x1,s1,r1,r2,r3,r4,r5⟩:=osI hi
    rw [q1] at r1
    simp only [Option.some.injEq] at r1;subst r1
    exact osRep r5 (hownB r3) hr0 (tm:=.var (j+i) []) (by simp only [Tm.den,cellAt,r4])
   |sc k=>
    obtain ⟨hwk,he2⟩:=fitV_no (σ:=σ) (ρ:=ρ) (j:=j+i) q3 (fun _ _ h=>by cases h) (hv i x (vals_at q4))
    refine rep_own hfx (hwk _ _ _ hr0) (fun b hb=>?_)
    rw [he2,rfs_den hρ,noRefs_get hR (vals_at q4)] at hb
    cases hb
   |agg ks=>
    obtain ⟨hwk,he2⟩:=fitV_no (σ:=σ) (ρ:=ρ) (j:=j+i) q3 (fun _ _ h=>by cases h) (hv i x (vals_at q4))
    refine rep_own hfx (hwk _ _ _ hr0) (fun b hb=>?_)
    rw [he2,rfs_den hρ,noRefs_get hR (vals_at q4)] at hb
    cases hb
  ·obtain ⟨h1,h2,h3⟩:=fitC_fr hC (hcf t e he) hnp he
   obtain ⟨a0,ha0,hw0⟩:=hst.fr t e h3
   obtain ⟨v,hv',hr⟩:=hsim.fr.get t a0 ha0
   have hlt:t<N:=by rw [← hst.len];exact fget_lt ha0
   refine ⟨v,hv',?_,hlt⟩
   rw [← Ent.lt_den hag h1]
   refine rep_own hfx (hw0 _ _ _ hr) (fun b hb=>hown b (h2 b ?_))
   unfold Ent.den at hb
   cases hcnd:(e.h.all fun x=>(x.1.den ρ).B == x.2)
   ·rw [hcnd] at hb;simp [undefA,AV.refs] at hb
   ·rw [hcnd] at hb;simp only [cond_true] at hb;rwa [rfs_den hρ] at hb
 -- the template's blocks: what they are, and which block of the state they are
 have hheap:∀b k,(tmpl p j cs).ah.get b=some k→BlkOk bs w E' b (k.den σ)∧((b<nE∧(∃k',sta.ah.get b=some k')∧((∃ks,(b,ks)∈p.bl)∨(∃sz,(b,sz)∈p.tb)∨(∃o,(b,o)∈p.ob)∨(cs.ah.get b).isSome=true))∨(∃s,(b,s)∈SR∧∀b' d,s=.at b' d→∃k',sta.ah.get b'=some k')):=by
  intro b k hk
  rcases get_tmOs hk with ⟨i,t,sz,hi,rfl⟩|⟨hno,hk⟩
  ·obtain ⟨e1,x1,s1,r1,r2,r3,r4,r5⟩:=osI hi
   have ho:=hownB r3
   have e3:(SB.rowsT sz (.var (j+i) [])).den σ=.rows sz (x1.den ρ).D.R:=by simp only [SB.den,Tm.den,cellAt,r4]
   rw [e3]
   have hri:x1.rfs=[]:=by
    obtain ⟨e,x,s,q1,q2,q3,q4⟩:=fget' i t _ hi
    have:=hv i x (vals_at q4)
    rw [r1] at q1;simp only [Option.some.injEq] at q1;subst q1
    rcases r5 with ⟨hev,rfl,-⟩|⟨b',off,l,k,hev,hk',hl,hrw,rfl⟩
    ·rfl
    ·simp only [fitV,hev,hk'] at q3
     have hcc:(Nat.beq sz sz&&offW k off l)=true:=by simp [hl.1]
     rw [hcc] at q3
     simp only [cond_true,hrw,Option.some.injEq,Prod.mk.injEq] at q3
     obtain ⟨rfl,-⟩:=q3
     exact noRefs_get hR (vals_at q4)
   exact osBlk hfix hρ blk r5 ho hri r3
  ·rcases get_tmBl hk with ⟨i,ks,hi,rfl⟩|⟨hnb,hk⟩
   ·obtain ⟨row,q1,q2,q3⟩:=bget' i b ks hi
    have hbn:b<nE:=below_lt hbl b (List.mem_map.2 ⟨_,List.mem_of_getElem? hi,rfl⟩)
    have hval:=hv _ _ (vals_bt (f:=f) (t:=ft++fo.map (·.1)) q3)
    have e4:denL σ (cellsV (j+p.fr.length+i) [] 0 ks)=denL ρ (nrmL row):=by
     have:=cells_kd (σ:=σ) (ρ:=ρ) (j:=j+p.fr.length+i) (pre:=[]) q2 (by rw [← fl,Nat.add_assoc,hval];rfl)
     simpa using this
    have hb1:=blk q1
    refine ⟨?_,.inl ⟨hbn,⟨_,q1⟩,.inl ⟨ks,List.mem_of_getElem? hi⟩⟩⟩
    simp only [SB.den,denLL] at hb1 ⊢
    rw [e4]
    have hb2:=WeakB.rows (sz:=ks.length) (az:=[denL ρ row]) (bs:=[denL ρ (nrmL row)]) (.cons nrmL_weak .nil) _ _ _ _ hb1
    refine blkOk_own hfix hb2 (hown b hbn) (fun x hx=>?_)
    have hri:=noRefs_get hR (vals_bt (f:=f) (t:=ft++fo.map (·.1)) q3)
    simp only [SV.rfs] at hri
    simp only [refsLL,List.append_nil,rfsL_den hρ,hri] at hx
    cases hx
   ·rcases get_tmTb hk with ⟨i,sz,hi,rfl⟩|⟨hnt,hk⟩
    ·obtain ⟨k0,x,q1,q2,q3⟩:=tget' i b sz hi
     cases sz with
     |map msh=>
      have hbn:b<nE:=below_lt htb b (List.mem_map.2 ⟨_,List.mem_of_getElem? hi,rfl⟩)
      have hval:=hv _ _ (vals_tt (f:=f) (b:=fb) (t:=ft++fo.map (·.1)) (by rw [List.getElem?_append_left (List.getElem?_eq_some_iff.1 q3).1];exact q3))
      have e4:σ.getD (j+(p.fr.length+p.bl.length)+i) undefA=x.den ρ:=by
       rw [← fl,← bl,← hval];congr 1;omega
      obtain ⟨es,R,d1,d2,d3⟩:=mapOf'_den (ρ:=ρ) q2
      have hb1:=blk q1
      rw [d1] at hb1
      refine ⟨?_,.inl ⟨hbn,⟨_,q1⟩,.inr (.inl ⟨_,List.mem_of_getElem? hi⟩)⟩⟩
      have e5:((Tb.map msh).sb (j+(p.fr.length+p.bl.length)+i)).den σ=.map es:=by
       simp only [Tb.sb,SB.den,Tm.den,cellAt,e4,d2];rw [← d3];rfl
      rw [e5]
      have hri:=noRefs_get hR (vals_tt (f:=f) (b:=fb) (t:=ft++fo.map (·.1)) (by rw [List.getElem?_append_left (List.getElem?_eq_some_iff.1 q3).1];exact q3))
      have hrr:refsLL R=[]:=by
       have:(x.den ρ).refs=[]:=by rw [rfs_den hρ,hri]
       rw [d2] at this
       exact this
      refine hb1.env hfx (fun c o off _ h=>h) (hown b hbn) (fun y hy=>?_)
      rw [← d3] at hy
      simp only [Blk.refsB,List.map_map] at hy
      rw [show ((fun x:AV×AV=>x.1)∘entOf msh)=fun row=>packA msh.ka (row.take msh.kn) from rfl,show ((fun x:AV×AV=>x.2)∘entOf msh)=fun row=>packA msh.va (row.drop msh.kn) from rfl] at hy
      rw [packs_refs (f:=fun row=>row.take msh.kn) (fun row x hx=>List.mem_of_mem_take hx) hrr,packs_refs (f:=fun row=>row.drop msh.kn) (fun row x hx=>List.mem_of_mem_drop hx) hrr] at hy
      cases hy
     |rows sz=>
     have hbn:b<nE:=below_lt htb b (List.mem_map.2 ⟨_,List.mem_of_getElem? hi,rfl⟩)
     have hval:=hv _ _ (vals_tt (f:=f) (b:=fb) (t:=ft++fo.map (·.1)) (by rw [List.getElem?_append_left (List.getElem?_eq_some_iff.1 q3).1];exact q3))
     have e4:σ.getD (j+(p.fr.length+p.bl.length)+i) undefA=x.den ρ:=by
      rw [← fl,← bl,← hval];congr 1;omega
     obtain ⟨rs,R,d1,d2,d3,d4⟩:=rowsOf'_den (ρ:=ρ) q2
     have hb1:=blk q1
     rw [d1] at hb1
     have hb2:=WeakB.rows (sz:=sz) d3 _ _ _ _ hb1
     refine ⟨?_,.inl ⟨hbn,⟨_,q1⟩,.inr (.inl ⟨_,List.mem_of_getElem? hi⟩)⟩⟩
     have e5:(SB.rowsT sz (.var (j+(p.fr.length+p.bl.length)+i) [])).den σ=.rows sz R:=by
      simp only [SB.den,Tm.den,cellAt,e4,d2];rfl
     rw [show (Tb.rows sz).sb (j+(p.fr.length+p.bl.length)+i)=SB.rowsT sz (.var (j+(p.fr.length+p.bl.length)+i) []) from rfl,e5]
     refine blkOk_own hfix hb2 (hown b hbn) (fun y hy=>?_)
     have hri:=noRefs_get hR (vals_tt (f:=f) (b:=fb) (t:=ft++fo.map (·.1)) (by rw [List.getElem?_append_left (List.getElem?_eq_some_iff.1 q3).1];exact q3))
     have:(x.den ρ).refs=[]:=by rw [rfs_den hρ,hri]
     rw [d2] at this
     simp only [AV.refs] at this
     rw [this] at hy;cases hy
    ·rcases get_tmOb hk with ⟨i,o,hi,rfl⟩|⟨i,a0,o,hi,rfl,rfl⟩|⟨hnob,hk⟩
     ·obtain ⟨u,v,q,x,s,q1,q2,q3,q4,q5,q6,q7⟩:=obI hi
      have hbn:b<nE:=below_lt hob b (List.mem_map.2 ⟨_,List.mem_of_getElem? hi,rfl⟩)
      refine ⟨?_,.inl ⟨hbn,⟨_,q1⟩,.inr (.inr (.inl ⟨o,List.mem_of_getElem? hi⟩))⟩⟩
      have hb1:=blk q1
      generalize j+(p.fr.length+(p.bl.length+p.tb.length))+i=jj at q5 ⊢
      have lu:=kdsOk_len q2
      have lu':(denL ρ (nrmL u)).length=o.pre.length:=by rw [denL_length,nrmL_length,lu]
      have e1:=cells_kd' (σ:=σ) (ρ:=ρ) (j:=jj) (pre:=[]) (suf:=x.den ρ::denL ρ (nrmL q)) q2 (by rw [q5];rfl)
      have e2:=cells_kd' (σ:=σ) (ρ:=ρ) (j:=jj) (pre:=denL ρ (nrmL u)++[x.den ρ]) (suf:=[]) q3 (by rw [q5];simp)
      rw [List.length_append,List.length_singleton,lu'] at e2
      have htm:(Tm.den σ (.var jj [o.pre.length])).R=(x.den ρ).D.R:=by
       simp only [Tm.den,q5,cellAt]
       rw [List.getD_eq_getElem?_getD,List.getElem?_append_right (by rw [lu'];exact Nat.le_refl _),lu',Nat.sub_self]
       rfl
      have e3:denL σ (o.row jj)=denL ρ (nrmL u)++.os o.b o.sz 0 ((Tm.den σ (.rlen (.var jj [o.pre.length]))).I.toNat)::denL ρ (nrmL q):=by
       unfold Ob.row
       rw [denL_append]
       simp only [denL]
       rw [show denL σ (cellsV jj [] 0 o.pre)=denL ρ (nrmL u) from e1,e2]
       rfl
      simp only [SB.den,denLL] at hb1 ⊢
      rw [e3]
      rw [denL_append] at hb1
      simp only [denL] at hb1
      have hsc:∀y∈denL ρ u++v.den ρ::denL ρ q,y.scal=true:=by
       rcases hb1 with ⟨-,h2⟩|⟨_,_,_,_,_,_,_,_,h5⟩
       ·cases h2
       ·exact fun y hy=>h5.2.2.1 _ (by simp) y hy
      have hcl:∀y∈nrmL u++x::nrmL q,(y.den ρ).refs=[]:=fun y hy=>by
       rw [rfs_den hρ]
       exact List.flatMap_eq_nil_iff.1 q6 y hy
      refine blkOk_row hfix hb1 (hown b hbn) ?_ ?_ ?_
      ·simp [denL_length,nrmL_length]
      ·intro y hy
       rcases List.mem_append.1 hy with hy|hy
       ·exact nrmL_scal (fun z hz=>hsc z (List.mem_append_left _ hz)) y hy
       ·cases hy with
        |head=>rfl
        |tail _ hy=>exact nrmL_scal (fun z hz=>hsc z (List.mem_append_right _ (List.mem_cons_of_mem _ hz))) y hy
      ·intro m x1 x2 val h1 h2 h3
       have lu1:(denL ρ u).length=o.pre.length:=by rw [denL_length,lu]
       by_cases hm:m<o.pre.length
       ·rw [List.getElem?_append_left (by omega)] at h1 h2
        obtain ⟨y,hy1,hy2,hy3⟩:=nrmL_cell h1 h2
        refine rep_own hfx (hy3 _ _ _ h3) (fun b hb=>?_)
        rw [hy2,hcl _ (List.mem_append_left _ hy1)] at hb;cases hb
       ·rw [List.getElem?_append_right (by omega)] at h1 h2
        rw [lu1] at h1;rw [lu'] at h2
        obtain ⟨d,hd⟩:∃d,m-o.pre.length=d:=⟨_,rfl⟩
        rw [hd] at h1 h2
        cases d with
        |zero=>
         simp only [List.getElem?_cons_zero,Option.some.injEq] at h1 h2
         subst h1 h2
         exact osRep q7 (hownB q4) h3 htm
        |succ d=>
         simp only [List.getElem?_cons_succ] at h1 h2
         obtain ⟨y,hy1,hy2,hy3⟩:=nrmL_cell h1 h2
         refine rep_own hfx (hy3 _ _ _ h3) (fun b hb=>?_)
         rw [hy2,hcl _ (List.mem_append_right _ (List.mem_cons_of_mem _ hy1))] at hb;cases hb
     ·obtain ⟨u,v,q,x,s,q1,q2,q3,q4,q5,q6,q7⟩:=obI hi
      generalize j+(p.fr.length+(p.bl.length+p.tb.length))+i=jj at q5 ⊢
      have ho:=hownB q4
      have lu':(denL ρ (nrmL u)).length=o.pre.length:=by rw [denL_length,nrmL_length,kdsOk_len q2]
      have htm:Tm.den σ (.var jj [o.pre.length])=(x.den ρ).D:=by
       simp only [Tm.den,q5,cellAt]
       rw [List.getD_eq_getElem?_getD,List.getElem?_append_right (by rw [lu'];exact Nat.le_refl _),lu',Nat.sub_self]
       rfl
      have e3:(SB.rowsT o.sz (.var jj [o.pre.length])).den σ=.rows o.sz (x.den ρ).D.R:=by simp only [SB.den,htm]
      rw [e3]
      exact osBlk hfix hρ blk q7 ho (List.flatMap_eq_nil_iff.1 q6 x (by simp)) q4
     have hbn:=hcb b k hk
     obtain ⟨q1,q2,q3⟩:=fitC_bl hC hbn hnb hnt hnob hk
     obtain ⟨sz,rs,d1,d2⟩:=hcm b k hk
     refine ⟨?_,.inl ⟨hbn,⟨_,q3⟩,.inr (.inr (.inr (by rw [hk];rfl)))⟩⟩
     rw [← SB.lt_den hag q1,d1]
     have hb1:=blk q3
     rw [d1] at hb1
     exact blkOk_own hfix hb1 (hown b hbn) (fun x hx=>hown x (q2 x (by rw [← d2];exact hx)))
 have hsepE:∀{b b':Nat} {k k':SB} {c o c' o':Nat},b≠b'→sta.ah.get b=some k→sta.ah.get b'=some k'→E.own b=.at c o→E.own b'=.at c' o'→c≠c':=by
  intro b b' k k' c o c' o' hne h1 h2 h3 h4
  obtain ⟨k0,q0,-⟩:=hst.ah b k h1
  obtain ⟨k1,q1,-⟩:=hst.ah b' k' h2
  exact hsim.heap.sep b b' k0 k1 c o c' o' hne q0 q1 h3 h4
 -- where a block of the template was
 have hsrc:∀{b:Nat} {k:SB} {c o:Nat},(tmpl p j cs).ah.get b=some k→E'.own b=.at c o→∃b0 k0 o0,sta.ah.get b0=some k0∧E.own b0=.at c o0∧((b0=b∧b<nE∧((∃ks,(b,ks)∈p.bl)∨(∃sz,(b,sz)∈p.tb)∨(∃o,(b,o)∈p.ob)∨(cs.ah.get b).isSome=true))∨∃d,(b,.at b0 d)∈SR):=by
  intro b k c o hk ho
  rcases (hheap b k hk).2 with ⟨q1,⟨k',q2⟩,q3⟩|⟨s,q1,q2⟩
  ·exact ⟨b,k',o,q2,by rw [← hown b q1];exact ho,.inl ⟨rfl,q1,q3⟩⟩
  ·have h2:=hownB q1
   rw [ho] at h2
   cases s with
   |no=>cases h2
   |empty=>cases h2
   |«at» b0 d=>
    obtain ⟨k',hk'⟩:=q2 b0 d rfl
    obtain ⟨o0,h0⟩:=Own.shift_at h2.symm
    exact ⟨b0,k',o0,hk',h0,.inr ⟨d,q1⟩⟩
 refine ⟨E',toFr σ N (tmpl p j cs).fr,toAh σ (tmpl p j cs).ah,?_,⟨⟨?_,?_,?_,hsim.heap.fixlt,hsim.heap.bs,?_⟩,⟨?_,?_,hsim.fr.glob⟩,hsim.defers⟩,rfl,hown,fun b c o hb=>?_⟩
 rotate_right
 ·change (if b<nE then E.own b else ownOf E SR b)=.at c o at hb
  split at hb
  ·exact ⟨b,o,hb⟩
  ·by_cases hm:∃s,(b,s)∈SR
   ·obtain ⟨s,hm⟩:=hm
    rw [(ownOf_mem (E:=E) hS hm).1] at hb
    cases s with
    |no=>cases hb
    |empty=>cases hb
    |«at» b0 d=>exact ⟨b0,Own.shift_at hb⟩
   ·rw [ownOf_free (fun s hs=>hm ⟨s,hs⟩)] at hb;cases hb
 ·refine ⟨fun t e he=>?_,fun b k hk=>⟨k.den σ,by unfold toAh;rw [hk];rfl,WeakB.refl _⟩,by simp [toFr],Nat.le_refl _⟩
  obtain ⟨v,-,-,hlt⟩:=hframe t e he
  exact ⟨e.den σ,by rw [fget_toFr,if_pos hlt,he];rfl,Weak.refl _⟩
 ·intro b k hb
  unfold toAh at hb
  simp only [Option.map_eq_some_iff] at hb
  obtain ⟨k1,hk1,rfl⟩:=hb
  exact (hheap b k1 hk1).1
 ·intro b b' k k' c o c' o' hne h1 h2 h3 h4
  unfold toAh at h1 h2
  simp only [Option.map_eq_some_iff] at h1 h2
  obtain ⟨k1,hk1,-⟩:=h1
  obtain ⟨k2,hk2,-⟩:=h2
  obtain ⟨x,kx,ox,x1,x2,x3⟩:=hsrc hk1 h3
  obtain ⟨y,ky,oy,y1,y2,y3⟩:=hsrc hk2 h4
  by_cases hxy:x=y
  ·subst hxy
   rcases x3 with ⟨rfl,x4,x5⟩|⟨dx,x3⟩
   ·rcases y3 with ⟨rfl,-,-⟩|⟨dy,y3⟩
    ·exact absurd rfl hne
    ·obtain ⟨-,-,-,q⟩:=ownOf_mem (E:=E) hS y3
     rcases q x _ rfl with q|⟨q1,q2,q4,q3⟩
     ·omega
     ·rcases x5 with ⟨ks,h⟩|⟨sz,h⟩|⟨o,h⟩|h
      ·exact absurd h (q1 ks)
      ·exact absurd h (q2 sz)
      ·exact absurd h (q4 o)
      ·rw [q3] at h;cases h
   ·rcases y3 with ⟨rfl,y4,y5⟩|⟨dy,y3⟩
    ·obtain ⟨-,-,-,q⟩:=ownOf_mem (E:=E) hS x3
     rcases q x _ rfl with q|⟨q1,q2,q4,q3⟩
     ·omega
     ·rcases y5 with ⟨ks,h⟩|⟨sz,h⟩|⟨o,h⟩|h
      ·exact absurd h (q1 ks)
      ·exact absurd h (q2 sz)
      ·exact absurd h (q4 o)
      ·rw [q3] at h;cases h
    ·exact absurd (srcs_sep hS x3 y3) hne
  ·exact hsepE hxy x1 y1 x2 y2
 ·intro b hb
  show (if b<nE then _ else ownOf E _ b)=_
  rw [if_neg (by omega)]
  refine ownOf_free (fun s hs=>?_)
  have:=(ownOf_mem (E:=E) hS hs).2.2.1
  omega
 ·intro b c o hb
  change (if b<nE then E.own b else ownOf E SR b)=.at c o at hb
  split at hb
  ·exact hsim.heap.ownlt b c o hb
  ·by_cases hm:∃s,(b,s)∈SR
   ·obtain ⟨s,hm⟩:=hm
    rw [(ownOf_mem (E:=E) hS hm).1] at hb
    cases s with
    |no=>cases hb
    |empty=>cases hb
    |«at» b0 d=>
     obtain ⟨o0,h0⟩:=Own.shift_at hb
     exact hsim.heap.ownlt b0 c o0 h0
   ·rw [ownOf_free (fun s hs=>hm ⟨s,hs⟩)] at hb;cases hb
 ·have:=hsim.fr.size
  rw [hst.len] at this
  simpa [toFr] using this
 ·intro i x hx
  rw [fget_toFr] at hx
  split at hx
  ·simp only [Option.map_eq_some_iff] at hx
   obtain ⟨e,he,rfl⟩:=hx
   obtain ⟨v,q1,q2,-⟩:=hframe i e he
   exact ⟨v,q1,q2⟩
  ·cases hx
end
end Go.Fw
end
section
set_option linter.unusedVariables false
set_option linter.unusedSimpArgs false
set_option linter.unusedSectionVars false
namespace Go.Fw
set_option linter.unusedSectionVars false
variable [Glob]
set_option linter.unusedSimpArgs false
set_option linter.unusedVariables false
 mutual
def AV.bnd : AV→Prop
  | .p _ | .str _ | .nan=>True
  | .agg cs=>bndL cs
  | .tup cs=>bndL cs
  | .sl rows _=>rows.length≤4294967296∧bndLL rows
  | .vp row _=>bndL row
  | .fn _ x y=>bndL x∧bndL y
  | .ifc _ v=>v.bnd
  | .os _ _ _ n=>n≤4294967296
  | .op .. | .mp _=>True
def bndL : List AV→Prop
  |[]=>True
  |a::r=>a.bnd∧bndL r
def bndLL : List (List AV)→Prop
  |[]=>True
  |a::r=>bndL a∧bndLL r
end
theorem bndL_of : ∀{l:List AV},(∀a∈l,a.bnd)→bndL l
 |[],_=>trivial
 |a::r,h=>⟨h a (by simp),bndL_of fun b hb=>h b (by simp [hb])⟩
theorem bndLL_of : ∀{l:List (List AV)},(∀a∈l,bndL a)→bndLL l
 |[],_=>trivial
 |a::r,h=>⟨h a (by simp),bndLL_of fun b hb=>h b (by simp [hb])⟩
theorem bndLL_mem : ∀{l:List (List AV)},bndLL l→∀a∈l,bndL a
 |x::r,h,a,ha=>by
  cases ha with
  |head=>exact h.1
  |tail _ ha=>exact bndLL_mem h.2 a ha
theorem rep_bnd {w:World}{E:Env}{a:AV}{v:Value}(h:Rep w E a v):a.bnd:=by
 have mem:∀{l:List AV} {vs:List Value},l.length=vs.length→(∀(i:Nat) (c:AV) (v:Value),l[i]?=some c→vs[i]?=some v→c.bnd)→bndL l:=by
  intro l vs hl hh
  refine bndL_of fun c hc=>?_
  obtain ⟨i,hi⟩:=List.mem_iff_getElem?.1 hc
  have hlt:i<vs.length:=by rw [← hl];exact (List.getElem?_eq_some_iff.1 hi).1
  exact hh i c vs[i] hi (by simp [hlt])
 induction h with
 |p h=>trivial
 |str s l h=>trivial
 |agg cs vs hl hs _ ih=>exact mem (vs:=vs.toList) (by simpa using hl) (fun i c v h1 h2=>ih i c v h1 (by simpa using h2))
 |tup cs vs hl _ ih=>exact mem (vs:=vs.toList) (by simpa using hl) (fun i c v h1 h2=>ih i c v h1 (by simpa using h2))
 |slnil full a=>exact ⟨by simp,trivial⟩
 |sl rows full sz c o cap g hcap hfull hsz hfix hcell hscal _ ih=>
  refine ⟨hcap.2,bndLL_of fun row hr=>bndL_of fun x hx=>?_⟩
  obtain ⟨i,hi⟩:=List.mem_iff_getElem?.1 hr
  obtain ⟨j,hj⟩:=List.mem_iff_getElem?.1 hx
  exact ih i row j x hi hj
 |vp row off c o g hfix hcell hscal _ ih=>
  refine bndL_of fun x hx=>?_
  obtain ⟨j,hj⟩:=List.mem_iff_getElem?.1 hx
  exact ih j x hj
 |osnil b sz off a hb=>exact Nat.zero_le _
 |os b sz off len c o cap hb hcap hsize=>exact hcap.2
 |op b sz row off c o hb=>trivial
 |fn f first captured vs us hl hl' _ _ ih ih'=>exact ⟨mem (vs:=vs.toList) (by simpa using hl) (fun i c v h1 h2=>ih i c v h1 (by simpa using h2)),mem (vs:=us.toList) (by simpa using hl') (fun i c v h1 h2=>ih' i c v h1 (by simpa using h2))⟩
 |ifc t a v _ ih=>exact ih
 |mp b c hb=>trivial
 |nan n hn=>trivial
end Go.Fw
namespace Go.Fw
variable [Glob]
theorem pc_bnd {P:Program}{f:FuncId}{args:List AV}{r:AV}(h:bndL args→PC P f args r):PC P f args r:=by
 intro w fix vs hfix hG hargs
 refine h (bndL_of fun a ha=>?_) w fix vs hfix hG hargs
 obtain ⟨i,hi⟩:=List.mem_iff_getElem?.1 ha
 have hlt:i<vs.length:=by rw [← hargs.1];exact (List.getElem?_eq_some_iff.1 hi).1
 exact rep_bnd (hargs.2 i a vs[i] hi (by simp [hlt]))
end Go.Fw
end
section
set_option linter.unusedVariables false
set_option linter.unusedSimpArgs false
set_option linter.unusedSectionVars false
namespace Go.Fw
variable [Glob]
set_option linter.unusedSimpArgs false
set_option linter.unusedVariables false
set_option linter.unusedSectionVars false
section
variable {P : Program} {ρ:List AV} {N:Nat}
theorem step_env {base:Nat}{w0 w:World}{E0 E E':Env}(h:Step base w0 E0 w E)(hf:E'.fix=E.fix)(ho:∀b,E0.own b≠.free→E'.own b=E.own b)(hs:∀b c o,E'.own b=.at c o→∃b' o',E.own b'=.at c o'):Step base w0 E0 w E':=
 ⟨⟨fun c o h0=>by rw [hf];exact h.ext.fix c o h0,h.ext.cell,fun b hb=>(ho b hb).trans (h.ext.own b hb),h.ext.arr⟩,h.below,fun c o hc h0=>h.fixold c o hc (by rw [← hf];exact h0),h.keep,
  fun b c o h0 hc=>let ⟨b',o',h1⟩:=hs b c o h0;h.ownnew b' c o' h1 hc,fun c o h0 hc=>h.fixnew c o (by rw [← hf];exact h0) hc⟩
theorem clsO_sel {h:LoopH}{id base nE:Nat}{cs:St'}:∀{l:List Out} {pc:Pc} {outs:List (Tm×Nat×List SV)} {e:Exit} {st:St'},clsO h id base nE cs pc l=some outs→pc.holds ρ→sel ρ l=some (e,st)→
  ∃kk vals pc' g,selK ρ outs=some (kk,vals)∧Pc.holds ρ pc'∧oneO h id base nE cs pc' ⟨g,e,st⟩=some (g,kk,vals)∧∀s∈oneSd h id ⟨g,e,st⟩,(pc',s)∈clsSd h id pc l
 |[],pc,outs,e,st,hc,hp,hs=>by simp [sel] at hs
 |[o],pc,outs,e,st,hc,hp,hs=>by
  simp only [sel,Option.some.injEq,Prod.mk.injEq] at hs
  obtain ⟨rfl,rfl⟩:=hs
  simp only [clsO] at hc
  split at hc
  ·rename_i x hx
   simp only [Option.some.injEq] at hc;subst hc
   obtain ⟨g,kk,vals⟩:=x
   have hg:o.g=g:=by
    unfold oneO at hx
    split at hx
    ·split at hx
     ·simp only [Option.some.injEq,Prod.mk.injEq] at hx;exact hx.1
     ·cases hx
    ·split at hx
     ·split at hx
      ·simp only [Option.some.injEq,Prod.mk.injEq] at hx;exact hx.1
      ·cases hx
     ·cases hx
   subst hg
   exact ⟨kk,vals,pc,o.g,rfl,hp,hx,fun s hm=>List.mem_map.2 ⟨s,hm,rfl⟩⟩
  ·cases hc
 |o::o'::r,pc,outs,e,st,hc,hp,hs=>by
  simp only [clsO] at hc
  split at hc
  ·cases hc
  ·rename_i x hx
   split at hc
   ·rename_i l hl
    simp only [Option.some.injEq] at hc;subst hc
    obtain ⟨g,kk,vals⟩:=x
    have hg:o.g=g:=by
     unfold oneO at hx
     split at hx
     ·split at hx
      ·simp only [Option.some.injEq,Prod.mk.injEq] at hx;exact hx.1
      ·cases hx
     ·split at hx
      ·split at hx
       ·simp only [Option.some.injEq,Prod.mk.injEq] at hx;exact hx.1
       ·cases hx
      ·cases hx
    subst hg
    have hlne:∃y s,l=y::s:=by
     cases l with
     |cons y s=>exact ⟨y,s,rfl⟩
     |nil=>
      cases r with
      |nil=>
       simp only [clsO] at hl
       split at hl
       ·simp at hl
       ·cases hl
      |cons o2 r2=>
       simp only [clsO] at hl
       split at hl
       ·cases hl
       ·split at hl
        ·simp at hl
        ·cases hl
    obtain ⟨y,s,rfl⟩:=hlne
    simp only [sel] at hs
    cases hb:(o.g.den ρ).B
    ·rw [hb] at hs
     obtain ⟨kk',vals',pc',g',q1,q2,q3,q4⟩:=clsO_sel hl (addPc_holds hb hp) hs
     exact ⟨kk',vals',pc',g',by simp only [selK,hb,cond_false];exact q1,q2,q3,fun s hm=>List.mem_append_right _ (q4 s hm)⟩
    ·rw [hb] at hs
     simp only [cond_true,Option.some.injEq,Prod.mk.injEq] at hs
     obtain ⟨rfl,rfl⟩:=hs
     exact ⟨kk,vals,_,o.g,by simp only [selK,hb,cond_true],addPc_holds hb hp,hx,fun s hm=>List.mem_append_left _ (List.mem_map.2 ⟨s,hm,rfl⟩)⟩
   ·cases hc
theorem findX_get {id:Nat}{e:Exit}:∀{l:List (Exit×Pats)} {k0 k:Nat} {p:Pats},findX id e k0 l=some (k,p)→∃i x,k=k0+i∧l[i]?=some (x,p)∧exOk id x e=true
 |[],k0,k,p,h=>by simp [findX] at h
 |x::r,k0,k,p,h=>by
  simp only [findX] at h
  cases hx:exOk id x.1 e
  ·simp only [hx,cond_false] at h
   obtain ⟨i,y,q1,q2,q3⟩:=findX_get h
   exact ⟨i+1,y,by omega,by simpa using q2,q3⟩
  ·simp only [hx,cond_true,Option.some.injEq,Prod.mk.injEq] at h
   obtain ⟨rfl,rfl⟩:=h
   exact ⟨0,x.1,rfl,rfl,hx⟩
theorem sel_xOuts {cs:St'}{nv:Nat}:∀{l:List (Exit×Pats)} {k0 q i:Nat} {x:Exit} {p:Pats},l[i]?=some (x,p)→(1<l.length→(ρ.getD nv undefA).D.I=((k0+i:Nat):Int))→
  sel ρ (xOuts cs nv k0 q l)=some (x,tmpl p (q+((l.map fun y=>y.2.m).take i).sum) cs)
 |[],k0,q,i,x,p,h,hs=>by simp at h
 |[y],k0,q,i,x,p,h,hs=>by
  cases i with
  |zero=>simp at h;subst h;simp [xOuts,sel]
  |succ i=>simp at h
 |y::z::r,k0,q,i,x,p,h,hs=>by
  have hsel:=hs (by simp)
  have hg:(Tm.den ρ (.bin .eql (.int .i64) (.var nv []) (.li k0))).B=decide (i=0):=by
   simp only [Tm.den,binD,D.B,cellAt,hsel,iEq]
   show ((((k0+i:Nat)):Int) == (k0:Int))=_
   by_cases hi:i=0
   ·subst hi;simp
   ·simp [hi];omega
  cases i with
  |zero=>
   simp at h;subst h
   cases r<;>simp [xOuts,sel,hg]
  |succ i=>
   have ih:=sel_xOuts (cs:=cs) (nv:=nv) (l:=z::r) (k0:=k0+1) (q:=q+y.2.m) (i:=i) (x:=x) (p:=p) (by simpa using h) (fun _=>by rw [hsel];congr 1;omega)
   have e1:sel ρ (xOuts cs nv k0 q (y::z::r))=sel ρ (xOuts cs nv (k0+1) (q+y.2.m) (z::r)):=by
    have hne:∃o s,xOuts cs nv (k0+1) (q+y.2.m) (z::r)=o::s:=by cases r<;>exact ⟨_,_,rfl⟩
    obtain ⟨o,s,hos⟩:=hne
    simp only [xOuts,hos,sel,hg]
    simp
   rw [e1,ih]
   simp only [List.map_cons,List.take_succ_cons,List.sum_cons,Nat.add_assoc]
theorem cut_fr {st:St'}{l:List Nat}{t:Nat}{e:Ent}(h:(st.cut l).fr.get t=some e):t∈l:=(Tr.get_onlyG h).1
theorem cut_ah {st:St'}{l:List Nat}{b:Nat}{k:SB}(h:(st.cut l).ah.get b=some k):b<st.nx:=by
 have:=(Tr.get_onlyG h).1
 rw [List.mem_filter,List.mem_range] at this
 exact this.1
theorem cut_rows {st:St'}{l:List Nat}{b:Nat}{k:SB}(hρ:fzL ρ=true)(h:(st.cut l).ah.get b=some k):∃sz rs,k.den ρ=.rows sz rs∧refsLL rs=k.rfs:=by
 obtain ⟨h1,h2⟩:=Tr.get_onlyG h
 rw [List.mem_filter] at h1
 cases k with
 |rows sz rs=>exact ⟨sz,_,rfl,rfsLL_den hρ⟩
 |rowsT sz t=>exact ⟨sz,_,rfl,cleanLL_norefs (fzLL_clean (Tm.den_fz hρ t))⟩
 |map es=>
  have:=h1.2
  unfold noMap at this
  rw [h2] at this
  cases this
 |mapT m t=>
  have:=h1.2
  unfold noMap at this
  rw [h2] at this
  cases this
 |it m n k=>
  have:=h1.2
  unfold noMap at this
  rw [h2] at this
  cases this
 |rowsF sz t i off x=>exact ⟨sz,_,rfl,by rw [ovl_refs (fzLL_clean (Tm.den_fz hρ t)),rfs_den hρ];rfl⟩
 |rowsE ty sz rs=>
  have:=h1.2
  unfold noMap at this
  rw [h2] at this
  cases this
theorem cutH_ah {st:St'}{h:LoopH}{b:Nat}{k:SB}(hk:(st.cutH h).ah.get b=some k):b<st.nx:=cut_ah (st:=st) (l:=h.ins) (dropBs_get hk)
theorem cutH_rows {st:St'}{h:LoopH}{b:Nat}{k:SB}(hρ:fzL ρ=true)(hk:(st.cutH h).ah.get b=some k):∃sz rs,k.den ρ=.rows sz rs∧refsLL rs=k.rfs:=cut_rows (st:=st) (l:=h.ins) hρ (dropBs_get hk)
theorem getD_app {a b:List AV}{i:Nat}(h:i<a.length):(a++b).getD i undefA=a.getD i undefA:=by
 simp [List.getD_eq_getElem?_getD,List.getElem?_append_left h]
theorem agree_take {base:Nat}{vs cs:List AV}(h:base≤ρ.length):AgreeV base ρ (ρ.take base++vs++cs):=by
 intro i hi
 have hl:(ρ.take base).length=base:=by simp;omega
 rw [List.append_assoc,getD_app (by omega)]
 simp [List.getD_eq_getElem?_getD,List.getElem?_take,hi]
theorem AgreeV.symm {n:Nat}{a b:List AV}(h:AgreeV n a b):AgreeV n b a:=fun i hi=>(h i hi).symm
theorem AgreeV.trans {n:Nat}{a b c:List AV}(h:AgreeV n a b)(k:AgreeV n b c):AgreeV n a c:=fun i hi=>(h i hi).trans (k i hi)
theorem val_take {base i:Nat}{vs cs:List AV}{v:AV}(h:base≤ρ.length)(hv:vs[i]?=some v):(ρ.take base++vs++cs).getD (base+i) undefA=v:=by
 have hl:(ρ.take base).length=base:=by simp;omega
 have hi:=(List.getElem?_eq_some_iff.1 hv).1
 rw [List.append_assoc]
 simp only [List.getD_eq_getElem?_getD]
 rw [List.getElem?_append_right (by omega),hl,Nat.add_sub_cancel_left,List.getElem?_append_left hi,hv]
 rfl
theorem denL_get' {l:List SV}{i:Nat}{v:SV}(h:l[i]?=some v):(denL ρ l)[i]?=some (v.den ρ):=by
 rw [denL_map];simp [h]
theorem addT_mem {t x:Tm}:∀{l:List Tm},x∈addT l t→x∈l∨x=t:=by
 intro l h
 unfold addT at h
 cases hc:(l.any fun x=>x.beq t)
 ·simp only [hc,cond_false,List.mem_append,List.mem_singleton] at h;exact h
 ·simp only [hc,cond_true] at h;exact .inl h
theorem foldl_addT {x:Tm}:∀{l acc:List Tm},x∈l.foldl addT acc→x∈acc∨x∈l
 |[],acc,h=>.inl h
 |y::r,acc,h=>by
  simp only [List.foldl_cons] at h
  rcases foldl_addT h with h|h
  ·rcases addT_mem h with h|h
   ·exact .inl h
   ·exact .inr (by simp [h])
  ·exact .inr (by simp [h])
theorem bndL_get : ∀{l:List AV},bndL l→∀x∈l,x.bnd
 |a::r,h,x,hx=>by
  cases hx with
  |head=>exact h.1
  |tail _ hx=>exact bndL_get h.2 x hx
theorem slT_bnd {st:St'}{v:SV}(h:(v.den ρ).bnd):∀t∈v.slT st.ah,(t.den ρ).R.length≤4294967296:=by
 intro t ht
 cases v with
 |sc k tm=>
  cases k with
  |sl=>
   simp only [SV.slT,List.mem_singleton] at ht
   subst ht;exact h.1
  |_=>simp [SV.slT] at ht
 |agg l=>
  simp only [SV.slT,List.mem_filterMap] at ht
  obtain ⟨x,hx,he⟩:=ht
  split at he
  ·rename_i tm
   simp only [Option.some.injEq] at he;subst he
   have:(AV.sl (Tm.den ρ tm).R false).bnd:=by
    refine bndL_get (l:=denL ρ l) h _ ?_
    rw [denL_map];exact List.mem_map.2 ⟨_,hx,rfl⟩
   exact this.1
  ·cases he
 |os b sz off len=>
  simp only [SV.slT] at ht
  split at ht
  ·rename_i sz' tm hb
   cases hc:len.beq (.rlen tm)
   ·simp [hc] at ht
   ·simp only [hc,cond_true,List.mem_singleton] at ht
    subst ht
    have e:=Tm.beq_eq hc
    subst e
    exact h
  ·cases ht
 |_=>simp [SV.slT] at ht
theorem bnOf_ok {st:St'}{ins:List Nat}{fr:AFr}{ah:AH}{nx:Nat}(hst:StW ρ N st fr ah nx){bs:Nat}{w:World}{E:Env}{a:Act}(hsim:Sim bs w E fr ah nx a):∀t∈bnOf st ins,(t.den ρ).R.length≤4294967296:=by
 intro t ht
 unfold bnOf at ht
 rcases foldl_addT ht with h|h
 ·cases h
 ·obtain ⟨s,-,h⟩:=List.mem_flatMap.1 h
  unfold slotT at h
  split at h
  ·rename_i e he
   obtain ⟨a0,ha0,hw⟩:=hst.fr s e he
   obtain ⟨v,-,hr⟩:=hsim.fr.get s a0 ha0
   have hb:=rep_bnd (hw _ _ _ hr)
   split at h
   ·rename_i hh
    have:e.den ρ=e.v.den ρ:=by unfold Ent.den;rw [hh];rfl
    rw [this] at hb
    exact slT_bnd hb t h
   ·cases h
  ·cases h
theorem loop_case {c:Code}{id:Nat}{h:LoopH}{pc:Pc}{base:Nat}{st:St'}{ent:List SV}{xo:List Out}{outs:List (Tm×Nat×List SV)}{sd:List (Pc×Side)}{aw:List Lo}{bn:List Tm}(hρ:fzL ρ=true)(hp:pc.holds ρ)
  (hent:fitS pc base st.nx h.ins h.p (st.cutH h) st=some ent) (hcls:clsO h id base st.nx (st.cutH h) (pc.old base) xo=some outs) (hentS:∀s∈fitSdP st h.p,s.holds P ρ) (hclsS:∀x∈clsSd h id (pc.old base) xo,x∈sd)
  (hbody:∀σ,fzL σ=true→Pc.holds σ (pc.old base)→SidesOk P σ sd→LoL P aw σ→∀fr ah nx,StW σ N (tmpl h.p base (st.cutH h)) fr ah nx→AW P c fr ah nx (Sel σ N xo))
  (hlo:Lo.holds P (.mk pc base h.p.m ent outs sd aw (h.xs.map fun y=>y.2.m) bn) ρ) (hbn:bn=bnOf st h.ins) {fr:AFr} {ah:AH} {nx:Nat} (hst:StW ρ N st fr ah nx) :
  AW P (.block id (.loop c)) fr ah nx (Sel ρ N (xOuts (st.cutH h) base 0 (posOf base (h.xs.map fun y=>y.2.m) 0) h.xs)):=by
 unfold Lo.holds at hlo
 subst hbn
 refine AW_block ?_
 intro bs w E a hsim
 obtain ⟨hbl,n,k,us,hrun,hres⟩:=hlo hp (bnOf_ok hst hsim)
 have hE0:∀b,E.own b≠.free→b<st.nx:=fun b hb=>Nat.lt_of_not_le fun hle=>hb (hsim.heap.fresh b (Nat.le_trans hst.nx hle))
 let J:Nat→Act→World→Prop:=fun n a' w'=>∃n' vs cs' E' fr' ah',n=n'+1∧fzL (ρ.take base++vs++cs')=true∧(SidesOk P (ρ.take base++vs++cs') sd∧LoL P aw (ρ.take base++vs++cs'))∧
  (match selK (ρ.take base++vs++cs') outs with
   |none=>False
   |some (0,l)=>RunN (fun σ=>SidesOk P σ sd∧LoL P aw σ) outs (ρ.take base) h.p.m n' (denL (ρ.take base++vs++cs') l) k us
   |some (j+1,l)=>k=j∧us=denL (ρ.take base++vs++cs') l)∧
  StW (ρ.take base++vs++cs') N (tmpl h.p base (st.cutH h)) fr' ah' h.p.nx∧Sim bs w' E' fr' ah' h.p.nx a'∧Step bs w E w' E'
 -- from a state that fits to a round's beginning
 have enter:∀{n vals τ pcτ sta fr1 ah1 nx1 w1 E1 a1},RunN (fun σ=>SidesOk P σ sd∧LoL P aw σ) outs (ρ.take base) h.p.m n (denL τ vals) k us→fzL τ=true→AgreeV base ρ τ→Pc.holds τ pcτ→(∀s∈fitSdP sta h.p,s.holds P τ)→fitS pcτ base st.nx h.ins h.p (st.cutH h) sta=some vals→
   StW τ N sta fr1 ah1 nx1→Sim bs w1 E1 fr1 ah1 nx1 a1→Step bs w E w1 E1→J n a1 w1:=by
  intro n vals τ pcτ sta fr1 ah1 nx1 w1 E1 a1 hr hτ hag hpτ hsdτ hfit hs1 hsim1 hstep1
  cases n with
  |zero=>exact hr.elim
  |succ n=>
   obtain ⟨cs',h1,h2,h3,h4⟩:=hr
   obtain ⟨E2,fr2,ah2,q1,q2,q3,q4,q5⟩:=transfer (j:=base) hτ (hag.symm.trans (agree_take (vs:=denL τ vals) (cs:=cs') hbl)) hfit (fun t e he=>cut_fr (st:=st) he) (fun b k hk=>cutH_ah hk) (fun b k hk=>cutH_rows hτ hk) hpτ hsdτ
    (fun i v hv=>val_take hbl (denL_get' hv)) hs1 hsim1
   exact ⟨n,_,cs',E2,fr2,ah2,rfl,h2,h3,h4,q1,q2,step_env hstep1 q3 (fun b hb=>q4 b (hE0 b hb)) q5⟩
 refine wp_loop_ghost J n (enter hrun hρ (fun _ _=>rfl) hp hentS hent hst hsim (Step.refl _ _ _)) ?_
 intro n0 a1 w1 ⟨n',vs,cs',E1,fr1,ah1,hn,hfz,hS,hmatch,hst1,hsim1,hstep1⟩
 subst hn
 have hag:=agree_take (ρ:=ρ) (vs:=vs) (cs:=cs') hbl
 generalize hσ:ρ.take base++vs++cs'=σ at *
 have hpo:Pc.holds σ (pc.old base):=Pc.old_holds hag hp
 refine wp_mono (hbody σ hfz hpo hS.1 hS.2 fr1 ah1 _ hst1 bs w1 E1 a1 hsim1) fun e a2 w2 hpost=>?_
 obtain ⟨E2,fr2,ah2,nx2,⟨st2,hsel,hst2⟩,hsim2,hstep2⟩:=hpost
 have hstep:=hstep1.trans hstep2
 obtain ⟨kk,vals,pc',g,q1,q2,q3,q4⟩:=clsO_sel hcls hpo hsel
 have hsd2:∀s∈oneSd h id ⟨g,e,st2⟩,s.holds P σ:=fun s hm=>hS.1 (pc',s) (hclsS _ (q4 s hm)) q2
 rw [q1] at hmatch
 -- how it leaves
 have leave:∀(k':Nat) (p:Pats),findX id e 0 h.xs=some (k',p)→(∀s∈fitSdP st2 p,s.holds P σ)→fitS pc' base st.nx h.ins p (st.cutH h) st2=some vals→kk=k'+1→APost bs w E (AIn id (Sel ρ N (xOuts (st.cutH h) base 0 (posOf base (h.xs.map fun y=>y.2.m) 0) h.xs))) e a2 w2:=by
  intro k' p hf hsd3 hfit hkk
  subst hkk
  obtain ⟨rfl,rfl⟩:=hmatch
  obtain ⟨i,x,hi,hx,hex⟩:=findX_get hf
  rw [Nat.zero_add] at hi
  subst hi
  have hpos:posOf base (h.xs.map fun y=>y.2.m) k=posOf base (h.xs.map fun y=>y.2.m) 0+((h.xs.map fun y=>y.2.m).take k).sum:=by
   unfold posOf;simp
  obtain ⟨E3,fr3,ah3,r1,r2,r3,r4,r5⟩:=transfer (j:=posOf base (h.xs.map fun y=>y.2.m) k) hfz hag.symm hfit (fun t e he=>cut_fr (st:=st) he) (fun b k hk=>cutH_ah hk) (fun b k hk=>cutH_rows hfz hk) q2 hsd3
    (fun i v hv=>hres.2 i _ (denL_get' hv)) hst2 hsim2
  have hs3:=step_env hstep r3 (fun b hb=>r4 b (hE0 b hb)) r5
  have hQ:Sel ρ N (xOuts (st.cutH h) base 0 (posOf base (h.xs.map fun y=>y.2.m) 0) h.xs) x fr3 ah3 p.nx:=by
   refine ⟨_,sel_xOuts hx (fun hl=>?_),?_⟩
   ·rw [Nat.zero_add];exact hres.1 (by simpa using hl)
   ·rw [← hpos];exact r1
  refine ⟨E3,fr3,ah3,p.nx,?_,r2,hs3⟩
  cases x<;>cases e<;>simp only [exOk,Bool.and_eq_true,Bool.not_eq_true'] at hex
  all_goals first
   |(cases hex;done)
   |exact hQ
   |(have:=Nat.eq_of_beq_eq_true hex;subst this;simp only [AIn,if_true];exact hQ)
   |(
     obtain ⟨g1,g2⟩:=hex
     have:=Nat.eq_of_beq_eq_true g1
     subst this
     simp only [AIn]
     split
     ·rename_i hj;subst hj;simp at g2
     ·exact hQ)
 unfold oneO at q3
 cases e with
 |normal=>
  dsimp only at q3
  split at q3
  ·rename_i v hv
   simp only [Option.some.injEq,Prod.mk.injEq,true_and] at q3
   obtain ⟨rfl,rfl⟩:=q3
   exact ⟨n',Nat.lt_succ_self _,enter hmatch hfz hag q2 hsd2 hv hst2 hsim2 hstep⟩
  ·cases q3
 |_=>
  dsimp only at q3
  split at q3
  ·rename_i k' p hf
   split at q3
   ·rename_i v hv
    simp only [Option.some.injEq,Prod.mk.injEq,true_and] at q3
    obtain ⟨rfl,rfl⟩:=q3
    exact leave k' p hf (by simpa only [oneSd,hf] using hsd2) hv rfl
   ·cases q3
  ·cases q3
end
end Go.Fw
end
