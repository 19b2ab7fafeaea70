/- Machinery of this seat's proofs (H, Hp, TTA, RQ, LTA): lemmas that the last text uses; no statement of its own. -/
import Derived.Test.YtmckdfempgoekaaFwF
import Derived.Test.YtmckdfempgoekaaRows
import Derived.Test.YtmckdfempgoekaaFwE
section
set_option linter.unusedVariables false
set_option linter.unusedSimpArgs false
set_option linter.unusedSectionVars false
namespace Go.Fw
set_option linter.unusedSectionVars false
set_option linter.unusedSimpArgs false
set_option linter.unusedVariables false
variable [Glob]
inductive Ek where|B|I|F|S|R
def SimE : Ek→D→D→Prop
 | .B,d,d'=>d.B=d'.B
 | .I,d,d'=>d.I=d'.I
 | .F,d,d'=>d.F=d'.F
 | .S,d,d'=>d.S=d'.S
 | .R,d,d'=>d.R=d'.R
theorem SimE.of_eq {e:Ek}{d d':D}(h:d=d'):SimE e d d':=by subst h;cases e<;>rfl
def pathSV : SV→List Nat→Option SV
 |v,[]=>some v
 | .agg l,j::p=>match nthL l j with|some x=>pathSV x p|none=>none
 | .tup l,j::p=>match nthL l j with|some x=>pathSV x p|none=>none
 |_,_::_=>none
def leafT : Ek→SV→Option Tm
 | .B,.sc .bool t=>some t
 | .I,.sc (.int _) t=>some t
 | .F,.sc .flt t=>some t
 | .S,.sc .str t=>some t
 | .R,.sc .sl t=>some t
 | .R,.sf t=>some t
 | .R,.nil=>some .nl
 | .R,.slc [] _=>some .nl
 |_,_=>none
def varSV (base:Nat)(l:List SV)(i:Nat)(p:List Nat):Option SV:=match nthL l (i-base) with
 |some v=>pathSV v p
 |none=>none
def lenSV : SV→Option Tm
 | .slc rows _=>fNat rows.length fun n=>some (.li (.ofNat n))
 |v=>match leafT .R v with|some t=>some (.rlen t)|none=>none
def ekOf : Kd→Option Ek
 | .bool=>some .B
 | .int _=>some .I
 | .flt=>some .F
 | .str=>some .S
 | .sl=>none
def asVar : Tm→Option (Nat×List Nat)
 | .var i p=>some (i,p)
 |_=>none
theorem asVar_eq {t:Tm}{x:Nat×List Nat}(h:asVar t=some x):t=.var x.1 x.2:=by
 cases t<;>simp [asVar] at h
 subst h;rfl
def substE (base:Nat)(l:List SV):Ek→Tm→Option Tm
 |_,.lb v=>some (.lb v)
 |_,.li v=>some (.li v)
 |_,.lf v=>some (.lf v)
 |_,.ls v=>some (.ls v)
 |_,.nl=>some .nl
 |e,.var i p=>bif Nat.blt i base then some (.var i p) else match varSV base l i p with
  |some v=>leafT e v
  |none=>none
 |_,.bin o k x y=>match ekOf k with
  |none=>none
  |some e=>match substE base l e x with
   |none=>none
   |some x'=>match substE base l e y with
    |none=>none
    |some y'=>some (.bin o k x' y')
 |_,.not x=>match substE base l .B x with|none=>none|some x'=>some (.not x')
 |_,.and x y=>match substE base l .B x with
  |none=>none
  |some x'=>match substE base l .B y with|none=>none|some y'=>some (.and x' y')
 |_,.or x y=>match substE base l .B x with
  |none=>none
  |some x'=>match substE base l .B y with|none=>none|some y'=>some (.or x' y')
 |e,.ite c x y=>match substE base l .B c with
  |none=>none
  |some c'=>match substE base l e x with
   |none=>none
   |some x'=>match substE base l e y with|none=>none|some y'=>some (.ite c' x' y')
 |_,.conv k x=>match substE base l .I x with|none=>none|some x'=>some (.conv k x')
 |_,.slen x=>match substE base l .S x with|none=>none|some x'=>some (.slen x')
 |_,.rlen x=>match asVar x with
  |some q=>bif Nat.blt q.1 base then some (.rlen (.var q.1 q.2)) else match varSV base l q.1 q.2 with
   |some v=>lenSV v
   |none=>none
  |none=>match substE base l .R x with|none=>none|some x'=>some (.rlen x')
 |_,.byte x i=>match substE base l .S x with
  |none=>none
  |some x'=>match substE base l .I i with|none=>none|some i'=>some (.byte x' i')
 |_,_=>none
theorem pathSV_den {ρ:List AV}:∀{p:List Nat} {v w:SV},pathSV v p=some w→cellAt (v.den ρ) p=w.den ρ
 |[],v,w,h=>by
  simp only [pathSV,Option.some.injEq] at h
  subst h
  cases v.den ρ<;>rfl
 |j::p,v,w,h=>by
  cases v<;>simp only [pathSV] at h<;>first|(cases h;done)|skip
  all_goals
   split at h
   ·rename_i l x hx
    have e:=denL_get (ρ:=ρ) hx
    simp only [SV.den,cellAt,List.getD_eq_getElem?_getD,e,Option.getD_some]
    exact pathSV_den h
   ·cases h
theorem leafT_den {ρ:List AV}{e:Ek}{v:SV}{t:Tm}(h:leafT e v=some t):SimE e (t.den ρ) (v.den ρ).D:=by
 unfold leafT at h
 split at h<;>first|(cases h;done)|(simp only [Option.some.injEq] at h;subst h;rfl)
theorem getD_tk {ρ:List AV}{base i:Nat}{m:List AV}(hb:base≤ρ.length)(hi:i<base):(ρ.take base++m).getD i undefA=ρ.getD i undefA:=by
 have:i<(ρ.take base).length:=by rw [List.length_take];omega
 rw [List.getD_eq_getElem?_getD,List.getD_eq_getElem?_getD,List.getElem?_append_left this,List.getElem?_take,if_pos hi]
theorem varSV_den {ρ:List AV}{base:Nat}{l:List SV}(hb:base≤ρ.length){i:Nat}{p:List Nat}{v:SV}(hi:¬i<base)(h:varSV base l i p=some v):cellAt ((ρ.take base++denL ρ l).getD i undefA) p=v.den ρ:=by
 unfold varSV at h
 split at h
 ·rename_i w hw
  have hl:(ρ.take base).length=base:=by rw [List.length_take];omega
  rw [List.getD_eq_getElem?_getD,List.getElem?_append_right (by omega),hl,denL_get hw]
  exact pathSV_den h
 ·cases h
theorem substE_ok {ρ:List AV}{base:Nat}{l:List SV}(hb:base≤ρ.length):∀{t:Tm} {e:Ek} {t':Tm},substE base l e t=some t'→SimE e (t'.den ρ) (t.den (ρ.take base++denL ρ l)):=by
 intro t
 induction t with
 |lb v=>intro e t' h;simp only [substE,Option.some.injEq] at h;subst h;exact .of_eq rfl
 |li v=>intro e t' h;simp only [substE,Option.some.injEq] at h;subst h;exact .of_eq rfl
 |lf v=>intro e t' h;simp only [substE,Option.some.injEq] at h;subst h;exact .of_eq rfl
 |ls v=>intro e t' h;simp only [substE,Option.some.injEq] at h;subst h;exact .of_eq rfl
 |nl=>intro e t' h;simp only [substE,Option.some.injEq] at h;subst h;exact .of_eq rfl
 |var i p=>
  intro e t' h
  simp only [substE] at h
  cases hi:Nat.blt i base
  ·rw [hi] at h
   have hi':¬i<base:=fun q=>by rw [show Nat.blt i base=true by rw [Nat.blt_eq];exact q] at hi;cases hi
   simp only [cond_false] at h
   split at h
   ·rename_i v hv
    have:=leafT_den (ρ:=ρ) h
    simp only [Tm.den,varSV_den hb hi' hv]
    exact this
   ·cases h
  ·rw [hi] at h
   simp only [cond_true,Option.some.injEq] at h;subst h
   rw [Nat.blt_eq] at hi
   exact .of_eq (by simp only [Tm.den,getD_tk hb hi])
 |bin o k x y ihx ihy=>
  intro e t' h
  simp only [substE] at h
  split at h
  ·cases h
  rename_i e' he
  split at h
  ·cases h
  rename_i x' hx
  split at h
  ·cases h
  rename_i y' hy
  simp only [Option.some.injEq] at h;subst h
  have h1:=ihx hx
  have h2:=ihy hy
  refine .of_eq ?_
  cases k<;>simp only [ekOf,Option.some.injEq] at he<;>first|(cases he;done)|skip
  all_goals
   subst he
   simp only [SimE] at h1 h2
   simp only [Tm.den]
   cases o<;>simp only [binD,h1,h2]
 |not x ih=>
  intro e t' h
  simp only [substE] at h
  split at h
  ·cases h
  rename_i x' hx
  simp only [Option.some.injEq] at h;subst h
  have h1:=ih hx
  simp only [SimE] at h1
  exact .of_eq (by simp only [Tm.den,h1])
 |and x y ihx ihy=>
  intro e t' h
  simp only [substE] at h
  split at h
  ·cases h
  rename_i x' hx
  split at h
  ·cases h
  rename_i y' hy
  simp only [Option.some.injEq] at h;subst h
  have h1:=ihx hx
  have h2:=ihy hy
  simp only [SimE] at h1 h2
  exact .of_eq (by simp only [Tm.den,h1,h2])
 |or x y ihx ihy=>
  intro e t' h
  simp only [substE] at h
  split at h
  ·cases h
  rename_i x' hx
  split at h
  ·cases h
  rename_i y' hy
  simp only [Option.some.injEq] at h;subst h
  have h1:=ihx hx
  have h2:=ihy hy
  simp only [SimE] at h1 h2
  exact .of_eq (by simp only [Tm.den,h1,h2])
 |ite c x y ihc ihx ihy=>
  intro e t' h
  simp only [substE] at h
  split at h
  ·cases h
  rename_i c' hc
  split at h
  ·cases h
  rename_i x' hx
  split at h
  ·cases h
  rename_i y' hy
  simp only [Option.some.injEq] at h;subst h
  have h0:=ihc hc
  have h1:=ihx hx
  have h2:=ihy hy
  simp only [SimE] at h0
  rw [Tm.den_ite,Tm.den_ite,h0]
  cases (c.den (ρ.take base++denL ρ l)).B
  ·exact h2
  ·exact h1
 |conv k x ih=>
  intro e t' h
  simp only [substE] at h
  split at h
  ·cases h
  rename_i x' hx
  simp only [Option.some.injEq] at h;subst h
  have h1:=ih hx
  simp only [SimE] at h1
  exact .of_eq (by simp only [Tm.den,h1])
 |slen x ih=>
  intro e t' h
  simp only [substE] at h
  split at h
  ·cases h
  rename_i x' hx
  simp only [Option.some.injEq] at h;subst h
  have h1:=ih hx
  simp only [SimE] at h1
  exact .of_eq (by simp only [Tm.den,h1])
 |rlen x ih=>
  intro e t' h
  simp only [substE] at h
  split at h
  ·rename_i q hq
   have:=asVar_eq hq;subst this
   obtain ⟨i,p⟩:=q
   dsimp only at h ⊢
   cases hi:Nat.blt i base
   ·rw [hi] at h
    have hi':¬i<base:=fun q=>by rw [show Nat.blt i base=true by rw [Nat.blt_eq];exact q] at hi;cases hi
    simp only [cond_false] at h
    split at h
    ·rename_i v hv
     unfold lenSV at h
     split at h
     ·rename_i rows fl
      simp only [fNat_eq,Option.some.injEq] at h;subst h
      refine .of_eq ?_
      simp only [Tm.den,varSV_den hb hi' hv,SV.den,AV.D,D.R,lLen,denLL_length]
      rfl
     ·split at h
      ·rename_i t0 ht0
       simp only [Option.some.injEq] at h;subst h
       have:=leafT_den (ρ:=ρ) ht0
       simp only [SimE] at this
       refine .of_eq ?_
       simp only [Tm.den,varSV_den hb hi' hv,this]
      ·cases h
    ·cases h
   ·rw [hi] at h
    simp only [cond_true,Option.some.injEq] at h;subst h
    rw [Nat.blt_eq] at hi
    exact .of_eq (by simp only [Tm.den,getD_tk hb hi])
  ·split at h
   ·cases h
   rename_i x' hx
   simp only [Option.some.injEq] at h;subst h
   have h1:=ih hx
   simp only [SimE] at h1
   exact .of_eq (by simp only [Tm.den,h1])
 |byte x y ihx ihy=>
  intro e t' h
  simp only [substE] at h
  split at h
  ·cases h
  rename_i x' hx
  split at h
  ·cases h
  rename_i y' hy
  simp only [Option.some.injEq] at h;subst h
  have h1:=ihx hx
  have h2:=ihy hy
  simp only [SimE] at h1 h2
  exact .of_eq (by simp only [Tm.den,h1,h2])
 |_=>intro e t' h;simp [substE] at h
def tLe (a b:Tm):Tm:=.bin .leq (.int .i64) a b
def tLt (a b:Tm):Tm:=.bin .lss (.int .i64) a b
def tEq (a b:Tm):Tm:=.bin .eql (.int .i64) a b
def tAdd (a b:Tm):Tm:=.bin .add (.int .i64) a b
def big : Int:=4294967296
def tTop (n:Nat):Tm:=fNat n fun n=>fInt' (big-(n:Int)) .li
def tNat (n:Nat):Tm:=fNat n fun n=>.li (.ofNat n)
def tRest (x:Tm):Tm:=.bin .sub (.int .i64) (.li big) x
def Side.cnd : Side→List Tm
 | .tm t=>[t]
 | .row t i _=>[tLe (.li 0) i,tLt i (.rlen t)]
 | .rd _ t i _ _=>[tLe (.li 0) i,tLt i (.rlen t)]
 | .st t i _ _ _=>[tLe (.li 0) i,tLt i (.rlen t)]
 | .sub _ t lo hi _=>match lo,hi with
  |none,none=>[]
  |none,some h=>[tLe (.li 0) h,tLe h (.rlen t)]
  |some l,none=>[tLe (.li 0) l,tLe l (.rlen t)]
  |some l,some h=>[tLe (.li 0) l,tLe l h,tLe h (.rlen t)]
 | .mk len cap _ _=>[tLe (.li 0) len,tLe len cap,tLe cap (.li big)]
 | .app _ x y _=>[tLe (.rlen x) (tTop y.length)]
 | .app2 _ x y _=>[tLe (.rlen y) (.li big),tLe (.rlen x) (tRest (.rlen y))]
 | .len2 m y=>[tLe (.rlen y) (tTop m)]
 | .cat x y=>[tLe (.slen y) (.li big),tLe (.slen x) (tRest (.slen y))]
 | .cpy x len _ _=>[tLe len (.rlen x)]
 | .mark _ _ d len _=>[tLe len (.rlen d)]
 | .appc _ x y _=>[tLe (.rlen y) (tTop x.length)]
 |_=>[]
def AllT (ρ:List AV):List Tm→Prop
 |[]=>True
 |t::r=>(t.den ρ).B=true∧AllT ρ r
theorem AllT.of {ρ:List AV}:∀{l:List Tm},(∀t∈l,(t.den ρ).B=true)→AllT ρ l
 |[],_=>trivial
 |t::r,h=>⟨h t (List.mem_cons_self ..),AllT.of fun x hx=>h x (List.mem_cons_of_mem _ hx)⟩
theorem AllT.mem {ρ:List AV}:∀{l:List Tm},AllT ρ l→∀t∈l,(t.den ρ).B=true
 |[],_,t,ht=>by cases ht
 |x::r,h,t,ht=>by
  rcases List.mem_cons.1 ht with rfl|ht
  ·exact h.1
  ·exact AllT.mem h.2 t ht
structure Sp where
 pre:List Tm
 bnd:List Tm
 post:List Tm
structure SpT where
 c:List (Nat×Sp)
 w:List (Nat×Nat×Sp)
def sp0 : Sp:=⟨[],[],[]⟩
def SpT.at (T:SpT)(f:Nat):Sp:=go T.c
 where go:List (Nat×Sp)→Sp
  |[]=>sp0
  |x::r=>bif Nat.beq x.1 f then x.2 else go r
def SpT.atW (T:SpT)(f n0:Nat):Sp:=go T.w
 where go:List (Nat×Nat×Sp)→Sp
  |[]=>sp0
  |x::r=>bif Nat.beq x.1 f&&Nat.beq x.2.1 n0 then x.2.2 else go r
def Blk.av : Blk→AV
 | .rows _ rs=>.sl rs false
 | .rowsE _ _ rs=>.sl rs false
 |_=>.sl [] true
def avB (l:List (Nat×Blk)):List AV:=l.map fun x=>x.2.av
def SB.sv : SB→SV
 | .rows _ rs=>.slc rs false
 | .rowsE _ _ rs=>.slc rs false
 | .rowsT _ t=>.sc .sl t
 |_=>.nil
def blSV (bl:List (Nat×SB)):List SV:=bl.map fun x=>x.2.sv
theorem blSV_den {ρ:List AV}:∀{bl:List (Nat×SB)},denL ρ (blSV bl)=avB (blD ρ bl)
 |[]=>rfl
 |x::r=>by
  have ih:=blSV_den (ρ:=ρ) (bl:=r)
  simp only [blSV,avB,blD,List.map_cons,denL,List.cons.injEq] at ih ⊢
  refine ⟨?_,by simpa using ih⟩
  cases x.2<;>rfl
def CT (P:Program)(T:SpT)(f:FuncId)(az:List AV)(r:AV):Prop:=
 AllT az (T.at f).pre→PC P f az r∧(AllT az (T.at f).bnd→AllT (az++[r]) (T.at f).post)
def CTo (P:Program)(T:SpT)(f:FuncId)(az:List AV)(r:AV)(p:List Nat)(sz:Nat):Prop:=
 AllT az (T.at f).pre→PCo P f az r p sz∧(AllT az (T.at f).bnd→AllT (az++[r]) (T.at f).post)
def CTw (P:Program)(T:SpT)(f:FuncId)(az:List AV)(bin:List (Nat×Blk))(n0:Nat)(r:AV)(bout:List (Nat×Blk)):Prop:=
 AllT (az++avB bin) (T.atW f n0).pre→PWL P f az bin n0 r bout∧(AllT (az++avB bin) (T.atW f n0).bnd→AllT (az++avB bin++(r::avB bout)) (T.atW f n0).post)
def spS (T:SpT):Side→Option (Sp×List SV×List SV)
 | .call f args r=>some (T.at f,args,args++[r])
 | .callo f args r _ _ _=>some (T.at f,args,args++[r])
 | .callw f args bl n0 r bl'=>some (T.atW f n0,args++blSV bl,args++blSV bl++(r::blSV bl'))
 |_=>none
def sbL (l:List SV):List Tm→Option (List Tm)
 |[]=>some []
 |t::r=>match substE 0 l .B t with
  |none=>none
  |some t'=>match sbL l r with|none=>none|some r'=>some (t'::r')
theorem sbL_ok {ρ:List AV}{l:List SV}:∀{ts us:List Tm},sbL l ts=some us→(AllT ρ us↔AllT (denL ρ l) ts)
 |[],us,h=>by simp only [sbL,Option.some.injEq] at h;subst h;exact Iff.rfl
 |t::r,us,h=>by
  simp only [sbL] at h
  split at h
  ·cases h
  rename_i t' ht
  split at h
  ·cases h
  rename_i r' hr
  simp only [Option.some.injEq] at h;subst h
  have h1:=substE_ok (ρ:=ρ) (Nat.zero_le _) ht
  simp only [SimE,List.take_zero,List.nil_append] at h1
  exact and_congr (by rw [h1]) (sbL_ok hr)
 mutual
def osV : SV→Option (Nat×Tm)
  | .os b _ _ t=>some (b,t)
  | .agg l=>osL l
  | .fn _ x y=>match osL x with|some z=>some z|none=>osL y
  |_=>none
def osL : List SV→Option (Nat×Tm)
  |[]=>none
  |x::r=>match osV x with|some z=>some z|none=>osL r
end
def blT (b:Nat):List (Nat×SB)→Option Tm
 |[]=>none
 |x::r=>bif Nat.beq x.1 b then (match x.2 with | .rowsT _ t=>some t|_=>none) else blT b r
def osT (args:List SV)(bl:List (Nat×SB)):Tm×Tm:=match osL args with
 |some (b,t)=>match blT b bl with|some t'=>(t,t')|none=>(.li 0,.nl)
 |none=>(.li 0,.nl)
def Side.osE : Side→List Tm
 | .callw _ args bl _ _ _=>match osL args with
  |some _=>[tEq (osT args bl).1 (.rlen (osT args bl).2)]
  |none=>[]
 |_=>[]
theorem AllT.app {ρ:List AV}:∀{a b:List Tm},AllT ρ (a++b)→AllT ρ a∧AllT ρ b
 |[],b,h=>⟨trivial,h⟩
 |x::r,b,h=>⟨⟨h.1,(AllT.app h.2).1⟩,(AllT.app h.2).2⟩
def Side.wk (P:Program)(T:SpT)(ρ:List AV):Side→Prop
 | .under pc s=>Pc.holds ρ pc→s.wk P T ρ
 | .call f args r=>CT P T f (denL ρ args) (r.den ρ)
 | .callo f args r p sz fl=>CTo P T f (denL ρ args) (r.den ρ) p sz∧(fl=true→∀row∈rowsP p (r.den ρ),flatL row=true)
 | .callw f args bl n0 r bl'=>AllT ρ (Side.osE (.callw f args bl n0 r bl'))→CTw P T f (denL ρ args) (blD ρ bl) n0 (r.den ρ) (blD ρ bl')
 |s=>AllT ρ s.cnd→s.holds P ρ
def condT (T:SpT)(s:Side):Option (List Tm):=match spS T s with
 |some (sp,l,_)=>match sp.pre with
  |[]=>some s.osE
  |p=>match sbL l p with|some q=>some (q++s.osE)|none=>none
 |none=>some s.cnd
def proveL (F:Pc)(l:List Tm):Bool:=l.all (prove 2 F)||contra F
theorem proveL_ok {ρ:List AV}{F:Pc}{l:List Tm}(h:proveL F l=true)(hF:F.holds ρ):AllT ρ l:=by
 unfold proveL at h
 rw [Bool.or_eq_true,List.all_eq_true] at h
 rcases h with h|h
 ·exact AllT.of fun t ht=>prove_ok (h t ht) hF
 ·exact (contra_ok h hF).elim
theorem holds_app {ρ:List AV}{a b:Pc}(h:Pc.holds ρ a)(k:Pc.holds ρ b):Pc.holds ρ (a++b):=fun x hx=>by
 rcases List.mem_append.1 hx with hx|hx
 ·exact h x hx
 ·exact k x hx
theorem holds_l {ρ:List AV}{a b:Pc}(h:Pc.holds ρ (a++b)):Pc.holds ρ a:=fun x hx=>h x (List.mem_append.2 (.inl hx))
theorem holds_r {ρ:List AV}{a b:Pc}(h:Pc.holds ρ (a++b)):Pc.holds ρ b:=fun x hx=>h x (List.mem_append.2 (.inr hx))
def ExL (ρ:List AV):List (Pc×Tm)→Prop
 |[]=>True
 |x::r=>(Pc.holds ρ x.1→(x.2.den ρ).B=true)∧ExL ρ r
theorem ExL.app {ρ:List AV}:∀{a b:List (Pc×Tm)},ExL ρ a→ExL ρ b→ExL ρ (a++b)
 |[],_,_,h=>h
 |_::_,_,h,k=>⟨h.1,ExL.app h.2 k⟩
def knownN (pc:Pc)(t:Tm):Option Bool:=match pc.known t with
 |some b=>some b
 |none=>match t with
  | .bin .eql k x y=>match k with
   | .int k=>(match pc.known (.bin .neq (.int k) x y) with|some b=>some (!b)|none=>none)
   |_=>none
  | .bin .neq k x y=>match k with
   | .int k=>(match pc.known (.bin .eql (.int k) x y) with|some b=>some (!b)|none=>none)
   |_=>none
  |_=>none
theorem knownN_ok {ρ:List AV}{pc:Pc}(hp:pc.holds ρ){t:Tm}{b:Bool}(h:knownN pc t=some b):(t.den ρ).B=b:=by
 unfold knownN at h
 split at h
 ·rename_i v hv
  simp only [Option.some.injEq] at h;subst h
  exact Pc.known_holds hp hv
 ·split at h
  ·split at h
   ·split at h
    ·rename_i v hv
     simp only [Option.some.injEq] at h;subst h
     have:=Pc.known_holds hp hv
     rw [← this]
     simp [Tm.den,binD,D.B,iEq,iNe,bne]
    ·cases h
   ·cases h
  ·split at h
   ·split at h
    ·rename_i v hv
     simp only [Option.some.injEq] at h;subst h
     have:=Pc.known_holds hp hv
     rw [← this]
     simp [Tm.den,binD,D.B,iEq,iNe,bne]
    ·cases h
   ·cases h
  ·cases h
def knowsAll (pc:Pc)(l:Pc):Bool:=l.all fun e=>match knownN pc e.1 with|some b=>b == e.2|none=>false
theorem knowsAll_ok {ρ:List AV}{pc l:Pc}(h:knowsAll pc l=true)(hp:pc.holds ρ):Pc.holds ρ l:=by
 unfold knowsAll at h
 rw [List.all_eq_true] at h
 intro e he
 have:=h e he
 split at this
 ·rename_i b hb
  rw [knownN_ok hp hb];simpa using this
 ·cases this
def xsF (pc:Pc):List (Pc×Tm)→Pc
 |[]=>[]
 |x::r=>bif knowsAll pc x.1 then (x.2,true)::xsF pc r else xsF pc r
theorem xsF_ok {ρ:List AV}{pc:Pc}(hp:pc.holds ρ):∀{xs:List (Pc×Tm)},ExL ρ xs→Pc.holds ρ (xsF pc xs)
 |[],_=>fun x hx=>by cases hx
 |x::r,h=>by
  simp only [xsF]
  cases hk:knowsAll pc x.1
  ·exact xsF_ok hp h.2
  ·exact Pc.holds_cons (h.1 (knowsAll_ok hk hp)) (xsF_ok hp h.2)
def facts (F:Pc)(xs:List (Pc×Tm))(pc:Pc):Pc:=pc++(xsF (pc++F) xs++F)
theorem facts_ok {ρ:List AV}{F:Pc}{xs:List (Pc×Tm)}{pc:Pc}(hF:Pc.holds ρ F)(hx:ExL ρ xs)(hp:Pc.holds ρ pc):Pc.holds ρ (facts F xs pc):=
 holds_app hp (holds_app (xsF_ok (holds_app hp hF) hx) hF)
def chkS (F:Pc)(T:SpT)(xs:List (Pc×Tm)):Pc→Side→Bool
 |pc,.under pc' s=>chkS F T xs (pc'++pc) s
 |pc,s=>match condT T s with
  |none=>false
  |some []=>true
  |some l=>proveL (facts F xs pc) l
def mkX (pc:Pc):Tm→Pc×Tm
 | .or c d=>((c,false)::pc,d)
 |t=>(pc,t)
theorem mkX_ok {ρ:List AV}{pc:Pc}{t:Tm}(h:Pc.holds ρ pc→(t.den ρ).B=true):Pc.holds ρ (mkX pc t).1→((mkX pc t).2.den ρ).B=true:=by
 cases t<;>try exact h
 rename_i c d
 intro hp
 have h1:((c.den ρ).B||(d.den ρ).B)=true:=h fun x hx=>hp x (List.mem_cons_of_mem _ hx)
 have h2:(c.den ρ).B=false:=hp (c,false) (List.mem_cons_self ..)
 rw [Bool.or_eq_true] at h1
 rcases h1 with h1|h1
 ·rw [h1] at h2;cases h2
 ·exact h1
def lenF : Side→List (Pc×Tm)
 | .st t _ _ _ n=>[([],tEq (.rlen n) (.rlen t))]
 | .mk len _ _ n=>[([],tEq (.rlen n) len)]
 | .app _ x y n=>[([],tEq (.rlen n) (tAdd (.rlen x) (tNat y.length)))]
 | .app2 _ x y n=>[([],tEq (.rlen n) (tAdd (.rlen x) (.rlen y)))]
 | .appc _ x y n=>[([],tEq (.rlen n) (tAdd (.rlen y) (tNat x.length)))]
 | .cpy x _ _ n=>[([],tEq (.rlen n) (.rlen x))]
 | .mark _ _ d _ n=>[([],tEq (.rlen n) (.rlen d))]
 | .sub _ t lo hi n=>match lo,hi with
  |none,none=>[([],tEq (.rlen n) (.rlen t))]
  |none,some h=>[([],tEq (.rlen n) h)]
  |some l,none=>[([],tLe (.rlen n) (.rlen t)),([(tLe (.rlen t) (.li big),true)],tEq (.rlen n) (.bin .sub (.int .i64) (.rlen t) l))]
  |some l,some h=>[([],tLe (.rlen n) (.rlen t)),([(tLe (.rlen t) (.li big),true)],tEq (.rlen n) (.bin .sub (.int .i64) h l))]
 |_=>[]
def underX (pc:Pc):List (Pc×Tm)→List (Pc×Tm)
 |[]=>[]
 |x::r=>(x.1++pc,x.2)::underX pc r
theorem underX_ok {ρ:List AV}{pc:Pc}:∀{l xs:List (Pc×Tm)},(Pc.holds ρ pc→ExL ρ l)→ExL ρ xs→ExL ρ (underX pc l++xs)
 |[],xs,_,h=>h
 |x::r,xs,h,k=>⟨fun hp=>(h (holds_r hp)).1 (holds_l hp),underX_ok (fun hp=>(h hp).2) k⟩
def mkXs (pc:Pc):List Tm→List (Pc×Tm)
 |[]=>[]
 |t::r=>mkX pc t::mkXs pc r
theorem mkXs_ok {ρ:List AV}{pc:Pc}:∀{l:List Tm} {xs:List (Pc×Tm)},(Pc.holds ρ pc→AllT ρ l)→ExL ρ xs→ExL ρ (mkXs pc l++xs)
 |[],xs,_,h=>h
 |t::r,xs,h,k=>⟨mkX_ok fun hp=>(h hp).1,mkXs_ok (fun hp=>(h hp).2) k⟩
def sideX (F:Pc)(T:SpT)(xs:List (Pc×Tm)):Pc→Side→List (Pc×Tm)
 |pc,.under pc' s=>sideX F T xs (pc'++pc) s
 |pc,s=>match spS T s with
  |none=>underX pc (lenF s)++xs
  |some (sp,l,l2)=>match sp.post with
   |[]=>xs
   |post=>match sbL l sp.bnd with
    |none=>xs
    |some b=>bif proveL (facts F xs pc) b then (match sbL l2 post with|some q=>mkXs pc q++xs|none=>xs) else xs
def WkL (P:Program)(T:SpT)(ρ:List AV):List (Pc×Side)→Prop
 |[]=>True
 |x::r=>(Pc.holds ρ x.1→x.2.wk P T ρ)∧WkL P T ρ r
def chkSd (F:Pc)(T:SpT)(xs:List (Pc×Tm)):List (Pc×Side)→Bool
 |[]=>true
 |x::r=>chkS F T xs x.1 x.2&&chkSd F T (sideX F T xs x.1 x.2) r
def sdX (F:Pc)(T:SpT)(xs:List (Pc×Tm)):List (Pc×Side)→List (Pc×Tm)
 |[]=>xs
 |x::r=>sdX F T (sideX F T xs x.1 x.2) r
theorem lenF_ok {P:Program}{ρ:List AV}{s:Side}(h:s.holds P ρ):ExL ρ (lenF s):=by
 have eq:∀{a b:Tm},(a.den ρ).I=(b.den ρ).I→((tEq a b).den ρ).B=true:=fun h=>by
  show iEq _ _=true
  exact iEq_t.2 h
 have rl:∀{t:Tm},((Tm.rlen t).den ρ).I=((t.den ρ).R.length:Int):=rfl
 have nat:∀{n:Nat},((tNat n).den ρ).I=(n:Int):=by intro n;unfold tNat;rw [fNat_eq];rfl
 have add:∀{a b:Tm},((tAdd a b).den ρ).I=iAdd .i64 (a.den ρ).I (b.den ρ).I:=rfl
 cases s<;>try exact trivial
 case st t i off cells n=>
  obtain ⟨row,-,-,h3⟩:=h
  exact ⟨fun _=>eq (by rw [rl,rl,h3];simp),trivial⟩
 case mk len cap z n=>
  obtain ⟨h1,-,-,h4⟩:=h
  exact ⟨fun _=>eq (by rw [rl,h4];simp;omega),trivial⟩
 case app sz x y n=>
  obtain ⟨-,h2,h3⟩:=h
  refine ⟨fun _=>eq ?_,trivial⟩
  rw [rl,h3,add,rl,nat,iAddC (by omega) (by omega)]
  simp [denLL_length]
 case app2 sz x y n=>
  obtain ⟨-,-,h2,h3⟩:=h
  refine ⟨fun _=>eq ?_,trivial⟩
  rw [rl,h3,add,rl,rl,iAddC (by omega) (by omega)]
  simp
 case appc sz x y n=>
  obtain ⟨h2,h3⟩:=h
  refine ⟨fun _=>eq ?_,trivial⟩
  rw [rl,h3,add,rl,nat,iAddC (by omega) (by omega)]
  simp [denLL_length];omega
 case cpy x len y n=>
  obtain ⟨h1,h2⟩:=h
  refine ⟨fun _=>eq ?_,trivial⟩
  rw [rl,rl,h2]
  simp only [List.length_append,List.length_take,List.length_drop];omega
 case mark m t d len n=>
  obtain ⟨-,-,h3,-⟩:=h
  exact ⟨fun _=>eq (by rw [rl,rl,h3]),trivial⟩
 case sub sz t lo hi n=>
  obtain ⟨-,h1,h2,h3,h4⟩:=h
  have hl:=congrArg List.length h4
  rw [List.length_take,List.length_drop] at hl
  have bigH:Pc.holds ρ [(tLe (.rlen t) (.li big),true)]→((t.den ρ).R.length:Int)≤4294967296:=fun hp=>by
   have:=hp (_,true) (List.mem_cons_self ..)
   have q:lLen (t.den ρ).R≤big:=of_decide_eq_true this
   unfold lLen big at q;exact q
  have le:((tLe (.rlen n) (.rlen t)).den ρ).B=true:=by
   show decide (lLen (n.den ρ).R≤lLen (t.den ρ).R)=true
   exact decide_eq_true (by unfold lLen;omega)
  cases lo with
  |none=>
   cases hi with
   |none=>
    have e1:oTm ρ 0 none=0:=rfl
    have e2:oTm ρ (t.den ρ).R.length none=(t.den ρ).R.length:=rfl
    rw [e1,e2] at hl
    exact ⟨fun _=>eq (by rw [rl,rl];omega),trivial⟩
   |some b=>
    have e1:oTm ρ 0 none=0:=rfl
    have e2:oTm ρ (t.den ρ).R.length (some b)=(b.den ρ).I:=rfl
    rw [e1,e2] at hl;rw [e2] at h3;rw [e1,e2] at h2
    exact ⟨fun _=>eq (by rw [rl];omega),trivial⟩
  |some a=>
   have e1:oTm ρ 0 (some a)=(a.den ρ).I:=rfl
   rw [e1] at h1
   cases hi with
   |none=>
    have e2:oTm ρ (t.den ρ).R.length none=(t.den ρ).R.length:=rfl
    rw [e1,e2] at h2;rw [e1,e2] at hl
    refine ⟨fun _=>le,fun hp=>eq ?_,trivial⟩
    have hb:=bigH hp
    show _=iSub .i64 (lLen (t.den ρ).R) (a.den ρ).I
    unfold lLen
    rw [rl,iSubC (by omega) (by omega)]
    omega
   |some b=>
    have e2:oTm ρ (t.den ρ).R.length (some b)=(b.den ρ).I:=rfl
    rw [e1,e2] at h2;rw [e1,e2] at hl;rw [e2] at h3
    refine ⟨fun _=>le,fun hp=>eq ?_,trivial⟩
    have hb:=bigH hp
    show _=iSub .i64 (b.den ρ).I (a.den ρ).I
    rw [rl,iSubC (by omega) (by omega)]
    omega
theorem denL_app1 {ρ:List AV}{a:List SV}{b:SV}:denL ρ (a++[b])=denL ρ a++[b.den ρ]:=by rw [denL_append];rfl
theorem chkS_ok {P:Program}{ρ:List AV}{F:Pc}{T:SpT}{xs:List (Pc×Tm)}(hF:Pc.holds ρ F)(hx:ExL ρ xs):∀{s:Side} {pc:Pc},chkS F T xs pc s=true→(Pc.holds ρ pc→s.wk P T ρ)→(Pc.holds ρ pc→s.holds P ρ)∧ExL ρ (sideX F T xs pc s):=by
 intro s
 have plain:∀{s:Side} {pc:Pc},(∀pc' s',s≠.under pc' s')→spS T s=none→(s.wk P T ρ↔(AllT ρ s.cnd→s.holds P ρ))→chkS F T xs pc s=true→(Pc.holds ρ pc→s.wk P T ρ)→(Pc.holds ρ pc→s.holds P ρ)∧ExL ρ (sideX F T xs pc s):=by
  intro s pc hu hs hwk h hw
  have hh:Pc.holds ρ pc→s.holds P ρ:=fun hp=>by
   refine hwk.1 (hw hp) ?_
   have h':(match condT T s with|none=>false|some []=>true|some l=>proveL (facts F xs pc) l)=true:=by
    cases s<;>first|exact h|exact absurd rfl (hu _ _)
   unfold condT at h'
   rw [hs] at h'
   dsimp only at h'
   split at h'
   ·cases h'
   ·rename_i e;simp only [Option.some.injEq] at e;rw [e];trivial
   ·rename_i l _ e;simp only [Option.some.injEq] at e;rw [e];exact proveL_ok h' (facts_ok hF hx hp)
  have e:sideX F T xs pc s=underX pc (lenF s)++xs:=by
   cases s<;>first|exact absurd rfl (hu _ _)|(simp only [sideX,hs])
  rw [e]
  exact ⟨hh,underX_ok (fun hp=>lenF_ok (hh hp)) hx⟩
 have calls:∀{s:Side} {pc:Pc} {sp:Sp} {l l2:List SV} {A:Prop},spS T s=some (sp,l,l2)→(∀pc' s',s≠.under pc' s')→(s.wk P T ρ→AllT ρ s.osE→AllT (denL ρ l) sp.pre→s.holds P ρ∧(AllT (denL ρ l) sp.bnd→AllT (denL ρ l2) sp.post))→chkS F T xs pc s=true→(Pc.holds ρ pc→s.wk P T ρ)→(Pc.holds ρ pc→s.holds P ρ)∧ExL ρ (sideX F T xs pc s):=by
  intro s pc sp l l2 A hs hu hwk h hw
  have hpre:Pc.holds ρ pc→AllT ρ s.osE∧AllT (denL ρ l) sp.pre:=fun hp=>by
   have h':(match condT T s with|none=>false|some []=>true|some l=>proveL (facts F xs pc) l)=true:=by
    cases s<;>first|exact h|exact absurd rfl (hu _ _)
   have h2:∃l',condT T s=some l'∧AllT ρ l':=by
    split at h'
    ·cases h'
    ·rename_i e;exact ⟨_,e,trivial⟩
    ·rename_i l' _ e;exact ⟨_,e,proveL_ok h' (facts_ok hF hx hp)⟩
   obtain ⟨l',e,hl'⟩:=h2
   unfold condT at e
   rw [hs] at e
   dsimp only at e
   split at e
   ·rename_i ep
    simp only [Option.some.injEq] at e;subst e
    rw [ep];exact ⟨hl',trivial⟩
   ·split at e
    ·rename_i q hq
     simp only [Option.some.injEq] at e;subst e
     exact ⟨(AllT.app hl').2,(sbL_ok hq).1 (AllT.app hl').1⟩
    ·cases e
  refine ⟨fun hp=>(hwk (hw hp) (hpre hp).1 (hpre hp).2).1,?_⟩
  have e:sideX F T xs pc s=(match sp.post with
   |[]=>xs
   |post=>match sbL l sp.bnd with
    |none=>xs
    |some b=>bif proveL (facts F xs pc) b then (match sbL l2 post with|some q=>mkXs pc q++xs|none=>xs) else xs):=by
   cases s<;>first|exact absurd rfl (hu _ _)|(simp only [sideX,hs])
  rw [e]
  split
  ·exact hx
  ·split
   ·exact hx
   ·rename_i b hb
    cases hpv:proveL (facts F xs pc) b
    ·exact hx
    ·simp only [cond_true]
     split
     ·rename_i q hq
      refine mkXs_ok (fun hp=>?_) hx
      have h1:=(sbL_ok hb).1 (proveL_ok hpv (facts_ok hF hx hp))
      exact (sbL_ok hq).2 ((hwk (hw hp) (hpre hp).1 (hpre hp).2).2 h1)
     ·exact hx
 induction s with
 |under pc' s ih=>
  intro pc h hw
  obtain ⟨h1,h2⟩:=ih (pc:=pc'++pc) h (fun hp=>hw (holds_r hp) (holds_l hp))
  exact ⟨fun hp hp'=>h1 (holds_app hp' hp),h2⟩
 |call f args r=>
  intro pc h hw
  refine calls (A:=True) rfl (by intro _ _ e;cases e) (fun hk _ hp=>?_) h hw
  have:=hk hp
  exact ⟨this.1,fun hb=>by rw [denL_app1];exact this.2 hb⟩
 |callo f args r p sz fl=>
  intro pc h hw
  refine calls (A:=True) rfl (by intro _ _ e;cases e) (fun hk _ hp=>?_) h hw
  have:=hk.1 hp
  exact ⟨⟨this.1,hk.2⟩,fun hb=>by rw [denL_app1];exact this.2 hb⟩
 |callw f args bl n0 r bl'=>
  intro pc h hw
  refine calls (A:=True) rfl (by intro _ _ e;cases e) (fun hk ho hp=>?_) h hw
  rw [denL_append,blSV_den] at hp
  have:=hk ho hp
  refine ⟨this.1,fun hb=>?_⟩
  rw [denL_append,blSV_den] at hb
  have q:=this.2 hb
  rw [denL_append,denL_append,blSV_den]
  show AllT (_++(r.den ρ::denL ρ (blSV bl'))) _
  rw [blSV_den];exact q
 |_=>intro pc h hw;exact plain (by intro _ _ e;cases e) rfl Iff.rfl h hw
theorem chkSd_ok {P:Program}{ρ:List AV}{F:Pc}{T:SpT}(hF:Pc.holds ρ F):∀{sd:List (Pc×Side)} {xs:List (Pc×Tm)},ExL ρ xs→chkSd F T xs sd=true→WkL P T ρ sd→SidesC P ρ sd∧ExL ρ (sdX F T xs sd)
 |[],xs,hx,_,_=>⟨trivial,hx⟩
 |x::r,xs,hx,h,hw=>by
  simp only [chkSd,Bool.and_eq_true] at h
  obtain ⟨h1,h2⟩:=chkS_ok hF hx h.1 hw.1
  obtain ⟨h3,h4⟩:=chkSd_ok hF h2 h.2 hw.2
  exact ⟨⟨h1,h3⟩,h4⟩
inductive LH where
 |mk (inv:List Tm) (mt:Tm) (ft:List (Tm×Int)) (xs:List (Pc×Tm)) (at':Nat) (sub:List LH) (post:List (List Tm))
def LH.inv : LH→List Tm | .mk a _ _ _ _ _ _=>a
def LH.mt : LH→Tm | .mk _ a _ _ _ _ _=>a
def LH.ft : LH→List (Tm×Int) | .mk _ _ a _ _ _ _=>a
def LH.xs : LH→List (Pc×Tm) | .mk _ _ _ a _ _ _=>a
def LH.at' : LH→Nat | .mk _ _ _ _ a _ _=>a
def LH.sub : LH→List LH | .mk _ _ _ _ _ a _=>a
def LH.post : LH→List (List Tm) | .mk _ _ _ _ _ _ a=>a
def lh0 : LH:=.mk [] (.li 0) [] [] 0 [] []
def hdH : List LH→LH | []=>lh0|x::_=>x
def tlH : List LH→List LH | []=>[]|_::r=>r
def ftV (ρ:List AV):List (Tm×Int)→Int
 |[]=>0
 |x::r=>x.2*(x.1.den ρ).I+ftV ρ r
def ftL (ks:Pc):List (Tm×Int)→List Tm→List LF→LR
 |[],az,fs=>⟨az,fs,[]⟩
 |x::r,az,fs=>match lin ks x.1 az fs with
  |⟨as1,fs1,f1⟩=>match ftL ks r as1 fs1 with
   |⟨as2,fs2,f2⟩=>⟨as2,fs2,addL (scl x.2 f1) f2⟩
theorem ftL_ok {ρ:List AV}{ks:Pc}(hk:ks.holds ρ):∀{l:List (Tm×Int)} {az:List Tm} {fs:List LF},PosL ρ az fs→LROk ρ az (ftL ks l az fs) (ftV ρ l)
 |[],az,fs,h=>⟨List.prefix_refl _,h,fun bs hb=>rfl⟩
 |x::r,az,fs,h=>by
  obtain ⟨a1,a2,a3⟩:=lin_ok hk (t:=x.1) h
  obtain ⟨b1,b2,b3⟩:=ftL_ok hk (l:=r) (az:=(lin ks x.1 az fs).az) (fs:=(lin ks x.1 az fs).fs) a2
  exact ⟨a1.trans b1,b2,(a3.mono b1).scl.add b3⟩
def ftOk0 (F:Pc)(s:AS)(mt:Tm)(ft:List (Tm×Int)):Bool:=
 match s with
 |⟨az,fs⟩=>match lin F mt az fs with
  |⟨as1,fs1,f1⟩=>match ftL F ft as1 fs1 with
   |⟨_,fs2,f2⟩=>prv1 fs2 (Go.Fw.subL f2 f1)
theorem ftOk0_ok {ρ:List AV}{F:Pc}{mt:Tm}{ft:List (Tm×Int)}{s:AS}(h0:ASOk ρ s)(h:ftOk0 F s mt ft=true)(hF:F.holds ρ):(mt.den ρ).I≤ftV ρ ft:=by
 unfold ftOk0 at h
 obtain ⟨a1,a2,a3⟩:=lin_ok hF (t:=mt) h0
 obtain ⟨b1,b2,b3⟩:=ftL_ok hF (l:=ft) a2
 have q:=prv1_pos b2 h _ (List.prefix_refl _)
 rw [subL_ev,(a3.mono b1) _ (List.prefix_refl _),b3 _ (List.prefix_refl _)] at q
 omega
def ftOk1 (F:Pc)(mt:Tm)(ft:List (Tm×Int)):Bool:=ftOk0 F (asF F) mt ft
def ftOk : Nat→Pc→Tm→List (Tm×Int)→Bool
 |0,F,mt,ft=>ftOk1 F mt ft
 |n+1,F,mt,ft=>ftOk1 F mt ft||(match iteOpen F ((mt,true)::F) with
  |none=>false
  |some c=>ftOk n ((c,true)::F) mt ft&&ftOk n ((c,false)::F) mt ft)
theorem ftOk1_ok {ρ:List AV}{F:Pc}{mt:Tm}{ft:List (Tm×Int)}(h:ftOk1 F mt ft=true)(hF:F.holds ρ):(mt.den ρ).I≤ftV ρ ft:=ftOk0_ok (asF_ok hF) h hF
theorem ftOk_ok {ρ:List AV}{mt:Tm}{ft:List (Tm×Int)}:∀{n:Nat} {F:Pc},ftOk n F mt ft=true→F.holds ρ→(mt.den ρ).I≤ftV ρ ft
 |0,F,h,hF=>ftOk1_ok h hF
 |n+1,F,h,hF=>by
  simp only [ftOk,Bool.or_eq_true] at h
  rcases h with h|h
  ·exact ftOk1_ok h hF
  ·split at h
   ·cases h
   ·rename_i c _
    rw [Bool.and_eq_true] at h
    cases hc:(c.den ρ).B
    ·exact ftOk_ok h.2 (Pc.holds_cons hc hF)
    ·exact ftOk_ok h.1 (Pc.holds_cons hc hF)
def Tm.ren (f:Nat→Nat):Tm→Tm
 | .var i p=>fNat (f i) fun j=>.var j p
 | .bin o k x y=>.bin o k (x.ren f) (y.ren f)
 | .and x y=>.and (x.ren f) (y.ren f)
 | .or x y=>.or (x.ren f) (y.ren f)
 | .byte x y=>.byte (x.ren f) (y.ren f)
 | .not x=>.not (x.ren f)
 | .neg k x=>.neg k (x.ren f)
 | .com k x=>.com k (x.ren f)
 | .conv k x=>.conv k (x.ren f)
 | .toF x=>.toF (x.ren f)
 | .toI x=>.toI (x.ren f)
 | .slen x=>.slen (x.ren f)
 | .rlen x=>.rlen (x.ren f)
 | .bts x=>.bts (x.ren f)
 | .sbs x=>.sbs (x.ren f)
 | .ite c x y=>.ite (c.ren f) (x.ren f) (y.ren f)
 | .ssub c x y=>.ssub (c.ren f) (x.ren f) (y.ren f)
 |t=>t
theorem Tm.ren_den {f:Nat→Nat}{n:Nat}{ρ σ:List AV}(h:∀i,i<n→ρ.getD (f i) undefA=σ.getD i undefA):∀{t:Tm},t.lt n=true→(t.ren f).den ρ=t.den σ:=by
 intro t
 induction t with
 |lb|li|lf|ls|nl=>intro _;rfl
 |var i p=>intro hl;simp only [Tm.ren,fNat_eq,Tm.den];rw [h i (Nat.le_of_ble_eq_true hl)]
 |bin o k x y ihx ihy=>intro hl;simp only [Tm.lt,Bool.and_eq_true] at hl;simp only [Tm.ren,Tm.den,ihx hl.1,ihy hl.2]
 |and x y ihx ihy=>intro hl;simp only [Tm.lt,Bool.and_eq_true] at hl;simp only [Tm.ren,Tm.den,ihx hl.1,ihy hl.2]
 |or x y ihx ihy=>intro hl;simp only [Tm.lt,Bool.and_eq_true] at hl;simp only [Tm.ren,Tm.den,ihx hl.1,ihy hl.2]
 |byte x y ihx ihy=>intro hl;simp only [Tm.lt,Bool.and_eq_true] at hl;simp only [Tm.ren,Tm.den,ihx hl.1,ihy hl.2]
 |ite c x y ihc ihx ihy=>intro hl;simp only [Tm.lt,Bool.and_eq_true] at hl;simp only [Tm.ren,Tm.den,ihc hl.1,ihx hl.2.1,ihy hl.2.2]
 |ssub c x y ihc ihx ihy=>intro hl;simp only [Tm.lt,Bool.and_eq_true] at hl;simp only [Tm.ren,Tm.den,ihc hl.1,ihx hl.2.1,ihy hl.2.2]
 |not x ih=>intro hl;simp only [Tm.ren,Tm.den,ih hl]
 |neg k x ih=>intro hl;simp only [Tm.ren,Tm.den,ih hl]
 |com k x ih=>intro hl;simp only [Tm.ren,Tm.den,ih hl]
 |conv k x ih=>intro hl;simp only [Tm.ren,Tm.den,ih hl]
 |toF x ih=>intro hl;simp only [Tm.ren,Tm.den,ih hl]
 |toI x ih=>intro hl;simp only [Tm.ren,Tm.den,ih hl]
 |slen x ih=>intro hl;simp only [Tm.ren,Tm.den,ih hl]
 |rlen x ih=>intro hl;simp only [Tm.ren,Tm.den,ih hl]
 |bts x ih=>intro hl;simp only [Tm.ren,Tm.den,ih hl]
 |sbs x ih=>intro hl;simp only [Tm.ren,Tm.den,ih hl]
def shf (base pos i:Nat):Nat:=bif Nat.blt i base then i else i-base+pos
def postK (base:Nat)(pos n:Nat)(pc:Pc):List Tm→List (Pc×Tm)
 |[]=>[]
 |t::r=>bif t.lt (base+n) then (pc,t.ren (shf base pos))::postK base pos n pc r else postK base pos n pc r
def nthP : List (List Tm)→Nat→List Tm
 |[],_=>[]
 |x::_,0=>x
 |_::r,k+1=>nthP r k
def selP (base:Nat)(ms:List Nat)(k:Nat):Pc:=match ms with
 |[_,_]=>match k with
  |0=>[(.bin .eql (.int .i64) (.var base []) (.li 0),true)]
  |_=>[(.bin .eql (.int .i64) (.var base []) (.li 0),false)]
 |_=>[]
def bnF : List Tm→Pc
 |[]=>[]
 |t::r=>(tLe (.rlen t) (.li big),true)::bnF r
theorem bnF_ok {ρ:List AV}:∀{bn:List Tm},(∀t∈bn,(t.den ρ).R.length≤4294967296)→Pc.holds ρ (bnF bn)
 |[],_=>fun x hx=>by cases hx
 |t::r,h=>Pc.holds_cons (by
  have:=h t (List.mem_cons_self ..)
  show decide (lLen (t.den ρ).R≤big)=true
  exact decide_eq_true (by unfold lLen big;omega)) (bnF_ok fun x hx=>h x (List.mem_cons_of_mem _ hx))
def LenOk (outs:List (Tm×Nat×List SV))(ms:List Nat):Bool:=outs.all fun o=>match o.2.1 with
 |0=>true
 |k+1=>Nat.ble (k+1) ms.length&&Nat.ble (ms.getD k 0) o.2.2.length
def bnC (F:Pc)(xs:List (Pc×Tm))(pc:Pc)(bn:List Tm):Pc:=
 bif (let F':=facts F xs pc;bn.all fun t=>prove 1 F' (tLe (.rlen t) (.li big))) then pc else bnF bn++pc
def postX (F:Pc)(xs:List (Pc×Tm)):Lo→LH→List (Pc×Tm)
 | .mk pc base _ _ outs _ _ ms bn,h=>match h.post with
  |[]=>xs
  |p=>bif LenOk outs ms then match ms with
    |[n]=>let c:=bnC F xs pc bn;postK base (posOf base ms 0) n (selP base ms 0++c) (nthP p 0)++xs
    |[n,n']=>let c:=bnC F xs pc bn;postK base (posOf base ms 0) n (selP base ms 0++c) (nthP p 0)++(postK base (posOf base ms 1) n' (selP base ms 1++c) (nthP p 1)++xs)
    |_=>xs
   else xs
def RunP (S:List AV→Prop)(outs:List (Tm×Nat×List SV))(ρ0:List AV)(m:Nat):Nat→List AV→Nat→List AV→Prop
 |0,_,_,_=>True
 |n+1,vs,k,us=>∃cs,vs.length=m∧fzL (ρ0++vs++cs)=true∧S (ρ0++vs++cs)∧
  match selK (ρ0++vs++cs) outs with
  |none=>False
  |some (0,l)=>RunP S outs ρ0 m n (denL (ρ0++vs++cs) l) k us
  |some (j+1,l)=>k=j∧us=denL (ρ0++vs++cs) l
 mutual
def Lo.wk (P:Program)(T:SpT):Lo→LH→List AV→Prop
  | .mk pc base m entry outs sd aw ms bn,h=>fun ρ=>Pc.holds ρ pc→(∀t∈bn,(t.den ρ).R.length≤4294967296)→base≤ρ.length∧∃(n k:Nat) (us:List AV),(0<n∧ftV ρ h.ft<(n:Int))∧
   RunP (fun σ=>ExL σ h.xs∧WkL P T σ sd∧LoW P T aw h.sub σ) outs (ρ.take base) m n (denL ρ entry) k us∧ResK ρ base ms k us
def LoW (P:Program)(T:SpT):List Lo→List LH→List AV→Prop
  |[],_=>fun _=>True
  |x::r,hs=>fun σ=>x.wk P T (hdH hs) σ∧LoW P T r (tlH hs) σ
end
def subOk (base:Nat)(l:List SV)(F:Pc)(t:Tm):Bool:=match substE base l .B t with
 |some t'=>prove 2 F t'
 |none=>false
theorem subOk_ok {ρ:List AV}{base:Nat}{l:List SV}(hb:base≤ρ.length){F:Pc}{t:Tm}(h:subOk base l F t=true)(hF:Pc.holds ρ F):(t.den (ρ.take base++denL ρ l)).B=true:=by
 unfold subOk at h
 split at h
 ·rename_i t' ht
  have h1:=prove_ok h hF
  have h2:=substE_ok hb ht
  simp only [SimE] at h2
  rw [← h2];exact h1
 ·cases h
def chkO1 (base:Nat)(inv:List Tm)(mt:Tm)(post:List (List Tm))(F:Pc)(xs:List (Pc×Tm))(G:Pc)(k:Nat)(l:List SV):Bool:=
 match k with
 |0=>
  let F':=facts F xs G
  inv.all (subOk base l F')&&(prove 2 F' (tLe (.li 1) mt)&&(match substE base l .I mt with|some mt'=>prove 2 F' (tLt mt' mt)|none=>false))
 |k+1=>match nthP post k with
  |[]=>true
  |p=>let F':=facts F xs G;p.all (subOk base l F')
def chkO (base:Nat)(inv:List Tm)(mt:Tm)(post:List (List Tm))(F:Pc)(xs:List (Pc×Tm)):Pc→List (Tm×Nat×List SV)→Bool
 |_,[]=>true
 |G,[o]=>chkO1 base inv mt post F xs G o.2.1 o.2.2
 |G,o::o'::r=>chkO1 base inv mt post F xs (addPc o.1 true G) o.2.1 o.2.2&&chkO base inv mt post F xs (addPc o.1 false G) (o'::r)
def OutOk (base:Nat)(inv:List Tm)(mt:Tm)(post:List (List Tm))(ρ:List AV)(k:Nat)(l:List SV):Prop:=match k with
 |0=>(∀t∈inv,(t.den (ρ.take base++denL ρ l)).B=true)∧1≤(mt.den ρ).I∧(mt.den (ρ.take base++denL ρ l)).I<(mt.den ρ).I
 |k+1=>∀t∈nthP post k,(t.den (ρ.take base++denL ρ l)).B=true
theorem chkO1_ok {ρ:List AV}{base:Nat}{inv:List Tm}{mt:Tm}{post:List (List Tm)}{F:Pc}{xs:List (Pc×Tm)}{G:Pc}{k:Nat}{l:List SV}(hb:base≤ρ.length)(h:chkO1 base inv mt post F xs G k l=true)(hF:Pc.holds ρ F)(hx:ExL ρ xs)(hG:Pc.holds ρ G):OutOk base inv mt post ρ k l:=by
 have hF':=facts_ok hF hx hG
 cases k with
 |zero=>
  simp only [chkO1,Bool.and_eq_true] at h
  obtain ⟨h1,h2,h3⟩:=h
  rw [List.all_eq_true] at h1
  refine ⟨fun t ht=>subOk_ok hb (h1 t ht) hF',?_,?_⟩
  ·exact of_decide_eq_true (p:=(1:Int)≤(mt.den ρ).I) (prove_ok h2 hF')
  ·split at h3
   ·rename_i mt' hm
    have q:=substE_ok hb hm
    simp only [SimE] at q
    rw [← q]
    exact of_decide_eq_true (p:=(mt'.den ρ).I<(mt.den ρ).I) (prove_ok h3 hF')
   ·cases h3
 |succ k=>
  simp only [chkO1] at h
  intro t ht
  split at h
  ·rename_i e;rw [e] at ht;cases ht
  ·rw [List.all_eq_true] at h
   exact subOk_ok hb (h t ht) hF'
theorem chkO_ok {ρ:List AV}{base:Nat}{inv:List Tm}{mt:Tm}{post:List (List Tm)}{F:Pc}{xs:List (Pc×Tm)}(hb:base≤ρ.length)(hF:Pc.holds ρ F)(hx:ExL ρ xs):∀{outs:List (Tm×Nat×List SV)} {G:Pc} {k:Nat} {l:List SV},chkO base inv mt post F xs G outs=true→Pc.holds ρ G→selK ρ outs=some (k,l)→OutOk base inv mt post ρ k l
 |[],G,k,l,_,_,hs=>by simp [selK] at hs
 |[o],G,k,l,h,hG,hs=>by
  simp only [selK,Option.some.injEq] at hs
  simp only [chkO,hs] at h
  exact chkO1_ok hb h hF hx hG
 |o::o'::r,G,k,l,h,hG,hs=>by
  simp only [chkO,Bool.and_eq_true] at h
  simp only [selK] at hs
  cases hg:(o.1.den ρ).B
  ·rw [hg] at hs
   exact chkO_ok hb hF hx h.2 (addPc_holds hg hG) hs
  ·rw [hg] at hs
   simp only [cond_true,Option.some.injEq] at hs
   rw [hs] at h
   exact chkO1_ok hb h.1 hF hx (addPc_holds hg hG)
def ltPc (n:Nat):Pc→Pc
 |[]=>[]
 |x::r=>bif x.1.lt n then x::ltPc n r else ltPc n r
theorem ltPc_ok {n:Nat}{ρ σ:List AV}(h:AgreeV n ρ σ):∀{pc:Pc},pc.holds ρ→(ltPc n pc).holds σ
 |[],_=>fun x hx=>by cases hx
 |x::r,hp=>by
  have ih:=ltPc_ok h (pc:=r) fun y hy=>hp y (List.mem_cons_of_mem _ hy)
  simp only [ltPc]
  cases hl:x.1.lt n
  ·exact ih
  ·exact Pc.holds_cons (by rw [← Tm.lt_den h hl];exact hp x (List.mem_cons_self ..)) ih
def trueAll (l:List Tm):Pc:=l.map fun t=>(t,true)
theorem trueAll_ok {ρ:List AV}{l:List Tm}(h:∀t∈l,(t.den ρ).B=true):Pc.holds ρ (trueAll l):=fun x hx=>by
 unfold trueAll at hx
 obtain ⟨t,ht,rfl⟩:=List.mem_map.1 hx
 exact h t ht
def allX (F:Pc)(T:SpT):List (Pc×Side)→Nat→List Lo→List LH→List (Pc×Tm)→List (Pc×Tm)
 |sd,_,[],_,xs=>sdX F T xs sd
 |sd,k,x::r,hs,xs=>allX F T (sd.drop ((hdH hs).at' - k)) (hdH hs).at' r (tlH hs) (postX F (sdX F T xs (sd.take ((hdH hs).at' - k))) x (hdH hs))
 mutual
def chkLo (F:Pc)(T:SpT)(xs:List (Pc×Tm)):Lo→LH→Bool
  | .mk pc base m entry outs sd aw ms bn,h=>
   let F0:=facts (bnF bn++F) xs pc
   let Fr:=trueAll h.inv++ltPc base F0
   (h.mt.lt (base+m)&&h.inv.all fun t=>t.lt (base+m))&&((match substE base entry .I h.mt with|some mt'=>ftOk 2 F0 mt' h.ft|none=>false)&&h.inv.all (subOk base entry F0)&&(chkA Fr T sd 0 aw h.sub h.xs&&chkO base h.inv h.mt h.post Fr (allX Fr T sd 0 aw h.sub h.xs) [] outs))
def chkA (F:Pc)(T:SpT):List (Pc×Side)→Nat→List Lo→List LH→List (Pc×Tm)→Bool
  |sd,_,[],_,xs=>chkSd F T xs sd
  |sd,k,x::r,hs,xs=>
   let n:=(hdH hs).at' - k
   chkSd F T xs (sd.take n)&&(let xs1:=sdX F T xs (sd.take n);chkLo F T xs1 x (hdH hs)&&chkA F T (sd.drop n) (hdH hs).at' r (tlH hs) (postX F xs1 x (hdH hs)))
end
theorem agree_app {n:Nat}{a b:List AV}(h:n≤a.length):AgreeV n a (a++b):=fun i hi=>by
 rw [List.getD_eq_getElem?_getD,List.getD_eq_getElem?_getD,List.getElem?_append_left (by omega)]
theorem run_up {S' S:List AV→Prop}{outs:List (Tm×Nat×List SV)}{ρ0:List AV}{base m:Nat}{inv:List Tm}{mt:Tm}{post:List (List Tm)}{Fb:Pc}{xs:List (Pc×Tm)}(hl0:ρ0.length=base)
  (hlt:(mt.lt (base+m)&&inv.all fun t=>t.lt (base+m))=true)
  (hFb:∀σ,AgreeV base ρ0 σ→Pc.holds σ Fb)
  (hS:∀σ,Pc.holds σ (trueAll inv++Fb)→S' σ→S σ∧ExL σ xs)
  (ho:chkO base inv mt post (trueAll inv++Fb) xs [] outs=true):∀{n:Nat} {vs:List AV} {k:Nat} {us:List AV},0<n→(∀t∈inv,(t.den (ρ0++vs)).B=true)→(mt.den (ρ0++vs)).I<(n:Int)→RunP S' outs ρ0 m n vs k us→RunN S outs ρ0 m n vs k us∧∀t∈nthP post k,(t.den (ρ0++us)).B=true
 |0,_,_,_,h0,_,_,_=>absurd h0 (Nat.lt_irrefl _)
 |n+1,vs,k,us,_,hi,hm,hr=>by
  obtain ⟨cs,h1,h2,h3,h4⟩:=hr
  rw [Bool.and_eq_true,List.all_eq_true] at hlt
  have hag:AgreeV (base+m) (ρ0++vs) (ρ0++vs++cs):=agree_app (by rw [List.length_append];omega)
  have hF:Pc.holds (ρ0++vs++cs) (trueAll inv++Fb):=holds_app (trueAll_ok fun t ht=>by rw [← Tm.lt_den hag (hlt.2 t ht)];exact hi t ht) (hFb _ (by rw [List.append_assoc];exact agree_app (by omega)))
  have hb:base≤(ρ0++vs++cs).length:=by simp only [List.length_append];omega
  have ht:(ρ0++vs++cs).take base=ρ0:=by rw [List.append_assoc,← hl0,List.take_left]
  have hX:=hS _ hF h3
  split at h4
  ·exact h4.elim
  ·rename_i l hsel
   have q:=chkO_ok hb hF hX.2 ho (fun x hx=>by cases hx) hsel
   simp only [OutOk] at q
   rw [ht] at q
   obtain ⟨q1,q2,q3⟩:=q
   rw [← Tm.lt_den hag hlt.1] at q2 q3
   obtain ⟨z1,z2⟩:=run_up hl0 (by rw [Bool.and_eq_true,List.all_eq_true];exact hlt) hFb hS ho (by omega) q1 (by omega) h4
   exact ⟨⟨cs,h1,h2,hX.1,by rw [hsel];exact z1⟩,z2⟩
  ·rename_i j l hsel
   have q:=chkO_ok hb hF hX.2 ho (fun x hx=>by cases hx) hsel
   simp only [OutOk] at q
   rw [ht] at q
   obtain ⟨rfl,rfl⟩:=h4
   exact ⟨⟨cs,h1,h2,hX.1,by rw [hsel];exact ⟨rfl,rfl⟩⟩,q⟩
theorem postK_ok {ρ:List AV}{base pos n:Nat}{pc:Pc}{l:List Tm}(h:Pc.holds ρ pc→∀t:Tm,t.lt (base+n)=true→(t∈l→((t.ren (shf base pos)).den ρ).B=true)){xs:List (Pc×Tm)}(hx:ExL ρ xs):ExL ρ (postK base pos n pc l++xs):=by
 induction l with
 |nil=>exact hx
 |cons t r ih=>
  simp only [postK]
  have ih':=ih fun hp t' h1 h2=>h hp t' h1 (List.mem_cons_of_mem _ h2)
  cases hl:t.lt (base+n)
  ·exact ih'
  ·exact ⟨fun hp=>h hp t hl (List.mem_cons_self ..),ih'⟩
theorem ren_us {ρ us:List AV}{base pos:Nat}(hb:base≤ρ.length)(h:∀(i:Nat) (u:AV),us[i]?=some u→ρ.getD (pos+i) undefA=u){n:Nat}(hn:n≤us.length){t:Tm}(hl:t.lt (base+n)=true):(t.ren (shf base pos)).den ρ=t.den (ρ.take base++us):=by
 refine Tm.ren_den (n:=base+n) (fun i hi=>?_) hl
 unfold shf
 cases hlt:Nat.blt i base
 ·have hi':¬i<base:=fun q=>by rw [show Nat.blt i base=true by rw [Nat.blt_eq];exact q] at hlt;cases hlt
  have hl':(ρ.take base).length=base:=by rw [List.length_take];omega
  simp only [cond_false]
  have:i-base<us.length:=by omega
  have e:=h (i-base) us[i-base] (by simp [this])
  rw [Nat.add_comm,e,List.getD_eq_getElem?_getD,List.getElem?_append_right (by omega),hl']
  simp [this]
 ·rw [Nat.blt_eq] at hlt
  simp only [cond_true]
  exact (getD_tk hb hlt).symm
theorem selK_mem {ρ:List AV}:∀{outs:List (Tm×Nat×List SV)} {x:Nat×List SV},selK ρ outs=some x→∃o∈outs,o.2=x
 |[],_,h=>by simp [selK] at h
 |[o],x,h=>by simp only [selK,Option.some.injEq] at h;exact ⟨o,by simp,h⟩
 |o::o'::r,x,h=>by
  simp only [selK] at h
  cases hg:(o.1.den ρ).B
  ·rw [hg] at h
   obtain ⟨q,q1,q2⟩:=selK_mem h
   exact ⟨q,List.mem_cons_of_mem _ q1,q2⟩
  ·rw [hg] at h
   simp only [cond_true,Option.some.injEq] at h
   exact ⟨o,List.mem_cons_self ..,h⟩
theorem run_ms {S:List AV→Prop}{outs:List (Tm×Nat×List SV)}{ρ0:List AV}{m:Nat}{ms:List Nat}(hL:LenOk outs ms=true):∀{n:Nat} {vs:List AV} {k:Nat} {us:List AV},RunN S outs ρ0 m n vs k us→k<ms.length∧ms.getD k 0≤us.length
 |0,_,_,_,h=>h.elim
 |n+1,vs,k,us,h=>by
  obtain ⟨cs,h1,h2,h3,h4⟩:=h
  split at h4
  ·exact h4.elim
  ·exact run_ms hL h4
  ·rename_i j l hsel
   obtain ⟨rfl,rfl⟩:=h4
   obtain ⟨o,q1,q2⟩:=selK_mem hsel
   unfold LenOk at hL
   rw [List.all_eq_true] at hL
   have:=hL o q1
   rw [q2,Bool.and_eq_true] at this
   rw [denL_length]
   exact ⟨Nat.le_of_ble_eq_true this.1,Nat.le_of_ble_eq_true this.2⟩
theorem post1 {ρ:List AV}{base pos n:Nat}{pc:Pc}{l:List Tm}{xs:List (Pc×Tm)}(h:Pc.holds ρ pc→base≤ρ.length∧∃us:List AV,n≤us.length∧(∀(i:Nat) (u:AV),us[i]?=some u→ρ.getD (pos+i) undefA=u)∧∀t∈l,(t.den (ρ.take base++us)).B=true)(hx:ExL ρ xs):ExL ρ (postK base pos n pc l++xs):=
 postK_ok (fun hp t hl ht=>by
  obtain ⟨hb,us,h1,h2,h3⟩:=h hp
  rw [ren_us hb h2 h1 hl]
  exact h3 t ht) hx
def Lo.res (L:Lo)(post:List (List Tm))(ρ:List AV):Prop:=match L with
 | .mk pc base _ _ outs _ _ ms bn=>Pc.holds ρ pc→(∀t∈bn,(t.den ρ).R.length≤4294967296)→base≤ρ.length∧∃(k:Nat) (us:List AV),(LenOk outs ms=true→k<ms.length∧ms.getD k 0≤us.length)∧ResK ρ base ms k us∧∀t∈nthP post k,(t.den (ρ.take base++us)).B=true
theorem bnC_ok {ρ:List AV}{F:Pc}{xs:List (Pc×Tm)}{pc:Pc}{bn:List Tm}(hF:Pc.holds ρ F)(hx:ExL ρ xs)(h:Pc.holds ρ (bnC F xs pc bn)):Pc.holds ρ pc∧∀t∈bn,(t.den ρ).R.length≤4294967296:=by
 have key:∀{t:Tm},((tLe (.rlen t) (.li big)).den ρ).B=true→(t.den ρ).R.length≤4294967296:=by
  intro t h
  have h2:lLen (t.den ρ).R≤big:=of_decide_eq_true h
  unfold lLen big at h2;omega
 unfold bnC at h
 dsimp only at h
 cases hq:(bn.all fun t=>prove 1 (facts F xs pc) (tLe (.rlen t) (.li big)))
 ·rw [hq] at h
  simp only [cond_false] at h
  refine ⟨fun x hx=>h x (List.mem_append.2 (.inr hx)),fun t ht=>key (h (_,true) (List.mem_append.2 (.inl ?_)))⟩
  clear hq h
  induction bn with
  |nil=>cases ht
  |cons a r ih=>
   rcases List.mem_cons.1 ht with rfl|ht
   ·exact List.mem_cons_self ..
   ·exact List.mem_cons_of_mem _ (ih ht)
 ·rw [hq] at h
  rw [List.all_eq_true] at hq
  exact ⟨h,fun t ht=>key (prove_ok (hq t ht) (facts_ok hF hx h))⟩
theorem selP_k {ρ:List AV}{base n n' k k0:Nat}{us:List AV}{c:Pc}(hk0:k0=0∨k0=1)(hk:k<2)(hr:ResK ρ base [n,n'] k us)(h:Pc.holds ρ (selP base [n,n'] k0++c)):k=k0:=by
 have h1:=hr.1 (by show 1<2;omega)
 have e:(((Tm.bin .eql (.int .i64) (.var base []) (.li 0)).den ρ).B)=iEq ((cellAt (ρ.getD base undefA) []).D.I) 0:=rfl
 have e2:cellAt (ρ.getD base undefA) []=ρ.getD base undefA:=by cases ρ.getD base undefA<;>rfl
 rw [e2,h1] at e
 rcases hk0 with rfl|rfl
 ·have q:=h (_,true) (List.mem_append.2 (.inl (List.mem_cons_self ..)))
  dsimp only at q
  rw [e,iEq_t] at q
  omega
 ·have q:=h (_,false) (List.mem_append.2 (.inl (List.mem_cons_self ..)))
  dsimp only at q
  rw [e,iEq_f] at q
  omega
theorem postX_ok {L:Lo}{H:LH}{ρ:List AV}{F:Pc}{xs:List (Pc×Tm)}(hF:Pc.holds ρ F)(hx:ExL ρ xs)(h:L.res H.post ρ):ExL ρ (postX F xs L H):=by
 obtain ⟨pc,base,m,entry,outs,sd,aw,ms,bn⟩:=L
 simp only [postX]
 split
 ·exact hx
 ·rename_i p _
  cases hL:LenOk outs ms
  ·exact hx
  ·simp only [cond_true]
   have sub:∀{a b:Pc},Pc.holds ρ (a++b)→Pc.holds ρ b:=fun h x hx=>h x (List.mem_append.2 (.inr hx))
   split
   ·rename_i n
    refine post1 (fun hp=>?_) hx
    obtain ⟨h1,h2⟩:=bnC_ok hF hx (sub hp)
    obtain ⟨hb,k,us,q1,q2,q3⟩:=h h1 h2
    have hk:=q1 hL
    have:k=0:=by have:=hk.1;simp at this;exact this
    subst this
    exact ⟨hb,us,hk.2,q2.2,q3⟩
   ·rename_i n n'
    refine post1 (fun hp=>?_) (post1 (fun hp=>?_) hx)
    ·obtain ⟨h1,h2⟩:=bnC_ok hF hx (sub hp)
     obtain ⟨hb,k,us,q1,q2,q3⟩:=h h1 h2
     have hk:=q1 hL
     have:=selP_k (.inl rfl) hk.1 q2 hp
     subst this
     exact ⟨hb,us,hk.2,q2.2,q3⟩
    ·obtain ⟨h1,h2⟩:=bnC_ok hF hx (sub hp)
     obtain ⟨hb,k,us,q1,q2,q3⟩:=h h1 h2
     have hk:=q1 hL
     have:=selP_k (.inr rfl) hk.1 q2 hp
     subst this
     exact ⟨hb,us,hk.2,q2.2,q3⟩
   ·exact hx
theorem WkL_take {P:Program}{T:SpT}{ρ:List AV}:∀{n:Nat} {sd:List (Pc×Side)},WkL P T ρ sd→WkL P T ρ (sd.take n)∧WkL P T ρ (sd.drop n)
 |0,sd,h=>⟨trivial,h⟩
 |n+1,[],h=>⟨trivial,trivial⟩
 |n+1,x::r,h=>⟨⟨h.1,(WkL_take (n:=n) h.2).1⟩,(WkL_take (n:=n) h.2).2⟩
theorem SidesC_join {P:Program}{ρ:List AV}:∀{n:Nat} {sd:List (Pc×Side)},SidesC P ρ (sd.take n)→SidesC P ρ (sd.drop n)→SidesC P ρ sd
 |0,sd,_,h=>h
 |n+1,[],_,_=>trivial
 |n+1,x::r,h,k=>⟨h.1,SidesC_join (n:=n) h.2 k⟩
 mutual
theorem chkLo_ok {P:Program}{T:SpT}:∀{L:Lo} {H:LH} {ρ:List AV} {F:Pc} {xs:List (Pc×Tm)},chkLo F T xs L H=true→Pc.holds ρ F→ExL ρ xs→L.wk P T H ρ→L.holds P ρ∧L.res H.post ρ
  | .mk pc base m entry outs sd aw ms bn,H,ρ,F,xs,h,hF,hx,hw=>by
   simp only [chkLo,Bool.and_eq_true] at h
   obtain ⟨h0,⟨hft,h1⟩,h4,h3⟩:=h
   have all:Pc.holds ρ pc→(∀t∈bn,(t.den ρ).R.length≤4294967296)→base≤ρ.length∧∃n k us,(RunN (fun σ=>SidesOk P σ sd∧LoL P aw σ) outs (ρ.take base) m n (denL ρ entry) k us∧∀t∈nthP H.post k,(t.den (ρ.take base++us)).B=true)∧ResK ρ base ms k us:=by
    intro hp hbn
    simp only [Lo.wk] at hw
    obtain ⟨hb,n,k,us,⟨hn0,hn⟩,hr,hres⟩:=hw hp hbn
    have hF0:=facts_ok (holds_app (bnF_ok hbn) hF) hx hp
    have hl:(ρ.take base).length=base:=by rw [List.length_take];omega
    rw [List.all_eq_true] at h1
    have hm:(H.mt.den (ρ.take base++denL ρ entry)).I<(n:Int):=by
     split at hft
     ·rename_i mt' hm
      have q:=substE_ok hb hm
      simp only [SimE] at q
      have q2:=ftOk_ok hft hF0
      omega
     ·cases hft
    refine ⟨hb,n,k,us,run_up (xs:=allX (trueAll H.inv++ltPc base (facts (bnF bn++F) xs pc)) T sd 0 aw H.sub H.xs) hl (by rw [Bool.and_eq_true];exact h0) (fun σ hag=>?_) (fun σ hF' hS=>?_) h3 hn0 (fun t ht=>subOk_ok hb (h1 t ht) hF0) hm hr,hres⟩
    ·refine ltPc_ok (fun i hi=>?_) hF0
     rw [← hag i hi]
     have:=getD_tk (ρ:=ρ) (m:=[]) hb hi
     simpa using this.symm
    ·obtain ⟨z1,z2,z3⟩:=chkA_ok h4 hF' hS.1 hS.2.1 hS.2.2
     exact ⟨⟨z1.ok,z2⟩,z3⟩
   refine ⟨?_,?_⟩
   ·unfold Lo.holds
    intro hp hbn
    obtain ⟨hb,n,k,us,⟨z1,_⟩,z2⟩:=all hp hbn
    exact ⟨hb,n,k,us,z1,z2⟩
   ·intro hp hbn
    obtain ⟨hb,n,k,us,⟨z1,z3⟩,z2⟩:=all hp hbn
    exact ⟨hb,k,us,fun hL=>run_ms hL z1,z2,z3⟩
theorem chkA_ok {P:Program}{T:SpT}:∀{l:List Lo} {sd:List (Pc×Side)} {k:Nat} {hs:List LH} {ρ:List AV} {F:Pc} {xs:List (Pc×Tm)},chkA F T sd k l hs xs=true→Pc.holds ρ F→ExL ρ xs→WkL P T ρ sd→LoW P T l hs ρ→SidesC P ρ sd∧LoL P l ρ∧ExL ρ (allX F T sd k l hs xs)
  |[],sd,k,hs,ρ,F,xs,h,hF,hx,hw,_=>by
   simp only [chkA] at h
   obtain ⟨h1,h2⟩:=chkSd_ok hF hx h hw
   exact ⟨h1,trivial,h2⟩
  |x::r,sd,k,hs,ρ,F,xs,h,hF,hx,hw,hl=>by
   simp only [chkA,Bool.and_eq_true] at h
   simp only [LoW] at hl
   obtain ⟨w1,w2⟩:=WkL_take (n:=(hdH hs).at' - k) hw
   obtain ⟨a1,a2⟩:=chkSd_ok hF hx h.1 w1
   obtain ⟨b1,b2⟩:=chkLo_ok h.2.1 hF a2 hl.1
   obtain ⟨c1,c2,c3⟩:=chkA_ok h.2.2 hF (postX_ok hF a2 b2) w2 hl.2
   exact ⟨SidesC_join a1 c1,⟨b1,c2⟩,c3⟩
end
 mutual
def bndT : SV→Pc
  | .sc .sl t=>[(tLe (.rlen t) (.li big),true)]
  | .agg l=>bndTL l
  | .tup l=>bndTL l
  | .os _ _ _ t=>[(tLe t (.li big),true)]
  | .fn _ x y=>bndTL x++bndTL y
  |_=>[]
def bndTL : List SV→Pc
  |[]=>[]
  |x::r=>bndT x++bndTL r
end
 mutual
theorem bndT_ok {ρ:List AV}:∀{v:SV},(v.den ρ).bnd→Pc.holds ρ (bndT v)
  | .sc k t,h=>by
   cases k<;>simp only [bndT]<;>first|(intro x hx;cases hx;done)|skip
   exact Pc.holds_cons (by
    have:(t.den ρ).R.length≤4294967296:=h.1
    show decide (lLen (t.den ρ).R≤big)=true
    exact decide_eq_true (by unfold lLen big;omega)) fun x hx=>by cases hx
  | .agg l,h=>by simp only [bndT];exact bndTL_ok h
  | .tup l,h=>by simp only [bndT];exact bndTL_ok h
  | .os b sz off t,h=>by
   simp only [bndT]
   exact Pc.holds_cons (by
    have:(t.den ρ).I.toNat≤4294967296:=h
    show decide ((t.den ρ).I≤big)=true
    exact decide_eq_true (by unfold big;omega)) fun x hx=>by cases hx
  | .c _,_=>fun x hx=>by cases hx
  | .nil,_=>fun x hx=>by cases hx
  | .sf _,_=>fun x hx=>by cases hx
  | .slc _ _,_=>fun x hx=>by cases hx
  | .vp _ _,_=>fun x hx=>by cases hx
  | .op _ _ _ _,_=>fun x hx=>by cases hx
  | .fn _ _ _,h=>by simp only [bndT];exact holds_app (bndTL_ok h.1) (bndTL_ok h.2)
  | .ifc _ _,_=>fun x hx=>by cases hx
  | .mp _,_=>fun x hx=>by cases hx
theorem bndTL_ok {ρ:List AV}:∀{l:List SV},bndL (denL ρ l)→Pc.holds ρ (bndTL l)
  |[],_=>fun x hx=>by cases hx
  |x::r,h=>by simp only [bndTL];exact holds_app (bndT_ok h.1) (bndTL_ok h.2)
end
def preF' (args:List SV)(sp:Sp):Pc:=match sbL args sp.pre with
 |some l=>trueAll l
 |none=>[]
def chkF (T:SpT)(sp:Sp)(args bd:List SV)(H:LH)(sd:List (Pc×Side))(aw:List Lo):Bool:=
 let F:=preF' args sp++bndTL bd
 chkA F T sd 0 aw H.sub H.xs
theorem preF'_ok {ρ:List AV}{args:List SV}{sp:Sp}(h:AllT (denL ρ args) sp.pre):Pc.holds ρ (preF' args sp):=by
 unfold preF'
 split
 ·rename_i l hl
  exact trueAll_ok ((sbL_ok hl).2 h).mem
 ·exact fun x hx=>by cases hx
theorem chkF_ok {P:Program}{T:SpT}{sp:Sp}{ρ:List AV}{args bd:List SV}{H:LH}{sd:List (Pc×Side)}{aw:List Lo}(h:chkF T sp args bd H sd aw=true)(hp:AllT (denL ρ args) sp.pre)(hb:Pc.holds ρ (bndTL bd))(hx:ExL ρ H.xs)(hw:WkL P T ρ sd)(hl:LoW P T aw H.sub ρ):SidesC P ρ sd∧LoL P aw ρ∧ExL ρ (allX (preF' args sp++bndTL bd) T sd 0 aw H.sub H.xs):=
 chkA_ok h (holds_app (preF'_ok hp) hb) hx hw hl
def hlf (pc:Pc):Tm→Bool→Pc
 | .and x y,b=>match b with
  |true=>[]
  |false=>match pc.known x with
   |some true=>(y,false)::hlf pc y false
   |_=>match pc.known y with
    |some true=>(x,false)::hlf pc x false
    |_=>[]
 | .or x y,b=>match b with
  |false=>[]
  |true=>match pc.known x with
   |some false=>(y,true)::hlf pc y true
   |_=>match pc.known y with
    |some false=>(x,true)::hlf pc x true
    |_=>[]
 | .not x,b=>hlf pc x (!b)
 |_,_=>[]
theorem hlf_ok {ρ:List AV}{pc:Pc}(h:pc.holds ρ):∀{t:Tm} {b:Bool},(t.den ρ).B=b→Pc.holds ρ (hlf pc t b):=by
 intro t
 induction t with
 |and x y ihx ihy=>
  intro b e
  cases b
  ·have e':((x.den ρ).B&&(y.den ρ).B)=false:=e
   simp only [hlf]
   split
   ·rename_i hx
    rw [Pc.known_holds h hx,Bool.true_and] at e'
    exact Pc.holds_cons e' (ihy e')
   ·split
    ·rename_i hy
     rw [Pc.known_holds h hy,Bool.and_true] at e'
     exact Pc.holds_cons e' (ihx e')
    ·exact fun x hx=>by cases hx
  ·exact fun x hx=>by cases hx
 |or x y ihx ihy=>
  intro b e
  cases b
  ·exact fun x hx=>by cases hx
  ·have e':((x.den ρ).B||(y.den ρ).B)=true:=e
   simp only [hlf]
   split
   ·rename_i hx
    rw [Pc.known_holds h hx,Bool.false_or] at e'
    exact Pc.holds_cons e' (ihy e')
   ·split
    ·rename_i hy
     rw [Pc.known_holds h hy,Bool.or_false] at e'
     exact Pc.holds_cons e' (ihx e')
    ·exact fun x hx=>by cases hx
 |not x ih=>
  intro b e
  have e':(!(x.den ρ).B)=b:=e
  exact ih (by rw [← e'];simp)
 |_=>intro b e x hx;cases hx
def cloP (G:Pc):Pc:=G.flatMap (fun x=>hlf G x.1 x.2)++G
theorem cloP_ok {ρ:List AV}{G:Pc}(h:G.holds ρ):Pc.holds ρ (cloP G):=holds_app (fun x hx=>by
 obtain ⟨y,hy,hx⟩:=List.mem_flatMap.1 hx
 exact hlf_ok h (h y hy) x hx) h
def chkQ (F:Pc)(xs:List (Pc×Tm))(q:List Tm)(Q:Pc):Nat→Pc→Bool
 |0,G=>proveL (facts F xs G) q
 |n+1,G=>match iteOpen (facts F xs G) Q with
  |none=>proveL (facts F xs G) q
  |some c=>chkQ F xs q Q n (addPc c true G)&&chkQ F xs q Q n (addPc c false G)
theorem chkQ_ok {ρ:List AV}{F:Pc}{xs:List (Pc×Tm)}{q:List Tm}{Q:Pc}(hF:Pc.holds ρ F)(hx:ExL ρ xs):∀{n:Nat} {G:Pc},chkQ F xs q Q n G=true→Pc.holds ρ G→AllT ρ q
 |0,G,h,hG=>proveL_ok h (facts_ok hF hx hG)
 |n+1,G,h,hG=>by
  simp only [chkQ] at h
  split at h
  ·exact proveL_ok h (facts_ok hF hx hG)
  ·rename_i c _
   rw [Bool.and_eq_true] at h
   cases hc:(c.den ρ).B
   ·exact chkQ_ok hF hx h.2 (addPc_holds hc hG)
   ·exact chkQ_ok hF hx h.1 (addPc_holds hc hG)
def chkR (F:Pc)(xs:List (Pc×Tm))(l:SV→Option (List SV))(post:List Tm):Pc→List (Tm×SV)→Bool
  |_,[]=>true
  |G,[o]=>chkR1 F xs l post G o.2
  |G,o::o'::r=>chkR1 F xs l post (addPc o.1 true G) o.2&&chkR F xs l post (addPc o.1 false G) (o'::r)
 where chkR1 (F:Pc) (xs:List (Pc×Tm)) (l:SV→Option (List SV)) (post:List Tm) (G:Pc) (v:SV):Bool:=match l v with
  |none=>false
  |some l=>match sbL l post with
   |none=>false
   |some q=>chkQ F xs q (q.map fun t=>(t,true)) 6 (cloP G)
theorem chkR_ok {ρ:List AV}{F:Pc}{xs:List (Pc×Tm)}{l:SV→Option (List SV)}{post:List Tm}{A:AV→List AV}(hl:∀v m,l v=some m→denL ρ m=A (v.den ρ))(hF:Pc.holds ρ F)(hx:ExL ρ xs):∀{rs:List (Tm×SV)} {G:Pc},rs≠[]→chkR F xs l post G rs=true→Pc.holds ρ G→AllT (A (selR ρ rs)) post:=by
 have one:∀{G:Pc} {v:SV},chkR.chkR1 F xs l post G v=true→Pc.holds ρ G→AllT (A (v.den ρ)) post:=by
  intro G v h hG
  unfold chkR.chkR1 at h
  split at h
  ·cases h
  rename_i m hm
  split at h
  ·cases h
  rename_i q hq
  rw [← hl v m hm]
  exact (sbL_ok hq).1 (chkQ_ok hF hx h (cloP_ok hG))
 intro rs
 induction rs with
 |nil=>intro G hne;exact absurd rfl hne
 |cons o r ih=>
  intro G _ h hG
  cases r with
  |nil=>exact one h hG
  |cons o' r=>
   simp only [chkR,Bool.and_eq_true] at h
   simp only [selR]
   cases hg:(o.1.den ρ).B
   ·exact ih (by simp) h.2 (addPc_holds hg hG)
   ·exact one h.1 (addPc_holds hg hG)
def bndOk (args bd:List SV)(sp:Sp):Bool:=match sbL args sp.bnd with
 |none=>false
 |some l=>(bndTL bd).all fun x=>x.2&&l.any fun t=>t.beq x.1
theorem bndOk_ok {ρ:List AV}{args bd:List SV}{sp:Sp}(h:bndOk args bd sp=true)(hb:AllT (denL ρ args) sp.bnd):Pc.holds ρ (bndTL bd):=by
 unfold bndOk at h
 split at h
 ·cases h
 rename_i l hl
 rw [List.all_eq_true] at h
 have hb':=((sbL_ok hl).2 hb).mem
 intro x hx
 have q:=h x hx
 rw [Bool.and_eq_true,List.any_eq_true] at q
 obtain ⟨q1,t,q2,q3⟩:=q
 rw [q1,← Tm.beq_eq q3]
 exact hb' t q2
def chkP (T:SpT)(sp:Sp)(args bd:List SV)(H:LH)(R:PRes)(l:SV→Option (List SV)):Bool:=match sp.post with
 |[]=>true
 |post=>match R.rs with
  |[]=>false
  |_::_=>bndOk args bd sp&&(let F:=preF' args sp++bndTL bd;chkR F (allX F T R.sd 0 R.aw H.sub H.xs) l post [] R.rs)
theorem chkP_ok {P:Program}{T:SpT}{sp:Sp}{ρ:List AV}{args bd:List SV}{H:LH}{R:PRes}{l:SV→Option (List SV)}{A:AV→List AV}(hl:∀v m,l v=some m→denL ρ m=A (v.den ρ))(hc:chkF T sp args bd H R.sd R.aw=true)(h:chkP T sp args bd H R l=true)(hp:AllT (denL ρ args) sp.pre)(hb:AllT (denL ρ args) sp.bnd)(hx:ExL ρ H.xs)(hw:WkL P T ρ R.sd)(hlw:LoW P T R.aw H.sub ρ):AllT (A (selR ρ R.rs)) sp.post:=by
 unfold chkP at h
 split at h
 ·rename_i e;rw [e];trivial
 ·rename_i e
  split at h
  ·cases h
  ·rename_i er
   rw [Bool.and_eq_true] at h
   have hbd:=bndOk_ok h.1 hb
   obtain ⟨-,-,hX⟩:=chkF_ok hc hp hbd hx hw hlw
   exact chkR_ok hl (holds_app (preF'_ok hp) hbd) hX (by rw [er];simp) h.2 (fun x hx=>by cases hx)
theorem mk_h {P:Program}(hm:P.follows .mixedOrders=true){X:Ext'}(hX:∀σ:List AV,fzL σ=true→ExtOk P σ X){I0:Inl}(h0:∀σ:List AV,fzL σ=true→InlOk P σ I0){md:Md}{FC:FuncId→FCfg}{unr CF f nv:Nat}{args:List SV}{R:PRes}{az:List AV}{r:AV}{T:SpT}
  (h:sFnI P X I0 md FC unr CF f args nv=some R) (H:LH) (hc:(chkF T (T.at f) args args H R.sd R.aw&&chkP T (T.at f) args args H R fun v=>some (args++[v]))=true) (ρ:List AV) (hρ:fzL ρ=true) (hx:ExL ρ H.xs) (hw:WkL P T ρ R.sd) (hl:LoW P T R.aw H.sub ρ) (ha:denL ρ args=az) (hr:selR ρ R.rs=r):CT P T f az r:=fun hpre=>by
 subst ha
 rw [Bool.and_eq_true] at hc
 refine ⟨pc_bnd fun hb=>?_,fun hb=>?_⟩
 ·obtain ⟨h1,h2,-⟩:=chkF_ok hc.1 hpre (bndTL_ok hb) hx hw hl
  exact mk_pcXIL hm hX h0 (rs:=R.rs) (sd:=R.sd) (aw:=R.aw) h hρ h1 h2 rfl hr
 ·subst hr
  exact chkP_ok (A:=fun r=>denL ρ args++[r]) (fun v m hm=>by simp only [Option.some.injEq] at hm;subst hm;exact denL_app1) hc.1 hc.2 hpre hb hx hw hl
theorem mk_ho {P:Program}(hm:P.follows .mixedOrders=true){X:Ext'}(hX:∀σ:List AV,fzL σ=true→ExtOk P σ X){I0:Inl}(h0:∀σ:List AV,fzL σ=true→InlOk P σ I0){md:Md}{FC:FuncId→FCfg}{unr CF f nv:Nat}{args:List SV}{R:PRes}{az:List AV}{r:AV}{p:List Nat}{sz:Nat}{T:SpT}
  (h:sFnO P X I0 md FC unr CF f args nv p sz=some R) (H:LH) (hc:(chkF T (T.at f) args args H R.sd R.aw&&chkP T (T.at f) args args H R fun v=>some (args++[v]))=true) (ρ:List AV) (hρ:fzL ρ=true) (hx:ExL ρ H.xs) (hw:WkL P T ρ R.sd) (hl:LoW P T R.aw H.sub ρ) (ha:denL ρ args=az) (hr:selR ρ R.rs=r):CTo P T f az r p sz:=fun hpre=>by
 subst ha
 rw [Bool.and_eq_true] at hc
 refine ⟨pco_bnd fun hb=>?_,fun hb=>?_⟩
 ·obtain ⟨h1,h2,-⟩:=chkF_ok hc.1 hpre (bndTL_ok hb) hx hw hl
  exact mk_pco hm hX h0 (rs:=R.rs) (sd:=R.sd) (aw:=R.aw) h hρ h1 h2 rfl hr
 ·subst hr
  exact chkP_ok (A:=fun r=>denL ρ args++[r]) (fun v m hm=>by simp only [Option.some.injEq] at hm;subst hm;exact denL_app1) hc.1 hc.2 hpre hb hx hw hl
def boutS (chs:List (Nat×Nat))(cs:List SV):Nat→List (Nat×SB)→Option (List SV)
 |_,[]=>some []
 |j,(b,k)::r=>match chs.find? (fun x=>Nat.beq x.1 b) with
  |some _=>match nthL cs j with
   |some (.sc .sl t)=>match boutS chs cs (j+1) r with|some l=>some (.sc .sl t::l)|none=>none
   |_=>none
  |none=>match boutS chs cs j r with|some l=>some (k.sv::l)|none=>none
theorem sv_den {ρ:List AV}{k:SB}:k.sv.den ρ=(k.den ρ).av:=by cases k<;>rfl
theorem boutS_den {ρ:List AV}{chs:List (Nat×Nat)}{cs:List SV}:∀{bl:List (Nat×SB)} {j:Nat} {l:List SV},boutS chs cs j bl=some l→denL ρ l=avB (boutOf ρ chs (denL ρ cs) j bl)
 |[],j,l,h=>by simp only [boutS,Option.some.injEq] at h;subst h;rfl
 |(b,k)::r,j,l,h=>by
  simp only [boutS] at h
  simp only [boutOf]
  split at h
  ·rename_i x hx
   rw [hx]
   split at h
   ·rename_i t ht
    split at h
    ·rename_i l' hl
     simp only [Option.some.injEq] at h;subst h
     have e:=denL_get (ρ:=ρ) ht
     have ih:=boutS_den (ρ:=ρ) hl
     show _::denL ρ l'=_::avB (boutOf ρ chs (denL ρ cs) (j+1) r)
     rw [ih]
     simp only [List.getD_eq_getElem?_getD,e,Option.getD_some]
     rfl
    ·cases h
   ·cases h
  ·rename_i hx
   rw [hx]
   split at h
   ·rename_i l' hl
    simp only [Option.some.injEq] at h;subst h
    have ih:=boutS_den (ρ:=ρ) hl
    show _::denL ρ l'=_::avB (boutOf ρ chs (denL ρ cs) j r)
    rw [ih,sv_den]
   ·cases h
def outSV (args:List SV)(bl:List (Nat×SB))(chs:List (Nat×Nat)):SV→Option (List SV)
 | .tup (r::cs)=>match boutS chs cs 0 bl with
  |some l=>some (args++blSV bl++(r::l))
  |none=>none
 |_=>none
def tupL (az:List AV)(ρ:List AV)(chs:List (Nat×Nat))(bl:List (Nat×SB)):AV→List AV
 | .tup (r::cs)=>az++(r::avB (boutOf ρ chs cs 0 bl))
 |_=>[]
theorem mk_hw {P:Program}(hm:P.follows .mixedOrders=true){X:Ext'}(hX:∀σ:List AV,fzL σ=true→ExtOk P σ X){I0:Inl}(h0:∀σ:List AV,fzL σ=true→InlOk P σ I0){md:Md}{FC:FuncId→FCfg}{unr CF f nv:Nat}{args:List SV}{R:PRes}{az:List AV}{r:AV}{cs:List AV}{bl:List (Nat×SB)}{chs:List (Nat×Nat)}{n0:Nat}{bin bout:List (Nat×Blk)}{T:SpT}
  (h:sFnW P X I0 md FC unr CF f args nv bl chs n0=some R) (H:LH) (hc:(chkF T (T.atW f n0) (args++blSV bl) args H R.sd R.aw&&chkP T (T.atW f n0) (args++blSV bl) args H R (outSV args bl chs))=true) (ρ:List AV) (hρ:fzL ρ=true) (hx:ExL ρ H.xs) (hw:WkL P T ρ R.sd) (hl:LoW P T R.aw H.sub ρ) (ha:denL ρ args=az) (hb:blD ρ bl=bin) (hr:selR ρ R.rs=.tup (r::cs)) (hb2:boutOf ρ chs cs 0 bl=bout):CTw P T f az bin n0 r bout:=fun hpre=>by
 subst ha;subst hb;subst hb2
 rw [Bool.and_eq_true] at hc
 have e:denL ρ (args++blSV bl)=denL ρ args++avB (blD ρ bl):=by rw [denL_append,blSV_den]
 rw [← e] at hpre ⊢
 refine ⟨pw_bnd fun hbd=>?_,fun hbd=>?_⟩
 ·obtain ⟨h1,h2,-⟩:=chkF_ok hc.1 hpre (bndTL_ok hbd) hx hw hl
  exact mk_pw hm hX h0 (rs:=R.rs) (sd:=R.sd) (aw:=R.aw) h hρ h1 h2 rfl rfl hr rfl
 ·have q:=chkP_ok (A:=tupL (denL ρ (args++blSV bl)) ρ chs bl) (fun v m hm=>by
   unfold outSV at hm
   split at hm
   ·split at hm
    ·rename_i l hl
     simp only [Option.some.injEq] at hm;subst hm
     rw [denL_append]
     show _=_++(_::avB (boutOf ρ chs (denL ρ _) 0 bl))
     rw [← boutS_den hl];rfl
    ·cases hm
   ·cases hm) hc.1 hc.2 hpre hbd hx hw hl
  rw [hr] at q
  exact q
end Go.Fw
end
section
set_option linter.unusedVariables false
set_option linter.unusedSimpArgs false
set_option linter.unusedSectionVars false
namespace Go.Fw
set_option linter.unusedSectionVars false
set_option linter.unusedSimpArgs false
set_option linter.unusedVariables false
variable [Glob]
abbrev V (n:Nat):Tm:=.var n []
abbrev W (n j:Nat):Tm:=.var n [j]
abbrev kI : Kd:=.int .i64
abbrev kU : Kd:=.int .u8
abbrev zI (t:Tm):SV:=.sc (.int .i64) t
abbrev zU (t:Tm):SV:=.sc (.int .u8) t
abbrev zB (t:Tm):SV:=.sc .bool t
abbrev zS (t:Tm):SV:=.sc .str t
abbrev zF (t:Tm):SV:=.sc .flt t
abbrev zL (t:Tm):SV:=.sc .sl t
abbrev qL (a b:Tm):Tm:=.bin .lss (.int .i64) a b
abbrev qM (a b:Tm):Tm:=.bin .leq (.int .i64) a b
abbrev qG (a b:Tm):Tm:=.bin .gtr (.int .i64) a b
abbrev qH (a b:Tm):Tm:=.bin .geq (.int .i64) a b
abbrev qE (a b:Tm):Tm:=.bin .eql (.int .i64) a b
abbrev qN (a b:Tm):Tm:=.bin .neq (.int .i64) a b
abbrev uE (a b:Tm):Tm:=.bin .eql (.int .u8) a b
abbrev uN (a b:Tm):Tm:=.bin .neq (.int .u8) a b
abbrev sE (a b:Tm):Tm:=.bin .eql .str a b
abbrev sN (a b:Tm):Tm:=.bin .neq .str a b
abbrev aI (a b:Tm):Tm:=.bin .add (.int .i64) a b
abbrev mI (a b:Tm):Tm:=.bin .sub (.int .i64) a b
abbrev cV (n:Nat)(l:List Kd):List SV:=cellsV n [] 0 l
abbrev cW (n j:Nat)(l:List Kd):List SV:=cellsV n [] j l
abbrev eI (n:Int):AV:=.p (.int .i64 n)
abbrev eU (n:Int):AV:=.p (.int .u8 n)
abbrev eB (b:Bool):AV:=.p (.bool b)
abbrev eF (n:Nat):AV:=.p (.float .f64 n)
abbrev eS (s:List UInt8):AV:=.str s
abbrev eL {α:Type}(f:α→List AV)(l:List α):AV:=.sl (List.map f l) false
class Fz (a:AV):Prop where h:a.fz=true
class FzL (l:List AV):Prop where h:fzL l=true
class FzR {α:Type}(f:α→List AV):Prop where h:∀x,fzL (f x)=true
instance {v : Value}:Fz (.p v):=⟨rfl⟩
instance {s : List UInt8}:Fz (.str s):=⟨rfl⟩
instance {l : List AV} [h:FzL l]:Fz (.agg l):=⟨h.h⟩
instance {l : List AV} [h:FzL l]:Fz (.tup l):=⟨h.h⟩
instance {α : Type} {f:α→List AV} [h:FzR f] {l:List α}:Fz (.sl (List.map f l) false):=⟨fzs h.h l⟩
instance : FzL []:=⟨rfl⟩
instance : Fz undefA:=⟨rfl⟩
instance {a : AV} {l:List AV} [h:Fz a] [k:FzL l]:FzL (a::l):=⟨fzc h.h k.h⟩
theorem fzL_app : ∀{a b:List AV},fzL a=true→fzL b=true→fzL (a++b)=true
 |[],b,_,h=>h
 |x::r,b,h1,h2=>by
  simp only [fzL,Bool.and_eq_true,List.cons_append] at h1 ⊢
  exact ⟨h1.1,fzL_app h1.2 h2⟩
instance {a b:List AV} [h:FzL a] [k:FzL b]:FzL (a++b):=⟨fzL_app h.h k.h⟩
instance (priority :=low) {α:Type} {f:α→List AV} [h:FzR f] {x:α}:FzL (f x):=⟨h.h x⟩
instance {b : Bool} {x y:List AV} [h:FzL x] [k:FzL y]:FzL (bif b then x else y):=⟨fzb h.h k.h⟩
instance : FzR rowB:=⟨rowB_fz⟩
instance : FzR rowI:=⟨rowI_fz⟩
instance : FzR rowU8:=⟨rowU8_fz⟩
instance : FzR rowS:=⟨rowS_fz⟩
instance {K V:Type} {f:K→List AV} {g:V→List AV} [h:FzR f] [k:FzR g]:FzR (rowM f g):=⟨rowM_fz h.h k.h⟩
class Rok {α:Type}(f:α→List AV)(n:outParam Nat):Prop where h:∀x,(f x).length=n
instance : Rok rowB 1:=⟨fun _=>rfl⟩
instance : Rok rowI 1:=⟨fun _=>rfl⟩
instance : Rok rowU8 1:=⟨fun _=>rfl⟩
instance : Rok rowS 1:=⟨fun _=>rfl⟩
theorem Rok.rok {α:Type}{f:α→List AV}{n:Nat}[h:Rok f n](l:List α):rowsOk n (l.map f):=by
 intro row hr
 obtain ⟨x,-,rfl⟩:=List.mem_map.1 hr
 exact h.h x
section
variable {P : Program} {T:SpT} {ρ:List AV} {pc:Pc} {r:List (Pc×Side)}
theorem wn : WkL P T ρ []:=trivial
theorem wX {s:Side}(h:Pc.holds ρ pc→s.wk P T ρ)(k:WkL P T ρ r):WkL P T ρ ((pc,s)::r):=⟨h,k⟩
theorem wT (k:WkL P T ρ r){t:Tm}:WkL P T ρ ((pc,.tm t)::r):=⟨fun _ h=>h.1,k⟩
theorem leH {a b:Tm}(h:((tLe a b).den ρ).B=true):(a.den ρ).I≤(b.den ρ).I:=of_decide_eq_true h
theorem ltH {a b:Tm}(h:((tLt a b).den ρ).B=true):(a.den ρ).I<(b.den ρ).I:=of_decide_eq_true h
theorem wR {t i:Tm}{cells:List SV}{α:Type}{f:α→List AV}{l:List α}(ht:(t.den ρ).R=List.map f l)(k:WkL P T ρ r)[Inhabited α](hc:denL ρ cells=f (l.getD (i.den ρ).I.toNat default):=by rfl):WkL P T ρ ((pc,.row t i cells)::r):=by
 refine ⟨fun _ h=>?_,k⟩
 have h0:0≤(i.den ρ).I:=leH h.1
 have h1:(i.den ρ).I<lLen (t.den ρ).R:=ltH h.2.1
 refine ⟨h0,?_⟩
 rw [ht] at h1 ⊢
 rw [hc]
 exact (row_i h0 (by simpa [lLen] using h1)).2
theorem wRd {t i:Tm}{off:Nat}{ty:Bool×Nat}{v:SV}{α:Type}{f:α→List AV}{l:List α}(ht:(t.den ρ).R=List.map f l)(k:WkL P T ρ r)[Inhabited α]{y:AV}(hv:v.den ρ=y:=by rfl)(hc:apart ty (f (l.getD (i.den ρ).I.toNat default)) off (fun x=>x=y):=by first|exact rfl|exact ⟨Nat.le_of_ble_eq_true rfl,rfl⟩):WkL P T ρ ((pc,.rd ty t i off v)::r):=by
 refine ⟨fun _ h=>?_,k⟩
 have h0:0≤(i.den ρ).I:=leH h.1
 have h1:(i.den ρ).I<lLen (t.den ρ).R:=ltH h.2.1
 refine ⟨f (l.getD (i.den ρ).I.toNat default),?_,?_⟩
 ·rw [ht] at h1 ⊢
  exact (row_i h0 (by simpa [lLen] using h1)).2
 ·rw [hv];exact hc
theorem wSt {t i m:Tm}{off:Nat}{cells:List SV}{α:Type}{f:α→List AV}{l:List α}(y:α)(ht:(t.den ρ).R=List.map f l)(k:WkL P T ρ r)[Inhabited α]{N:Nat}[hn:Rok f N](hm:(m.den ρ).R=List.map f (l.set (i.den ρ).I.toNat y):=by rfl)(hc:Nat.ble (off+cells.length) N=true:=by rfl)(hy:f y=lay (f (l.getD (i.den ρ).I.toNat default)) off (denL ρ cells):=by rfl):WkL P T ρ ((pc,.st t i off cells m)::r):=by
 refine ⟨fun _ h=>?_,k⟩
 have h0:0≤(i.den ρ).I:=leH h.1
 have h1:(i.den ρ).I<lLen (t.den ρ).R:=ltH h.2.1
 rw [ht] at h1
 have h2:(i.den ρ).I<(l.length:Int):=by simpa [lLen] using h1
 obtain ⟨row,q1,q2,q3⟩:=st_side (off:=off) (cells:=denL ρ cells) (f:=f) (l:=l) y h0 h2 hn.h (by rw [denL_length];exact hc) hy
 exact ⟨row,by rw [ht];exact q1,by rw [← denL_length (ρ:=ρ)];exact q2,by rw [hm,ht];exact q3⟩
theorem wSub {t m:Tm}{lo hi:Option Tm}{sz:Nat}{α:Type}{f:α→List AV}{l:List α}(ht:(t.den ρ).R=List.map f l)(k:WkL P T ρ r)[hn:Rok f sz](hm:(m.den ρ).R=List.map f ((l.drop (oTm ρ 0 lo).toNat).take ((oTm ρ l.length hi).toNat-(oTm ρ 0 lo).toNat)):=by rfl):WkL P T ρ ((pc,.sub sz t lo hi m)::r):=by
 refine ⟨fun _ h=>?_,k⟩
 have e:(t.den ρ).R.length=l.length:=by rw [ht];simp
 show rowsOk sz (t.den ρ).R∧_
 rw [e]
 have hl:(((Tm.rlen t).den ρ).I:Int)=l.length:=by show lLen (t.den ρ).R=_;unfold lLen;rw [e]
 refine ⟨by rw [ht];exact Rok.rok l,?_,?_,?_,by rw [hm,ht];simp⟩
 ·cases lo with
  |none=>exact Int.le_refl _
  |some a=>cases hi with
   |none=>exact leH h.1
   |some b=>exact leH h.1
 ·cases lo with
  |none=>cases hi with
   |none=>exact Int.natCast_nonneg _
   |some b=>exact leH h.1
  |some a=>cases hi with
   |none=>have:=leH h.2.1;rw [hl] at this;exact this
   |some b=>exact leH h.2.1
 ·cases lo with
  |none=>cases hi with
   |none=>exact Int.le_refl _
   |some b=>have:=leH h.2.1;rw [hl] at this;exact this
  |some a=>cases hi with
   |none=>exact Int.le_refl _
   |some b=>have:=leH h.2.2.1;rw [hl] at this;exact this
theorem tTop_I {k:Nat}:((tTop k).den ρ).I=big-k:=by
 unfold tTop;rw [fNat_eq,fInt'_eq];rfl
theorem rlen_I {t:Tm}:((Tm.rlen t).den ρ).I=((t.den ρ).R.length:Int):=rfl
theorem wApp {x m:Tm}{y:List (List SV)}{sz:Nat}{α:Type}{f:α→List AV}{l:List α}(q:List α)(hx:(x.den ρ).R=List.map f l)(k:WkL P T ρ r)[hn:Rok f sz](hy:denLL ρ y=List.map f q:=by rfl)(hm:(m.den ρ).R=List.map f (l++q):=by rfl):WkL P T ρ ((pc,.app sz x y m)::r):=by
 refine ⟨fun _ h=>?_,k⟩
 have h1:=leH h.1
 rw [tTop_I,rlen_I] at h1
 unfold big at h1
 exact ⟨by rw [hx];exact Rok.rok l,by omega,by rw [hm,hx,hy];simp⟩
theorem wLen2 (k:WkL P T ρ r){m:Nat}{y:Tm}:WkL P T ρ ((pc,.len2 m y)::r):=by
 refine ⟨fun _ h=>?_,k⟩
 have h1:=leH h.1
 rw [tTop_I,rlen_I] at h1
 unfold big at h1
 show m+_≤_
 omega
theorem wRok {m:Nat}{t:Tm}{α:Type}{f:α→List AV}{l:List α}(ht:(t.den ρ).R=List.map f l)(k:WkL P T ρ r)[hn:Rok f m]:WkL P T ρ ((pc,.rok m t)::r):=
 ⟨fun _ _=>by show rowsOk m _;rw [ht];exact Rok.rok l,k⟩
theorem wCat (k:WkL P T ρ r){x y:Tm}:WkL P T ρ ((pc,.cat x y)::r):=by
 refine ⟨fun _ h=>?_,k⟩
 have h1:=leH h.1
 have h2:=leH h.2.1
 have e:(((tRest (.slen y)).den ρ).I)=iSub .i64 big (sLen (y.den ρ).S):=rfl
 have h1':((y.den ρ).S.length:Int)≤big:=h1
 rw [e,iSubC (by unfold sLen;unfold big at *;omega) (by unfold sLen;unfold big at *;omega)] at h2
 have h2':((x.den ρ).S.length:Int)≤big-((y.den ρ).S.length:Int):=h2
 unfold big at h2'
 show _+_≤_
 omega
theorem wC {f:FuncId}{args:List SV}{v:SV}{az:List AV}{y:AV}(h:CT P T f az y)(k:WkL P T ρ r)(ha:denL ρ args=az:=by rfl)(hv:v.den ρ=y:=by rfl):WkL P T ρ ((pc,.call f args v)::r):=by
 subst ha;subst hv
 exact ⟨fun _=>h,k⟩
theorem ctP {f:FuncId}{az:List AV}{y:AV}(h:PC P f az y)(hT:T.at f=sp0:=by rfl):CT P T f az y:=fun _=>⟨h,fun _=>by rw [hT];trivial⟩
theorem wCp {f:FuncId}{args:List SV}{v:SV}{az:List AV}{y:AV}(h:Pc.holds ρ pc→CT P T f az y)(k:WkL P T ρ r)(ha:denL ρ args=az:=by rfl)(hv:v.den ρ=y:=by rfl):WkL P T ρ ((pc,.call f args v)::r):=by
 subst ha;subst hv
 exact ⟨h,k⟩
theorem cto_eq {f:FuncId}{az:List AV}{y z:AV}{p:List Nat}{sz:Nat}(e:bndL az→y=z)(h:CTo P T f az y p sz)(hT:(T.at f).post=[]:=by rfl):CTo P T f az z p sz:=fun hp=>⟨pco_bnd fun hb=>e hb▸(h hp).1,fun _=>by rw [hT];trivial⟩
theorem wOf {f:FuncId}{args:List SV}{v:SV}{p:List Nat}{sz:Nat}{az:List AV}{y:AV}(h:CTo P T f az y p sz){α:Type}{g:α→List AV}{l:List α}(hl:rowsP p (v.den ρ)=List.map g l)(k:WkL P T ρ r)(hg:∀x,flatL (g x)=true:=by intro _;rfl)(ha:denL ρ args=az:=by rfl)(hv:v.den ρ=y:=by rfl):WkL P T ρ ((pc,.callo f args v p sz true)::r):=by
 subst ha;subst hv
 refine ⟨fun _=>⟨h,fun _ row hr=>?_⟩,k⟩
 rw [hl] at hr
 obtain ⟨x,-,rfl⟩:=List.mem_map.1 hr
 exact hg x
theorem wWL {f:FuncId}{args:List SV}{bl bl':List (Nat×SB)}{n0:Nat}{v:SV}{az:List AV}{y:AV}{b b':List (Nat×Blk)}(h:((osT args bl).1.den ρ).I.toNat=((osT args bl).2.den ρ).R.length→CTw P T f az b n0 y b')(k:WkL P T ρ r)(he:(osL args).isSome=true:=by rfl)(ha:denL ρ args=az:=by rfl)(hb:blD ρ bl=b:=by rfl)(hv:v.den ρ=y:=by rfl)(hb':blD ρ bl'=b':=by rfl):WkL P T ρ ((pc,.callw f args bl n0 v bl')::r):=by
 subst ha;subst hb;subst hv;subst hb'
 refine ⟨fun _ ho=>h ?_,k⟩
 simp only [Side.osE] at ho
 cases e:osL args with
 |none=>rw [e] at he;cases he
 |some z=>
  rw [e] at ho
  have:=iEq_t.1 ho.1
  rw [this];exact Int.toNat_natCast _
theorem wLook {K V:Type}[DecidableEq K]{f:K→List AV}{g:V→List AV}{kt:TypeId}{m:MSh}{t ft:Tm}{kk z v:SV}(hk:∀a b:K,aeq P 10000 kt (packA m.ka (f a)) (packA m.ka (f b))=some (decide (a=b)))(key:K)(zero:V){l:List (K×V)}(ht:(t.den ρ).R=List.map (rowM f g) l)(k:WkL P T ρ r)(hf:∀k,(f k).length=m.kn:=by intro _;rfl)(h1:kk.den ρ=packA m.ka (f key):=by rfl)(h2:z.den ρ=packA m.va (g zero):=by rfl)(h3:(ft.den ρ).B=(mapGet zero key l).1:=by rfl)(h4:v.den ρ=packA m.va (g (mapGet zero key l).2):=by rfl):WkL P T ρ ((pc,.look kt m t kk z ft v)::r):=by
 refine ⟨fun _ _=>?_,k⟩
 show ∃r,_
 rw [h1,h2,h3,h4,ht]
 exact look_side hk hf key zero l
theorem wPut {K V:Type}[DecidableEq K]{f:K→List AV}{g:V→List AV}{kt:TypeId}{m:MSh}{t nt:Tm}{kk v:SV}(hk:∀a b:K,aeq P 10000 kt (packA m.ka (f a)) (packA m.ka (f b))=some (decide (a=b)))(key:K)(val:V){l:List (K×V)}(ht:(t.den ρ).R=List.map (rowM f g) l)(k:WkL P T ρ r)(hf:∀k,(f k).length=m.kn:=by intro _;rfl)(h1:kk.den ρ=packA m.ka (f key):=by rfl)(h2:v.den ρ=packA m.va (g val):=by rfl)(h3:(nt.den ρ).R=List.map (rowM f g) (mapPut key val l):=by rfl):WkL P T ρ ((pc,.put kt m t kk v nt)::r):=by
 refine ⟨fun _ _=>?_,k⟩
 show ∃r,_
 rw [h1,h2,h3,ht]
 exact put_side hk hf key val l
end
def RunL (P:Program)(T:SpT)(L:Lo)(H:LH)(ρ0:List AV)(n:Nat)(vs:List AV)(r:Nat×List AV):Prop:=
 match L with
 | .mk _ _ m _ outs sd aw _ _=>RunP (fun σ=>ExL σ H.xs∧WkL P T σ sd∧LoW P T aw H.sub σ) outs ρ0 m n vs r.1 r.2
def RndP (S:List AV→Prop)(outs:List (Tm×Nat×List SV))(ρ0:List AV)(m n:Nat)(σ:List AV)(o:Option (Nat×List SV))(r:Nat×List AV):Prop:=
 match o with
 |none=>False
 |some (0,l)=>RunP S outs ρ0 m n (denL σ l) r.1 r.2
 |some (j+1,l)=>r.1=j∧r.2=denL σ l
def RndL (P:Program)(T:SpT)(L:Lo)(H:LH)(ρ0:List AV)(n:Nat)(σ:List AV)(o:Option (Nat×List SV))(r:Nat×List AV):Prop:=
 match L with
 | .mk _ _ m _ outs sd aw _ _=>RndP (fun σ=>ExL σ H.xs∧WkL P T σ sd∧LoW P T aw H.sub σ) outs ρ0 m n σ o r
theorem l0 {P:Program}{T:SpT}{L:Lo}{H:LH}{ρ0 vs:List AV}{r:Nat×List AV}:RunL P T L H ρ0 0 vs r:=by cases L;trivial
theorem lmk {P:Program}{T:SpT}{H:LH}{ρ0 vs:List AV}{n:Nat}{r:Nat×List AV}{pc:Pc}{base m:Nat}{entry:List SV}{outs:List (Tm×Nat×List SV)}{sd:List (Pc×Side)}{aw:List Lo}{ms:List Nat}{bn:List Tm}{L:Lo}(hL:L=.mk pc base m entry outs sd aw ms bn)
  (cs:List AV) [hf:FzL (ρ0++vs++cs)] (hx:ExL (ρ0++vs++cs) H.xs) (hw:WkL P T (ρ0++vs++cs) sd) (hl:LoW P T aw H.sub (ρ0++vs++cs)) (h:RndL P T L H ρ0 n (ρ0++vs++cs) (selK (ρ0++vs++cs) outs) r) (hm:vs.length=m:=by rfl):RunL P T L H ρ0 (n+1) vs r:=by
 subst hL
 refine ⟨cs,hm,hf.h,⟨hx,hw,hl⟩,?_⟩
 unfold RndL RndP at h
 dsimp only at h
 split at h
 ·exact h.elim
 ·rename_i l e;first|exact h|(rw [e];exact h)
 ·rename_i j l e;first|exact h|(rw [e];exact h)
theorem rcf {P:Program}{T:SpT}{L:Lo}{H:LH}{ρ0 σ:List AV}{n:Nat}{R:Type}(rk:R→Nat×List AV){g:Tm}{x:Nat×List SV}{y:Tm×Nat×List SV}{l:List (Tm×Nat×List SV)}{c:Bool}{a b:R}(h1:c=true→RndL P T L H ρ0 n σ (some x) (rk a))(h2:c=false→RndL P T L H ρ0 n σ (selK σ (y::l)) (rk b))(hg:(g.den σ).B=c:=by rfl):RndL P T L H ρ0 n σ (selK σ ((g,x)::y::l)) (rk (bif c then a else b)):=by
 simp only [selK,hg]
 cases c
 ·exact h2 rfl
 ·exact h1 rfl
theorem rc {P:Program}{T:SpT}{L:Lo}{H:LH}{ρ0 σ:List AV}{n:Nat}{R:Type}(rk:R→Nat×List AV){g:Tm}{x:Nat×List SV}{y:Tm×Nat×List SV}{l:List (Tm×Nat×List SV)}{c:Bool}{a b:R}(h1:RndL P T L H ρ0 n σ (some x) (rk a))(h2:RndL P T L H ρ0 n σ (selK σ (y::l)) (rk b))(hg:(g.den σ).B=c:=by rfl):RndL P T L H ρ0 n σ (selK σ ((g,x)::y::l)) (rk (bif c then a else b)):=
 rcf rk (fun _=>h1) (fun _=>h2) hg
theorem rl {P:Program}{T:SpT}{L:Lo}{H:LH}{ρ0 σ:List AV}{n:Nat}{r:Nat×List AV}{g:Tm}{x:Nat×List SV}(h:RndL P T L H ρ0 n σ (some x) r):RndL P T L H ρ0 n σ (selK σ [(g,x)]) r:=h
theorem rg {P:Program}{T:SpT}{L:Lo}{H:LH}{ρ0 σ vs:List AV}{n:Nat}{r:Nat×List AV}{l:List SV}(h:RunL P T L H ρ0 n vs r)(hl:denL σ l=vs:=by rfl):RndL P T L H ρ0 n σ (some (0,l)) r:=by
 subst hl
 cases L;exact h
theorem rx {P:Program}{T:SpT}{L:Lo}{H:LH}{ρ0 σ:List AV}{n:Nat}{r:Nat×List AV}{j:Nat}{l:List SV}(h1:r.1=j:=by rfl)(h2:r.2=denL σ l:=by rfl):RndL P T L H ρ0 n σ (some (j+1,l)) r:=by
 cases L;exact ⟨h1,h2⟩
theorem ln {P:Program}{T:SpT}{hs:List LH}{ρ:List AV}:LoW P T [] hs ρ:=trivial
theorem fuR {α:Type}{f:α→List AV}{l:List α}:1*lLen (List.map f l)+0<((l.length+1:Nat):Int):=by simp [lLen];omega
theorem fuN {x:Int}:1*x+0<((x.toNat+1:Nat):Int):=by omega
theorem lc1 {P:Program}{T:SpT}{ρ ρ0 vs:List AV}{hs:List LH}{ls:List Lo}{n m0:Nat}{us:List AV}{pc:Pc}{base m:Nat}{entry:List SV}{outs:List (Tm×Nat×List SV)}{sd:List (Pc×Side)}{aw:List Lo}{bn:List Tm}{L:Lo}
  (h:RunL P T L (hdH hs) ρ0 n vs (0,us)) (k:LoW P T ls (tlH hs) ρ) (hL:L=.mk pc base m entry outs sd aw [m0] bn:=by rfl) (hb:Nat.ble base ρ.length=true:=by rfl) (h0:ρ.take base=ρ0:=by rfl) (hv:denL ρ entry=vs:=by rfl)
  (hn:ftV ρ (hdH hs).ft<(n:Int):=by first|exact fuR|exact fuN) (hu:(ρ.drop base).take us.length=us:=by rfl) (hn0:Nat.blt 0 n=true:=by rfl):LoW P T (L::ls) hs ρ:=by
 subst hL;subst h0;subst hv
 refine ⟨?_,k⟩
 simp only [Lo.wk]
 rw [Nat.blt_eq] at hn0
 exact fun _ _=>⟨Nat.le_of_ble_eq_true hb,n,0,us,⟨hn0,hn⟩,h,fun h=>by simp at h,hu_of hu⟩
theorem lc2 {P:Program}{T:SpT}{ρ ρ0 vs:List AV}{hs:List LH}{ls:List Lo}{n m0 m1:Nat}{b:Bool}{u0 u1:List AV}{pc:Pc}{base m:Nat}{entry:List SV}{outs:List (Tm×Nat×List SV)}{sd:List (Pc×Side)}{aw:List Lo}{bn:List Tm}{L:Lo}
  (h:RunL P T L (hdH hs) ρ0 n vs (rk2 b u0 u1)) (k:LoW P T ls (tlH hs) ρ) (hL:L=.mk pc base m entry outs sd aw [m0,m1] bn:=by rfl) (hb:Nat.ble base ρ.length=true:=by rfl) (h0:ρ.take base=ρ0:=by rfl) (hv:denL ρ entry=vs:=by rfl)
  (hn:ftV ρ (hdH hs).ft<(n:Int):=by first|exact fuR|exact fuN) (hk:(ρ.getD base undefA).D.I=selB b:=by rfl) (hu0:(ρ.drop (base+1)).take u0.length=u0:=by rfl) (hu1:(ρ.drop (base+1+m0)).take u1.length=u1:=by rfl) (hn0:Nat.blt 0 n=true:=by rfl):LoW P T (L::ls) hs ρ:=by
 subst hL;subst h0;subst hv
 refine ⟨?_,k⟩
 simp only [Lo.wk]
 rw [Nat.blt_eq] at hn0
 refine fun _ _=>⟨Nat.le_of_ble_eq_true hb,n,(rk2 b u0 u1).1,(rk2 b u0 u1).2,⟨hn0,hn⟩,h,fun _=>?_,?_⟩
 ·rw [hk];cases b<;>rfl
 ·cases b
  ·intro i u hu
   have:=hu_of hu1 i u hu
   have e:posOf base [m0,m1] (rk2 false u0 u1).1=base+1+m0:=by show (base+1)+(m0+0)=_;omega
   rw [e];exact this
  ·intro i u hu
   have:=hu_of hu0 i u hu
   have e:posOf base [m0,m1] (rk2 true u0 u1).1=base+1:=rfl
   rw [e];exact this
theorem xn {ρ:List AV}:ExL ρ []:=trivial
theorem xc {ρ:List AV}{pc:Pc}{t:Tm}{r:List (Pc×Tm)}(h:(t.den ρ).B=true)(k:ExL ρ r):ExL ρ ((pc,t)::r):=⟨fun _=>h,k⟩
theorem xp {ρ:List AV}{pc:Pc}{t:Tm}{r:List (Pc×Tm)}(h:Pc.holds ρ pc→(t.den ρ).B=true)(k:ExL ρ r):ExL ρ ((pc,t)::r):=⟨h,k⟩
section
variable {P : Program} {T:SpT} {X:Ext'} {I0:Inl} {md:Md} {FC:FuncId→FCfg} {unr CF f nv:Nat} {args:List SV} {az:List AV} {r:AV} {R:PRes}
theorem mkH (hm:P.follows .mixedOrders=true)(hX:∀σ:List AV,fzL σ=true→ExtOk P σ X)(h0:∀σ:List AV,fzL σ=true→InlOk P σ I0)(h:sFnI P X I0 md FC unr CF f args nv=some R)(H:LH)(hc:(chkF T (T.at f) args args H R.sd R.aw&&chkP T (T.at f) args args H R fun v=>some (args++[v]))=true)(ρ:List AV)[hρ:FzL ρ](hx:ExL ρ H.xs)(hw:WkL P T ρ R.sd)(hl:LoW P T R.aw H.sub ρ)(hr:selR ρ R.rs=r)(ha:denL ρ args=az:=by rfl):CT P T f az r:=
 mk_h hm hX h0 h H hc ρ hρ.h hx hw hl ha hr
theorem mkO (hm:P.follows .mixedOrders=true)(hX:∀σ:List AV,fzL σ=true→ExtOk P σ X)(h0:∀σ:List AV,fzL σ=true→InlOk P σ I0){p:List Nat}{sz:Nat}(h:sFnO P X I0 md FC unr CF f args nv p sz=some R)(H:LH)(hc:(chkF T (T.at f) args args H R.sd R.aw&&chkP T (T.at f) args args H R fun v=>some (args++[v]))=true)(ρ:List AV)[hρ:FzL ρ](hx:ExL ρ H.xs)(hw:WkL P T ρ R.sd)(hl:LoW P T R.aw H.sub ρ)(hr:selR ρ R.rs=r)(ha:denL ρ args=az:=by rfl):CTo P T f az r p sz:=
 mk_ho hm hX h0 h H hc ρ hρ.h hx hw hl ha hr
theorem mkW (hm:P.follows .mixedOrders=true)(hX:∀σ:List AV,fzL σ=true→ExtOk P σ X)(h0:∀σ:List AV,fzL σ=true→InlOk P σ I0){cs:List AV}{bl:List (Nat×SB)}{chs:List (Nat×Nat)}{n0:Nat}{bin bout:List (Nat×Blk)}(h:sFnW P X I0 md FC unr CF f args nv bl chs n0=some R)(H:LH)(hc:(chkF T (T.atW f n0) (args++blSV bl) args H R.sd R.aw&&chkP T (T.atW f n0) (args++blSV bl) args H R (outSV args bl chs))=true)(ρ:List AV)[hρ:FzL ρ](hx:ExL ρ H.xs)(hw:WkL P T ρ R.sd)(hl:LoW P T R.aw H.sub ρ)(hr:selR ρ R.rs=.tup (r::cs))(ha:denL ρ args=az:=by rfl)(hb:blD ρ bl=bin:=by rfl)(hb2:boutOf ρ chs cs 0 bl=bout:=by rfl):CTw P T f az bin n0 r bout:=
 mk_hw hm hX h0 h H hc ρ hρ.h hx hw hl ha hb hr hb2
end
end Go.Fw
end
section
set_option linter.unusedVariables false
set_option linter.unusedSimpArgs false
set_option linter.unusedSectionVars false
namespace Go.Fw
set_option linter.unusedVariables false
set_option linter.unusedSimpArgs false
set_option maxRecDepth 100000
set_option maxHeartbeats 4000000
open Go.Proofs
instance : FzR GVal.enc:=⟨GVal.fzL⟩
instance {x : GVal}:Fz (GVal.av x):=⟨GVal.fz x⟩
instance : Rok GVal.enc 4:=⟨GVal.len⟩
instance : FzR GKey.enc:=⟨GKey.fzL⟩
instance {x : GKey}:Fz (GKey.av x):=⟨GKey.fz x⟩
instance : Rok GKey.enc 2:=⟨GKey.len⟩
instance : FzR GDesc.enc:=⟨GDesc.fzL⟩
instance {x : GDesc}:Fz (GDesc.av x):=⟨GDesc.fz x⟩
instance : Rok GDesc.enc 16:=⟨GDesc.len⟩
instance : FzR GProp.enc:=⟨GProp.fzL⟩
instance {x : GProp}:Fz (GProp.av x):=⟨GProp.fz x⟩
instance : Rok GProp.enc 18:=⟨GProp.len⟩
instance : FzR GObj.enc:=⟨GObj.fzL⟩
instance {x : GObj}:Fz (GObj.av x):=⟨GObj.fz x⟩
instance : Rok GObj.enc 18:=⟨GObj.len⟩
instance : FzR GHeap.enc:=⟨GHeap.fzL⟩
instance {x : GHeap}:Fz (GHeap.av x):=⟨GHeap.fz x⟩
instance : Rok GHeap.enc 1:=⟨GHeap.len⟩
instance : FzR GOut.enc:=⟨GOut.fzL⟩
instance {x : GOut}:Fz (GOut.av x):=⟨GOut.fz x⟩
instance : Rok GOut.enc 26:=⟨GOut.len⟩
instance : FzR GSeen.enc:=⟨GSeen.fzL⟩
instance {x : GSeen}:Fz (GSeen.av x):=⟨GSeen.fz x⟩
instance : Rok GSeen.enc 32:=⟨GSeen.len⟩
instance : FzR GAsk.enc:=⟨GAsk.fzL⟩
instance {x : GAsk}:Fz (GAsk.av x):=⟨GAsk.fz x⟩
instance : Rok GAsk.enc 29:=⟨GAsk.len⟩
instance : FzR GWant.enc:=⟨GWant.fzL⟩
instance {x : GWant}:Fz (GWant.av x):=⟨GWant.fz x⟩
instance : Rok GWant.enc 87:=⟨GWant.len⟩
instance : FzR GFacts.enc:=⟨GFacts.fzL⟩
instance {x : GFacts}:Fz (GFacts.av x):=⟨GFacts.fz x⟩
instance : Rok GFacts.enc 24:=⟨GFacts.len⟩
instance {r : GDesc×Int}:Fz (eR_Desc_ii64 r):=⟨(inferInstance:FzL [(GDesc.av r.1),(.p (.int .i64 r.2))]).h⟩
instance {r : Int×Bool}:Fz (eR_ii64_bool r):=⟨(inferInstance:FzL [(.p (.int .i64 r.1)),(.p (.bool r.2))]).h⟩
instance {r : GDesc×Bool×Int}:Fz (eR_Desc_bool_ii64 r):=⟨(inferInstance:FzL [(GDesc.av r.1),(.p (.bool r.2.1)),(.p (.int .i64 r.2.2))]).h⟩
instance {r : Int×Int}:Fz (eR_ii64_ii64 r):=⟨(inferInstance:FzL [(.p (.int .i64 r.1)),(.p (.int .i64 r.2))]).h⟩
instance {r : List GKey×Int}:Fz (eR_sKey_ii64 r):=⟨(inferInstance:FzL [(.sl (List.map GKey.enc r.1) false),(.p (.int .i64 r.2))]).h⟩
instance {r : Bool×Int}:Fz (eR_bool_ii64 r):=⟨(inferInstance:FzL [(.p (.bool r.1)),(.p (.int .i64 r.2))]).h⟩
noncomputable def xBase : Ext':=xOr (xNum 161 160 158) (xClone Try.prog)
theorem xBase_ok : ∀σ:List AV,fzL σ=true→ExtOk Try.prog σ xBase:=xOr_ok (xNum_ok pc_math_Float64bits pc_math_Float64frombits pc_math_archTrunc) xClone_ok
noncomputable def iBase : Inl:=inOr (inlRefT Try.prog refCfg) (inOr (inlO Try.prog (ocT [(13,[0],18,true),(15,[0],18,true),(54,[0],18,false),(40,[0],18,false),(42,[0,0],18,false),(46,[0,0],18,false),(20,[],2,true),(56,[0],1,true),(21,[],2,true)])) (notF [115,116] (inlW Try.prog (wcT [(19,[(0,18)]),(95,[(1,2)]),(124,[(1,2)]),(125,[(1,2)]),(146,[(1,2)]),(154,[(1,2)]),(138,[]),(83,[]),(86,[]),(151,[])]))))
theorem iBase_ok : ∀σ:List AV,fzL σ=true→InlOk Try.prog σ iBase:=inOr_ok (inlRefT_ok refOk) (inOr_ok inlO_ok (notF_ok inlW_ok))
def mdI : Md:=mdT 5871356456934584128998323772304836953465305039137907605078317279422907571424627691949337275146424997092786176
def kA : List (List Nat):=[[],[],[],[],[],[],[],[],[],[],[],[],[],[],[],[],[],[],[],[],[],[],[],[],[],[],[],[],[],[],[],[],[],[],[],[],[],[],[],[],[],[],[],[],[],[],[],[],[],[],[],[],[],[],[],[],[],[],[],[],[],[],[],[],[0,1,2,5,6,7,8,9,30,31,32,33,34,35,36,37],[],[0,1,4,5],[],[],[],[],[],[],[],[],[],[],[],[],[],[],[],[],[0,1,2,6,7,8,9,14,15,16,17,18,30],[],[],[0,1,2,6,7,8,9,14,15,16,17,18,30],[],[],[],[],[],[],[],[],[1,2,4,5,6,7,11,26,31,49],[],[],[],[],[],[],[],[],[],[],[],[],[],[],[],[],[],[],[],[],[],[],[],[],[],[],[],[],[1,2,3,6,7,12,20,21,22,23,24,25,26],[1,2,3,4,8,9,10,11,12,13,14,15,16,17,18,19,20,21,22,26,31,42,50,62,67,79,86,106,117,131,142,143,144,145,155,156,157,158,168,169,170,171],[],[],[],[],[],[],[],[],[],[],[],[],[0,1,4],[],[],[],[],[],[],[],[1,2,3,4,8,9,18,21],[],[],[],[],[0,1,4,5,7,8,9,16],[],[],[1,2,3,4,8,11],[],[],[],[],[],[],[],[],[],[],[],[],[],[],[],[],[],[],[],[],[],[],[],[],[],[],[],[]]
def sT : SpT:=⟨[(98,⟨[(uN (V 1) (.li 0))],[],[]⟩),
 (63,⟨[],[(qM (.rlen (V 0)) (.li 4294967296))],[(qL (V 2) (.rlen (V 0)))]⟩),
 (24,⟨[],[(qM (.rlen (V 0)) (.li 4294967296))],[(.or (qN (V 1) (.li 0)) (qM (.rlen (V 0)) (.li 1024)))]⟩),
 (12,⟨[(qM (.rlen (V 0)) (.li 4294967295))],[(qM (.rlen (V 0)) (.li 4294967296))],[(qE (.rlen (V 1)) (aI (.rlen (V 0)) (.li 1)))]⟩),
 (59,⟨[],[(qM (.rlen (V 0)) (.li 4294967296))],[(qL (V 2) (.rlen (V 0)))]⟩),
 (126,⟨[(qM (.li 0) (V 0)),(qM (V 0) (.li 1000000))],[],[]⟩),
 (97,⟨[(qM (.li 0) (V 0)),(qM (V 0) (.li 1000000))],[],[]⟩),
 (21,⟨[(qM (.rlen (V 0)) (.li 1048576))],[],[]⟩),
 (18,⟨[(qM (.rlen (V 1)) (.rlen (V 0))),(qL (.rlen (V 1)) (.rlen (V 0)))],[],[]⟩)],[(124,4,⟨[(qM (.li 0) (V 1)),(qM (.li 0) (V 2)),(qM (V 2) (.rlen (V 4))),(qM (V 1) (.rlen (V 4)))],[(qM (.rlen (V 4)) (.li 4294967296))],[(qE (.rlen (V 7)) (.rlen (V 4)))]⟩),
 (154,4,⟨[(qM (V 1) (mI (.rlen (V 5)) (V 3))),(qM (V 2) (mI (.rlen (V 5)) (V 3))),(qM (.li 0) (V 1)),(qM (.li 0) (V 2)),(qM (.li 0) (V 3)),(qM (V 1) (.rlen (V 5))),(qM (V 2) (.rlen (V 5))),(qM (V 3) (.rlen (V 5)))],[(qM (.rlen (V 5)) (.li 4294967296))],[(qE (.rlen (V 8)) (.rlen (V 5)))]⟩),
 (146,4,⟨[(qM (.li 0) (V 1)),(qL (V 1) (V 2)),(qL (V 2) (V 3)),(qM (V 3) (.rlen (V 5)))],[(qM (.rlen (V 5)) (.li 4294967296))],[(qE (.rlen (V 8)) (.rlen (V 5)))]⟩),
 (125,4,⟨[(qM (.li 0) (V 1)),(qL (V 1) (V 2)),(qL (V 2) (V 3)),(qM (V 3) (.li 4294967296)),(qM (V 3) (.rlen (V 5)))],[(qM (.rlen (V 5)) (.li 4294967296))],[(qE (.rlen (V 8)) (.rlen (V 5)))]⟩),
 (95,4,⟨[(qM (.li 0) (V 1)),(qM (V 1) (.rlen (V 3)))],[(qM (.rlen (V 3)) (.li 4294967296))],[(qE (.rlen (V 6)) (.rlen (V 3)))]⟩)]⟩
theorem aeq_24 (a b:GKey):aeq Try.prog 10000 24 (.agg a.enc) (.agg b.enc)=some (decide (a=b)):=by
 have h:yEq Try.prog 10000 24 (.agg (cellsV 0 [] 0 GKey.kds)) (.agg (cellsV 1 [] 0 GKey.kds))=some (.and (.bin .eql .str (.var 0 [0]) (.var 1 [0])) (.bin .eql (.int .i64) (.var 0 [1]) (.var 1 [1]))):=by kernel_rfl
 have h2:=yEq_ok (P:=Try.prog) (ρ:=[a.av,b.av]) h
 refine h2.trans ?_
 congr 1
 show (sEq a.Str b.Str&&iEq a.Sym b.Sym)=decide (a=b)
 cases a;cases b
 simp [sEq,iEq,bEq,Bool.decide_and,eq_int]
def R11 : PRes:=
 ⟨[((.lb true),(zB (.or (.and (qG (.rlen (V 0)) (.li 200)) (qL (.rlen (V 0)) (.li 1020))) (qG (.rlen (V 0)) (.li 1100)))))],
 [],[]⟩
theorem e11 : sFnI Try.prog xBase iBase mdI (fcI kA 11 [] []) 3 200 11 [zL (V 0)] 1=some R11:=by kernel_rfl
theorem ct_law10_long (x0:List GProp):CT Try.prog sT 11 [eL GProp.enc x0] (eB (law10_long x0)):=
 mkH hmix xBase_ok iBase_ok e11 lh0 (by kernel_rfl) [eL GProp.enc x0] xn
  wn
  ln
  (selL rfl)
def R37 : PRes:=
 ⟨[((.or (.or (qL (W 0 1) (.li 0)) (qG (.slen (W 0 0)) (.li 4096))) (.and (qG (W 0 1) (.li 0)) (sN (W 0 0) (.ls [])))),(zI (.li 9))),((.lb true),(zI (.li 0)))],
 [],[]⟩
theorem e37 : sFnI Try.prog xBase iBase mdI (fcI kA 37 [] []) 3 200 37 [.agg (cV 0 GKey.kds)] 1=some R37:=by kernel_rfl
theorem ct_key_Check (x0:GKey):CT Try.prog sT 37 [GKey.av x0] (eI (key_Check x0)):=
 mkH hmix xBase_ok iBase_ok e37 lh0 (by kernel_rfl) [GKey.av x0] xn
  wn
  ln
  (selE (fun r=>.p (.int .i64 r)) rfl rfl (selL rfl))
def R137 : PRes:=
 ⟨[((.lb true),(zB (uN (.bin .and kU (W 0 0) (.li 3)) (.li 0))))],
 [],[]⟩
theorem e137 : sFnI Try.prog xBase iBase mdI (fcI kA 137 [] []) 3 200 137 [.agg (cV 0 GDesc.kds)] 1=some R137:=by kernel_rfl
theorem ct_desc_IsData (x0:GDesc):CT Try.prog sT 137 [GDesc.av x0] (eB (desc_IsData x0)):=
 mkH hmix xBase_ok iBase_ok e137 lh0 (by kernel_rfl) [GDesc.av x0] xn
  wn
  ln
  (selL rfl)
def R141 : PRes:=
 ⟨[((.lb true),(zB (uN (.bin .and kU (W 0 0) (.li 12)) (.li 0))))],
 [],[]⟩
theorem e141 : sFnI Try.prog xBase iBase mdI (fcI kA 141 [] []) 3 200 141 [.agg (cV 0 GDesc.kds)] 1=some R141:=by kernel_rfl
theorem ct_desc_IsAccess (x0:GDesc):CT Try.prog sT 141 [GDesc.av x0] (eB (desc_IsAccess x0)):=
 mkH hmix xBase_ok iBase_ok e141 lh0 (by kernel_rfl) [GDesc.av x0] xn
  wn
  ln
  (selL rfl)
def R155 : PRes:=
 ⟨[((.lb true),(zF (V 1)))],
 [([],(.call 158 [(zF (V 0))] (zF (V 1))))],[]⟩
theorem e155 : sFnI Try.prog xBase iBase mdI (fcI kA 155 [] []) 3 200 155 [zF (V 0)] 1=some R155:=by kernel_rfl
theorem ct_math_Trunc (x0:Nat)(h0:notNan x0):CT Try.prog sT 155 [eF x0] (eF (math_Trunc x0)):=
 let v1:Nat:=math_archTrunc x0
 mkH hmix xBase_ok iBase_ok e155 lh0 (by kernel_rfl) [eF x0,eF v1] xn
  (wCp (fun h=>ctP (pc_math_archTrunc x0 h0))<|wn)
  ln
  (selL rfl)
def R156 : PRes:=
 ⟨[((.lb true),(zF (V 2)))],
 [([],(.call 161 [(zF (V 0))] (.sc (.int .u64) (V 1)))),
 ([],(.call 160 [(.sc (.int .u64) (.bin .andNot (.int .u64) (V 1) (.li 9223372036854775808)))] (zF (V 2))))],[]⟩
theorem e156 : sFnI Try.prog xBase iBase mdI (fcI kA 156 [] []) 3 200 156 [zF (V 0)] 1=some R156:=by kernel_rfl
theorem ct_math_Abs (x0:Nat):CT Try.prog sT 156 [eF x0] (eF (math_Abs x0)):=
 let v1:Int:=math_Float64bits x0
 let v2:Nat:=math_Float64frombits (iAndNot .u64 v1 9223372036854775808)
 mkH hmix xBase_ok iBase_ok e156 lh0 (by kernel_rfl) [eF x0,.p (.int .u64 v1),eF v2] xn
  (wC (ctP (pc_math_Float64bits x0)) <|
  wC (ctP (pc_math_Float64frombits (iAndNot .u64 v1 9223372036854775808))) <|
  wn)
  ln
  (selL rfl)
def R157 : PRes:=
 ⟨[((.lb true),(zB (qL (.conv .i64 (V 1)) (.li 0))))],
 [([],(.call 161 [(zF (V 0))] (.sc (.int .u64) (V 1))))],[]⟩
theorem e157 : sFnI Try.prog xBase iBase mdI (fcI kA 157 [] []) 3 200 157 [zF (V 0)] 1=some R157:=by kernel_rfl
theorem ct_math_Signbit (x0:Nat):CT Try.prog sT 157 [eF x0] (eB (math_Signbit x0)):=
 let v1:Int:=math_Float64bits x0
 mkH hmix xBase_ok iBase_ok e157 lh0 (by kernel_rfl) [eF x0,.p (.int .u64 v1)] xn
  (wC (ctP (pc_math_Float64bits x0))<|wn)
  ln
  (selL rfl)
def R150 : PRes:=
 let p0:Pc:=((.bin .neq .flt (V 0) (V 0)),false)::[]
 let p1:Pc:=((.bin .eql .flt (V 1) (V 0)),true)::p0
 let p2:Pc:=((.and (.bin .eql .flt (V 1) (V 0)) (.bin .leq .flt (V 2) (.lf 4845873199050653695))),true)::p0
 let p3:Pc:=((.bin .neq .flt (V 0) (.lf 0)),false)::p2
 ⟨[((.lb true),(zB (.or (.bin .neq .flt (V 0) (V 0)) (.and (.and (.bin .eql .flt (V 1) (V 0)) (.bin .leq .flt (V 2) (.lf 4845873199050653695))) (.or (.bin .neq .flt (V 0) (.lf 0)) (.not (V 3)))))))],
 [(p0,(.call 155 [(zF (V 0))] (zF (V 1)))),
 (p1,(.call 156 [(zF (V 0))] (zF (V 2)))),
 (p3,(.call 157 [(zF (V 0))] (zB (V 3))))],[]⟩
theorem e150 : sFnI Try.prog xBase iBase mdI (fcI kA 150 [] []) 3 200 150 [zF (V 0)] 1=some R150:=by kernel_rfl
theorem ct_num_May (x0:Nat):CT Try.prog sT 150 [eF x0] (eB (num_May x0)):=
 let v1:Nat:=math_Trunc x0
 let v2:Nat:=math_Abs x0
 let v3:Bool:=math_Signbit x0
 mkH hmix xBase_ok iBase_ok e150 lh0 (by kernel_rfl) [eF x0,eF v1,eF v2,eB v3] xn
  (wCp (fun h=>ct_math_Trunc x0 (fnn3 (h.at 0 rfl))) <|
  wC (ct_math_Abs x0) <|
  wC (ct_math_Signbit x0) <|
  wn)
  ln
  (selL rfl)
def R135 : PRes:=
 let p0:Pc:=((qG (.slen (W 0 2)) (.li 4096)),false)::[]
 let p1:Pc:=((qL (W 0 3) (.li 0)),false)::p0
 let p2:Pc:=((.bin .gtr kU (W 0 0) (.li 8)),false)::p1
 let p3:Pc:=((uE (W 0 0) (.li 2)),true)::p2
 let p4:Pc:=((.bin .neq .flt (W 0 1) (.lf 4607182418800017408)),true)::p3
 let p5:Pc:=((.bin .neq .flt (W 0 1) (.lf 0)),false)::p4
 let p6:Pc:=((uE (W 0 0) (.li 2)),false)::p2
 let p7:Pc:=((uE (W 0 0) (.li 3)),true)::p6
 let p8:Pc:=((.and (uE (W 0 0) (.li 2)) (.and (.bin .neq .flt (W 0 1) (.lf 4607182418800017408)) (.or (.bin .neq .flt (W 0 1) (.lf 0)) (.not (V 1))))),false)::p2
 let p9:Pc:=((.and (.not (uE (W 0 0) (.li 2))) (.and (uE (W 0 0) (.li 3)) (.not (V 2)))),false)::p8
 let p10:Pc:=((.and (uE (W 0 0) (W 0 0)) (.and (.or (uE (W 0 0) (.li 2)) (.or (uE (W 0 0) (.li 3)) (.bin .eql .flt (W 0 1) (.lf 0)))) (.and (.ite (uE (W 0 0) (.li 2)) (sE (W 0 2) (.ls [])) (.ite (uE (W 0 0) (.li 3)) (sE (W 0 2) (.ls [])) (.or (uE (W 0 0) (.li 4)) (sE (W 0 2) (.ls []))))) (.ite (uE (W 0 0) (.li 2)) (qE (W 0 3) (.li 0)) (.ite (uE (W 0 0) (.li 3)) (qE (W 0 3) (.li 0)) (.ite (uE (W 0 0) (.li 4)) (qE (W 0 3) (.li 0)) (.or (.or (uE (W 0 0) (.li 5)) (.or (uE (W 0 0) (.li 6)) (.or (uE (W 0 0) (.li 7)) (uE (W 0 0) (.li 8))))) (qE (W 0 3) (.li 0))))))))),true)::p9
 ⟨[((.or (.or (.bin .gtr kU (W 0 0) (.li 8)) (qL (W 0 3) (.li 0))) (qG (.slen (W 0 2)) (.li 4096))),(zB (.lb false))),((.and (uE (W 0 0) (.li 2)) (.and (.bin .neq .flt (W 0 1) (.lf 4607182418800017408)) (.or (.bin .neq .flt (W 0 1) (.lf 0)) (.not (V 1))))),(zB (.lb false))),((.and (.not (uE (W 0 0) (.li 2))) (.and (uE (W 0 0) (.li 3)) (.not (V 2)))),(zB (.lb false))),((.lb true),(zB (.and (.and (uE (W 0 0) (W 0 0)) (.and (.or (uE (W 0 0) (.li 2)) (.or (uE (W 0 0) (.li 3)) (.bin .eql .flt (W 0 1) (.lf 0)))) (.and (.ite (uE (W 0 0) (.li 2)) (sE (W 0 2) (.ls [])) (.ite (uE (W 0 0) (.li 3)) (sE (W 0 2) (.ls [])) (.or (uE (W 0 0) (.li 4)) (sE (W 0 2) (.ls []))))) (.ite (uE (W 0 0) (.li 2)) (qE (W 0 3) (.li 0)) (.ite (uE (W 0 0) (.li 3)) (qE (W 0 3) (.li 0)) (.ite (uE (W 0 0) (.li 4)) (qE (W 0 3) (.li 0)) (.or (.or (uE (W 0 0) (.li 5)) (.or (uE (W 0 0) (.li 6)) (.or (uE (W 0 0) (.li 7)) (uE (W 0 0) (.li 8))))) (qE (W 0 3) (.li 0))))))))) (V 3))))],
 [(p5,(.call 150 [(zF (W 0 1))] (zB (V 1)))),
 (p7,(.call 150 [(zF (W 0 1))] (zB (V 2)))),
 (p10,(.call 150 [(zF (.ite (uE (W 0 0) (.li 2)) (.lf 0) (.ite (uE (W 0 0) (.li 3)) (.lf 0) (W 0 1))))] (zB (V 3))))],[]⟩
theorem e135 : sFnI Try.prog xBase iBase mdI (fcI kA 135 [] []) 3 200 135 [.agg (cV 0 GVal.kds)] 1=some R135:=by kernel_rfl
theorem ct_value_May (x0:GVal):CT Try.prog sT 135 [GVal.av x0] (eB (value_May x0)):=
 let v1:Bool:=num_May x0.Num
 let v2:Bool:=num_May x0.Num
 let v3:Bool:=num_May (bif (iEq x0.Kind 2) then 0 else (bif (iEq x0.Kind 3) then 0 else x0.Num))
 mkH hmix xBase_ok iBase_ok e135 lh0 (by kernel_rfl) [GVal.av x0,eB v1,eB v2,eB v3] xn
  (wC (ct_num_May x0.Num) <|
  wC (ct_num_May x0.Num) <|
  wC (ct_num_May (bif (iEq x0.Kind 2) then 0 else (bif (iEq x0.Kind 3) then 0 else x0.Num))) <|
  wn)
  ln
  (selE (fun r=>.p (.bool r)) rfl rfl (selE (fun r=>.p (.bool r)) rfl rfl (selE (fun r=>.p (.bool r)) rfl rfl (selL rfl))))
def R152 : PRes:=
 ⟨[((.lb true),(zB (.or (uE (W 0 0) (.li 7)) (uE (W 0 0) (.li 8)))))],
 [],[]⟩
theorem e152 : sFnI Try.prog xBase iBase mdI (fcI kA 152 [] []) 3 200 152 [.agg (cV 0 GVal.kds)] 1=some R152:=by kernel_rfl
theorem ct_value_Calls (x0:GVal):CT Try.prog sT 152 [GVal.av x0] (eB (value_Calls x0)):=
 mkH hmix xBase_ok iBase_ok e152 lh0 (by kernel_rfl) [GVal.av x0] xn
  wn
  ln
  (selL rfl)
def R142 : PRes:=
 let p0:Pc:=((V 1),true)::[]
 let p1:Pc:=((uE (W 0 0) (.li 0)),false)::p0
 ⟨[((.lb true),(zB (.and (V 1) (.or (uE (W 0 0) (.li 0)) (V 2)))))],
 [([],(.call 135 [(.agg (cV 0 GVal.kds))] (zB (V 1)))),
 (p1,(.call 152 [(.agg (cV 0 GVal.kds))] (zB (V 2))))],[]⟩
theorem e142 : sFnI Try.prog xBase iBase mdI (fcI kA 142 [] []) 3 200 142 [.agg (cV 0 GVal.kds)] 1=some R142:=by kernel_rfl
theorem ct_desc_called (x0:GVal):CT Try.prog sT 142 [GVal.av x0] (eB (desc_called x0)):=
 let v1:Bool:=value_May x0
 let v2:Bool:=value_Calls x0
 mkH hmix xBase_ok iBase_ok e142 lh0 (by kernel_rfl) [GVal.av x0,eB v1,eB v2] xn
  (wC (ct_value_May x0) <|
  wC (ct_value_Calls x0) <|
  wn)
  ln
  (selL rfl)
def R109 : PRes:=
 let p0:Pc:=((uN (.bin .andNot kU (W 0 0) (.li 63)) (.li 0)),false)::[]
 let p1:Pc:=((V 1),true)::p0
 let p2:Pc:=((.or (uN (.bin .andNot kU (W 0 0) (.li 63)) (.li 0)) (.and (V 1) (V 2))),false)::[]
 let p3:Pc:=((.or (.or (uN (.bin .andNot kU (W 0 0) (.li 63)) (.li 0)) (.and (V 1) (V 2))) (.not (V 3))),false)::[]
 let p4:Pc:=((.or (.or (.or (uN (.bin .andNot kU (W 0 0) (.li 63)) (.li 0)) (.and (V 1) (V 2))) (.not (V 3))) (.not (V 4))),false)::[]
 ⟨[((.or (.or (.or (.or (uN (.bin .andNot kU (W 0 0) (.li 63)) (.li 0)) (.and (V 1) (V 2))) (.not (V 3))) (.not (V 4))) (.not (V 5))),(zI (.li 90))),((.or (.or (.and (uN (.bin .and kU (.com .u8 (W 0 0)) (.li 1)) (.li 0)) (.not (.and (uE (W 0 1) (.li 0)) (.and (.bin .eql .flt (W 0 2) (.lf 0)) (.and (sE (W 0 3) (.ls [])) (qE (W 0 4) (.li 0))))))) (.and (uN (.bin .and kU (.com .u8 (W 0 0)) (.li 4)) (.li 0)) (.not (.and (uE (W 0 5) (.li 0)) (.and (.bin .eql .flt (W 0 6) (.lf 0)) (.and (sE (W 0 7) (.ls [])) (qE (W 0 8) (.li 0)))))))) (.and (uN (.bin .and kU (.com .u8 (W 0 0)) (.li 8)) (.li 0)) (.not (.and (uE (W 0 9) (.li 0)) (.and (.bin .eql .flt (W 0 10) (.lf 0)) (.and (sE (W 0 11) (.ls [])) (qE (W 0 12) (.li 0)))))))),(zI (.li 90))),((.or (.or (.and (uN (.bin .and kU (.com .u8 (W 0 0)) (.li 2)) (.li 0)) (W 0 13)) (.and (uN (.bin .and kU (.com .u8 (W 0 0)) (.li 16)) (.li 0)) (W 0 14))) (.and (uN (.bin .and kU (.com .u8 (W 0 0)) (.li 32)) (.li 0)) (W 0 15))),(zI (.li 90))),((.lb true),(zI (.li 0)))],
 [(p0,(.call 137 [(.agg (cV 0 GDesc.kds))] (zB (V 1)))),
 (p1,(.call 141 [(.agg (cV 0 GDesc.kds))] (zB (V 2)))),
 (p2,(.call 135 [(.agg (cW 0 1 GVal.kds))] (zB (V 3)))),
 (p3,(.call 142 [(.agg (cW 0 5 GVal.kds))] (zB (V 4)))),
 (p4,(.call 142 [(.agg (cW 0 9 GVal.kds))] (zB (V 5))))],[]⟩
theorem e109 : sFnI Try.prog xBase iBase mdI (fcI kA 109 [] []) 3 200 109 [.agg (cV 0 GDesc.kds)] 1=some R109:=by kernel_rfl
theorem ct_desc_Check (x0:GDesc):CT Try.prog sT 109 [GDesc.av x0] (eI (desc_Check x0)):=
 let v1:Bool:=desc_IsData x0
 let v2:Bool:=desc_IsAccess x0
 let v3:Bool:=value_May x0.Value
 let v4:Bool:=desc_called x0.Get
 let v5:Bool:=desc_called x0.Set
 mkH hmix xBase_ok iBase_ok e109 lh0 (by kernel_rfl) [GDesc.av x0,eB v1,eB v2,eB v3,eB v4,eB v5] xn
  (wC (ct_desc_IsData x0) <|
  wC (ct_desc_IsAccess x0) <|
  wC (ct_value_May x0.Value) <|
  wC (ct_desc_called x0.Get) <|
  wC (ct_desc_called x0.Set) <|
  wn)
  ln
  (selE (fun r=>.p (.int .i64 r)) rfl rfl (selE (fun r=>.p (.int .i64 r)) rfl rfl (selE (fun r=>.p (.int .i64 r)) rfl rfl (selL rfl))))
def R110 : PRes:=
 ⟨[((.lb true),(.agg [(zU (.ite (V 1) (.bin .or kU (W 0 0) (.li 60)) (.bin .or kU (W 0 0) (.li 51)))),(zU (W 0 1)),(zF (W 0 2)),(zS (W 0 3)),(zI (W 0 4)),(zU (W 0 5)),(zF (W 0 6)),(zS (W 0 7)),(zI (W 0 8)),(zU (W 0 9)),(zF (W 0 10)),(zS (W 0 11)),(zI (W 0 12)),(zB (W 0 13)),(zB (W 0 14)),(zB (W 0 15))]))],
 [([],(.call 141 [(.agg (cV 0 GDesc.kds))] (zB (V 1))))],[]⟩
theorem e110 : sFnI Try.prog xBase iBase mdI (fcI kA 110 [] []) 3 200 110 [.agg (cV 0 GDesc.kds)] 1=some R110:=by kernel_rfl
theorem ct_desc_whole (x0:GDesc):CT Try.prog sT 110 [GDesc.av x0] (GDesc.av (desc_whole x0)):=
 let v1:Bool:=desc_IsAccess x0
 mkH hmix xBase_ok iBase_ok e110 lh0 (by kernel_rfl) [GDesc.av x0,eB v1] xn
  (wC (ct_desc_IsAccess x0)<|wn)
  ln
  (selL rfl)
def R90 : PRes:=
 let p0:Pc:=((qN (V 1) (.li 0)),false)::[]
 ⟨[((qN (V 1) (.li 0)),(.tup [(.agg [(zU (.li 0)),(zU (.li 0)),(zF (.lf 0)),(zS (.ls [])),(zI (.li 0)),(zU (.li 0)),(zF (.lf 0)),(zS (.ls [])),(zI (.li 0)),(zU (.li 0)),(zF (.lf 0)),(zS (.ls [])),(zI (.li 0)),(zB (.lb false)),(zB (.lb false)),(zB (.lb false))]),(zI (V 1))])),((.lb true),(.tup [(.agg (cV 2 GDesc.kds)),(zI (.li 0))]))],
 [([],(.call 109 [(.agg (cV 0 GDesc.kds))] (zI (V 1)))),
 (p0,(.call 110 [(.agg (cV 0 GDesc.kds))] (.agg (cV 2 GDesc.kds))))],[]⟩
theorem e90 : sFnI Try.prog xBase iBase mdI (fcI kA 90 [] []) 3 200 90 [.agg (cV 0 GDesc.kds)] 1=some R90:=by kernel_rfl
theorem ct_desc_Complete (x0:GDesc):CT Try.prog sT 90 [GDesc.av x0] (eR_Desc_ii64 (desc_Complete x0)):=
 let v1:Int:=desc_Check x0
 let v2:GDesc:=desc_whole x0
 mkH hmix xBase_ok iBase_ok e90 lh0 (by kernel_rfl) [GDesc.av x0,eI v1,GDesc.av v2] xn
  (wC (ct_desc_Check x0) <|
  wC (ct_desc_whole x0) <|
  wn)
  ln
  (selE eR_Desc_ii64 rfl rfl (selL rfl))
def R60 : PRes:=
 ⟨[((.lb true),(zB (.and (qE (W 1 1) (.li 0)) (uE (.var 1 [0,0]) (W 0 0)))))],
 [([],(.call 90 [(.agg (cV 0 GDesc.kds))] (.tup [(.agg (cellsV 1 [0] 0 GDesc.kds)),(zI (W 1 1))])))],[]⟩
theorem e60 : sFnI Try.prog xBase iBase mdI (fcI kA 60 [] []) 3 200 60 [.agg (cV 0 GDesc.kds)] 1=some R60:=by kernel_rfl
theorem ct_table_whole (x0:GDesc):CT Try.prog sT 60 [GDesc.av x0] (eB (table_whole x0)):=
 let v1:GDesc×Int:=desc_Complete x0
 mkH hmix xBase_ok iBase_ok e60 lh0 (by kernel_rfl) [GDesc.av x0,eR_Desc_ii64 v1] xn
  (wC (ct_desc_Complete x0)<|wn)
  ln
  (selL rfl)
def L23_1 : Lo:=
 let p0:Pc:=((qG (.rlen (V 0)) (.li 1024)),false)::[]
 let p1:Pc:=((qL (V 2) (.rlen (V 0))),true)::p0
 let p2:Pc:=((qN (V 5) (.li 0)),false)::p1
 let p3:Pc:=((V 6),true)::p2
 let p4:Pc:=((qG (W 7 1) (.li 0)),false)::p3
 .mk [((qG (.rlen (V 0)) (.li 1024)),false)] 1 3 [(zI (.li 0)),(zI (.li 0)),(.slc [] false)] [((.not (qL (V 2) (.rlen (V 0)))),1,[(zI (V 1)),(zL (V 3))]),((qN (V 5) (.li 0)),2,[(zI (V 5)),(zL (V 3))]),((.not (V 6)),2,[(zI (.li 90)),(zL (V 3))]),((qG (W 7 1) (.li 0)),2,[(zI (.li 100)),(zL (V 3))]),((.lb true),0,[(zI (V 1)),(zI (aI (V 2) (.li 1))),(zL (V 8))])] [(p1,(.row (V 0) (V 2) (cV 4 GProp.kds))),
 (p1,(.call 37 [(.agg [(zS (W 4 0)),(zI (W 4 1))])] (zI (V 5)))),
 (p2,(.call 60 [(.agg (cW 4 2 GDesc.kds))] (zB (V 6)))),
 (p3,(.look 24 (.mk true 2 false 1) (V 3) (.agg [(zS (W 4 0)),(zI (W 4 1))]) (zI (.li 0)) (W 7 0) (zI (W 7 1)))),
 (p4,(.put 24 (.mk true 2 false 1) (V 3) (.agg [(zS (W 4 0)),(zI (W 4 1))]) (zI (aI (V 2) (.li 1))) (V 8)))] [] [2,2] [(V 0)]
def H23_1 : LH:=.mk [(qM (.li 0) (V 1)),(qM (V 1) (V 2))] (mI (.rlen (V 0)) (V 2)) [((.rlen (V 0)),1)] [] 0 [] []
def rk_table_Check_l1 (r:Bool×Int×List (GKey×Int)×Int×List (GKey×Int)):Nat×List AV:=rk2 r.1 [eI r.2.1,eL (rowM GKey.enc rowI) r.2.2.1] [eI r.2.2.2.1,eL (rowM GKey.enc rowI) r.2.2.2.2]
theorem lp_table_Check_l1 (x0:List GProp):∀(n:Nat) (u1:Int) (u2:Int) (u3:List (GKey×Int)),RunL Try.prog sT L23_1 H23_1 [eL GProp.enc x0] n [eI u1,eI u2,eL (rowM GKey.enc rowI) u3] (rk_table_Check_l1 (table_Check_l1 x0 n u1 u2 u3))
 |0,u1,u2,u3=>l0
 |n+1,u1,u2,u3=>
  let v4:GProp:=x0.getD (u2:Int).toNat default
  let v5:Int:=key_Check v4.Key
  let v6:Bool:=table_whole v4.Desc
  let v7:Bool×Int:=mapGet 0 v4.Key u3
  let v8:List (GKey×Int):=mapPut v4.Key (iAdd .i64 u2 1) u3
  lmk rfl [GProp.av v4,eI v5,eB v6,.agg (eB v7.1::rowI v7.2),eL (rowM GKey.enc rowI) v8] xn (wR rfl <|
  wC (ct_key_Check v4.Key) <|
  wC (ct_table_whole v4.Desc) <|
  wLook (f:=GKey.enc) (g:=rowI) aeq_24 v4.Key 0 rfl <|
  wPut (f:=GKey.enc) (g:=rowI) aeq_24 v4.Key (iAdd .i64 u2 1) rfl <|
  wn) ln <|
   rc rk_table_Check_l1 rx<|rc rk_table_Check_l1 rx<|rc rk_table_Check_l1 rx<|rc rk_table_Check_l1 rx<|rl (rg (lp_table_Check_l1 x0 n _ _ _))
def R23 : PRes:=
 ⟨[((qG (.rlen (V 0)) (.li 1024)),(zI (.li 4))),((.not (qE (V 1) (.li 0))),(zI (V 4))),((.lb true),(zI (.li 0)))],
 [],[L23_1]⟩
def H23 : LH:=.mk [] (.li 0) [] [] 0 [H23_1] []
theorem e23 : sFnI Try.prog xBase iBase mdI (fcI kA 23 [15,4,6,2] [(0,(.mk [3,13,14] (.mk [(2,(.sc kI)),(15,(.sc kI))] [] [(6,(.map (.mk true 2 false 1)))] 11) [(.normal,(.mk [(2,(.sc kI))] [] [(6,(.map (.mk true 2 false 1)))] 11)),(.ret,(.mk [(2,(.sc kI))] [] [(6,(.map (.mk true 2 false 1)))] 11))]))]) 3 200 23 [zL (V 0)] 1=some R23:=by kernel_rfl
theorem ct_table_Check (x0:List GProp):CT Try.prog sT 23 [eL GProp.enc x0] (eI (table_Check x0)):=
 let r1:Bool×Int×List (GKey×Int)×Int×List (GKey×Int):=table_Check_l1 x0 (x0.length+1) 0 0 []
 mkH hmix xBase_ok iBase_ok e23 H23 (by kernel_rfl) [eL GProp.enc x0,eI (selB r1.1),eI r1.2.1,eL (rowM GKey.enc rowI) r1.2.2.1,eI r1.2.2.2.1,eL (rowM GKey.enc rowI) r1.2.2.2.2] xn
  wn
  (lc2 (lp_table_Check_l1 x0 (x0.length+1) 0 0 []) <|
  ln)
  (selE (fun r=>.p (.int .i64 r)) rfl rfl (selE (fun r=>.p (.int .i64 r)) rfl rfl (selL rfl)))
def R68 : PRes:=
 ⟨[((.or (.or (qL (W 0 1) (.li 0)) (qG (.slen (W 0 0)) (.li 4096))) (.and (qG (W 0 1) (.li 0)) (qG (.slen (W 0 0)) (.li 0)))),(zI (.li 9))),((.lb true),(zI (.li 0)))],
 [],[]⟩
theorem e68 : sFnI Try.prog xBase iBase mdI (fcI kA 68 [] []) 3 200 68 [.agg (cV 0 GKey.kds)] 1=some R68:=by kernel_rfl
theorem ct_ref08_Check (x0:GKey):CT Try.prog sT 68 [GKey.av x0] (eI (ref08_Check x0)):=
 mkH hmix xBase_ok iBase_ok e68 lh0 (by kernel_rfl) [GKey.av x0] xn
  wn
  ln
  (selE (fun r=>.p (.int .i64 r)) rfl rfl (selL rfl))
def R98 : PRes:=
 ⟨[((.lb true),(zB (uE (.bin .rem kU (.bin .quo kU (W 0 0) (V 1)) (.li 2)) (.li 1))))],
 [([],(.tm (uN (V 1) (.li 0))))],[]⟩
theorem e98 : sFnI Try.prog xBase iBase mdI (fcI kA 98 [] []) 3 200 98 [.agg (cV 0 GDesc.kds),zU (V 1)] 2=some R98:=by kernel_rfl
theorem ct_ref09_Has (x0:GDesc)(x1:Int):CT Try.prog sT 98 [GDesc.av x0,eU x1] (eB (ref09_Has x0 x1)):=
 mkH hmix xBase_ok iBase_ok e98 lh0 (by kernel_rfl) [GDesc.av x0,eU x1] xn
  (wT<|wn)
  ln
  (selL rfl)
def R69 : PRes:=
 let p0:Pc:=((V 1),false)::[]
 ⟨[((.lb true),(zB (.or (V 1) (V 2))))],
 [([],(.call 98 [(.agg (cV 0 GDesc.kds)),(zU (.li 1))] (zB (V 1)))),
 (p0,(.call 98 [(.agg (cV 0 GDesc.kds)),(zU (.li 2))] (zB (V 2))))],[]⟩
theorem e69 : sFnI Try.prog xBase iBase mdI (fcI kA 69 [] []) 3 200 69 [.agg (cV 0 GDesc.kds)] 1=some R69:=by kernel_rfl
theorem ct_ref09_IsData (x0:GDesc):CT Try.prog sT 69 [GDesc.av x0] (eB (ref09_IsData x0)):=
 let v1:Bool:=ref09_Has x0 1
 let v2:Bool:=ref09_Has x0 2
 mkH hmix xBase_ok iBase_ok e69 lh0 (by kernel_rfl) [GDesc.av x0,eB v1,eB v2] xn
  (wC (ct_ref09_Has x0 1) <|
  wC (ct_ref09_Has x0 2) <|
  wn)
  ln
  (selL rfl)
def R111 : PRes:=
 let p0:Pc:=((V 1),false)::[]
 ⟨[((.lb true),(zB (.or (V 1) (V 2))))],
 [([],(.call 98 [(.agg (cV 0 GDesc.kds)),(zU (.li 4))] (zB (V 1)))),
 (p0,(.call 98 [(.agg (cV 0 GDesc.kds)),(zU (.li 8))] (zB (V 2))))],[]⟩
theorem e111 : sFnI Try.prog xBase iBase mdI (fcI kA 111 [] []) 3 200 111 [.agg (cV 0 GDesc.kds)] 1=some R111:=by kernel_rfl
theorem ct_ref09_IsAccess (x0:GDesc):CT Try.prog sT 111 [GDesc.av x0] (eB (ref09_IsAccess x0)):=
 let v1:Bool:=ref09_Has x0 4
 let v2:Bool:=ref09_Has x0 8
 mkH hmix xBase_ok iBase_ok e111 lh0 (by kernel_rfl) [GDesc.av x0,eB v1,eB v2] xn
  (wC (ct_ref09_Has x0 4) <|
  wC (ct_ref09_Has x0 8) <|
  wn)
  ln
  (selL rfl)
def R99 : PRes:=
 let p0:Pc:=((.bin .neq .flt (V 1) (V 1)),false)::[]
 let p1:Pc:=((.bin .neq .flt (V 0) (V 0)),false)::p0
 let p2:Pc:=((.bin .eql .flt (V 0) (V 1)),true)::p1
 let p3:Pc:=((.bin .neq .flt (V 0) (.lf 0)),false)::p2
 ⟨[((.or (.bin .neq .flt (V 0) (V 0)) (.bin .neq .flt (V 1) (V 1))),(zB (.and (.bin .neq .flt (V 0) (V 0)) (.bin .neq .flt (V 1) (V 1))))),((.lb true),(zB (.and (.bin .eql .flt (V 0) (V 1)) (.or (.bin .neq .flt (V 0) (.lf 0)) (.bin .eql .flt (.bin .quo .flt (.lf 4607182418800017408) (V 0)) (.bin .quo .flt (.lf 4607182418800017408) (V 1)))))))],
 [(p3,(.fop .quo (.lf 4607182418800017408) (V 0))),
 (p3,(.fop .quo (.lf 4607182418800017408) (V 1)))],[]⟩
theorem e99 : sFnI Try.prog xBase iBase mdI (fcI kA 99 [] []) 3 200 99 [zF (V 0),zF (V 1)] 2=some R99:=by kernel_rfl
theorem ct_ref01_Same (x0:Nat)(x1:Nat):CT Try.prog sT 99 [eF x0,eF x1] (eB (ref01_Same x0 x1)):=
 mkH hmix xBase_ok iBase_ok e99 lh0 (by kernel_rfl) [eF x0,eF x1] xn
  (wX (fun h _=>quo1 (fnn3 (h.at 0 rfl))) <|
  wX (fun h _=>quo1 (fnn2 (h.at 1 rfl))) <|
  wn)
  ln
  (selE (fun r=>.p (.bool r)) rfl rfl (selL rfl))
def R70 : PRes:=
 let p0:Pc:=((.and (.and (uE (W 0 0) (W 1 0)) (sE (W 0 2) (W 1 2))) (qE (W 0 3) (W 1 3))),true)::[]
 ⟨[((.lb true),(zB (.and (.and (.and (uE (W 0 0) (W 1 0)) (sE (W 0 2) (W 1 2))) (qE (W 0 3) (W 1 3))) (V 2))))],
 [(p0,(.call 99 [(zF (W 0 1)),(zF (W 1 1))] (zB (V 2))))],[]⟩
theorem e70 : sFnI Try.prog xBase iBase mdI (fcI kA 70 [] []) 3 200 70 [.agg (cV 0 GVal.kds),.agg (cV 1 GVal.kds)] 2=some R70:=by kernel_rfl
theorem ct_ref07_Alike (x0:GVal)(x1:GVal):CT Try.prog sT 70 [GVal.av x0,GVal.av x1] (eB (ref07_Alike x0 x1)):=
 let v2:Bool:=ref01_Same x0.Num x1.Num
 mkH hmix xBase_ok iBase_ok e70 lh0 (by kernel_rfl) [GVal.av x0,GVal.av x1,eB v2] xn
  (wC (ct_ref01_Same x0.Num x1.Num)<|wn)
  ln
  (selL rfl)
def R112 : PRes:=
 ⟨[((.lb true),(zB (V 1)))],
 [([],(.call 70 [(.agg (cV 0 GVal.kds)),(.agg [(zU (.li 0)),(zF (.lf 0)),(zS (.ls [])),(zI (.li 0))])] (zB (V 1))))],[]⟩
theorem e112 : sFnI Try.prog xBase iBase mdI (fcI kA 112 [] []) 3 200 112 [.agg (cV 0 GVal.kds)] 1=some R112:=by kernel_rfl
theorem ct_ref09_bare (x0:GVal):CT Try.prog sT 112 [GVal.av x0] (eB (ref09_bare x0)):=
 let v1:Bool:=ref07_Alike x0 (GVal.mk 0 0 [] 0)
 mkH hmix xBase_ok iBase_ok e112 lh0 (by kernel_rfl) [GVal.av x0,eB v1] xn
  (wC (ct_ref07_Alike x0 (GVal.mk 0 0 [] 0))<|wn)
  ln
  (selL rfl)
def R143 : PRes:=
 let p0:Pc:=((.bin .eql .flt (V 0) (.lf 0)),true)::[]
 ⟨[((.lb true),(zB (.and (.bin .eql .flt (V 0) (.lf 0)) (.bin .gtr .flt (.bin .quo .flt (.lf 4607182418800017408) (V 0)) (.lf 0)))))],
 [(p0,(.fop .quo (.lf 4607182418800017408) (V 0)))],[]⟩
theorem e143 : sFnI Try.prog xBase iBase mdI (fcI kA 143 [] []) 3 200 143 [zF (V 0)] 1=some R143:=by kernel_rfl
theorem ct_ref07_nought (x0:Nat):CT Try.prog sT 143 [eF x0] (eB (ref07_nought x0)):=
 mkH hmix xBase_ok iBase_ok e143 lh0 (by kernel_rfl) [eF x0] xn
  (wX (fun h _=>quo1 (fnn1 (h.at 0 rfl)))<|wn)
  ln
  (selL rfl)
def R153 : PRes:=
 let p0:Pc:=((.bin .leq .flt (V 0) (.lf 4845873199050653695)),true)::[]
 let p1:Pc:=((.bin .geq .flt (V 0) (.lf 14069245235905429503)),true)::p0
 let p2:Pc:=((.bin .neq .flt (.toF (.toI (V 0))) (V 0)),false)::p1
 let p3:Pc:=((.bin .eql .flt (V 0) (.lf 0)),true)::p2
 ⟨[((.not (.and (.bin .geq .flt (V 0) (.lf 14069245235905429503)) (.bin .leq .flt (V 0) (.lf 4845873199050653695)))),(.tup [(zI (.li 0)),(zB (.lb false))])),((.or (.bin .neq .flt (.toF (.toI (V 0))) (V 0)) (.and (.bin .eql .flt (V 0) (.lf 0)) (.bin .lss .flt (.bin .quo .flt (.lf 4607182418800017408) (V 0)) (.lf 0)))),(.tup [(zI (.li 0)),(zB (.lb false))])),((.lb true),(.tup [(zI (.toI (V 0))),(zB (.lb true))]))],
 [(p1,(.num .i64 (V 0) (.toI (V 0)))),
 (p3,(.fop .quo (.lf 4607182418800017408) (V 0)))],[]⟩
theorem e153 : sFnI Try.prog xBase iBase mdI (fcI kA 153 [] []) 3 200 153 [zF (V 0)] 1=some R153:=by kernel_rfl
theorem ct_ref01_whole (x0:Nat):CT Try.prog sT 153 [eF x0] (eR_ii64_bool (ref01_whole x0)):=
 mkH hmix xBase_ok iBase_ok e153 lh0 (by kernel_rfl) [eF x0] xn
  (wX (fun h _=>num1 (h.at 0 rfl) (h.at 1 rfl)) <|
  wX (fun h _=>quo1 (fnn1 (h.at 0 rfl))) <|
  wn)
  ln
  (selE eR_ii64_bool rfl rfl (selE eR_ii64_bool rfl rfl (selL rfl)))
def R144 : PRes:=
 ⟨[((.lb true),(zB (.or (W 1 1) (.bin .neq .flt (V 0) (V 0)))))],
 [([],(.call 153 [(zF (V 0))] (.tup [(zI (W 1 0)),(zB (W 1 1))])))],[]⟩
theorem e144 : sFnI Try.prog xBase iBase mdI (fcI kA 144 [] []) 3 200 144 [zF (V 0)] 1=some R144:=by kernel_rfl
theorem ct_ref01_May (x0:Nat):CT Try.prog sT 144 [eF x0] (eB (ref01_May x0)):=
 let v1:Int×Bool:=ref01_whole x0
 mkH hmix xBase_ok iBase_ok e144 lh0 (by kernel_rfl) [eF x0,eR_ii64_bool v1] xn
  (wC (ct_ref01_whole x0)<|wn)
  ln
  (selL rfl)
def R113 : PRes:=
 let p0:Pc:=((.bin .gtr kU (W 0 0) (.li 8)),false)::[]
 let p1:Pc:=((uE (W 0 0) (.li 3)),true)::p0
 ⟨[((.bin .gtr kU (W 0 0) (.li 8)),(zB (.lb false))),((.lb true),(zB (.and (.and (.ite (uE (W 0 0) (.li 3)) (V 2) (.ite (uE (W 0 0) (.li 2)) (.or (V 1) (.bin .eql .flt (W 0 1) (.lf 4607182418800017408))) (V 1))) (.or (sE (W 0 2) (.ls [])) (.and (uE (W 0 0) (.li 4)) (qM (.slen (W 0 2)) (.li 4096))))) (.or (qE (W 0 3) (.li 0)) (.and (.bin .geq kU (W 0 0) (.li 5)) (qG (W 0 3) (.li 0)))))))],
 [(p0,(.call 143 [(zF (W 0 1))] (zB (V 1)))),
 (p1,(.call 144 [(zF (W 0 1))] (zB (V 2))))],[]⟩
theorem e113 : sFnI Try.prog xBase iBase mdI (fcI kA 113 [] []) 3 200 113 [.agg (cV 0 GVal.kds)] 1=some R113:=by kernel_rfl
theorem ct_ref07_May (x0:GVal):CT Try.prog sT 113 [GVal.av x0] (eB (ref07_May x0)):=
 let v1:Bool:=ref07_nought x0.Num
 let v2:Bool:=ref01_May x0.Num
 mkH hmix xBase_ok iBase_ok e113 lh0 (by kernel_rfl) [GVal.av x0,eB v1,eB v2] xn
  (wC (ct_ref07_nought x0.Num) <|
  wC (ct_ref01_May x0.Num) <|
  wn)
  ln
  (selE (fun r=>.p (.bool r)) rfl rfl (selL rfl))
def R145 : PRes:=
 ⟨[((.lb true),(zB (.or (uE (W 0 0) (.li 7)) (uE (W 0 0) (.li 8)))))],
 [],[]⟩
theorem e145 : sFnI Try.prog xBase iBase mdI (fcI kA 145 [] []) 3 200 145 [.agg (cV 0 GVal.kds)] 1=some R145:=by kernel_rfl
theorem ct_ref07_Calls (x0:GVal):CT Try.prog sT 145 [GVal.av x0] (eB (ref07_Calls x0)):=
 mkH hmix xBase_ok iBase_ok e145 lh0 (by kernel_rfl) [GVal.av x0] xn
  wn
  ln
  (selL rfl)
def R114 : PRes:=
 let p0:Pc:=((V 1),true)::[]
 let p1:Pc:=((uE (W 0 0) (.li 0)),false)::p0
 ⟨[((.lb true),(zB (.and (V 1) (.or (uE (W 0 0) (.li 0)) (V 2)))))],
 [([],(.call 113 [(.agg (cV 0 GVal.kds))] (zB (V 1)))),
 (p1,(.call 145 [(.agg (cV 0 GVal.kds))] (zB (V 2))))],[]⟩
theorem e114 : sFnI Try.prog xBase iBase mdI (fcI kA 114 [] []) 3 200 114 [.agg (cV 0 GVal.kds)] 1=some R114:=by kernel_rfl
theorem ct_ref09_called (x0:GVal):CT Try.prog sT 114 [GVal.av x0] (eB (ref09_called x0)):=
 let v1:Bool:=ref07_May x0
 let v2:Bool:=ref07_Calls x0
 mkH hmix xBase_ok iBase_ok e114 lh0 (by kernel_rfl) [GVal.av x0,eB v1,eB v2] xn
  (wC (ct_ref07_May x0) <|
  wC (ct_ref07_Calls x0) <|
  wn)
  ln
  (selL rfl)
def R91 : PRes:=
 let p0:Pc:=((.bin .gtr kU (W 0 0) (.li 63)),false)::[]
 let p1:Pc:=((V 1),true)::p0
 let p2:Pc:=((.and (V 1) (V 2)),false)::[]
 let p3:Pc:=((.bin .gtr kU (W 0 0) (.li 63)),false)::p2
 let p4:Pc:=((V 4),true)::p3
 let p5:Pc:=((V 7),true)::p3
 let p6:Pc:=((V 10),true)::p3
 let p7:Pc:=((.not (W 0 13)),false)::p3
 let p8:Pc:=((.or (.not (W 0 13)) (V 12)),true)::p3
 let p9:Pc:=((.not (W 0 14)),false)::p8
 let p10:Pc:=((.and (.or (.not (W 0 13)) (V 12)) (.or (.not (W 0 14)) (V 13))),true)::p3
 let p11:Pc:=((.not (W 0 15)),false)::p10
 ⟨[((.or (.bin .gtr kU (W 0 0) (.li 63)) (.and (V 1) (V 2))),(zI (.li 90))),((.or (.or (.or (.not (.ite (V 4) (V 5) (V 3))) (.not (.ite (V 7) (V 8) (V 6)))) (.not (.ite (V 10) (V 11) (V 9)))) (.not (.and (.and (.or (.not (W 0 13)) (V 12)) (.or (.not (W 0 14)) (V 13))) (.or (.not (W 0 15)) (V 14))))),(zI (.li 90))),((.lb true),(zI (.li 0)))],
 [(p0,(.call 69 [(.agg (cV 0 GDesc.kds))] (zB (V 1)))),
 (p1,(.call 111 [(.agg (cV 0 GDesc.kds))] (zB (V 2)))),
 (p3,(.call 112 [(.agg (cW 0 1 GVal.kds))] (zB (V 3)))),
 (p3,(.call 98 [(.agg (cV 0 GDesc.kds)),(zU (.li 1))] (zB (V 4)))),
 (p4,(.call 113 [(.agg (cW 0 1 GVal.kds))] (zB (V 5)))),
 (p3,(.call 112 [(.agg (cW 0 5 GVal.kds))] (zB (V 6)))),
 (p3,(.call 98 [(.agg (cV 0 GDesc.kds)),(zU (.li 4))] (zB (V 7)))),
 (p5,(.call 114 [(.agg (cW 0 5 GVal.kds))] (zB (V 8)))),
 (p3,(.call 112 [(.agg (cW 0 9 GVal.kds))] (zB (V 9)))),
 (p3,(.call 98 [(.agg (cV 0 GDesc.kds)),(zU (.li 8))] (zB (V 10)))),
 (p6,(.call 114 [(.agg (cW 0 9 GVal.kds))] (zB (V 11)))),
 (p7,(.call 98 [(.agg (cV 0 GDesc.kds)),(zU (.li 2))] (zB (V 12)))),
 (p9,(.call 98 [(.agg (cV 0 GDesc.kds)),(zU (.li 16))] (zB (V 13)))),
 (p11,(.call 98 [(.agg (cV 0 GDesc.kds)),(zU (.li 32))] (zB (V 14))))],[]⟩
theorem e91 : sFnI Try.prog xBase iBase mdI (fcI kA 91 [] []) 3 200 91 [.agg (cV 0 GDesc.kds)] 1=some R91:=by kernel_rfl
theorem ct_ref09_Check (x0:GDesc):CT Try.prog sT 91 [GDesc.av x0] (eI (ref09_Check x0)):=
 let v1:Bool:=ref09_IsData x0
 let v2:Bool:=ref09_IsAccess x0
 let v3:Bool:=ref09_bare x0.Value
 let v4:Bool:=ref09_Has x0 1
 let v5:Bool:=ref07_May x0.Value
 let v6:Bool:=ref09_bare x0.Get
 let v7:Bool:=ref09_Has x0 4
 let v8:Bool:=ref09_called x0.Get
 let v9:Bool:=ref09_bare x0.Set
 let v10:Bool:=ref09_Has x0 8
 let v11:Bool:=ref09_called x0.Set
 let v12:Bool:=ref09_Has x0 2
 let v13:Bool:=ref09_Has x0 16
 let v14:Bool:=ref09_Has x0 32
 mkH hmix xBase_ok iBase_ok e91 lh0 (by kernel_rfl) [GDesc.av x0,eB v1,eB v2,eB v3,eB v4,eB v5,eB v6,eB v7,eB v8,eB v9,eB v10,eB v11,eB v12,eB v13,eB v14] xn
  (wC (ct_ref09_IsData x0) <|
  wC (ct_ref09_IsAccess x0) <|
  wC (ct_ref09_bare x0.Value) <|
  wC (ct_ref09_Has x0 1) <|
  wC (ct_ref07_May x0.Value) <|
  wC (ct_ref09_bare x0.Get) <|
  wC (ct_ref09_Has x0 4) <|
  wC (ct_ref09_called x0.Get) <|
  wC (ct_ref09_bare x0.Set) <|
  wC (ct_ref09_Has x0 8) <|
  wC (ct_ref09_called x0.Set) <|
  wC (ct_ref09_Has x0 2) <|
  wC (ct_ref09_Has x0 16) <|
  wC (ct_ref09_Has x0 32) <|
  wn)
  ln
  (selE (fun r=>.p (.int .i64 r)) rfl rfl (selE (fun r=>.p (.int .i64 r)) rfl rfl (selL rfl)))
def R62 : PRes:=
 ⟨[((.lb true),(zB (.and (qE (V 1) (.li 0)) (.or (uE (W 0 0) (.li 51)) (uE (W 0 0) (.li 60))))))],
 [([],(.call 91 [(.agg (cV 0 GDesc.kds))] (zI (V 1))))],[]⟩
theorem e62 : sFnI Try.prog xBase iBase mdI (fcI kA 62 [] []) 3 200 62 [.agg (cV 0 GDesc.kds)] 1=some R62:=by kernel_rfl
theorem ct_ref09_IsWhole (x0:GDesc):CT Try.prog sT 62 [GDesc.av x0] (eB (ref09_IsWhole x0)):=
 let v1:Int:=ref09_Check x0
 mkH hmix xBase_ok iBase_ok e62 lh0 (by kernel_rfl) [GDesc.av x0,eI v1] xn
  (wC (ct_ref09_Check x0)<|wn)
  ln
  (selL rfl)
def L63_2 : Lo:=
 let p0:Pc:=((qL (V 3) (.rlen (V 0))),true)::[]
 .mk [] 2 2 [(zI (.li 0)),(zI (.li 0))] [((.not (qL (V 3) (.rlen (V 0)))),1,[(zI (V 2))]),((.and (sE (W 4 0) (W 1 0)) (qE (W 4 1) (W 1 1))),2,[(zI (V 3))]),((.lb true),0,[(zI (V 2)),(zI (aI (V 3) (.li 1)))])] [(p0,(.row (V 0) (V 3) (cV 4 GProp.kds)))] [] [1,1] [(V 0)]
def H63_2 : LH:=.mk [(qM (.li 0) (V 3))] (mI (.rlen (V 0)) (V 3)) [((.rlen (V 0)),1)] [] 0 [] [[],[(qL (V 2) (.rlen (V 0)))]]
def rk_ref10_Place_l2 (r:Bool×Int×Int):Nat×List AV:=rk2 r.1 [eI r.2.1] [eI r.2.2]
theorem lp_ref10_Place_l2 (x0:List GProp)(x1:GKey):∀(n:Nat) (u2:Int) (u3:Int),RunL Try.prog sT L63_2 H63_2 [eL GProp.enc x0,GKey.av x1] n [eI u2,eI u3] (rk_ref10_Place_l2 (ref10_Place_l2 x0 x1 n u2 u3))
 |0,u2,u3=>l0
 |n+1,u2,u3=>
  let v4:GProp:=x0.getD (u3:Int).toNat default
  lmk rfl [GProp.av v4] xn (wR rfl<|wn) ln <|
   rc rk_ref10_Place_l2 rx<|rc rk_ref10_Place_l2 rx<|rl (rg (lp_ref10_Place_l2 x0 x1 n _ _))
def R63 : PRes:=
 ⟨[((.not (qE (V 2) (.li 0))),(zI (V 4))),((.lb true),(zI (.li (-1))))],
 [],[L63_2]⟩
def H63 : LH:=.mk [] (.li 0) [] [] 0 [H63_2] []
theorem e63 : sFnI Try.prog xBase iBase mdI (fcI kA 63 [5,4] [(0,(.mk [0,3] (.mk [(4,(.sc kI)),(5,(.sc kI))] [] [] 3) [(.normal,(.mk [(4,(.sc kI))] [] [] 3)),(.ret,(.mk [(4,(.sc kI))] [] [] 3))]))]) 3 200 63 [zL (V 0),.agg (cV 1 GKey.kds)] 2=some R63:=by kernel_rfl
theorem ct_ref10_Place (x0:List GProp)(x1:GKey):CT Try.prog sT 63 [eL GProp.enc x0,GKey.av x1] (eI (ref10_Place x0 x1)):=
 let r2:Bool×Int×Int:=ref10_Place_l2 x0 x1 (x0.length+1) 0 0
 mkH hmix xBase_ok iBase_ok e63 H63 (by kernel_rfl) [eL GProp.enc x0,GKey.av x1,eI (selB r2.1),eI r2.2.1,eI r2.2.2] xn
  wn
  (lc2 (lp_ref10_Place_l2 x0 x1 (x0.length+1) 0 0) <|
  ln)
  (selE (fun r=>.p (.int .i64 r)) rfl rfl (selL rfl))
def L24_1 : Lo:=
 let p0:Pc:=((qG (.rlen (V 0)) (.li 1024)),false)::[]
 let p1:Pc:=((qL (V 2) (.rlen (V 0))),true)::p0
 let p2:Pc:=((qN (V 4) (.li 0)),false)::p1
 let p3:Pc:=((V 6),true)::p2
 .mk [((qG (.rlen (V 0)) (.li 1024)),false)] 1 2 [(zI (.li 0)),(zI (.li 0))] [((.not (qL (V 2) (.rlen (V 0)))),1,[(zI (V 1))]),((qN (V 4) (.li 0)),2,[(zI (.li 9))]),((.not (V 6)),2,[(zI (.li 90))]),((qH (V 9) (.li 0)),2,[(zI (.li 100))]),((.lb true),0,[(zI (V 1)),(zI (aI (V 2) (.li 1)))])] [(p1,(.row (V 0) (V 2) (cV 3 GProp.kds))),
 (p1,(.call 68 [(.agg [(zS (W 3 0)),(zI (W 3 1))])] (zI (V 4)))),
 (p2,(.row (V 0) (V 2) (cV 5 GProp.kds))),
 (p2,(.call 62 [(.agg (cW 5 2 GDesc.kds))] (zB (V 6)))),
 (p3,(.sub 18 (V 0) (some (.li 0)) (some (V 2)) (V 7))),
 (p3,(.row (V 0) (V 2) (cV 8 GProp.kds))),
 (p3,(.call 63 [(zL (V 7)),(.agg [(zS (W 8 0)),(zI (W 8 1))])] (zI (V 9))))] [] [1,1] [(V 0)]
def H24_1 : LH:=.mk [(qM (.li 0) (V 2))] (mI (.rlen (V 0)) (V 2)) [((.rlen (V 0)),1)] [] 0 [] []
def rk_ref10_Check_l1 (r:Bool×Int×Int):Nat×List AV:=rk2 r.1 [eI r.2.1] [eI r.2.2]
theorem lp_ref10_Check_l1 (x0:List GProp):∀(n:Nat) (u1:Int) (u2:Int),RunL Try.prog sT L24_1 H24_1 [eL GProp.enc x0] n [eI u1,eI u2] (rk_ref10_Check_l1 (ref10_Check_l1 x0 n u1 u2))
 |0,u1,u2=>l0
 |n+1,u1,u2=>
  let v3:GProp:=x0.getD (u2:Int).toNat default
  let v4:Int:=ref08_Check v3.Key
  let v5:GProp:=x0.getD (u2:Int).toNat default
  let v6:Bool:=ref09_IsWhole v5.Desc
  let v7:List GProp:=(x0.drop ((0:Int).toNat)).take ((u2:Int).toNat-(0:Int).toNat)
  let v8:GProp:=x0.getD (u2:Int).toNat default
  let v9:Int:=ref10_Place v7 v8.Key
  lmk rfl [GProp.av v3,eI v4,GProp.av v5,eB v6,eL GProp.enc v7,GProp.av v8,eI v9] xn (wR rfl <|
  wC (ct_ref08_Check v3.Key) <|
  wR rfl <|
  wC (ct_ref09_IsWhole v5.Desc) <|
  wSub rfl <|
  wR rfl <|
  wC (ct_ref10_Place v7 v8.Key) <|
  wn) ln <|
   rc rk_ref10_Check_l1 rx<|rc rk_ref10_Check_l1 rx<|rc rk_ref10_Check_l1 rx<|rc rk_ref10_Check_l1 rx<|rl (rg (lp_ref10_Check_l1 x0 n _ _))
def R24 : PRes:=
 ⟨[((qG (.rlen (V 0)) (.li 1024)),(zI (.li 4))),((.not (qE (V 1) (.li 0))),(zI (V 3))),((.lb true),(zI (.li 0)))],
 [],[L24_1]⟩
def H24 : LH:=.mk [] (.li 0) [] [] 0 [H24_1] []
theorem e24 : sFnI Try.prog xBase iBase mdI (fcI kA 24 [3,2] [(0,(.mk [0] (.mk [(2,(.sc kI)),(3,(.sc kI))] [] [] 5) [(.normal,(.mk [(2,(.sc kI))] [] [] 5)),(.ret,(.mk [(2,(.sc kI))] [] [] 5))]))]) 3 200 24 [zL (V 0)] 1=some R24:=by kernel_rfl
theorem ct_ref10_Check (x0:List GProp):CT Try.prog sT 24 [eL GProp.enc x0] (eI (ref10_Check x0)):=
 let r1:Bool×Int×Int:=ref10_Check_l1 x0 (x0.length+1) 0 0
 mkH hmix xBase_ok iBase_ok e24 H24 (by kernel_rfl) [eL GProp.enc x0,eI (selB r1.1),eI r1.2.1,eI r1.2.2] xn
  wn
  (lc2 (lp_ref10_Check_l1 x0 (x0.length+1) 0 0) <|
  ln)
  (selE (fun r=>.p (.int .i64 r)) rfl rfl (selE (fun r=>.p (.int .i64 r)) rfl rfl (selL rfl)))
def R12 : PRes:=
 ⟨[((.lb true),(zL (V 1)))],
 [([],(.rok 18 (V 0))),
 ([],(.len2 0 (V 0))),
 ([],(.app 18 (V 0) [[(zS (.ls [55,55])),(zI (.li 0)),(zU (.li 0)),(zU (.li 0)),(zF (.lf 0)),(zS (.ls [])),(zI (.li 0)),(zU (.li 0)),(zF (.lf 0)),(zS (.ls [])),(zI (.li 0)),(zU (.li 0)),(zF (.lf 0)),(zS (.ls [])),(zI (.li 0)),(zB (.lb false)),(zB (.lb false)),(zB (.lb false))]] (V 1)))],[]⟩
theorem e12 : sFnI Try.prog xBase iBase mdI (fcI kA 12 [] []) 3 200 12 [zL (V 0)] 1=some R12:=by kernel_rfl
theorem ct_law10_twin (x0:List GProp):CT Try.prog sT 12 [eL GProp.enc x0] (eL GProp.enc (law10_twin x0)):=
 let v1:List GProp:=x0++[(GProp.mk (GKey.mk [55,55] 0) (GDesc.mk 0 (GVal.mk 0 0 [] 0) (GVal.mk 0 0 [] 0) (GVal.mk 0 0 [] 0) false false false))]
 mkH hmix xBase_ok iBase_ok e12 lh0 (by kernel_rfl) [eL GProp.enc x0,eL GProp.enc v1] xn
  (wRok (f:=GProp.enc) rfl <|
  wLen2 <|
  wApp (f:=GProp.enc) [(GProp.mk (GKey.mk [55,55] 0) (GDesc.mk 0 (GVal.mk 0 0 [] 0) (GVal.mk 0 0 [] 0) (GVal.mk 0 0 [] 0) false false false))] rfl <|
  wn)
  ln
  (selL rfl)
def R58 : PRes:=
 let p0:Pc:=((qN (V 2) (.li 0)),false)::[]
 ⟨[((qN (V 2) (.li 0)),(zI (V 2))),((.lb true),(zI (V 3)))],
 [([],(.call 23 [(zL (V 0))] (zI (V 2)))),
 (p0,(.call 37 [(.agg [(zS (W 1 0)),(zI (W 1 1))])] (zI (V 3))))],[]⟩
theorem e58 : sFnI Try.prog xBase iBase mdI (fcI kA 58 [] []) 3 200 58 [zL (V 0),.agg (cV 1 GKey.kds)] 2=some R58:=by kernel_rfl
theorem ct_table_asked (x0:List GProp)(x1:GKey):CT Try.prog sT 58 [eL GProp.enc x0,GKey.av x1] (eI (table_asked x0 x1)):=
 let v2:Int:=table_Check x0
 let v3:Int:=key_Check x1
 mkH hmix xBase_ok iBase_ok e58 lh0 (by kernel_rfl) [eL GProp.enc x0,GKey.av x1,eI v2,eI v3] xn
  (wC (ct_table_Check x0) <|
  wC (ct_key_Check x1) <|
  wn)
  ln
  (selE (fun r=>.p (.int .i64 r)) rfl rfl (selL rfl))
def L59_2 : Lo:=
 let p0:Pc:=((qL (V 3) (.rlen (V 0))),true)::[]
 .mk [] 2 2 [(zI (.li 0)),(zI (.li 0))] [((.not (qL (V 3) (.rlen (V 0)))),1,[(zI (V 2))]),((.and (sE (W 4 0) (W 1 0)) (qE (W 4 1) (W 1 1))),2,[(zI (V 3))]),((.lb true),0,[(zI (V 2)),(zI (aI (V 3) (.li 1)))])] [(p0,(.row (V 0) (V 3) (cV 4 GProp.kds)))] [] [1,1] [(V 0)]
def H59_2 : LH:=.mk [(qM (.li 0) (V 3))] (mI (.rlen (V 0)) (V 3)) [((.rlen (V 0)),1)] [] 0 [] [[],[(qL (V 2) (.rlen (V 0)))]]
def rk_table_at_l2 (r:Bool×Int×Int):Nat×List AV:=rk2 r.1 [eI r.2.1] [eI r.2.2]
theorem lp_table_at_l2 (x0:List GProp)(x1:GKey):∀(n:Nat) (u2:Int) (u3:Int),RunL Try.prog sT L59_2 H59_2 [eL GProp.enc x0,GKey.av x1] n [eI u2,eI u3] (rk_table_at_l2 (table_at_l2 x0 x1 n u2 u3))
 |0,u2,u3=>l0
 |n+1,u2,u3=>
  let v4:GProp:=x0.getD (u3:Int).toNat default
  lmk rfl [GProp.av v4] xn (wR rfl<|wn) ln <|
   rc rk_table_at_l2 rx<|rc rk_table_at_l2 rx<|rl (rg (lp_table_at_l2 x0 x1 n _ _))
def R59 : PRes:=
 ⟨[((.not (qE (V 2) (.li 0))),(zI (V 4))),((.lb true),(zI (.li (-1))))],
 [],[L59_2]⟩
def H59 : LH:=.mk [] (.li 0) [] [] 0 [H59_2] []
theorem e59 : sFnI Try.prog xBase iBase mdI (fcI kA 59 [8,5,4] [(0,(.mk [0,3,7] (.mk [(4,(.sc kI)),(8,(.sc kI))] [] [] 5) [(.normal,(.mk [(4,(.sc kI))] [] [] 5)),(.ret,(.mk [(4,(.sc kI))] [] [] 5))]))]) 3 200 59 [zL (V 0),.agg (cV 1 GKey.kds)] 2=some R59:=by kernel_rfl
theorem ct_table_at (x0:List GProp)(x1:GKey):CT Try.prog sT 59 [eL GProp.enc x0,GKey.av x1] (eI (table_at x0 x1)):=
 let r2:Bool×Int×Int:=table_at_l2 x0 x1 (x0.length+1) 0 0
 mkH hmix xBase_ok iBase_ok e59 H59 (by kernel_rfl) [eL GProp.enc x0,GKey.av x1,eI (selB r2.1),eI r2.2.1,eI r2.2.2] xn
  wn
  (lc2 (lp_table_at_l2 x0 x1 (x0.length+1) 0 0) <|
  ln)
  (selE (fun r=>.p (.int .i64 r)) rfl rfl (selL rfl))
def R25 : PRes:=
 let p0:Pc:=((qN (V 2) (.li 0)),false)::[]
 let p1:Pc:=((qH (V 3) (.li 0)),true)::p0
 ⟨[((qN (V 2) (.li 0)),(.tup [(.agg [(zU (.li 0)),(zU (.li 0)),(zF (.lf 0)),(zS (.ls [])),(zI (.li 0)),(zU (.li 0)),(zF (.lf 0)),(zS (.ls [])),(zI (.li 0)),(zU (.li 0)),(zF (.lf 0)),(zS (.ls [])),(zI (.li 0)),(zB (.lb false)),(zB (.lb false)),(zB (.lb false))]),(zB (.lb false)),(zI (V 2))])),((qH (V 3) (.li 0)),(.tup [(.agg (cW 4 2 GDesc.kds)),(zB (.lb true)),(zI (.li 0))])),((.lb true),(.tup [(.agg [(zU (.li 0)),(zU (.li 0)),(zF (.lf 0)),(zS (.ls [])),(zI (.li 0)),(zU (.li 0)),(zF (.lf 0)),(zS (.ls [])),(zI (.li 0)),(zU (.li 0)),(zF (.lf 0)),(zS (.ls [])),(zI (.li 0)),(zB (.lb false)),(zB (.lb false)),(zB (.lb false))]),(zB (.lb false)),(zI (.li 0))]))],
 [([],(.call 58 [(zL (V 0)),(.agg [(zS (W 1 0)),(zI (W 1 1))])] (zI (V 2)))),
 (p0,(.call 59 [(zL (V 0)),(.agg [(zS (W 1 0)),(zI (W 1 1))])] (zI (V 3)))),
 (p1,(.row (V 0) (V 3) (cV 4 GProp.kds)))],[]⟩
theorem e25 : sFnI Try.prog xBase iBase mdI (fcI kA 25 [] []) 3 200 25 [zL (V 0),.agg (cV 1 GKey.kds)] 2=some R25:=by kernel_rfl
theorem ct_table_Find (x0:List GProp)(x1:GKey):CT Try.prog sT 25 [eL GProp.enc x0,GKey.av x1] (eR_Desc_bool_ii64 (table_Find x0 x1)):=
 let v2:Int:=table_asked x0 x1
 let v3:Int:=table_at x0 x1
 let v4:GProp:=x0.getD (v3:Int).toNat default
 mkH hmix xBase_ok iBase_ok e25 lh0 (by kernel_rfl) [eL GProp.enc x0,GKey.av x1,eI v2,eI v3,GProp.av v4] xn
  (wC (ct_table_asked x0 x1) <|
  wC (ct_table_at x0 x1) <|
  wR rfl <|
  wn)
  ln
  (selE eR_Desc_bool_ii64 rfl rfl (selE eR_Desc_bool_ii64 rfl rfl (selL rfl)))
def R61 : PRes:=
 let p0:Pc:=((qN (V 2) (.li 0)),false)::[]
 ⟨[((qN (V 2) (.li 0)),(zI (V 2))),((.lb true),(zI (V 3)))],
 [([],(.call 24 [(zL (V 0))] (zI (V 2)))),
 (p0,(.call 68 [(.agg [(zS (W 1 0)),(zI (W 1 1))])] (zI (V 3))))],[]⟩
theorem e61 : sFnI Try.prog xBase iBase mdI (fcI kA 61 [] []) 3 200 61 [zL (V 0),.agg (cV 1 GKey.kds)] 2=some R61:=by kernel_rfl
theorem ct_ref10_asked (x0:List GProp)(x1:GKey):CT Try.prog sT 61 [eL GProp.enc x0,GKey.av x1] (eI (ref10_asked x0 x1)):=
 let v2:Int:=ref10_Check x0
 let v3:Int:=ref08_Check x1
 mkH hmix xBase_ok iBase_ok e61 lh0 (by kernel_rfl) [eL GProp.enc x0,GKey.av x1,eI v2,eI v3] xn
  (wC (ct_ref10_Check x0) <|
  wC (ct_ref08_Check x1) <|
  wn)
  ln
  (selE (fun r=>.p (.int .i64 r)) rfl rfl (selL rfl))
def R26 : PRes:=
 let p0:Pc:=((qN (V 2) (.li 0)),false)::[]
 let p1:Pc:=((qL (V 3) (.li 0)),false)::p0
 ⟨[((qN (V 2) (.li 0)),(.tup [(.agg [(zU (.li 0)),(zU (.li 0)),(zF (.lf 0)),(zS (.ls [])),(zI (.li 0)),(zU (.li 0)),(zF (.lf 0)),(zS (.ls [])),(zI (.li 0)),(zU (.li 0)),(zF (.lf 0)),(zS (.ls [])),(zI (.li 0)),(zB (.lb false)),(zB (.lb false)),(zB (.lb false))]),(zB (.lb false)),(zI (V 2))])),((qL (V 3) (.li 0)),(.tup [(.agg [(zU (.li 0)),(zU (.li 0)),(zF (.lf 0)),(zS (.ls [])),(zI (.li 0)),(zU (.li 0)),(zF (.lf 0)),(zS (.ls [])),(zI (.li 0)),(zU (.li 0)),(zF (.lf 0)),(zS (.ls [])),(zI (.li 0)),(zB (.lb false)),(zB (.lb false)),(zB (.lb false))]),(zB (.lb false)),(zI (.li 0))])),((.lb true),(.tup [(.agg (cW 4 2 GDesc.kds)),(zB (.lb true)),(zI (.li 0))]))],
 [([],(.call 61 [(zL (V 0)),(.agg [(zS (W 1 0)),(zI (W 1 1))])] (zI (V 2)))),
 (p0,(.call 63 [(zL (V 0)),(.agg [(zS (W 1 0)),(zI (W 1 1))])] (zI (V 3)))),
 (p1,(.row (V 0) (V 3) (cV 4 GProp.kds)))],[]⟩
theorem e26 : sFnI Try.prog xBase iBase mdI (fcI kA 26 [] []) 3 200 26 [zL (V 0),.agg (cV 1 GKey.kds)] 2=some R26:=by kernel_rfl
theorem ct_ref10_Find (x0:List GProp)(x1:GKey):CT Try.prog sT 26 [eL GProp.enc x0,GKey.av x1] (eR_Desc_bool_ii64 (ref10_Find x0 x1)):=
 let v2:Int:=ref10_asked x0 x1
 let v3:Int:=ref10_Place x0 x1
 let v4:GProp:=x0.getD (v3:Int).toNat default
 mkH hmix xBase_ok iBase_ok e26 lh0 (by kernel_rfl) [eL GProp.enc x0,GKey.av x1,eI v2,eI v3,GProp.av v4] xn
  (wC (ct_ref10_asked x0 x1) <|
  wC (ct_ref10_Place x0 x1) <|
  wR rfl <|
  wn)
  ln
  (selE eR_Desc_bool_ii64 rfl rfl (selE eR_Desc_bool_ii64 rfl rfl (selL rfl)))
def L92_1 : Lo:=
 let p0:Pc:=((.and (qG (.slen (W 0 0)) (.li 1)) (uE (.byte (W 0 0) (.li 0)) (.li 48))),false)::[]
 let p1:Pc:=((qG (.slen (W 0 0)) (.li 4)),false)::p0
 let p2:Pc:=((sE (W 0 0) (.ls [])),false)::p1
 let p3:Pc:=((qG (W 0 1) (.li 0)),false)::p2
 let p4:Pc:=((qL (V 4) (.slen (W 0 0))),true)::p3
 let p5:Pc:=((.bin .lss kU (.byte (W 0 0) (V 4)) (.li 48)),false)::p4
 let p6:Pc:=((.bin .gtr kU (.byte (W 0 0) (V 4)) (.li 57)),false)::p4
 let p7:Pc:=((.bin .lss kU (.byte (W 0 0) (V 4)) (.li 48)),false)::p6
 .mk [((qG (W 0 1) (.li 0)),false),((sE (W 0 0) (.ls [])),false),((qG (.slen (W 0 0)) (.li 4)),false),((.and (qG (.slen (W 0 0)) (.li 1)) (uE (.byte (W 0 0) (.li 0)) (.li 48))),false)] 1 4 [(zI (.li 0)),(zB (.lb false)),(zI (.li 0)),(zI (.li 0))] [((.not (qL (V 4) (.slen (W 0 0)))),1,[(zI (V 1)),(zB (V 2)),(zI (V 3))]),((.or (.bin .lss kU (.byte (W 0 0) (V 4)) (.li 48)) (.bin .gtr kU (.byte (W 0 0) (V 4)) (.li 57))),2,[(zI (.li 0)),(zB (.lb false))]),((.lb true),0,[(zI (V 1)),(zB (V 2)),(zI (aI (.bin .mul kI (V 3) (.li 10)) (.conv .i64 (.bin .sub kU (.byte (W 0 0) (V 4)) (.li 48))))),(zI (aI (V 4) (.li 1)))])] [(p4,(.tm (qM (.li 0) (V 4)))),
 (p5,(.tm (qM (.li 0) (V 4)))),
 (p7,(.tm (qM (.li 0) (V 4))))] [] [3,2] []
def H92_1 : LH:=.mk [(qM (.li 0) (V 4))] (mI (.slen (W 0 0)) (V 4)) [((.slen (W 0 0)),1)] [] 1 [] []
def rk_key_Index_l1 (r:Bool×Int×Bool×Int×Int×Bool):Nat×List AV:=rk2 r.1 [eI r.2.1,eB r.2.2.1,eI r.2.2.2.1] [eI r.2.2.2.2.1,eB r.2.2.2.2.2]
theorem lp_key_Index_l1 (x0:GKey):∀(n:Nat) (u1:Int) (u2:Bool) (u3:Int) (u4:Int),RunL Try.prog sT L92_1 H92_1 [GKey.av x0] n [eI u1,eB u2,eI u3,eI u4] (rk_key_Index_l1 (key_Index_l1 x0 n u1 u2 u3 u4))
 |0,u1,u2,u3,u4=>l0
 |n+1,u1,u2,u3,u4=>
  lmk rfl [] xn (wT <|
  wT <|
  wT <|
  wn) ln <|
   rc rk_key_Index_l1 rx<|rc rk_key_Index_l1 rx<|rl (rg (lp_key_Index_l1 x0 n _ _ _ _))
def R92 : PRes:=
 let p0:Pc:=((.or (.or (qG (W 0 1) (.li 0)) (sE (W 0 0) (.ls []))) (qG (.slen (W 0 0)) (.li 4))),false)::[]
 let p1:Pc:=((qG (.slen (W 0 0)) (.li 1)),true)::p0
 ⟨[((.or (.or (.or (qG (W 0 1) (.li 0)) (sE (W 0 0) (.ls []))) (qG (.slen (W 0 0)) (.li 4))) (.and (qG (.slen (W 0 0)) (.li 1)) (uE (.byte (W 0 0) (.li 0)) (.li 48)))),(.tup [(zI (.li 0)),(zB (.lb false))])),((.not (qE (V 1) (.li 0))),(.tup [(zI (V 5)),(zB (V 6))])),((qH (V 4) (.li 1024)),(.tup [(zI (.li 0)),(zB (.lb false))])),((.lb true),(.tup [(zI (V 4)),(zB (.lb true))]))],
 [(p1,(.tm (qL (.li 0) (.slen (W 0 0)))))],[L92_1]⟩
def H92 : LH:=.mk [] (.li 0) [] [] 0 [H92_1] []
theorem e92 : sFnI Try.prog xBase iBase mdI (fcI kA 92 [44,46,45,47,48,35,5,4,2,3] [(0,(.mk [1,34] (.mk [(2,(.sc kI)),(3,(.sc .bool)),(4,(.sc kI)),(35,(.sc kI))] [] [] 34) [(.normal,(.mk [(2,(.sc kI)),(3,(.sc .bool)),(4,(.sc kI))] [] [] 34)),(.ret,(.mk [(2,(.sc kI)),(3,(.sc .bool))] [] [] 34))]))]) 3 200 92 [.agg (cV 0 GKey.kds)] 1=some R92:=by kernel_rfl
theorem ct_key_Index (x0:GKey):CT Try.prog sT 92 [GKey.av x0] (eR_ii64_bool (key_Index x0)):=
 let r1:Bool×Int×Bool×Int×Int×Bool:=key_Index_l1 x0 (((sLen x0.Str):Int).toNat+1) 0 false 0 0
 mkH hmix xBase_ok iBase_ok e92 H92 (by kernel_rfl) [GKey.av x0,eI (selB r1.1),eI r1.2.1,eB r1.2.2.1,eI r1.2.2.2.1,eI r1.2.2.2.2.1,eB r1.2.2.2.2.2] xn
  (wT<|wn)
  (lc2 (lp_key_Index_l1 x0 (((sLen x0.Str):Int).toNat+1) 0 false 0 0) <|
  ln)
  (selE eR_ii64_bool rfl rfl (selE eR_ii64_bool rfl rfl (selE eR_ii64_bool rfl rfl (selL rfl))))
def R65 : PRes:=
 ⟨[((W 1 1),(.tup [(zI (.li 0)),(zI (W 1 0))])),((qG (W 0 1) (.li 0)),(.tup [(zI (.li 2)),(zI (.li 0))])),((.lb true),(.tup [(zI (.li 1)),(zI (.li 0))]))],
 [([],(.call 92 [(.agg [(zS (W 0 0)),(zI (W 0 1))])] (.tup [(zI (W 1 0)),(zB (W 1 1))])))],[]⟩
theorem e65 : sFnI Try.prog xBase iBase mdI (fcI kA 65 [] []) 3 200 65 [.agg (cV 0 GKey.kds)] 1=some R65:=by kernel_rfl
theorem ct_key_place (x0:GKey):CT Try.prog sT 65 [GKey.av x0] (eR_ii64_ii64 (key_place x0)):=
 let v1:Int×Bool:=key_Index x0
 mkH hmix xBase_ok iBase_ok e65 lh0 (by kernel_rfl) [GKey.av x0,eR_ii64_bool v1] xn
  (wC (ct_key_Index x0)<|wn)
  ln
  (selE eR_ii64_ii64 rfl rfl (selE eR_ii64_ii64 rfl rfl (selL rfl)))
def L124w4_5 : Lo:=
 let p0:Pc:=((qL (V 3) (V 2)),true)::[]
 let p1:Pc:=((qG (V 5) (V 1)),true)::p0
 let p2:Pc:=((.and (qG (V 5) (V 1)) (.not (.or (qL (W 8 0) (W 10 0)) (.and (qE (W 8 0) (W 10 0)) (qL (W 8 1) (W 10 1)))))),false)::p0
 let p3:Pc:=((qG (V 5) (V 1)),true)::p2
 .mk [((qL (V 3) (V 2)),true)] 5 2 [(zI (V 3)),(zL (V 4))] [((.and (qG (V 5) (V 1)) (.not (.or (qL (W 8 0) (W 10 0)) (.and (qE (W 8 0) (W 10 0)) (qL (W 8 1) (W 10 1)))))),1,[(zI (V 5)),(zL (V 6))]),((.not (qG (V 5) (V 1))),1,[(zI (V 5)),(zL (V 6))]),((.lb true),0,[(zI (mI (V 5) (.li 1))),(zL (V 14))])] [(p1,(.tm (qM (.li 0) (V 5)))),
 (p1,(.tm (qL (V 5) (.rlen (V 0))))),
 (p1,(.rd (true,2) (V 6) (V 5) 0 (.agg [(zS (W 7 0)),(zI (W 7 1))]))),
 (p1,(.call 65 [(.agg [(zS (W 7 0)),(zI (W 7 1))])] (.tup [(zI (W 8 0)),(zI (W 8 1))]))),
 (p1,(.tm (qM (.li 0) (mI (V 5) (.li 1))))),
 (p1,(.tm (qL (mI (V 5) (.li 1)) (.rlen (V 0))))),
 (p1,(.rd (true,2) (V 6) (mI (V 5) (.li 1)) 0 (.agg [(zS (W 9 0)),(zI (W 9 1))]))),
 (p1,(.call 65 [(.agg [(zS (W 9 0)),(zI (W 9 1))])] (.tup [(zI (W 10 0)),(zI (W 10 1))]))),
 (p3,(.tm (qM (.li 0) (V 5)))),
 (p3,(.tm (qL (V 5) (.rlen (V 6))))),
 (p3,(.tm (qM (.li 0) (mI (V 5) (.li 1))))),
 (p3,(.tm (qL (mI (V 5) (.li 1)) (.rlen (V 6))))),
 (p3,(.row (V 6) (V 5) [(zS (W 11 0)),(zI (W 11 1))])),
 (p3,(.row (V 6) (mI (V 5) (.li 1)) [(zS (W 12 0)),(zI (W 12 1))])),
 (p3,(.st (V 6) (V 5) 0 [(zS (W 12 0)),(zI (W 12 1))] (V 13))),
 (p3,(.st (V 13) (mI (V 5) (.li 1)) 0 [(zS (W 11 0)),(zI (W 11 1))] (V 14))),
 (p3,(.tm (qE (.rlen (V 0)) (.rlen (V 6)))))] [] [2] []
def H124w4_5 : LH:=.mk [(qM (V 5) (V 3)),(qE (.rlen (V 6)) (.rlen (V 4)))] (mI (V 5) (V 1)) [((V 3),1),((V 1),(-1))] [] 0 [] [[(qE (.rlen (V 6)) (.rlen (V 4)))]]
def rk_sort_insertionSort_func_w3_2_l5 (r:Int×List GKey):Nat×List AV:=(0,[eI r.1,eL GKey.enc r.2])
theorem lp_sort_insertionSort_func_w3_2_l5 (x0:List GKey)(x1:Int)(x2:Int)(u3:Int)(u4:List GKey):∀(n:Nat) (u5:Int) (u6:List GKey),RunL Try.prog sT L124w4_5 H124w4_5 [eL GKey.enc x0,eI x1,eI x2,eI u3,eL GKey.enc u4] n [eI u5,eL GKey.enc u6] (rk_sort_insertionSort_func_w3_2_l5 (sort_insertionSort_func_w3_2_l5 x1 n u5 u6))
 |0,u5,u6=>l0
 |n+1,u5,u6=>
  let v7:GKey:=u6.getD (u5:Int).toNat default
  let v8:Int×Int:=key_place v7
  let v9:GKey:=u6.getD ((iSub .i64 u5 1):Int).toNat default
  let v10:Int×Int:=key_place v9
  let v11:GKey:=u6.getD (u5:Int).toNat default
  let v12:GKey:=u6.getD ((iSub .i64 u5 1):Int).toNat default
  let v13:List GKey:=u6.set (u5:Int).toNat v12
  let v14:List GKey:=v13.set ((iSub .i64 u5 1):Int).toNat v11
  lmk rfl [GKey.av v7,eR_ii64_ii64 v8,GKey.av v9,eR_ii64_ii64 v10,GKey.av v11,GKey.av v12,eL GKey.enc v13,eL GKey.enc v14] xn (wT <|
  wT <|
  wRd rfl <|
  wC (ct_key_place v7) <|
  wT <|
  wT <|
  wRd rfl <|
  wC (ct_key_place v9) <|
  wT <|
  wT <|
  wT <|
  wT <|
  wR rfl <|
  wR rfl <|
  wSt (f:=GKey.enc) v12 rfl <|
  wSt (f:=GKey.enc) v11 rfl <|
  wT <|
  wn) ln <|
   rc rk_sort_insertionSort_func_w3_2_l5 rx<|rc rk_sort_insertionSort_func_w3_2_l5 rx<|rl (rg (lp_sort_insertionSort_func_w3_2_l5 x0 x1 x2 u3 u4 n _ _))
def L124w4_3 : Lo:=
 .mk [] 3 2 [(zI (aI (V 1) (.li 1))),(zL (V 0))] [((.not (qL (V 3) (V 2))),1,[(zL (V 4))]),((.lb true),0,[(zI (aI (V 3) (.li 1))),(zL (V 6))])] [] [L124w4_5] [1] []
def H124w4_3 : LH:=.mk [(qM (aI (V 1) (.li 1)) (V 3)),(qE (.rlen (V 4)) (.rlen (V 0)))] (mI (V 2) (V 3)) [((V 2),1)] [] 0 [H124w4_5] [[(qE (.rlen (V 3)) (.rlen (V 0)))]]
def rk_sort_insertionSort_func_w3_2_l3 (r:List GKey):Nat×List AV:=(0,[eL GKey.enc r])
theorem lp_sort_insertionSort_func_w3_2_l3 (x0:List GKey)(x1:Int)(x2:Int):∀(n:Nat) (u3:Int) (u4:List GKey),RunL Try.prog sT L124w4_3 H124w4_3 [eL GKey.enc x0,eI x1,eI x2] n [eI u3,eL GKey.enc u4] (rk_sort_insertionSort_func_w3_2_l3 (sort_insertionSort_func_w3_2_l3 x1 x2 n u3 u4))
 |0,u3,u4=>l0
 |n+1,u3,u4=>
  let r5:Int×List GKey:=sort_insertionSort_func_w3_2_l5 x1 ((u3-x1).toNat+1) u3 u4
  lmk rfl [eI r5.1,eL GKey.enc r5.2] xn wn (lc1 (lp_sort_insertionSort_func_w3_2_l5 x0 x1 x2 u3 u4 ((u3-x1).toNat+1) u3 u4) (hn:=(show ((1)*(u3)+((-1)*(x1)+(0)):Int)<_ by first|omega|(simp only [lens];omega))) <|
  ln) <|
   rc rk_sort_insertionSort_func_w3_2_l3 rx<|rl (rg (lp_sort_insertionSort_func_w3_2_l3 x0 x1 x2 n _ _))
def R124w4 : PRes:=
 ⟨[((.lb true),(.tup [(.tup []),(zL (V 3))]))],
 [],[L124w4_3]⟩
def H124w4 : LH:=.mk [] (.li 0) [] [] 0 [H124w4_3] []
theorem e124w4 : sFnW Try.prog xBase iBase mdI (fcI kA 124 [7,6,25,21,22,24,23,20] [(0,(.mk [1,2,3] (.mk [(6,(.sc kI))] [] [(2,2)] 8) [(.normal,(.mk [] [] [(2,2)] 8))])),(2,(.mk [1,2,3,6] (.mk [(7,(.sc kI))] [] [(2,2)] 13) [(.normal,(.mk [(7,(.sc kI))] [] [(2,2)] 13))]))]) 3 200 124 [(.agg [(.fn 64 [] [(.op 3 1 (.li 0) 0)]),(.fn 123 [] [(.os 2 2 0 (.rlen (V 0))),(.c (.at 1 24))])]),(zI (V 1)),(zI (V 2))] 3 [(3,(.rows 1 [[(.os 2 2 0 (.rlen (V 0)))]])),(2,(.rowsT 2 (V 0)))] [(2,2)] 4=some R124w4:=by kernel_rfl
theorem ctw_sort_insertionSort_func_w3_2 (x0:List GKey)(x1:Int)(x2:Int){L:Nat}(hL:L=(List.map GKey.enc x0).length):CTw Try.prog sT 124 [(.agg [(.fn (.func 64) [] [(.op 3 1 0 0)]),(.fn (.func 123) [] [(.os 2 2 0 L),(.p (Cv.val (.at 1 24)))])]),(.p (.int .i64 x1)),(.p (.int .i64 x2))] [(3,.rows 1 [[(.os 2 2 0 L)]]),(2,.rows 2 (List.map GKey.enc x0))] 4 (.tup []) [(3,.rows 1 [[(.os 2 2 0 L)]]),(2,.rows 2 (List.map GKey.enc (sort_insertionSort_func_w3_2 x0 x1 x2)))]:=by subst hL;exact (
 let r3:List GKey:=sort_insertionSort_func_w3_2_l3 x1 x2 ((x2:Int).toNat+1) (iAdd .i64 x1 1) x0
 mkW (cs:=[eL GKey.enc (sort_insertionSort_func_w3_2 x0 x1 x2)]) hmix xBase_ok iBase_ok e124w4 H124w4 (by kernel_rfl) [eL GKey.enc x0,eI x1,eI x2,eL GKey.enc r3] xn
  wn
  (lc1 (lp_sort_insertionSort_func_w3_2_l3 x0 x1 x2 ((x2:Int).toNat+1) (iAdd .i64 x1 1) x0) <|
  ln)
  (selL rfl))
def L154w4_4 : Lo:=
 let p0:Pc:=((qL (V 4) (V 3)),true)::[]
 .mk [] 4 2 [(zI (.li 0)),(zL (V 0))] [((.not (qL (V 4) (V 3))),1,[(zL (V 5))]),((.lb true),0,[(zI (aI (V 4) (.li 1))),(zL (V 9))])] [(p0,(.tm (qM (.li 0) (aI (V 1) (V 4))))),
 (p0,(.tm (qL (aI (V 1) (V 4)) (.rlen (V 5))))),
 (p0,(.tm (qM (.li 0) (aI (V 2) (V 4))))),
 (p0,(.tm (qL (aI (V 2) (V 4)) (.rlen (V 5))))),
 (p0,(.row (V 5) (aI (V 1) (V 4)) [(zS (W 6 0)),(zI (W 6 1))])),
 (p0,(.row (V 5) (aI (V 2) (V 4)) [(zS (W 7 0)),(zI (W 7 1))])),
 (p0,(.st (V 5) (aI (V 1) (V 4)) 0 [(zS (W 7 0)),(zI (W 7 1))] (V 8))),
 (p0,(.st (V 8) (aI (V 2) (V 4)) 0 [(zS (W 6 0)),(zI (W 6 1))] (V 9))),
 (p0,(.tm (qE (.rlen (V 0)) (.rlen (V 5)))))] [] [1] []
def H154w4_4 : LH:=.mk [(qE (.rlen (V 5)) (.rlen (V 0))),(qM (.li 0) (V 4))] (mI (V 3) (V 4)) [((V 3),1)] [] 0 [] [[(qE (.rlen (V 4)) (.rlen (V 0)))]]
def rk_sort_swapRange_func_w3_2_l4 (r:List GKey):Nat×List AV:=(0,[eL GKey.enc r])
theorem lp_sort_swapRange_func_w3_2_l4 (x0:List GKey)(x1:Int)(x2:Int)(x3:Int):∀(n:Nat) (u4:Int) (u5:List GKey),RunL Try.prog sT L154w4_4 H154w4_4 [eL GKey.enc x0,eI x1,eI x2,eI x3] n [eI u4,eL GKey.enc u5] (rk_sort_swapRange_func_w3_2_l4 (sort_swapRange_func_w3_2_l4 x1 x2 x3 n u4 u5))
 |0,u4,u5=>l0
 |n+1,u4,u5=>
  let v6:GKey:=u5.getD ((iAdd .i64 x1 u4):Int).toNat default
  let v7:GKey:=u5.getD ((iAdd .i64 x2 u4):Int).toNat default
  let v8:List GKey:=u5.set ((iAdd .i64 x1 u4):Int).toNat v7
  let v9:List GKey:=v8.set ((iAdd .i64 x2 u4):Int).toNat v6
  lmk rfl [GKey.av v6,GKey.av v7,eL GKey.enc v8,eL GKey.enc v9] xn (wT <|
  wT <|
  wT <|
  wT <|
  wR rfl <|
  wR rfl <|
  wSt (f:=GKey.enc) v7 rfl <|
  wSt (f:=GKey.enc) v6 rfl <|
  wT <|
  wn) ln <|
   rc rk_sort_swapRange_func_w3_2_l4 rx<|rl (rg (lp_sort_swapRange_func_w3_2_l4 x0 x1 x2 x3 n _ _))
def R154w4 : PRes:=
 ⟨[((.lb true),(.tup [(.tup []),(zL (V 4))]))],
 [],[L154w4_4]⟩
def H154w4 : LH:=.mk [] (.li 0) [] [] 0 [H154w4_4] []
theorem e154w4 : sFnW Try.prog xBase iBase mdI (fcI kA 154 [8] [(0,(.mk [1,2,3,4] (.mk [(8,(.sc kI))] [] [(2,2)] 6) [(.normal,(.mk [] [] [(2,2)] 6))]))]) 3 200 154 [(.agg [(.fn 64 [] [(.op 3 1 (.li 0) 0)]),(.fn 123 [] [(.os 2 2 0 (.rlen (V 0))),(.c (.at 1 24))])]),(zI (V 1)),(zI (V 2)),(zI (V 3))] 4 [(3,(.rows 1 [[(.os 2 2 0 (.rlen (V 0)))]])),(2,(.rowsT 2 (V 0)))] [(2,2)] 4=some R154w4:=by kernel_rfl
theorem ctw_sort_swapRange_func_w3_2 (x0:List GKey)(x1:Int)(x2:Int)(x3:Int){L:Nat}(hL:L=(List.map GKey.enc x0).length):CTw Try.prog sT 154 [(.agg [(.fn (.func 64) [] [(.op 3 1 0 0)]),(.fn (.func 123) [] [(.os 2 2 0 L),(.p (Cv.val (.at 1 24)))])]),(.p (.int .i64 x1)),(.p (.int .i64 x2)),(.p (.int .i64 x3))] [(3,.rows 1 [[(.os 2 2 0 L)]]),(2,.rows 2 (List.map GKey.enc x0))] 4 (.tup []) [(3,.rows 1 [[(.os 2 2 0 L)]]),(2,.rows 2 (List.map GKey.enc (sort_swapRange_func_w3_2 x0 x1 x2 x3)))]:=by subst hL;exact (
 let r4:List GKey:=sort_swapRange_func_w3_2_l4 x1 x2 x3 ((x3:Int).toNat+1) 0 x0
 mkW (cs:=[eL GKey.enc (sort_swapRange_func_w3_2 x0 x1 x2 x3)]) hmix xBase_ok iBase_ok e154w4 H154w4 (by kernel_rfl) [eL GKey.enc x0,eI x1,eI x2,eI x3,eL GKey.enc r4] xn
  wn
  (lc1 (lp_sort_swapRange_func_w3_2_l4 x0 x1 x2 x3 ((x3:Int).toNat+1) 0 x0) <|
  ln)
  (selL rfl))
def L146w4_4 : Lo:=
 let p0:Pc:=((qN (V 4) (V 5)),true)::[]
 let p1:Pc:=((qG (V 4) (V 5)),true)::p0
 let p2:Pc:=((qG (V 4) (V 5)),false)::p0
 .mk [] 4 3 [(zI (mI (V 2) (V 1))),(zI (mI (V 3) (V 2))),(zL (V 0))] [((.not (qN (V 4) (V 5))),1,[(zI (V 4)),(zL (V 6))]),((qG (V 4) (V 5)),0,[(zI (mI (V 4) (V 5))),(zI (V 5)),(zL (V 7))]),((.lb true),0,[(zI (V 4)),(zI (mI (V 5) (V 4))),(zL (V 9))])] [(p1,(.callw 154 [(.agg [(.fn 64 [] [(.op 3 1 (.li 0) 0)]),(.fn 123 [] [(.os 2 2 0 (.rlen (V 0))),(.c (.at 1 24))])]),(zI (mI (V 2) (V 4))),(zI (V 2)),(zI (V 5))] [(3,(.rows 1 [[(.os 2 2 0 (.rlen (V 0)))]])),(2,(.rowsT 2 (V 6)))] 4 (.tup []) [(3,(.rows 1 [[(.os 2 2 0 (.rlen (V 0)))]])),(2,(.rowsT 2 (V 7)))])),
 (p2,(.callw 154 [(.agg [(.fn 64 [] [(.op 3 1 (.li 0) 0)]),(.fn 123 [] [(.os 2 2 0 (.rlen (V 0))),(.c (.at 1 24))])]),(zI (mI (V 2) (V 4))),(zI (mI (aI (V 2) (V 5)) (V 4))),(zI (V 4))] [(3,(.rows 1 [[(.os 2 2 0 (.rlen (V 0)))]])),(2,(.rowsT 2 (V 6)))] 4 (.tup []) [(3,(.rows 1 [[(.os 2 2 0 (.rlen (V 0)))]])),(2,(.rowsT 2 (V 9)))]))] [] [2] []
def H146w4_4 : LH:=.mk [(qL (.li 0) (V 4)),(qL (.li 0) (V 5)),(qM (V 4) (mI (V 2) (V 1))),(qM (V 5) (mI (V 3) (V 2))),(qE (.rlen (V 6)) (.rlen (V 0)))] (aI (V 4) (V 5)) [((V 3),1),((V 1),(-1))] [] 0 [] [[(qM (.li 0) (V 4)),(qM (V 4) (mI (V 2) (V 1))),(qM (V 4) (mI (V 3) (V 2))),(qE (.rlen (V 5)) (.rlen (V 0)))]]
def rk_sort_rotate_func_w3_2_l4 (r:Int×List GKey):Nat×List AV:=(0,[eI r.1,eL GKey.enc r.2])
theorem lp_sort_rotate_func_w3_2_l4 (x0:List GKey)(x1:Int)(x2:Int)(x3:Int):∀(n:Nat) (u4:Int) (u5:Int) (u6:List GKey),RunL Try.prog sT L146w4_4 H146w4_4 [eL GKey.enc x0,eI x1,eI x2,eI x3] n [eI u4,eI u5,eL GKey.enc u6] (rk_sort_rotate_func_w3_2_l4 (sort_rotate_func_w3_2_l4 x2 n u4 u5 u6))
 |0,u4,u5,u6=>l0
 |n+1,u4,u5,u6=>
  let w7:List GKey:=sort_swapRange_func_w3_2 u6 (iSub .i64 x2 u4) x2 u5
  let v7:List GKey:=w7
  let w9:List GKey:=sort_swapRange_func_w3_2 u6 (iSub .i64 x2 u4) (iSub .i64 (iAdd .i64 x2 u5) u4) u4
  let v9:List GKey:=w9
  lmk rfl [eL GKey.enc v7,undefA,eL GKey.enc v9,undefA] xn (wWL (fun hL=>ctw_sort_swapRange_func_w3_2 u6 (iSub .i64 x2 u4) x2 u5 hL) <|
  wWL (fun hL=>ctw_sort_swapRange_func_w3_2 u6 (iSub .i64 x2 u4) (iSub .i64 (iAdd .i64 x2 u5) u4) u4 hL) <|
  wn) ln <|
   rc rk_sort_rotate_func_w3_2_l4 rx<|rc rk_sort_rotate_func_w3_2_l4 (rg (lp_sort_rotate_func_w3_2_l4 x0 x1 x2 x3 n _ _ _))<|rl (rg (lp_sort_rotate_func_w3_2_l4 x0 x1 x2 x3 n _ _ _))
def R146w4 : PRes:=
 ⟨[((.lb true),(.tup [(.tup []),(zL (V 6))]))],
 [([],(.callw 154 [(.agg [(.fn 64 [] [(.op 3 1 (.li 0) 0)]),(.fn 123 [] [(.os 2 2 0 (.rlen (V 0))),(.c (.at 1 24))])]),(zI (mI (V 2) (V 4))),(zI (V 2)),(zI (V 4))] [(3,(.rows 1 [[(.os 2 2 0 (.rlen (V 0)))]])),(2,(.rowsT 2 (V 5)))] 4 (.tup []) [(3,(.rows 1 [[(.os 2 2 0 (.rlen (V 0)))]])),(2,(.rowsT 2 (V 6)))]))],[L146w4_4]⟩
def H146w4 : LH:=.mk [] (.li 0) [] [] 0 [H146w4_4] []
theorem e146w4 : sFnW Try.prog xBase iBase mdI (fcI kA 146 [1,2,3,4,8,9,18,21] [(0,(.mk [2,4] (.mk [(8,(.sc kI)),(9,(.sc kI))] [] [(2,2)] 13) [(.normal,(.mk [(8,(.sc kI))] [] [(2,2)] 13))]))]) 3 200 146 [(.agg [(.fn 64 [] [(.op 3 1 (.li 0) 0)]),(.fn 123 [] [(.os 2 2 0 (.rlen (V 0))),(.c (.at 1 24))])]),(zI (V 1)),(zI (V 2)),(zI (V 3))] 4 [(3,(.rows 1 [[(.os 2 2 0 (.rlen (V 0)))]])),(2,(.rowsT 2 (V 0)))] [(2,2)] 4=some R146w4:=by kernel_rfl
theorem ctw_sort_rotate_func_w3_2 (x0:List GKey)(x1:Int)(x2:Int)(x3:Int){L:Nat}(hL:L=(List.map GKey.enc x0).length):CTw Try.prog sT 146 [(.agg [(.fn (.func 64) [] [(.op 3 1 0 0)]),(.fn (.func 123) [] [(.os 2 2 0 L),(.p (Cv.val (.at 1 24)))])]),(.p (.int .i64 x1)),(.p (.int .i64 x2)),(.p (.int .i64 x3))] [(3,.rows 1 [[(.os 2 2 0 L)]]),(2,.rows 2 (List.map GKey.enc x0))] 4 (.tup []) [(3,.rows 1 [[(.os 2 2 0 L)]]),(2,.rows 2 (List.map GKey.enc (sort_rotate_func_w3_2 x0 x1 x2 x3)))]:=by subst hL;exact (
 let r4:Int×List GKey:=sort_rotate_func_w3_2_l4 x2 ((x3-x1).toNat+1) (iSub .i64 x2 x1) (iSub .i64 x3 x2) x0
 let w6:List GKey:=sort_swapRange_func_w3_2 r4.2 (iSub .i64 x2 r4.1) x2 r4.1
 let v6:List GKey:=w6
 mkW (cs:=[eL GKey.enc (sort_rotate_func_w3_2 x0 x1 x2 x3)]) hmix xBase_ok iBase_ok e146w4 H146w4 (by kernel_rfl) [eL GKey.enc x0,eI x1,eI x2,eI x3,eI r4.1,eL GKey.enc r4.2,eL GKey.enc v6,undefA] xn
  (wWL (fun hL=>ctw_sort_swapRange_func_w3_2 r4.2 (iSub .i64 x2 r4.1) x2 r4.1 hL)<|wn)
  (lc1 (lp_sort_rotate_func_w3_2_l4 x0 x1 x2 x3 ((x3-x1).toNat+1) (iSub .i64 x2 x1) (iSub .i64 x3 x2) x0) (hn:=(show ((1)*(x3)+((-1)*(x1)+(0)):Int)<_ by first|omega|(simp only [lens];omega))) <|
  ln)
  (selL rfl))
def L125w4_4 : Lo:=
 let p0:Pc:=((qE (mI (V 2) (V 1)) (.li 1)),true)::[]
 let p1:Pc:=((qL (V 4) (V 5)),true)::p0
 .mk [((qE (mI (V 2) (V 1)) (.li 1)),true)] 4 2 [(zI (V 2)),(zI (V 3))] [((.not (qL (V 4) (V 5))),1,[(zI (V 4))]),((.lb true),0,[(zI (.ite (.or (qL (W 7 0) (W 9 0)) (.and (qE (W 7 0) (W 9 0)) (qL (W 7 1) (W 9 1)))) (aI (.conv .i64 (.bin .shr (.int .u64) (.conv .u64 (aI (V 4) (V 5))) (.li 1))) (.li 1)) (V 4))),(zI (.ite (.or (qL (W 7 0) (W 9 0)) (.and (qE (W 7 0) (W 9 0)) (qL (W 7 1) (W 9 1)))) (V 5) (.conv .i64 (.bin .shr (.int .u64) (.conv .u64 (aI (V 4) (V 5))) (.li 1)))))])] [(p1,(.tm (qM (.li 0) (.conv .i64 (.bin .shr (.int .u64) (.conv .u64 (aI (V 4) (V 5))) (.li 1)))))),
 (p1,(.tm (qL (.conv .i64 (.bin .shr (.int .u64) (.conv .u64 (aI (V 4) (V 5))) (.li 1))) (.rlen (V 0))))),
 (p1,(.rd (true,2) (V 0) (.conv .i64 (.bin .shr (.int .u64) (.conv .u64 (aI (V 4) (V 5))) (.li 1))) 0 (.agg [(zS (W 6 0)),(zI (W 6 1))]))),
 (p1,(.call 65 [(.agg [(zS (W 6 0)),(zI (W 6 1))])] (.tup [(zI (W 7 0)),(zI (W 7 1))]))),
 (p1,(.tm (qM (.li 0) (V 1)))),
 (p1,(.tm (qL (V 1) (.rlen (V 0))))),
 (p1,(.rd (true,2) (V 0) (V 1) 0 (.agg [(zS (W 8 0)),(zI (W 8 1))]))),
 (p1,(.call 65 [(.agg [(zS (W 8 0)),(zI (W 8 1))])] (.tup [(zI (W 9 0)),(zI (W 9 1))])))] [] [1] []
def H125w4_4 : LH:=.mk [(qM (V 2) (V 4)),(qM (V 4) (V 5)),(qM (V 5) (V 3)),(qM (.li 0) (V 4))] (mI (V 5) (V 4)) [((V 3),1),((V 2),(-1))] [] 0 [] [[(qM (V 2) (V 4)),(qM (V 4) (V 3))]]
def rk_sort_symMerge_func_w3_2_l4 (r:Int):Nat×List AV:=(0,[eI r])
theorem lp_sort_symMerge_func_w3_2_l4 (x0:List GKey)(x1:Int)(x2:Int)(x3:Int):∀(n:Nat) (u4:Int) (u5:Int),RunL Try.prog sT L125w4_4 H125w4_4 [eL GKey.enc x0,eI x1,eI x2,eI x3] n [eI u4,eI u5] (rk_sort_symMerge_func_w3_2_l4 (sort_symMerge_func_w3_2_l4 x0 x1 n u4 u5))
 |0,u4,u5=>l0
 |n+1,u4,u5=>
  let v6:GKey:=x0.getD ((IntKind.wrap .i64 (iShr .u64 (IntKind.wrap .u64 (iAdd .i64 u4 u5)) 1)):Int).toNat default
  let v7:Int×Int:=key_place v6
  let v8:GKey:=x0.getD (x1:Int).toNat default
  let v9:Int×Int:=key_place v8
  lmk rfl [GKey.av v6,eR_ii64_ii64 v7,GKey.av v8,eR_ii64_ii64 v9] xn (wT <|
  wT <|
  wRd rfl <|
  wC (ct_key_place v6) <|
  wT <|
  wT <|
  wRd rfl <|
  wC (ct_key_place v8) <|
  wn) ln <|
   rc rk_sort_symMerge_func_w3_2_l4 rx<|rl (rg (lp_sort_symMerge_func_w3_2_l4 x0 x1 x2 x3 n _ _))
def L125w4_5 : Lo:=
 let p0:Pc:=((qE (mI (V 2) (V 1)) (.li 1)),true)::[]
 let p1:Pc:=((qL (V 5) (mI (V 4) (.li 1))),true)::p0
 .mk [((qE (mI (V 2) (V 1)) (.li 1)),true)] 5 2 [(zI (V 1)),(zL (V 0))] [((.not (qL (V 5) (mI (V 4) (.li 1)))),1,[(zL (V 6))]),((.lb true),0,[(zI (aI (V 5) (.li 1))),(zL (V 10))])] [(p1,(.tm (qM (.li 0) (V 5)))),
 (p1,(.tm (qL (V 5) (.rlen (V 6))))),
 (p1,(.tm (qM (.li 0) (aI (V 5) (.li 1))))),
 (p1,(.tm (qL (aI (V 5) (.li 1)) (.rlen (V 6))))),
 (p1,(.row (V 6) (V 5) [(zS (W 7 0)),(zI (W 7 1))])),
 (p1,(.row (V 6) (aI (V 5) (.li 1)) [(zS (W 8 0)),(zI (W 8 1))])),
 (p1,(.st (V 6) (V 5) 0 [(zS (W 8 0)),(zI (W 8 1))] (V 9))),
 (p1,(.st (V 9) (aI (V 5) (.li 1)) 0 [(zS (W 7 0)),(zI (W 7 1))] (V 10))),
 (p1,(.tm (qE (.rlen (V 0)) (.rlen (V 6)))))] [] [1] []
def H125w4_5 : LH:=.mk [(qM (V 1) (V 5)),(qE (.rlen (V 6)) (.rlen (V 0)))] (mI (mI (V 4) (.li 1)) (V 5)) [((mI (V 4) (.li 1)),1)] [] 0 [] [[(qE (.rlen (V 5)) (.rlen (V 0)))]]
def rk_sort_symMerge_func_w3_2_l5 (r:List GKey):Nat×List AV:=(0,[eL GKey.enc r])
theorem lp_sort_symMerge_func_w3_2_l5 (x0:List GKey)(x1:Int)(x2:Int)(x3:Int)(r4:Int):∀(n:Nat) (u5:Int) (u6:List GKey),RunL Try.prog sT L125w4_5 H125w4_5 [eL GKey.enc x0,eI x1,eI x2,eI x3,eI r4] n [eI u5,eL GKey.enc u6] (rk_sort_symMerge_func_w3_2_l5 (sort_symMerge_func_w3_2_l5 r4 n u5 u6))
 |0,u5,u6=>l0
 |n+1,u5,u6=>
  let v7:GKey:=u6.getD (u5:Int).toNat default
  let v8:GKey:=u6.getD ((iAdd .i64 u5 1):Int).toNat default
  let v9:List GKey:=u6.set (u5:Int).toNat v8
  let v10:List GKey:=v9.set ((iAdd .i64 u5 1):Int).toNat v7
  lmk rfl [GKey.av v7,GKey.av v8,eL GKey.enc v9,eL GKey.enc v10] xn (wT <|
  wT <|
  wT <|
  wT <|
  wR rfl <|
  wR rfl <|
  wSt (f:=GKey.enc) v8 rfl <|
  wSt (f:=GKey.enc) v7 rfl <|
  wT <|
  wn) ln <|
   rc rk_sort_symMerge_func_w3_2_l5 rx<|rl (rg (lp_sort_symMerge_func_w3_2_l5 x0 x1 x2 x3 r4 n _ _))
def L125w4_6 : Lo:=
 let p0:Pc:=((qE (mI (V 2) (V 1)) (.li 1)),false)::[]
 let p1:Pc:=((qE (mI (V 3) (V 2)) (.li 1)),true)::p0
 let p2:Pc:=((qL (V 6) (V 7)),true)::p1
 .mk [((qE (mI (V 3) (V 2)) (.li 1)),true),((qE (mI (V 2) (V 1)) (.li 1)),false)] 6 2 [(zI (V 1)),(zI (V 2))] [((.not (qL (V 6) (V 7))),1,[(zI (V 6))]),((.lb true),0,[(zI (.ite (.or (qL (W 9 0) (W 11 0)) (.and (qE (W 9 0) (W 11 0)) (qL (W 9 1) (W 11 1)))) (V 6) (aI (.conv .i64 (.bin .shr (.int .u64) (.conv .u64 (aI (V 6) (V 7))) (.li 1))) (.li 1)))),(zI (.ite (.or (qL (W 9 0) (W 11 0)) (.and (qE (W 9 0) (W 11 0)) (qL (W 9 1) (W 11 1)))) (.conv .i64 (.bin .shr (.int .u64) (.conv .u64 (aI (V 6) (V 7))) (.li 1))) (V 7)))])] [(p2,(.tm (qM (.li 0) (V 2)))),
 (p2,(.tm (qL (V 2) (.rlen (V 0))))),
 (p2,(.rd (true,2) (V 0) (V 2) 0 (.agg [(zS (W 8 0)),(zI (W 8 1))]))),
 (p2,(.call 65 [(.agg [(zS (W 8 0)),(zI (W 8 1))])] (.tup [(zI (W 9 0)),(zI (W 9 1))]))),
 (p2,(.tm (qM (.li 0) (.conv .i64 (.bin .shr (.int .u64) (.conv .u64 (aI (V 6) (V 7))) (.li 1)))))),
 (p2,(.tm (qL (.conv .i64 (.bin .shr (.int .u64) (.conv .u64 (aI (V 6) (V 7))) (.li 1))) (.rlen (V 0))))),
 (p2,(.rd (true,2) (V 0) (.conv .i64 (.bin .shr (.int .u64) (.conv .u64 (aI (V 6) (V 7))) (.li 1))) 0 (.agg [(zS (W 10 0)),(zI (W 10 1))]))),
 (p2,(.call 65 [(.agg [(zS (W 10 0)),(zI (W 10 1))])] (.tup [(zI (W 11 0)),(zI (W 11 1))])))] [] [1] []
def H125w4_6 : LH:=.mk [(qM (V 1) (V 6)),(qM (V 7) (V 2)),(qM (V 6) (V 2))] (mI (V 7) (V 6)) [((V 2),1),((V 1),(-1))] [] 0 [] [[(qM (V 6) (V 2)),(qM (V 1) (V 6))]]
def rk_sort_symMerge_func_w3_2_l6 (r:Int):Nat×List AV:=(0,[eI r])
theorem lp_sort_symMerge_func_w3_2_l6 (x0:List GKey)(x1:Int)(x2:Int)(x3:Int)(r4:Int)(r5:List GKey):∀(n:Nat) (u6:Int) (u7:Int),RunL Try.prog sT L125w4_6 H125w4_6 [eL GKey.enc x0,eI x1,eI x2,eI x3,eI r4,eL GKey.enc r5] n [eI u6,eI u7] (rk_sort_symMerge_func_w3_2_l6 (sort_symMerge_func_w3_2_l6 x0 x2 n u6 u7))
 |0,u6,u7=>l0
 |n+1,u6,u7=>
  let v8:GKey:=x0.getD (x2:Int).toNat default
  let v9:Int×Int:=key_place v8
  let v10:GKey:=x0.getD ((IntKind.wrap .i64 (iShr .u64 (IntKind.wrap .u64 (iAdd .i64 u6 u7)) 1)):Int).toNat default
  let v11:Int×Int:=key_place v10
  lmk rfl [GKey.av v8,eR_ii64_ii64 v9,GKey.av v10,eR_ii64_ii64 v11] xn (wT <|
  wT <|
  wRd rfl <|
  wC (ct_key_place v8) <|
  wT <|
  wT <|
  wRd rfl <|
  wC (ct_key_place v10) <|
  wn) ln <|
   rc rk_sort_symMerge_func_w3_2_l6 rx<|rl (rg (lp_sort_symMerge_func_w3_2_l6 x0 x1 x2 x3 r4 r5 n _ _))
def L125w4_7 : Lo:=
 let p0:Pc:=((qE (mI (V 2) (V 1)) (.li 1)),false)::[]
 let p1:Pc:=((qE (mI (V 3) (V 2)) (.li 1)),true)::p0
 let p2:Pc:=((qG (V 7) (V 6)),true)::p1
 .mk [((qE (mI (V 3) (V 2)) (.li 1)),true),((qE (mI (V 2) (V 1)) (.li 1)),false)] 7 2 [(zI (V 2)),(zL (V 0))] [((.not (qG (V 7) (V 6))),1,[(zL (V 8))]),((.lb true),0,[(zI (mI (V 7) (.li 1))),(zL (V 12))])] [(p2,(.tm (qM (.li 0) (V 7)))),
 (p2,(.tm (qL (V 7) (.rlen (V 8))))),
 (p2,(.tm (qM (.li 0) (mI (V 7) (.li 1))))),
 (p2,(.tm (qL (mI (V 7) (.li 1)) (.rlen (V 8))))),
 (p2,(.row (V 8) (V 7) [(zS (W 9 0)),(zI (W 9 1))])),
 (p2,(.row (V 8) (mI (V 7) (.li 1)) [(zS (W 10 0)),(zI (W 10 1))])),
 (p2,(.st (V 8) (V 7) 0 [(zS (W 10 0)),(zI (W 10 1))] (V 11))),
 (p2,(.st (V 11) (mI (V 7) (.li 1)) 0 [(zS (W 9 0)),(zI (W 9 1))] (V 12))),
 (p2,(.tm (qE (.rlen (V 0)) (.rlen (V 8)))))] [] [1] []
def H125w4_7 : LH:=.mk [(qM (V 7) (V 2)),(qE (.rlen (V 8)) (.rlen (V 0)))] (mI (V 7) (V 6)) [((V 2),1),((V 1),(-1))] [] 0 [] [[(qE (.rlen (V 7)) (.rlen (V 0)))]]
def rk_sort_symMerge_func_w3_2_l7 (r:List GKey):Nat×List AV:=(0,[eL GKey.enc r])
theorem lp_sort_symMerge_func_w3_2_l7 (x0:List GKey)(x1:Int)(x2:Int)(x3:Int)(r4:Int)(r5:List GKey)(r6:Int):∀(n:Nat) (u7:Int) (u8:List GKey),RunL Try.prog sT L125w4_7 H125w4_7 [eL GKey.enc x0,eI x1,eI x2,eI x3,eI r4,eL GKey.enc r5,eI r6] n [eI u7,eL GKey.enc u8] (rk_sort_symMerge_func_w3_2_l7 (sort_symMerge_func_w3_2_l7 r6 n u7 u8))
 |0,u7,u8=>l0
 |n+1,u7,u8=>
  let v9:GKey:=u8.getD (u7:Int).toNat default
  let v10:GKey:=u8.getD ((iSub .i64 u7 1):Int).toNat default
  let v11:List GKey:=u8.set (u7:Int).toNat v10
  let v12:List GKey:=v11.set ((iSub .i64 u7 1):Int).toNat v9
  lmk rfl [GKey.av v9,GKey.av v10,eL GKey.enc v11,eL GKey.enc v12] xn (wT <|
  wT <|
  wT <|
  wT <|
  wR rfl <|
  wR rfl <|
  wSt (f:=GKey.enc) v10 rfl <|
  wSt (f:=GKey.enc) v9 rfl <|
  wT <|
  wn) ln <|
   rc rk_sort_symMerge_func_w3_2_l7 rx<|rl (rg (lp_sort_symMerge_func_w3_2_l7 x0 x1 x2 x3 r4 r5 r6 n _ _))
def L125w4_8 : Lo:=
 let p0:Pc:=((qE (mI (V 2) (V 1)) (.li 1)),false)::[]
 let p1:Pc:=((qE (mI (V 3) (V 2)) (.li 1)),false)::p0
 let p2:Pc:=((qL (V 8) (V 9)),true)::p1
 .mk [((qE (mI (V 3) (V 2)) (.li 1)),false),((qE (mI (V 2) (V 1)) (.li 1)),false)] 8 2 [(zI (.ite (qG (V 2) (.conv .i64 (.bin .shr (.int .u64) (.conv .u64 (aI (V 1) (V 3))) (.li 1)))) (mI (aI (.conv .i64 (.bin .shr (.int .u64) (.conv .u64 (aI (V 1) (V 3))) (.li 1))) (V 2)) (V 3)) (V 1))),(zI (.ite (qG (V 2) (.conv .i64 (.bin .shr (.int .u64) (.conv .u64 (aI (V 1) (V 3))) (.li 1)))) (.conv .i64 (.bin .shr (.int .u64) (.conv .u64 (aI (V 1) (V 3))) (.li 1))) (V 2)))] [((.not (qL (V 8) (V 9))),1,[(zI (V 8))]),((.lb true),0,[(zI (.ite (.or (qL (W 11 0) (W 13 0)) (.and (qE (W 11 0) (W 13 0)) (qL (W 11 1) (W 13 1)))) (V 8) (aI (.conv .i64 (.bin .shr (.int .u64) (.conv .u64 (aI (V 8) (V 9))) (.li 1))) (.li 1)))),(zI (.ite (.or (qL (W 11 0) (W 13 0)) (.and (qE (W 11 0) (W 13 0)) (qL (W 11 1) (W 13 1)))) (.conv .i64 (.bin .shr (.int .u64) (.conv .u64 (aI (V 8) (V 9))) (.li 1))) (V 9)))])] [(p2,(.tm (qM (.li 0) (mI (mI (aI (.conv .i64 (.bin .shr (.int .u64) (.conv .u64 (aI (V 1) (V 3))) (.li 1))) (V 2)) (.li 1)) (.conv .i64 (.bin .shr (.int .u64) (.conv .u64 (aI (V 8) (V 9))) (.li 1))))))),
 (p2,(.tm (qL (mI (mI (aI (.conv .i64 (.bin .shr (.int .u64) (.conv .u64 (aI (V 1) (V 3))) (.li 1))) (V 2)) (.li 1)) (.conv .i64 (.bin .shr (.int .u64) (.conv .u64 (aI (V 8) (V 9))) (.li 1)))) (.rlen (V 0))))),
 (p2,(.rd (true,2) (V 0) (mI (mI (aI (.conv .i64 (.bin .shr (.int .u64) (.conv .u64 (aI (V 1) (V 3))) (.li 1))) (V 2)) (.li 1)) (.conv .i64 (.bin .shr (.int .u64) (.conv .u64 (aI (V 8) (V 9))) (.li 1)))) 0 (.agg [(zS (W 10 0)),(zI (W 10 1))]))),
 (p2,(.call 65 [(.agg [(zS (W 10 0)),(zI (W 10 1))])] (.tup [(zI (W 11 0)),(zI (W 11 1))]))),
 (p2,(.tm (qM (.li 0) (.conv .i64 (.bin .shr (.int .u64) (.conv .u64 (aI (V 8) (V 9))) (.li 1)))))),
 (p2,(.tm (qL (.conv .i64 (.bin .shr (.int .u64) (.conv .u64 (aI (V 8) (V 9))) (.li 1))) (.rlen (V 0))))),
 (p2,(.rd (true,2) (V 0) (.conv .i64 (.bin .shr (.int .u64) (.conv .u64 (aI (V 8) (V 9))) (.li 1))) 0 (.agg [(zS (W 12 0)),(zI (W 12 1))]))),
 (p2,(.call 65 [(.agg [(zS (W 12 0)),(zI (W 12 1))])] (.tup [(zI (W 13 0)),(zI (W 13 1))])))] [] [1] []
def H125w4_8 : LH:=.mk [(qM (V 1) (V 8)),(qM (V 9) (V 2)),(qM (V 9) (.conv .i64 (.bin .shr (.int .u64) (.conv .u64 (aI (V 1) (V 3))) (.li 1)))),(qM (mI (aI (.conv .i64 (.bin .shr (.int .u64) (.conv .u64 (aI (V 1) (V 3))) (.li 1))) (V 2)) (V 3)) (V 8))] (mI (V 9) (V 8)) [((V 3),1),((V 1),(-1))] [] 0 [] [[(qM (.ite (qG (V 2) (.conv .i64 (.bin .shr (.int .u64) (.conv .u64 (aI (V 1) (V 3))) (.li 1)))) (mI (aI (.conv .i64 (.bin .shr (.int .u64) (.conv .u64 (aI (V 1) (V 3))) (.li 1))) (V 2)) (V 3)) (V 1)) (V 8))]]
def rk_sort_symMerge_func_w3_2_l8 (r:Int):Nat×List AV:=(0,[eI r])
theorem lp_sort_symMerge_func_w3_2_l8 (x0:List GKey)(x1:Int)(x2:Int)(x3:Int)(r4:Int)(r5:List GKey)(r6:Int)(r7:List GKey):∀(n:Nat) (u8:Int) (u9:Int),RunL Try.prog sT L125w4_8 H125w4_8 [eL GKey.enc x0,eI x1,eI x2,eI x3,eI r4,eL GKey.enc r5,eI r6,eL GKey.enc r7] n [eI u8,eI u9] (rk_sort_symMerge_func_w3_2_l8 (sort_symMerge_func_w3_2_l8 x0 x1 x2 x3 n u8 u9))
 |0,u8,u9=>l0
 |n+1,u8,u9=>
  let v10:GKey:=x0.getD ((iSub .i64 (iSub .i64 (iAdd .i64 (IntKind.wrap .i64 (iShr .u64 (IntKind.wrap .u64 (iAdd .i64 x1 x3)) 1)) x2) 1) (IntKind.wrap .i64 (iShr .u64 (IntKind.wrap .u64 (iAdd .i64 u8 u9)) 1))):Int).toNat default
  let v11:Int×Int:=key_place v10
  let v12:GKey:=x0.getD ((IntKind.wrap .i64 (iShr .u64 (IntKind.wrap .u64 (iAdd .i64 u8 u9)) 1)):Int).toNat default
  let v13:Int×Int:=key_place v12
  lmk rfl [GKey.av v10,eR_ii64_ii64 v11,GKey.av v12,eR_ii64_ii64 v13] xn (wT <|
  wT <|
  wRd rfl <|
  wC (ct_key_place v10) <|
  wT <|
  wT <|
  wRd rfl <|
  wC (ct_key_place v12) <|
  wn) ln <|
   rc rk_sort_symMerge_func_w3_2_l8 rx<|rl (rg (lp_sort_symMerge_func_w3_2_l8 x0 x1 x2 x3 r4 r5 r6 r7 n _ _))
def R125w4 : PRes:=
 let p0:Pc:=((qE (mI (V 2) (V 1)) (.li 1)),false)::[]
 let p1:Pc:=((qE (mI (V 3) (V 2)) (.li 1)),false)::p0
 let p2:Pc:=((qL (V 2) (mI (aI (.conv .i64 (.bin .shr (.int .u64) (.conv .u64 (aI (V 1) (V 3))) (.li 1))) (V 2)) (V 8))),true)::p1
 let p3:Pc:=((qL (V 8) (V 2)),true)::p2
 let p4:Pc:=((qL (V 8) (.conv .i64 (.bin .shr (.int .u64) (.conv .u64 (aI (V 1) (V 3))) (.li 1)))),true)::p3
 let p5:Pc:=((qL (V 1) (V 8)),true)::p4
 let p6:Pc:=((qL (mI (aI (.conv .i64 (.bin .shr (.int .u64) (.conv .u64 (aI (V 1) (V 3))) (.li 1))) (V 2)) (V 8)) (V 3)),true)::p5
 let p7:Pc:=((qL (.conv .i64 (.bin .shr (.int .u64) (.conv .u64 (aI (V 1) (V 3))) (.li 1))) (mI (aI (.conv .i64 (.bin .shr (.int .u64) (.conv .u64 (aI (V 1) (V 3))) (.li 1))) (V 2)) (V 8))),true)::p6
 let p8:Pc:=((.and (qL (V 1) (V 8)) (qL (V 8) (.conv .i64 (.bin .shr (.int .u64) (.conv .u64 (aI (V 1) (V 3))) (.li 1))))),false)::p3
 let p9:Pc:=((qL (mI (aI (.conv .i64 (.bin .shr (.int .u64) (.conv .u64 (aI (V 1) (V 3))) (.li 1))) (V 2)) (V 8)) (V 3)),true)::p8
 let p10:Pc:=((qL (.conv .i64 (.bin .shr (.int .u64) (.conv .u64 (aI (V 1) (V 3))) (.li 1))) (mI (aI (.conv .i64 (.bin .shr (.int .u64) (.conv .u64 (aI (V 1) (V 3))) (.li 1))) (V 2)) (V 8))),true)::p9
 let p11:Pc:=((.and (qL (V 8) (V 2)) (qL (V 2) (mI (aI (.conv .i64 (.bin .shr (.int .u64) (.conv .u64 (aI (V 1) (V 3))) (.li 1))) (V 2)) (V 8)))),false)::p1
 let p12:Pc:=((qL (V 8) (.conv .i64 (.bin .shr (.int .u64) (.conv .u64 (aI (V 1) (V 3))) (.li 1)))),true)::p11
 let p13:Pc:=((qL (V 1) (V 8)),true)::p12
 let p14:Pc:=((qL (mI (aI (.conv .i64 (.bin .shr (.int .u64) (.conv .u64 (aI (V 1) (V 3))) (.li 1))) (V 2)) (V 8)) (V 3)),true)::p13
 let p15:Pc:=((qL (.conv .i64 (.bin .shr (.int .u64) (.conv .u64 (aI (V 1) (V 3))) (.li 1))) (mI (aI (.conv .i64 (.bin .shr (.int .u64) (.conv .u64 (aI (V 1) (V 3))) (.li 1))) (V 2)) (V 8))),true)::p14
 let p16:Pc:=((.and (qL (V 1) (V 8)) (qL (V 8) (.conv .i64 (.bin .shr (.int .u64) (.conv .u64 (aI (V 1) (V 3))) (.li 1))))),false)::p11
 let p17:Pc:=((qL (mI (aI (.conv .i64 (.bin .shr (.int .u64) (.conv .u64 (aI (V 1) (V 3))) (.li 1))) (V 2)) (V 8)) (V 3)),true)::p16
 let p18:Pc:=((qL (.conv .i64 (.bin .shr (.int .u64) (.conv .u64 (aI (V 1) (V 3))) (.li 1))) (mI (aI (.conv .i64 (.bin .shr (.int .u64) (.conv .u64 (aI (V 1) (V 3))) (.li 1))) (V 2)) (V 8))),true)::p17
 ⟨[((qE (mI (V 2) (V 1)) (.li 1)),(.tup [(.tup []),(zL (V 5))])),((qE (mI (V 3) (V 2)) (.li 1)),(.tup [(.tup []),(zL (V 7))])),((.and (.and (qL (V 8) (V 2)) (qL (V 2) (mI (aI (.conv .i64 (.bin .shr (.int .u64) (.conv .u64 (aI (V 1) (V 3))) (.li 1))) (V 2)) (V 8)))) (.and (.and (qL (V 1) (V 8)) (qL (V 8) (.conv .i64 (.bin .shr (.int .u64) (.conv .u64 (aI (V 1) (V 3))) (.li 1))))) (.and (qL (.conv .i64 (.bin .shr (.int .u64) (.conv .u64 (aI (V 1) (V 3))) (.li 1))) (mI (aI (.conv .i64 (.bin .shr (.int .u64) (.conv .u64 (aI (V 1) (V 3))) (.li 1))) (V 2)) (V 8))) (qL (mI (aI (.conv .i64 (.bin .shr (.int .u64) (.conv .u64 (aI (V 1) (V 3))) (.li 1))) (V 2)) (V 8)) (V 3))))),(.tup [(.tup []),(zL (V 13))])),((.and (.and (qL (V 8) (V 2)) (qL (V 2) (mI (aI (.conv .i64 (.bin .shr (.int .u64) (.conv .u64 (aI (V 1) (V 3))) (.li 1))) (V 2)) (V 8)))) (.and (qL (V 1) (V 8)) (qL (V 8) (.conv .i64 (.bin .shr (.int .u64) (.conv .u64 (aI (V 1) (V 3))) (.li 1)))))),(.tup [(.tup []),(zL (V 11))])),((.and (.and (qL (V 8) (V 2)) (qL (V 2) (mI (aI (.conv .i64 (.bin .shr (.int .u64) (.conv .u64 (aI (V 1) (V 3))) (.li 1))) (V 2)) (V 8)))) (.and (qL (.conv .i64 (.bin .shr (.int .u64) (.conv .u64 (aI (V 1) (V 3))) (.li 1))) (mI (aI (.conv .i64 (.bin .shr (.int .u64) (.conv .u64 (aI (V 1) (V 3))) (.li 1))) (V 2)) (V 8))) (qL (mI (aI (.conv .i64 (.bin .shr (.int .u64) (.conv .u64 (aI (V 1) (V 3))) (.li 1))) (V 2)) (V 8)) (V 3)))),(.tup [(.tup []),(zL (V 15))])),((.and (qL (V 8) (V 2)) (qL (V 2) (mI (aI (.conv .i64 (.bin .shr (.int .u64) (.conv .u64 (aI (V 1) (V 3))) (.li 1))) (V 2)) (V 8)))),(.tup [(.tup []),(zL (V 9))])),((.and (.and (qL (V 1) (V 8)) (qL (V 8) (.conv .i64 (.bin .shr (.int .u64) (.conv .u64 (aI (V 1) (V 3))) (.li 1))))) (.and (qL (.conv .i64 (.bin .shr (.int .u64) (.conv .u64 (aI (V 1) (V 3))) (.li 1))) (mI (aI (.conv .i64 (.bin .shr (.int .u64) (.conv .u64 (aI (V 1) (V 3))) (.li 1))) (V 2)) (V 8))) (qL (mI (aI (.conv .i64 (.bin .shr (.int .u64) (.conv .u64 (aI (V 1) (V 3))) (.li 1))) (V 2)) (V 8)) (V 3)))),(.tup [(.tup []),(zL (V 19))])),((.and (qL (V 1) (V 8)) (qL (V 8) (.conv .i64 (.bin .shr (.int .u64) (.conv .u64 (aI (V 1) (V 3))) (.li 1))))),(.tup [(.tup []),(zL (V 17))])),((.and (qL (.conv .i64 (.bin .shr (.int .u64) (.conv .u64 (aI (V 1) (V 3))) (.li 1))) (mI (aI (.conv .i64 (.bin .shr (.int .u64) (.conv .u64 (aI (V 1) (V 3))) (.li 1))) (V 2)) (V 8))) (qL (mI (aI (.conv .i64 (.bin .shr (.int .u64) (.conv .u64 (aI (V 1) (V 3))) (.li 1))) (V 2)) (V 8)) (V 3))),(.tup [(.tup []),(zL (V 21))])),((.lb true),(.tup [(.tup []),(zL (V 0))]))],
 [(p3,(.callw 146 [(.agg [(.fn 64 [] [(.op 3 1 (.li 0) 0)]),(.fn 123 [] [(.os 2 2 0 (.rlen (V 0))),(.c (.at 1 24))])]),(zI (V 8)),(zI (V 2)),(zI (mI (aI (.conv .i64 (.bin .shr (.int .u64) (.conv .u64 (aI (V 1) (V 3))) (.li 1))) (V 2)) (V 8)))] [(3,(.rows 1 [[(.os 2 2 0 (.rlen (V 0)))]])),(2,(.rowsT 2 (V 0)))] 4 (.tup []) [(3,(.rows 1 [[(.os 2 2 0 (.rlen (V 0)))]])),(2,(.rowsT 2 (V 9)))])),
 (p5,(.callw 125 [(.agg [(.fn 64 [] [(.op 3 1 (.li 0) 0)]),(.fn 123 [] [(.os 2 2 0 (.rlen (V 0))),(.c (.at 1 24))])]),(zI (V 1)),(zI (V 8)),(zI (.conv .i64 (.bin .shr (.int .u64) (.conv .u64 (aI (V 1) (V 3))) (.li 1))))] [(3,(.rows 1 [[(.os 2 2 0 (.rlen (V 0)))]])),(2,(.rowsT 2 (V 9)))] 4 (.tup []) [(3,(.rows 1 [[(.os 2 2 0 (.rlen (V 0)))]])),(2,(.rowsT 2 (V 11)))])),
 (p7,(.callw 125 [(.agg [(.fn 64 [] [(.op 3 1 (.li 0) 0)]),(.fn 123 [] [(.os 2 2 0 (.rlen (V 0))),(.c (.at 1 24))])]),(zI (.conv .i64 (.bin .shr (.int .u64) (.conv .u64 (aI (V 1) (V 3))) (.li 1)))),(zI (mI (aI (.conv .i64 (.bin .shr (.int .u64) (.conv .u64 (aI (V 1) (V 3))) (.li 1))) (V 2)) (V 8))),(zI (V 3))] [(3,(.rows 1 [[(.os 2 2 0 (.rlen (V 0)))]])),(2,(.rowsT 2 (V 11)))] 4 (.tup []) [(3,(.rows 1 [[(.os 2 2 0 (.rlen (V 0)))]])),(2,(.rowsT 2 (V 13)))])),
 (p10,(.callw 125 [(.agg [(.fn 64 [] [(.op 3 1 (.li 0) 0)]),(.fn 123 [] [(.os 2 2 0 (.rlen (V 0))),(.c (.at 1 24))])]),(zI (.conv .i64 (.bin .shr (.int .u64) (.conv .u64 (aI (V 1) (V 3))) (.li 1)))),(zI (mI (aI (.conv .i64 (.bin .shr (.int .u64) (.conv .u64 (aI (V 1) (V 3))) (.li 1))) (V 2)) (V 8))),(zI (V 3))] [(3,(.rows 1 [[(.os 2 2 0 (.rlen (V 0)))]])),(2,(.rowsT 2 (V 9)))] 4 (.tup []) [(3,(.rows 1 [[(.os 2 2 0 (.rlen (V 0)))]])),(2,(.rowsT 2 (V 15)))])),
 (p13,(.callw 125 [(.agg [(.fn 64 [] [(.op 3 1 (.li 0) 0)]),(.fn 123 [] [(.os 2 2 0 (.rlen (V 0))),(.c (.at 1 24))])]),(zI (V 1)),(zI (V 8)),(zI (.conv .i64 (.bin .shr (.int .u64) (.conv .u64 (aI (V 1) (V 3))) (.li 1))))] [(3,(.rows 1 [[(.os 2 2 0 (.rlen (V 0)))]])),(2,(.rowsT 2 (V 0)))] 4 (.tup []) [(3,(.rows 1 [[(.os 2 2 0 (.rlen (V 0)))]])),(2,(.rowsT 2 (V 17)))])),
 (p15,(.callw 125 [(.agg [(.fn 64 [] [(.op 3 1 (.li 0) 0)]),(.fn 123 [] [(.os 2 2 0 (.rlen (V 0))),(.c (.at 1 24))])]),(zI (.conv .i64 (.bin .shr (.int .u64) (.conv .u64 (aI (V 1) (V 3))) (.li 1)))),(zI (mI (aI (.conv .i64 (.bin .shr (.int .u64) (.conv .u64 (aI (V 1) (V 3))) (.li 1))) (V 2)) (V 8))),(zI (V 3))] [(3,(.rows 1 [[(.os 2 2 0 (.rlen (V 0)))]])),(2,(.rowsT 2 (V 17)))] 4 (.tup []) [(3,(.rows 1 [[(.os 2 2 0 (.rlen (V 0)))]])),(2,(.rowsT 2 (V 19)))])),
 (p18,(.callw 125 [(.agg [(.fn 64 [] [(.op 3 1 (.li 0) 0)]),(.fn 123 [] [(.os 2 2 0 (.rlen (V 0))),(.c (.at 1 24))])]),(zI (.conv .i64 (.bin .shr (.int .u64) (.conv .u64 (aI (V 1) (V 3))) (.li 1)))),(zI (mI (aI (.conv .i64 (.bin .shr (.int .u64) (.conv .u64 (aI (V 1) (V 3))) (.li 1))) (V 2)) (V 8))),(zI (V 3))] [(3,(.rows 1 [[(.os 2 2 0 (.rlen (V 0)))]])),(2,(.rowsT 2 (V 0)))] 4 (.tup []) [(3,(.rows 1 [[(.os 2 2 0 (.rlen (V 0)))]])),(2,(.rowsT 2 (V 21)))]))],[L125w4_4,L125w4_5,L125w4_6,L125w4_7,L125w4_8]⟩
def H125w4 : LH:=.mk [] (.li 0) [] [] 0 [H125w4_4,H125w4_5,H125w4_6,H125w4_7,H125w4_8] []
theorem e125w4 : sFnW Try.prog xBase iBase mdI (fcI kA 125 [1,2,3,4,8,9,10,11,12,13,14,15,16,17,18,19,20,21,22,26,31,42,50,62,67,79,86,106,117,131,142,143,144,145,155,156,157,158,168,169,170,171] [(8,(.mk [1,2,3,4,16,17,20] (.mk [(18,(.sc kI)),(19,(.sc kI))] [] [] 38) [(.normal,(.mk [(18,(.sc kI))] [] [] 38))])),(6,(.mk [4,12] (.mk [(15,(.sc kI))] [] [(2,2)] 19) [(.normal,(.mk [] [] [(2,2)] 19))])),(4,(.mk [2,4] (.mk [(12,(.sc kI)),(13,(.sc kI))] [] [] 17) [(.normal,(.mk [(12,(.sc kI))] [] [] 17))])),(2,(.mk [4,8] (.mk [(11,(.sc kI))] [] [(2,2)] 15) [(.normal,(.mk [] [] [(2,2)] 15))])),(0,(.mk [1,4] (.mk [(8,(.sc kI)),(9,(.sc kI))] [] [] 13) [(.normal,(.mk [(8,(.sc kI))] [] [] 13))]))]) 3 200 125 [(.agg [(.fn 64 [] [(.op 3 1 (.li 0) 0)]),(.fn 123 [] [(.os 2 2 0 (.rlen (V 0))),(.c (.at 1 24))])]),(zI (V 1)),(zI (V 2)),(zI (V 3))] 4 [(3,(.rows 1 [[(.os 2 2 0 (.rlen (V 0)))]])),(2,(.rowsT 2 (V 0)))] [(2,2)] 4=some R125w4:=by kernel_rfl
theorem ctw_sort_symMerge_func_w3_2 : ∀(n:Nat) (x0:List GKey) (x1:Int) (x2:Int) (x3:Int) {L:Nat},(x3-x1).toNat<n→L=(List.map GKey.enc x0).length→CTw Try.prog sT 125 [(.agg [(.fn (.func 64) [] [(.op 3 1 0 0)]),(.fn (.func 123) [] [(.os 2 2 0 L),(.p (Cv.val (.at 1 24)))])]),(.p (.int .i64 x1)),(.p (.int .i64 x2)),(.p (.int .i64 x3))] [(3,.rows 1 [[(.os 2 2 0 L)]]),(2,.rows 2 (List.map GKey.enc x0))] 4 (.tup []) [(3,.rows 1 [[(.os 2 2 0 L)]]),(2,.rows 2 (List.map GKey.enc (sort_symMerge_func_w3_2 n x0 x1 x2 x3)))]
 |0,x0,x1,x2,x3,L,hm,_=>absurd hm (Nat.not_lt_zero _)
 |n+1,x0,x1,x2,x3,L,hm,hL=>by subst hL;exact (fun hp=>(fun hd=>
 let r4:Int:=sort_symMerge_func_w3_2_l4 x0 x1 ((x3-x2).toNat+1) x2 x3
 let r5:List GKey:=sort_symMerge_func_w3_2_l5 r4 (((iSub .i64 r4 1):Int).toNat+1) x1 x0
 let r6:Int:=sort_symMerge_func_w3_2_l6 x0 x2 ((x2-x1).toNat+1) x1 x2
 let r7:List GKey:=sort_symMerge_func_w3_2_l7 r6 ((x2-x1).toNat+1) x2 x0
 let r8:Int:=sort_symMerge_func_w3_2_l8 x0 x1 x2 x3 ((x3-x1).toNat+1) (bif (decide ((x2:Int) > (IntKind.wrap .i64 (iShr .u64 (IntKind.wrap .u64 (iAdd .i64 x1 x3)) 1)))) then (iSub .i64 (iAdd .i64 (IntKind.wrap .i64 (iShr .u64 (IntKind.wrap .u64 (iAdd .i64 x1 x3)) 1)) x2) x3) else x1) (bif (decide ((x2:Int) > (IntKind.wrap .i64 (iShr .u64 (IntKind.wrap .u64 (iAdd .i64 x1 x3)) 1)))) then (IntKind.wrap .i64 (iShr .u64 (IntKind.wrap .u64 (iAdd .i64 x1 x3)) 1)) else x2)
 let w9:List GKey:=sort_rotate_func_w3_2 x0 r8 x2 (iSub .i64 (iAdd .i64 (IntKind.wrap .i64 (iShr .u64 (IntKind.wrap .u64 (iAdd .i64 x1 x3)) 1)) x2) r8)
 let v9:List GKey:=w9
 let w11:List GKey:=sort_symMerge_func_w3_2 n v9 x1 r8 (IntKind.wrap .i64 (iShr .u64 (IntKind.wrap .u64 (iAdd .i64 x1 x3)) 1))
 let v11:List GKey:=w11
 let w13:List GKey:=sort_symMerge_func_w3_2 n v11 (IntKind.wrap .i64 (iShr .u64 (IntKind.wrap .u64 (iAdd .i64 x1 x3)) 1)) (iSub .i64 (iAdd .i64 (IntKind.wrap .i64 (iShr .u64 (IntKind.wrap .u64 (iAdd .i64 x1 x3)) 1)) x2) r8) x3
 let v13:List GKey:=w13
 let w15:List GKey:=sort_symMerge_func_w3_2 n v9 (IntKind.wrap .i64 (iShr .u64 (IntKind.wrap .u64 (iAdd .i64 x1 x3)) 1)) (iSub .i64 (iAdd .i64 (IntKind.wrap .i64 (iShr .u64 (IntKind.wrap .u64 (iAdd .i64 x1 x3)) 1)) x2) r8) x3
 let v15:List GKey:=w15
 let w17:List GKey:=sort_symMerge_func_w3_2 n x0 x1 r8 (IntKind.wrap .i64 (iShr .u64 (IntKind.wrap .u64 (iAdd .i64 x1 x3)) 1))
 let v17:List GKey:=w17
 let w19:List GKey:=sort_symMerge_func_w3_2 n v17 (IntKind.wrap .i64 (iShr .u64 (IntKind.wrap .u64 (iAdd .i64 x1 x3)) 1)) (iSub .i64 (iAdd .i64 (IntKind.wrap .i64 (iShr .u64 (IntKind.wrap .u64 (iAdd .i64 x1 x3)) 1)) x2) r8) x3
 let v19:List GKey:=w19
 let w21:List GKey:=sort_symMerge_func_w3_2 n x0 (IntKind.wrap .i64 (iShr .u64 (IntKind.wrap .u64 (iAdd .i64 x1 x3)) 1)) (iSub .i64 (iAdd .i64 (IntKind.wrap .i64 (iShr .u64 (IntKind.wrap .u64 (iAdd .i64 x1 x3)) 1)) x2) r8) x3
 let v21:List GKey:=w21
 (mkW (cs:=[eL GKey.enc (sort_symMerge_func_w3_2 (n+1) x0 x1 x2 x3)]) hmix xBase_ok iBase_ok e125w4 H125w4 (by kernel_rfl) [eL GKey.enc x0,eI x1,eI x2,eI x3,eI r4,eL GKey.enc r5,eI r6,eL GKey.enc r7,eI r8,eL GKey.enc v9,undefA,eL GKey.enc v11,undefA,eL GKey.enc v13,undefA,eL GKey.enc v15,undefA,eL GKey.enc v17,undefA,eL GKey.enc v19,undefA,eL GKey.enc v21,undefA] xn
  (wWL (fun hL=>ctw_sort_rotate_func_w3_2 x0 r8 x2 (iSub .i64 (iAdd .i64 (IntKind.wrap .i64 (iShr .u64 (IntKind.wrap .u64 (iAdd .i64 x1 x3)) 1)) x2) r8) hL) <|
  wWL (fun hL=>ctw_sort_symMerge_func_w3_2 n v9 x1 r8 (IntKind.wrap .i64 (iShr .u64 (IntKind.wrap .u64 (iAdd .i64 x1 x3)) 1)) hd.1 hL) <|
  wWL (fun hL=>ctw_sort_symMerge_func_w3_2 n v11 (IntKind.wrap .i64 (iShr .u64 (IntKind.wrap .u64 (iAdd .i64 x1 x3)) 1)) (iSub .i64 (iAdd .i64 (IntKind.wrap .i64 (iShr .u64 (IntKind.wrap .u64 (iAdd .i64 x1 x3)) 1)) x2) r8) x3 hd.2 hL) <|
  wWL (fun hL=>ctw_sort_symMerge_func_w3_2 n v9 (IntKind.wrap .i64 (iShr .u64 (IntKind.wrap .u64 (iAdd .i64 x1 x3)) 1)) (iSub .i64 (iAdd .i64 (IntKind.wrap .i64 (iShr .u64 (IntKind.wrap .u64 (iAdd .i64 x1 x3)) 1)) x2) r8) x3 hd.2 hL) <|
  wWL (fun hL=>ctw_sort_symMerge_func_w3_2 n x0 x1 r8 (IntKind.wrap .i64 (iShr .u64 (IntKind.wrap .u64 (iAdd .i64 x1 x3)) 1)) hd.1 hL) <|
  wWL (fun hL=>ctw_sort_symMerge_func_w3_2 n v17 (IntKind.wrap .i64 (iShr .u64 (IntKind.wrap .u64 (iAdd .i64 x1 x3)) 1)) (iSub .i64 (iAdd .i64 (IntKind.wrap .i64 (iShr .u64 (IntKind.wrap .u64 (iAdd .i64 x1 x3)) 1)) x2) r8) x3 hd.2 hL) <|
  wWL (fun hL=>ctw_sort_symMerge_func_w3_2 n x0 (IntKind.wrap .i64 (iShr .u64 (IntKind.wrap .u64 (iAdd .i64 x1 x3)) 1)) (iSub .i64 (iAdd .i64 (IntKind.wrap .i64 (iShr .u64 (IntKind.wrap .u64 (iAdd .i64 x1 x3)) 1)) x2) r8) x3 hd.2 hL) <|
  wn)
  (lc1 (lp_sort_symMerge_func_w3_2_l4 x0 x1 x2 x3 ((x3-x2).toNat+1) x2 x3) (hn:=(show ((1)*(x3)+((-1)*(x2)+(0)):Int)<_ by first|omega|(simp only [lens];omega))) <|
  lc1 (lp_sort_symMerge_func_w3_2_l5 x0 x1 x2 x3 r4 (((iSub .i64 r4 1):Int).toNat+1) x1 x0) <|
  lc1 (lp_sort_symMerge_func_w3_2_l6 x0 x1 x2 x3 r4 r5 ((x2-x1).toNat+1) x1 x2) (hn:=(show ((1)*(x2)+((-1)*(x1)+(0)):Int)<_ by first|omega|(simp only [lens];omega))) <|
  lc1 (lp_sort_symMerge_func_w3_2_l7 x0 x1 x2 x3 r4 r5 r6 ((x2-x1).toNat+1) x2 x0) (hn:=(show ((1)*(x2)+((-1)*(x1)+(0)):Int)<_ by first|omega|(simp only [lens];omega))) <|
  lc1 (lp_sort_symMerge_func_w3_2_l8 x0 x1 x2 x3 r4 r5 r6 r7 ((x3-x1).toNat+1) (bif (decide ((x2:Int) > (IntKind.wrap .i64 (iShr .u64 (IntKind.wrap .u64 (iAdd .i64 x1 x3)) 1)))) then (iSub .i64 (iAdd .i64 (IntKind.wrap .i64 (iShr .u64 (IntKind.wrap .u64 (iAdd .i64 x1 x3)) 1)) x2) x3) else x1) (bif (decide ((x2:Int) > (IntKind.wrap .i64 (iShr .u64 (IntKind.wrap .u64 (iAdd .i64 x1 x3)) 1)))) then (IntKind.wrap .i64 (iShr .u64 (IntKind.wrap .u64 (iAdd .i64 x1 x3)) 1)) else x2)) (hn:=(show ((1)*(x3)+((-1)*(x1)+(0)):Int)<_ by first|omega|(simp only [lens];omega))) <|
  ln)
  (selE (fun r=>.tup [.tup [],.sl (List.map GKey.enc r) false]) rfl rfl (selE (fun r=>.tup [.tup [],.sl (List.map GKey.enc r) false]) rfl rfl (selE (fun r=>.tup [.tup [],.sl (List.map GKey.enc r) false]) rfl rfl (selE (fun r=>.tup [.tup [],.sl (List.map GKey.enc r) false]) rfl rfl (selE (fun r=>.tup [.tup [],.sl (List.map GKey.enc r) false]) rfl rfl (selE (fun r=>.tup [.tup [],.sl (List.map GKey.enc r) false]) rfl rfl (selE (fun r=>.tup [.tup [],.sl (List.map GKey.enc r) false]) rfl rfl (selE (fun r=>.tup [.tup [],.sl (List.map GKey.enc r) false]) rfl rfl (selE (fun r=>.tup [.tup [],.sl (List.map GKey.enc r) false]) rfl rfl (selL rfl))))))))))) hp) (sm_dec (of_decide_eq_true hp.1) (of_decide_eq_true hp.2.1) (of_decide_eq_true hp.2.2.1) (of_decide_eq_true hp.2.2.2.1) hm))
def L95w4_2 : Lo:=
 let p0:Pc:=((qM (V 3) (V 1)),true)::[]
 .mk [] 2 3 [(zI (.li 0)),(zI (.li 20)),(zL (V 0))] [((.not (qM (V 3) (V 1))),1,[(zI (V 2)),(zI (V 3)),(zL (V 4))]),((.lb true),0,[(zI (V 3)),(zI (aI (V 3) (.li 20))),(zL (V 5))])] [(p0,(.callw 124 [(.agg [(.fn 64 [] [(.op 3 1 (.li 0) 0)]),(.fn 123 [] [(.os 2 2 0 (.rlen (V 0))),(.c (.at 1 24))])]),(zI (V 2)),(zI (V 3))] [(3,(.rows 1 [[(.os 2 2 0 (.rlen (V 0)))]])),(2,(.rowsT 2 (V 4)))] 4 (.tup []) [(3,(.rows 1 [[(.os 2 2 0 (.rlen (V 0)))]])),(2,(.rowsT 2 (V 5)))]))] [] [3] []
def H95w4_2 : LH:=.mk [(qM (.li 0) (V 2)),(qE (V 3) (aI (V 2) (.li 20))),(qE (.rlen (V 4)) (.rlen (V 0))),(qM (V 2) (V 1))] (mI (V 1) (V 2)) [((V 1),1),((.li 20),1)] [] 0 [] [[(qM (.li 0) (V 2)),(qM (V 2) (.rlen (V 4))),(qE (.rlen (V 4)) (.rlen (V 0)))]]
def rk_sort_stable_func_w3_2_l2 (r:Int×Int×List GKey):Nat×List AV:=(0,[eI r.1,eI r.2.1,eL GKey.enc r.2.2])
theorem lp_sort_stable_func_w3_2_l2 (x0:List GKey)(x1:Int):∀(n:Nat) (u2:Int) (u3:Int) (u4:List GKey),RunL Try.prog sT L95w4_2 H95w4_2 [eL GKey.enc x0,eI x1] n [eI u2,eI u3,eL GKey.enc u4] (rk_sort_stable_func_w3_2_l2 (sort_stable_func_w3_2_l2 x1 n u2 u3 u4))
 |0,u2,u3,u4=>l0
 |n+1,u2,u3,u4=>
  let w5:List GKey:=sort_insertionSort_func_w3_2 u4 u2 u3
  let v5:List GKey:=w5
  lmk rfl [eL GKey.enc v5,undefA] xn (wWL (fun hL=>ctw_sort_insertionSort_func_w3_2 u4 u2 u3 hL)<|wn) ln <|
   rc rk_sort_stable_func_w3_2_l2 rx<|rl (rg (lp_sort_stable_func_w3_2_l2 x0 x1 n _ _ _))
def L95w4_11 : Lo:=
 let p0:Pc:=((qL (V 7) (V 1)),true)::[]
 let p1:Pc:=((qM (V 12) (V 1)),true)::p0
 .mk [((qL (V 7) (V 1)),true)] 11 3 [(zI (.li 0)),(zI (.bin .mul kI (.li 2) (V 7))),(zL (V 10))] [((.not (qM (V 12) (V 1))),1,[(zI (V 11)),(zI (V 12)),(zL (V 13))]),((.lb true),0,[(zI (V 12)),(zI (aI (V 12) (.bin .mul kI (.li 2) (V 7)))),(zL (V 14))])] [(p1,(.callw 125 [(.agg [(.fn 64 [] [(.op 3 1 (.li 0) 0)]),(.fn 123 [] [(.os 2 2 0 (.rlen (V 0))),(.c (.at 1 24))])]),(zI (V 11)),(zI (aI (V 11) (V 7))),(zI (V 12))] [(3,(.rows 1 [[(.os 2 2 0 (.rlen (V 0)))]])),(2,(.rowsT 2 (V 13)))] 4 (.tup []) [(3,(.rows 1 [[(.os 2 2 0 (.rlen (V 0)))]])),(2,(.rowsT 2 (V 14)))]))] [] [3] []
def H95w4_11 : LH:=.mk [(qM (.li 0) (V 11)),(qE (V 12) (aI (V 11) (.bin .mul kI (.li 2) (V 7)))),(qM (V 11) (.rlen (V 13))),(qE (.rlen (V 13)) (.rlen (V 10)))] (mI (V 1) (V 11)) [((V 1),1),((V 7),2)] [] 0 [] [[(qM (.li 0) (V 11)),(qM (V 11) (.rlen (V 13))),(qE (.rlen (V 13)) (.rlen (V 10)))]]
def rk_sort_stable_func_w3_2_l11 (r:Int×Int×List GKey):Nat×List AV:=(0,[eI r.1,eI r.2.1,eL GKey.enc r.2.2])
theorem lp_sort_stable_func_w3_2_l11 (x0:List GKey)(x1:Int)(r2:Int×Int×List GKey)(v5:List GKey)(u7:Int)(u8:Int)(u9:Int)(u10:List GKey):∀(n:Nat) (u11:Int) (u12:Int) (u13:List GKey),RunL Try.prog sT L95w4_11 H95w4_11 [eL GKey.enc x0,eI x1,eI r2.1,eI r2.2.1,eL GKey.enc r2.2.2,eL GKey.enc v5,undefA,eI u7,eI u8,eI u9,eL GKey.enc u10] n [eI u11,eI u12,eL GKey.enc u13] (rk_sort_stable_func_w3_2_l11 (sort_stable_func_w3_2_l11 x1 u7 n u11 u12 u13))
 |0,u11,u12,u13=>l0
 |n+1,u11,u12,u13=>
  let w14:List GKey:=sort_symMerge_func_w3_2 ((u12-u11).toNat+1) u13 u11 (iAdd .i64 u11 u7) u12
  let v14:List GKey:=w14
  lmk rfl [eL GKey.enc v14,undefA] xn (wWL (fun hL=>ctw_sort_symMerge_func_w3_2 ((u12-u11).toNat+1) u13 u11 (iAdd .i64 u11 u7) u12 (Nat.lt_succ_self _) hL)<|wn) ln <|
   rc rk_sort_stable_func_w3_2_l11 rx<|rl (rg (lp_sort_stable_func_w3_2_l11 x0 x1 r2 v5 u7 u8 u9 u10 n _ _ _))
def L95w4_7 : Lo:=
 let p0:Pc:=((qL (V 7) (V 1)),true)::[]
 let p1:Pc:=((qL (aI (V 11) (V 7)) (V 1)),true)::p0
 .mk [] 7 4 [(zI (.li 20)),(zI (V 2)),(zI (V 3)),(zL (V 5))] [((.not (qL (V 7) (V 1))),1,[(zL (V 10))]),((qL (aI (V 11) (V 7)) (V 1)),0,[(zI (.bin .mul kI (V 7) (.li 2))),(zI (V 11)),(zI (V 12)),(zL (V 14))]),((.lb true),0,[(zI (.bin .mul kI (V 7) (.li 2))),(zI (V 11)),(zI (V 12)),(zL (V 13))])] [(p1,(.callw 125 [(.agg [(.fn 64 [] [(.op 3 1 (.li 0) 0)]),(.fn 123 [] [(.os 2 2 0 (.rlen (V 0))),(.c (.at 1 24))])]),(zI (V 11)),(zI (aI (V 11) (V 7))),(zI (V 1))] [(3,(.rows 1 [[(.os 2 2 0 (.rlen (V 0)))]])),(2,(.rowsT 2 (V 13)))] 4 (.tup []) [(3,(.rows 1 [[(.os 2 2 0 (.rlen (V 0)))]])),(2,(.rowsT 2 (V 14)))]))] [L95w4_11] [1] []
def H95w4_7 : LH:=.mk [(qM (.li 20) (V 7)),(qE (.rlen (V 10)) (.rlen (V 0)))] (mI (V 1) (V 7)) [((V 1),1)] [] 1 [H95w4_11] [[(qE (.rlen (V 7)) (.rlen (V 5)))]]
def rk_sort_stable_func_w3_2_l7 (r:List GKey):Nat×List AV:=(0,[eL GKey.enc r])
theorem lp_sort_stable_func_w3_2_l7 (x0:List GKey)(x1:Int)(r2:Int×Int×List GKey)(v5:List GKey):∀(n:Nat) (u7:Int) (u8:Int) (u9:Int) (u10:List GKey),RunL Try.prog sT L95w4_7 H95w4_7 [eL GKey.enc x0,eI x1,eI r2.1,eI r2.2.1,eL GKey.enc r2.2.2,eL GKey.enc v5,undefA] n [eI u7,eI u8,eI u9,eL GKey.enc u10] (rk_sort_stable_func_w3_2_l7 (sort_stable_func_w3_2_l7 x1 n u7 u8 u9 u10))
 |0,u7,u8,u9,u10=>l0
 |n+1,u7,u8,u9,u10=>
  let r11:Int×Int×List GKey:=sort_stable_func_w3_2_l11 x1 u7 ((x1+2*u7).toNat+1) 0 (iMul .i64 2 u7) u10
  let w14:List GKey:=sort_symMerge_func_w3_2 ((x1-r11.1).toNat+1) r11.2.2 r11.1 (iAdd .i64 r11.1 u7) x1
  let v14:List GKey:=w14
  lmk rfl [eI r11.1,eI r11.2.1,eL GKey.enc r11.2.2,eL GKey.enc v14,undefA] xn (wWL (fun hL=>ctw_sort_symMerge_func_w3_2 ((x1-r11.1).toNat+1) r11.2.2 r11.1 (iAdd .i64 r11.1 u7) x1 (Nat.lt_succ_self _) hL)<|wn) (lc1 (lp_sort_stable_func_w3_2_l11 x0 x1 r2 v5 u7 u8 u9 u10 ((x1+2*u7).toNat+1) 0 (iMul .i64 2 u7) u10) (hn:=(show ((1)*(x1)+((2)*(u7)+(0)):Int)<_ by first|omega|(simp only [lens];omega))) <|
  ln) <|
   rc rk_sort_stable_func_w3_2_l7 rx<|rc rk_sort_stable_func_w3_2_l7 (rg (lp_sort_stable_func_w3_2_l7 x0 x1 r2 v5 n _ _ _ _))<|rl (rg (lp_sort_stable_func_w3_2_l7 x0 x1 r2 v5 n _ _ _ _))
def R95w4 : PRes:=
 ⟨[((.lb true),(.tup [(.tup []),(zL (V 7))]))],
 [([],(.callw 124 [(.agg [(.fn 64 [] [(.op 3 1 (.li 0) 0)]),(.fn 123 [] [(.os 2 2 0 (.rlen (V 0))),(.c (.at 1 24))])]),(zI (V 2)),(zI (V 1))] [(3,(.rows 1 [[(.os 2 2 0 (.rlen (V 0)))]])),(2,(.rowsT 2 (V 4)))] 4 (.tup []) [(3,(.rows 1 [[(.os 2 2 0 (.rlen (V 0)))]])),(2,(.rowsT 2 (V 5)))]))],[L95w4_2,L95w4_7]⟩
def H95w4 : LH:=.mk [] (.li 0) [] [] 0 [H95w4_2,H95w4_7] []
theorem e95w4 : sFnW Try.prog xBase iBase mdI (fcI kA 95 [1,2,4,5,6,7,11,26,31,49] [(2,(.mk [1,2] (.mk [(4,(.sc kI)),(5,(.sc kI)),(6,(.sc kI))] [] [(2,2)] 12) [(.normal,(.mk [] [] [(2,2)] 12))])),(4,(.mk [1,2,4] (.mk [(5,(.sc kI)),(6,(.sc kI))] [] [(2,2)] 19) [(.normal,(.mk [(5,(.sc kI)),(6,(.sc kI))] [] [(2,2)] 19))])),(0,(.mk [1,2,4] (.mk [(5,(.sc kI)),(6,(.sc kI))] [] [(2,2)] 9) [(.normal,(.mk [(5,(.sc kI)),(6,(.sc kI))] [] [(2,2)] 9))]))]) 3 200 95 [(.agg [(.fn 64 [] [(.op 3 1 (.li 0) 0)]),(.fn 123 [] [(.os 2 2 0 (.rlen (V 0))),(.c (.at 1 24))])]),(zI (V 1))] 2 [(3,(.rows 1 [[(.os 2 2 0 (.rlen (V 0)))]])),(2,(.rowsT 2 (V 0)))] [(2,2)] 4=some R95w4:=by kernel_rfl
theorem ctw_sort_stable_func_w3_2 (x0:List GKey)(x1:Int){L:Nat}(hL:L=(List.map GKey.enc x0).length):CTw Try.prog sT 95 [(.agg [(.fn (.func 64) [] [(.op 3 1 0 0)]),(.fn (.func 123) [] [(.os 2 2 0 L),(.p (Cv.val (.at 1 24)))])]),(.p (.int .i64 x1))] [(3,.rows 1 [[(.os 2 2 0 L)]]),(2,.rows 2 (List.map GKey.enc x0))] 4 (.tup []) [(3,.rows 1 [[(.os 2 2 0 L)]]),(2,.rows 2 (List.map GKey.enc (sort_stable_func_w3_2 x0 x1)))]:=by subst hL;exact (
 let r2:Int×Int×List GKey:=sort_stable_func_w3_2_l2 x1 (x1.toNat+21) 0 20 x0
 let w5:List GKey:=sort_insertionSort_func_w3_2 r2.2.2 r2.1 x1
 let v5:List GKey:=w5
 let r7:List GKey:=sort_stable_func_w3_2_l7 x1 (x1.toNat+1) 20 r2.1 r2.2.1 v5
 mkW (cs:=[eL GKey.enc (sort_stable_func_w3_2 x0 x1)]) hmix xBase_ok iBase_ok e95w4 H95w4 (by kernel_rfl) [eL GKey.enc x0,eI x1,eI r2.1,eI r2.2.1,eL GKey.enc r2.2.2,eL GKey.enc v5,undefA,eL GKey.enc r7] xn
  (wWL (fun hL=>ctw_sort_insertionSort_func_w3_2 r2.2.2 r2.1 x1 hL)<|wn)
  (lc1 (lp_sort_stable_func_w3_2_l2 x0 x1 (x1.toNat+21) 0 20 x0) (hn:=(show ((1)*(x1)+((1)*(20)+(0)):Int)<_ by first|omega|(simp only [lens];omega))) <|
  lc1 (lp_sort_stable_func_w3_2_l7 x0 x1 r2 v5 (x1.toNat+1) 20 r2.1 r2.2.1 v5) <|
  ln)
  (selL rfl))
def R20o : PRes:=
 let p0:Pc:=((qE (.rlen (V 0)) (.li 0)),true)::[]
 let p1:Pc:=((qE (.rlen (V 0)) (.li 0)),false)::[]
 let p2:Pc:=((qE (.rlen (V 0)) (.li 1)),true)::p1
 let p3:Pc:=((qE (.rlen (V 0)) (.li 1)),false)::p1
 let p4:Pc:=((qE (.rlen (V 0)) (.li 1)),false)::[]
 let p5:Pc:=((qE (.rlen (V 0)) (.li 0)),false)::p4
 ⟨[((.or (qE (.rlen (V 0)) (.li 0)) (qE (.rlen (V 0)) (.li 1))),(zL (V 0))),((.lb true),(zL (V 1)))],
 [([],(.rok 2 (V 0))),
 ([],(.len2 0 (V 0))),
 ([],(.tm (qM (.li 0) (.rlen (V 0))))),
 (p0,(.tm (qM (.li 0) (.rlen (V 0))))),
 (p2,(.tm (qM (.li 0) (.rlen (V 0))))),
 (p3,(.tm (qM (.li 0) (.rlen (V 0))))),
 (p3,(.callw 95 [(.agg [(.fn 64 [] [(.op 3 1 (.li 0) 0)]),(.fn 123 [] [(.os 2 2 0 (.rlen (V 0))),(.c (.at 1 24))])]),(zI (.rlen (V 0)))] [(3,(.rows 1 [[(.os 2 2 0 (.rlen (V 0)))]])),(2,(.rowsT 2 (V 0)))] 4 (.tup []) [(3,(.rows 1 [[(.os 2 2 0 (.rlen (V 0)))]])),(2,(.rowsT 2 (V 1)))])),
 (p5,(.tm (qE (.rlen (V 0)) (.rlen (V 1)))))],[]⟩
theorem e20o : sFnO Try.prog xBase iBase mdI (fcI kA 20 [] []) 3 200 20 [zL (V 0)] 1 [] 2=some R20o:=by kernel_rfl
theorem cto_key_Order_o (x0:List GKey):CTo Try.prog sT 20 [eL GKey.enc x0] (eL GKey.enc (key_Order_o x0)) [] 2:=
 let w1:List GKey:=sort_stable_func_w3_2 x0 (mLen GKey.enc x0)
 let v1:List GKey:=w1
 let v3:List GKey:=(v1.drop (0)).take (((mLen GKey.enc x0):Int).toNat-0)
 mkO hmix xBase_ok iBase_ok e20o lh0 (by kernel_rfl) [eL GKey.enc x0,eL GKey.enc v1,undefA,eL GKey.enc v3] xn
  (wRok (f:=GKey.enc) rfl <|
  wLen2 <|
  wT <|
  wT <|
  wT <|
  wT <|
  wWL (fun hL=>ctw_sort_stable_func_w3_2 x0 (mLen GKey.enc x0) hL) <|
  wT <|
  wn)
  ln
  (selE (fun r=>.sl (List.map GKey.enc r) false) rfl rfl (selL rfl))
theorem cto_key_Order (x0:List GKey):CTo Try.prog sT 20 [eL GKey.enc x0] (eL GKey.enc (key_Order x0)) [] 2:=
 cto_eq (fun hb=>
 have hb0:x0.length≤4294967296:=by have:=hb.1.1;simpa using this
 congrArg (eL GKey.enc) (key_Order_o_eq x0 hb0)) (cto_key_Order_o x0)
def L27_2 : Lo:=
 let p0:Pc:=((qN (V 1) (.li 0)),false)::[]
 let p1:Pc:=((qL (V 3) (.rlen (V 0))),true)::p0
 .mk [((qN (V 1) (.li 0)),false)] 2 2 [(zL .nl),(zI (.li 0))] [((.not (qL (V 3) (.rlen (V 0)))),1,[(zL (V 2))]),((.lb true),0,[(zL (V 5)),(zI (aI (V 3) (.li 1)))])] [(p1,(.row (V 0) (V 3) (cV 4 GProp.kds))),
 (p1,(.app 2 (V 2) [[(zS (W 4 0)),(zI (W 4 1))]] (V 5)))] [] [1] [(V 0)]
def H27_2 : LH:=.mk [(qE (.rlen (V 2)) (V 3))] (mI (.rlen (V 0)) (V 3)) [((.rlen (V 0)),1)] [] 1 [] []
def rk_table_Keys_l2 (r:List GKey):Nat×List AV:=(0,[eL GKey.enc r])
theorem lp_table_Keys_l2 (x0:List GProp)(v1:Int):∀(n:Nat) (u2:List GKey) (u3:Int),RunL Try.prog sT L27_2 H27_2 [eL GProp.enc x0,eI v1] n [eL GKey.enc u2,eI u3] (rk_table_Keys_l2 (table_Keys_l2 x0 n u2 u3))
 |0,u2,u3=>l0
 |n+1,u2,u3=>
  let v4:GProp:=x0.getD (u3:Int).toNat default
  let v5:List GKey:=u2++[v4.Key]
  lmk rfl [GProp.av v4,eL GKey.enc v5] xn (wR rfl <|
  wApp (f:=GKey.enc) [v4.Key] rfl <|
  wn) ln <|
   rc rk_table_Keys_l2 rx<|rl (rg (lp_table_Keys_l2 x0 v1 n _ _))
def R27 : PRes:=
 let p0:Pc:=((qN (V 1) (.li 0)),false)::[]
 ⟨[((qN (V 1) (.li 0)),(.tup [(.slc [] false),(zI (V 1))])),((.lb true),(.tup [(zL (V 3)),(zI (.li 0))]))],
 [([],(.call 23 [(zL (V 0))] (zI (V 1)))),
 (p0,(.callo 20 [(zL (V 2))] (zL (V 3)) [] 2 true))],[L27_2]⟩
def H27 : LH:=.mk [] (.li 0) [] [] 0 [H27_2] []
theorem e27 : sFnI Try.prog xBase iBase (mdW [20] mdI) (fcI kA 27 [5,15] [(0,(.mk [2,3,13,14] (.mk [(5,(.os 11 2)),(15,(.sc kI))] [] [] 12) [(.normal,(.mk [(5,(.os 11 2))] [] [] 12))]))]) 3 200 27 [zL (V 0)] 1=some R27:=by kernel_rfl
theorem ct_table_Keys (x0:List GProp):CT Try.prog sT 27 [eL GProp.enc x0] (eR_sKey_ii64 (table_Keys x0)):=
 let v1:Int:=table_Check x0
 let r2:List GKey:=table_Keys_l2 x0 (x0.length+1) [] 0
 let v3:List GKey:=key_Order r2
 mkH hmix xBase_ok iBase_ok e27 H27 (by kernel_rfl) [eL GProp.enc x0,eI v1,eL GKey.enc r2,eL GKey.enc v3] xn
  (wC (ct_table_Check x0) <|
  wOf (cto_key_Order r2) rfl <|
  wn)
  (lc1 (lp_table_Keys_l2 x0 v1 (x0.length+1) [] 0) <|
  ln)
  (selE eR_sKey_ii64 rfl rfl (selL rfl))
def L126_2 : Lo:=
 let p0:Pc:=((qL (V 0) (.li 0)),false)::[]
 let p1:Pc:=((qH (V 2) (.li 10)),true)::p0
 .mk [((qL (V 0) (.li 0)),false)] 2 2 [(zI (V 0)),(zS (.ls []))] [((.not (qH (V 2) (.li 10))),1,[(zI (V 2)),(zS (V 3))]),((.lb true),0,[(zI (.bin .quo kI (V 2) (.li 10))),(zS (.bin .add .str (.ssub (.ls asciiL) (.conv .i32 (aI (.li 48) (.bin .rem kI (V 2) (.li 10)))) (aI (.conv .i32 (aI (.li 48) (.bin .rem kI (V 2) (.li 10)))) (.li 1))) (V 3)))])] [(p1,(.tm (qM (.li 0) (.conv .i32 (aI (.li 48) (.bin .rem kI (V 2) (.li 10))))))),
 (p1,(.tm (qL (.conv .i32 (aI (.li 48) (.bin .rem kI (V 2) (.li 10)))) (.li 128)))),
 (p1,(.cat (.ssub (.ls asciiL) (.conv .i32 (aI (.li 48) (.bin .rem kI (V 2) (.li 10)))) (aI (.conv .i32 (aI (.li 48) (.bin .rem kI (V 2) (.li 10)))) (.li 1))) (V 3)))] [] [2] []
def H126_2 : LH:=.mk [(qM (.li 0) (V 2)),(qM (.slen (V 3)) (.bin .mul kI (.li 128) (mI (.li 1000000) (V 2)))),(qM (V 2) (V 0))] (V 2) [((V 0),1)] [] 2 [] [[(qM (.slen (V 3)) (.li 128000000)),(qM (.li 0) (V 2)),(qL (V 2) (.li 10))]]
def rk_ref01_Tens_l2 (r:Int×List UInt8):Nat×List AV:=(0,[eI r.1,eS r.2])
theorem lp_ref01_Tens_l2 (x0:Int)(v1:List UInt8):∀(n:Nat) (u2:Int) (u3:List UInt8),RunL Try.prog sT L126_2 H126_2 [eI x0,eS v1] n [eI u2,eS u3] (rk_ref01_Tens_l2 (ref01_Tens_l2 n u2 u3))
 |0,u2,u3=>l0
 |n+1,u2,u3=>
  lmk rfl [] xn (wT <|
  wT <|
  wCat <|
  wn) ln <|
   rc rk_ref01_Tens_l2 rx<|rl (rg (lp_ref01_Tens_l2 x0 v1 n _ _))
def R126 : PRes:=
 let p0:Pc:=((qL (V 0) (.li 0)),true)::[]
 let p1:Pc:=((qL (V 0) (.li 0)),false)::[]
 ⟨[((qL (V 0) (.li 0)),(zS (.bin .add .str (.ls [45]) (V 1)))),((.lb true),(zS (.bin .add .str (.ssub (.ls asciiL) (.conv .i32 (aI (.li 48) (V 2))) (aI (.conv .i32 (aI (.li 48) (V 2))) (.li 1))) (V 3))))],
 [(p0,(.call 126 [(zI (.neg kI (V 0)))] (zS (V 1)))),
 (p0,(.cat (.ls [45]) (V 1))),
 (p1,(.tm (qM (.li 0) (.conv .i32 (aI (.li 48) (V 2)))))),
 (p1,(.tm (qL (.conv .i32 (aI (.li 48) (V 2))) (.li 128)))),
 (p1,(.cat (.ssub (.ls asciiL) (.conv .i32 (aI (.li 48) (V 2))) (aI (.conv .i32 (aI (.li 48) (V 2))) (.li 1))) (V 3)))],[L126_2]⟩
def H126 : LH:=.mk [] (.li 0) [] [] 0 [H126_2] []
theorem e126 : sFnI Try.prog xBase iBase mdI (fcI kA 126 [3,0] [(0,(.mk [2] (.mk [(0,(.sc kI)),(3,(.sc .str))] [] [] 4) [(.normal,(.mk [(0,(.sc kI)),(3,(.sc .str))] [] [] 4))]))]) 3 200 126 [zI (V 0)] 1=some R126:=by kernel_rfl
theorem ct_ref01_Tens (x0:Int):CT Try.prog sT 126 [eI x0] (eS (ref01_Tens x0)):=
 fun hp=>
 let v1:List UInt8:=default
 let r2:Int×List UInt8:=ref01_Tens_l2 (x0.toNat+1) x0 []
 (mkH hmix xBase_ok iBase_ok e126 H126 (by kernel_rfl) [eI x0,eS v1,eI r2.1,eS r2.2] xn
  (wX (fun h=>absurd (of_decide_eq_true hp.1) (Int.not_le.2 (of_decide_eq_true (h.at 0 rfl)))) <|
  wCat <|
  wT <|
  wT <|
  wCat <|
  wn)
  (lc1 (lp_ref01_Tens_l2 x0 v1 (x0.toNat+1) x0 []) <|
  ln)
  (selE (fun r=>.str r) rfl rfl (selL rfl))) hp
def R97 : PRes:=
 let p0:Pc:=((qL (.neg kI (V 0)) (.li 0)),true)::[]
 let p1:Pc:=((qL (V 0) (.li 0)),true)::p0
 let p2:Pc:=((.and (qL (V 0) (.li 0)) (qL (.neg kI (V 0)) (.li 0))),false)::[]
 ⟨[((.and (qL (V 0) (.li 0)) (qL (.neg kI (V 0)) (.li 0))),(zS (.bin .add .str (V 1) (V 2)))),((.lb true),(zS (V 3)))],
 [(p1,(.call 97 [(zI (.bin .quo kI (V 0) (.li 10)))] (zS (V 1)))),
 (p1,(.call 97 [(zI (.neg kI (.bin .rem kI (V 0) (.li 10))))] (zS (V 2)))),
 (p1,(.cat (V 1) (V 2))),
 (p2,(.call 126 [(zI (V 0))] (zS (V 3))))],[]⟩
theorem e97 : sFnI Try.prog xBase iBase mdI (fcI kA 97 [] []) 3 200 97 [zI (V 0)] 1=some R97:=by kernel_rfl
theorem ct_ref07_Tens (x0:Int):CT Try.prog sT 97 [eI x0] (eS (ref07_Tens x0)):=
 fun hp=>
 let v1:List UInt8:=default
 let v2:List UInt8:=default
 let v3:List UInt8:=ref01_Tens x0
 (mkH hmix xBase_ok iBase_ok e97 lh0 (by kernel_rfl) [eI x0,eS v1,eS v2,eS v3] xn
  (wX (fun h=>absurd (of_decide_eq_true hp.1) (Int.not_le.2 (of_decide_eq_true (h.at 0 rfl)))) <|
  wX (fun h=>absurd (of_decide_eq_true hp.1) (Int.not_le.2 (of_decide_eq_true (h.at 0 rfl)))) <|
  wCat <|
  wC (ct_ref01_Tens x0) <|
  wn)
  ln
  (selE (fun r=>.str r) rfl rfl (selL rfl))) hp
def L67_1 : Lo:=
 let p0:Pc:=((qG (.slen (W 0 0)) (.li 4)),false)::[]
 let p1:Pc:=((qG (W 0 1) (.li 0)),false)::p0
 let p2:Pc:=((qL (V 3) (.li 1024)),true)::p1
 .mk [((qG (W 0 1) (.li 0)),false),((qG (.slen (W 0 0)) (.li 4)),false)] 1 3 [(zI (.li 0)),(zB (.lb false)),(zI (.li 0))] [((.not (qL (V 3) (.li 1024))),1,[(zI (V 1)),(zB (V 2))]),((sE (V 4) (W 0 0)),2,[(zI (V 3)),(zB (.lb true))]),((.lb true),0,[(zI (V 1)),(zB (V 2)),(zI (aI (V 3) (.li 1)))])] [(p2,(.call 97 [(zI (V 3))] (zS (V 4))))] [] [2,2] []
def H67_1 : LH:=.mk [(qM (.li 0) (V 3))] (mI (.li 1024) (V 3)) [((.li 1024),1)] [] 0 [] []
def rk_ref08_Index_l1 (r:Bool×Int×Bool×Int×Bool):Nat×List AV:=rk2 r.1 [eI r.2.1,eB r.2.2.1] [eI r.2.2.2.1,eB r.2.2.2.2]
theorem lp_ref08_Index_l1 (x0:GKey):∀(n:Nat) (u1:Int) (u2:Bool) (u3:Int),RunL Try.prog sT L67_1 H67_1 [GKey.av x0] n [eI u1,eB u2,eI u3] (rk_ref08_Index_l1 (ref08_Index_l1 x0 n u1 u2 u3))
 |0,u1,u2,u3=>l0
 |n+1,u1,u2,u3=>
  let v4:List UInt8:=ref07_Tens u3
  lmk rfl [eS v4] xn (wC (ct_ref07_Tens u3)<|wn) ln <|
   rc rk_ref08_Index_l1 rx<|rc rk_ref08_Index_l1 rx<|rl (rg (lp_ref08_Index_l1 x0 n _ _ _))
def R67 : PRes:=
 ⟨[((.or (qG (W 0 1) (.li 0)) (qG (.slen (W 0 0)) (.li 4))),(.tup [(zI (.li 0)),(zB (.lb false))])),((.not (qE (V 1) (.li 0))),(.tup [(zI (V 4)),(zB (V 5))])),((.lb true),(.tup [(zI (.li 0)),(zB (.lb false))]))],
 [],[L67_1]⟩
def H67 : LH:=.mk [] (.li 0) [] [] 0 [H67_1] []
theorem e67 : sFnI Try.prog xBase iBase mdI (fcI kA 67 [4,2,3] [(0,(.mk [1] (.mk [(2,(.sc kI)),(3,(.sc .bool)),(4,(.sc kI))] [] [] 13) [(.normal,(.mk [(2,(.sc kI)),(3,(.sc .bool))] [] [] 13)),(.ret,(.mk [(2,(.sc kI)),(3,(.sc .bool))] [] [] 13))]))]) 3 200 67 [.agg (cV 0 GKey.kds)] 1=some R67:=by kernel_rfl
theorem ct_ref08_Index (x0:GKey):CT Try.prog sT 67 [GKey.av x0] (eR_ii64_bool (ref08_Index x0)):=
 let r1:Bool×Int×Bool×Int×Bool:=ref08_Index_l1 x0 ((1024:Int).toNat+1) 0 false 0
 mkH hmix xBase_ok iBase_ok e67 H67 (by kernel_rfl) [GKey.av x0,eI (selB r1.1),eI r1.2.1,eB r1.2.2.1,eI r1.2.2.2.1,eB r1.2.2.2.2] xn
  wn
  (lc2 (lp_ref08_Index_l1 x0 ((1024:Int).toNat+1) 0 false 0) <|
  ln)
  (selE eR_ii64_bool rfl rfl (selE eR_ii64_bool rfl rfl (selL rfl)))
def L21_6 : Lo:=
 let p0:Pc:=((qL (V 3) (.rlen (V 0))),true)::[]
 let p1:Pc:=((W 5 1),true)::p0
 let p2:Pc:=((qG (V 6) (.li 0)),true)::p1
 .mk [((W 5 1),true),((qL (V 3) (.rlen (V 0))),true)] 6 1 [(zI (.rlen (V 1)))] [((.not (.and (qG (V 6) (.li 0)) (qG (W 7 0) (W 5 0)))),1,[(zI (V 6))]),((.lb true),0,[(zI (mI (V 6) (.li 1)))])] [(p2,(.tm (qM (.li 0) (mI (V 6) (.li 1))))),
 (p2,(.tm (qL (mI (V 6) (.li 1)) (.rlen (V 2))))),
 (p2,(.rd (false,1) (V 2) (mI (V 6) (.li 1)) 0 (zI (W 7 0))))] [] [1] [(V 0),(V 1),(V 2)]
def H21_6 : LH:=.mk [(qM (.li 0) (V 6)),(qM (V 6) (.rlen (V 2)))] (V 6) [((.rlen (V 1)),1)] [] 2 [] [[(qM (.li 0) (V 6)),(qM (V 6) (.rlen (V 2)))]]
def rk_ref08_Order_l6 (r:Int):Nat×List AV:=(0,[eI r])
theorem lp_ref08_Order_l6 (x0:List GKey)(u1:List GKey)(u2:List Int)(u3:Int)(v4:GKey)(v5:Int×Bool):∀(n:Nat) (u6:Int),RunL Try.prog sT L21_6 H21_6 [eL GKey.enc x0,eL GKey.enc u1,eL rowI u2,eI u3,GKey.av v4,eR_ii64_bool v5] n [eI u6] (rk_ref08_Order_l6 (ref08_Order_l6 u2 v5 n u6))
 |0,u6=>l0
 |n+1,u6=>
  let v7:Int:=u2.getD ((iSub .i64 u6 1):Int).toNat default
  lmk rfl [.agg (rowI v7)] xn (wT <|
  wT <|
  wRd rfl <|
  wn) ln <|
   rc rk_ref08_Order_l6 rx<|rl (rg (lp_ref08_Order_l6 x0 u1 u2 u3 v4 v5 n _))
def L21_9 : Lo:=
 let p0:Pc:=((qL (V 3) (.rlen (V 0))),true)::[]
 let p1:Pc:=((W 5 1),true)::p0
 let p2:Pc:=((qG (V 9) (V 6)),true)::p1
 .mk [((W 5 1),true),((qL (V 3) (.rlen (V 0))),true)] 9 3 [(zI (mI (.rlen (V 7)) (.li 1))),(zL (V 7)),(zL (V 8))] [((.not (qG (V 9) (V 6))),1,[(zI (V 9)),(zL (V 10)),(zL (V 11))]),((.lb true),0,[(zI (mI (V 9) (.li 1))),(zL (V 13)),(zL (V 15))])] [(p2,(.tm (qM (.li 0) (mI (V 9) (.li 1))))),
 (p2,(.tm (qL (mI (V 9) (.li 1)) (.rlen (V 7))))),
 (p2,(.rd (true,2) (V 10) (mI (V 9) (.li 1)) 0 (.agg [(zS (W 12 0)),(zI (W 12 1))]))),
 (p2,(.tm (qM (.li 0) (V 9)))),
 (p2,(.tm (qL (V 9) (.rlen (V 7))))),
 (p2,(.st (V 10) (V 9) 0 [(zS (W 12 0)),(zI (W 12 1))] (V 13))),
 (p2,(.tm (qM (.li 0) (mI (V 9) (.li 1))))),
 (p2,(.tm (qL (mI (V 9) (.li 1)) (.rlen (V 8))))),
 (p2,(.rd (false,1) (V 11) (mI (V 9) (.li 1)) 0 (zI (W 14 0)))),
 (p2,(.tm (qM (.li 0) (V 9)))),
 (p2,(.tm (qL (V 9) (.rlen (V 8))))),
 (p2,(.st (V 11) (V 9) 0 [(zI (W 14 0))] (V 15)))] [] [3] [(V 0),(V 7),(V 8)]
def H21_9 : LH:=.mk [(qM (V 9) (.rlen (V 1))),(qE (.rlen (V 10)) (aI (.rlen (V 1)) (.li 1))),(qE (.rlen (V 11)) (aI (.rlen (V 2)) (.li 1)))] (V 9) [((.rlen (V 1)),1)] [] 4 [] [[(qE (.rlen (V 10)) (.rlen (V 8))),(qE (.rlen (V 10)) (.rlen (V 11)))]]
def rk_ref08_Order_l9 (r:Int×List GKey×List Int):Nat×List AV:=(0,[eI r.1,eL GKey.enc r.2.1,eL rowI r.2.2])
theorem lp_ref08_Order_l9 (x0:List GKey)(u1:List GKey)(u2:List Int)(u3:Int)(v4:GKey)(v5:Int×Bool)(r6:Int)(v7:List GKey)(v8:List Int):∀(n:Nat) (u9:Int) (u10:List GKey) (u11:List Int),RunL Try.prog sT L21_9 H21_9 [eL GKey.enc x0,eL GKey.enc u1,eL rowI u2,eI u3,GKey.av v4,eR_ii64_bool v5,eI r6,eL GKey.enc v7,eL rowI v8] n [eI u9,eL GKey.enc u10,eL rowI u11] (rk_ref08_Order_l9 (ref08_Order_l9 r6 n u9 u10 u11))
 |0,u9,u10,u11=>l0
 |n+1,u9,u10,u11=>
  let v12:GKey:=u10.getD ((iSub .i64 u9 1):Int).toNat default
  let v13:List GKey:=u10.set (u9:Int).toNat v12
  let v14:Int:=u11.getD ((iSub .i64 u9 1):Int).toNat default
  let v15:List Int:=u11.set (u9:Int).toNat v14
  lmk rfl [GKey.av v12,eL GKey.enc v13,.agg (rowI v14),eL rowI v15] xn (wT <|
  wT <|
  wRd rfl <|
  wT <|
  wT <|
  wSt (f:=GKey.enc) v12 rfl <|
  wT <|
  wT <|
  wRd rfl <|
  wT <|
  wT <|
  wSt (f:=rowI) v14 rfl <|
  wn) ln <|
   rc rk_ref08_Order_l9 rx<|rl (rg (lp_ref08_Order_l9 x0 u1 u2 u3 v4 v5 r6 v7 v8 n _ _ _))
def L21_1 : Lo:=
 let p0:Pc:=((qL (V 3) (.rlen (V 0))),true)::[]
 let p1:Pc:=((W 5 1),true)::p0
 .mk [] 1 3 [(zL .nl),(zL .nl),(zI (.li 0))] [((.not (qL (V 3) (.rlen (V 0)))),1,[(zL (V 1))]),((.not (W 5 1)),0,[(zL (V 1)),(zL (V 2)),(zI (aI (V 3) (.li 1)))]),((.lb true),0,[(zL (V 13)),(zL (V 14)),(zI (aI (V 3) (.li 1)))])] [(p0,(.row (V 0) (V 3) [(zS (W 4 0)),(zI (W 4 1))])),
 (p0,(.call 67 [(.agg [(zS (W 4 0)),(zI (W 4 1))])] (.tup [(zI (W 5 0)),(zB (W 5 1))]))),
 (p1,(.app 2 (V 1) [[(zS (.ls [])),(zI (.li 0))]] (V 7))),
 (p1,(.app 1 (V 2) [[(zI (.li 0))]] (V 8))),
 (p1,(.row (V 0) (V 3) [(zS (W 12 0)),(zI (W 12 1))])),
 (p1,(.tm (qM (.li 0) (V 6)))),
 (p1,(.tm (qL (V 6) (.rlen (V 7))))),
 (p1,(.st (V 10) (V 6) 0 [(zS (W 12 0)),(zI (W 12 1))] (V 13))),
 (p1,(.tm (qM (.li 0) (V 6)))),
 (p1,(.tm (qL (V 6) (.rlen (V 8))))),
 (p1,(.st (V 11) (V 6) 0 [(zI (W 5 0))] (V 14))),
 (p1,(.tm (qE (.rlen (V 7)) (.rlen (V 13))))),
 (p1,(.tm (qE (.rlen (V 8)) (.rlen (V 14)))))] [L21_6,L21_9] [1] [(V 0)]
def H21_1 : LH:=.mk [(qE (.rlen (V 1)) (.rlen (V 2))),(qM (.rlen (V 2)) (V 3)),(qM (.rlen (V 2)) (.rlen (V 0)))] (mI (.rlen (V 0)) (V 3)) [((.rlen (V 0)),1)] [] 0 [H21_6,H21_9] [[(qM (.rlen (V 1)) (.rlen (V 0)))]]
def rk_ref08_Order_l1 (r:List GKey):Nat×List AV:=(0,[eL GKey.enc r])
theorem lp_ref08_Order_l1 (x0:List GKey):∀(n:Nat) (u1:List GKey) (u2:List Int) (u3:Int),RunL Try.prog sT L21_1 H21_1 [eL GKey.enc x0] n [eL GKey.enc u1,eL rowI u2,eI u3] (rk_ref08_Order_l1 (ref08_Order_l1 x0 n u1 u2 u3))
 |0,u1,u2,u3=>l0
 |n+1,u1,u2,u3=>
  let v4:GKey:=x0.getD (u3:Int).toNat default
  let v5:Int×Bool:=ref08_Index v4
  let r6:Int:=ref08_Order_l6 u2 v5 (u1.length+1) (mLen GKey.enc u1)
  let v7:List GKey:=u1++[(GKey.mk [] 0)]
  let v8:List Int:=u2++[0]
  let r9:Int×List GKey×List Int:=ref08_Order_l9 r6 (u1.length+1) (iSub .i64 (mLen GKey.enc v7) 1) v7 v8
  let v12:GKey:=x0.getD (u3:Int).toNat default
  let v13:List GKey:=r9.2.1.set (r6:Int).toNat v12
  let v14:List Int:=r9.2.2.set (r6:Int).toNat v5.1
  lmk rfl [GKey.av v4,eR_ii64_bool v5,eI r6,eL GKey.enc v7,eL rowI v8,eI r9.1,eL GKey.enc r9.2.1,eL rowI r9.2.2,GKey.av v12,eL GKey.enc v13,eL rowI v14] xn (wR rfl <|
  wC (ct_ref08_Index v4) <|
  wApp (f:=GKey.enc) [(GKey.mk [] 0)] rfl <|
  wApp (f:=rowI) [0] rfl <|
  wR rfl <|
  wT <|
  wT <|
  wSt (f:=GKey.enc) v12 rfl <|
  wT <|
  wT <|
  wSt (f:=rowI) v5.1 rfl <|
  wT <|
  wT <|
  wn) (lc1 (lp_ref08_Order_l6 x0 u1 u2 u3 v4 v5 (u1.length+1) (mLen GKey.enc u1)) <|
  lc1 (lp_ref08_Order_l9 x0 u1 u2 u3 v4 v5 r6 v7 v8 (u1.length+1) (iSub .i64 (mLen GKey.enc v7) 1) v7 v8) <|
  ln) <|
   rc rk_ref08_Order_l1 rx<|rc rk_ref08_Order_l1 (rg (lp_ref08_Order_l1 x0 n _ _ _))<|rl (rg (lp_ref08_Order_l1 x0 n _ _ _))
def L21_2 : Lo:=
 let p0:Pc:=((qL (V 3) (.rlen (V 0))),true)::[]
 let p1:Pc:=((.not (W 5 1)),true)::p0
 let p2:Pc:=((qM (W 6 1) (.li 0)),true)::p0
 let p3:Pc:=((W 5 1),false)::p2
 .mk [] 2 2 [(zL (V 1)),(zI (.li 0))] [((.not (qL (V 3) (.rlen (V 0)))),1,[(zL (V 2))]),((.and (.not (W 5 1)) (qM (W 6 1) (.li 0))),0,[(zL (V 8)),(zI (aI (V 3) (.li 1)))]),((.lb true),0,[(zL (V 2)),(zI (aI (V 3) (.li 1)))])] [(p0,(.row (V 0) (V 3) [(zS (W 4 0)),(zI (W 4 1))])),
 (p0,(.call 67 [(.agg [(zS (W 4 0)),(zI (W 4 1))])] (.tup [(zI (W 5 0)),(zB (W 5 1))]))),
 (p1,(.row (V 0) (V 3) [(zS (W 6 0)),(zI (W 6 1))])),
 (p3,(.row (V 0) (V 3) [(zS (W 7 0)),(zI (W 7 1))])),
 (p3,(.app 2 (V 2) [[(zS (W 7 0)),(zI (W 7 1))]] (V 8)))] [] [1] [(V 0)]
def H21_2 : LH:=.mk [(qM (.rlen (V 2)) (aI (.li 1048577) (V 3))),(qM (.li 0) (V 3)),(qM (V 3) (.rlen (V 0)))] (mI (.rlen (V 0)) (V 3)) [((.rlen (V 0)),1)] [] 0 [] [[(qM (.rlen (V 2)) (.li 2097154))]]
def rk_ref08_Order_l2 (r:List GKey):Nat×List AV:=(0,[eL GKey.enc r])
theorem lp_ref08_Order_l2 (x0:List GKey)(r1:List GKey):∀(n:Nat) (u2:List GKey) (u3:Int),RunL Try.prog sT L21_2 H21_2 [eL GKey.enc x0,eL GKey.enc r1] n [eL GKey.enc u2,eI u3] (rk_ref08_Order_l2 (ref08_Order_l2 x0 n u2 u3))
 |0,u2,u3=>l0
 |n+1,u2,u3=>
  let v4:GKey:=x0.getD (u3:Int).toNat default
  let v5:Int×Bool:=ref08_Index v4
  let v6:GKey:=x0.getD (u3:Int).toNat default
  let v7:GKey:=x0.getD (u3:Int).toNat default
  let v8:List GKey:=u2++[v7]
  lmk rfl [GKey.av v4,eR_ii64_bool v5,GKey.av v6,GKey.av v7,eL GKey.enc v8] xn (wR rfl <|
  wC (ct_ref08_Index v4) <|
  wR rfl <|
  wR rfl <|
  wApp (f:=GKey.enc) [v7] rfl <|
  wn) ln <|
   rc rk_ref08_Order_l2 rx<|rc rk_ref08_Order_l2 (rg (lp_ref08_Order_l2 x0 r1 n _ _))<|rl (rg (lp_ref08_Order_l2 x0 r1 n _ _))
def L21_3 : Lo:=
 let p0:Pc:=((qL (V 4) (.rlen (V 0))),true)::[]
 let p1:Pc:=((qG (W 5 1) (.li 0)),true)::p0
 .mk [] 3 2 [(zL (V 2)),(zI (.li 0))] [((.not (qL (V 4) (.rlen (V 0)))),1,[(zL (V 3))]),((qG (W 5 1) (.li 0)),0,[(zL (V 7)),(zI (aI (V 4) (.li 1)))]),((.lb true),0,[(zL (V 3)),(zI (aI (V 4) (.li 1)))])] [(p0,(.row (V 0) (V 4) [(zS (W 5 0)),(zI (W 5 1))])),
 (p1,(.row (V 0) (V 4) [(zS (W 6 0)),(zI (W 6 1))])),
 (p1,(.app 2 (V 3) [[(zS (W 6 0)),(zI (W 6 1))]] (V 7)))] [] [1] [(V 0)]
def H21_3 : LH:=.mk [(qM (.rlen (V 3)) (aI (.li 2097154) (V 4))),(qM (.li 0) (V 4))] (mI (.rlen (V 0)) (V 4)) [((.rlen (V 0)),1)] [] 0 [] []
def rk_ref08_Order_l3 (r:List GKey):Nat×List AV:=(0,[eL GKey.enc r])
theorem lp_ref08_Order_l3 (x0:List GKey)(r1:List GKey)(r2:List GKey):∀(n:Nat) (u3:List GKey) (u4:Int),RunL Try.prog sT L21_3 H21_3 [eL GKey.enc x0,eL GKey.enc r1,eL GKey.enc r2] n [eL GKey.enc u3,eI u4] (rk_ref08_Order_l3 (ref08_Order_l3 x0 n u3 u4))
 |0,u3,u4=>l0
 |n+1,u3,u4=>
  let v5:GKey:=x0.getD (u4:Int).toNat default
  let v6:GKey:=x0.getD (u4:Int).toNat default
  let v7:List GKey:=u3++[v6]
  lmk rfl [GKey.av v5,GKey.av v6,eL GKey.enc v7] xn (wR rfl <|
  wR rfl <|
  wApp (f:=GKey.enc) [v6] rfl <|
  wn) ln <|
   rc rk_ref08_Order_l3 rx<|rc rk_ref08_Order_l3 (rg (lp_ref08_Order_l3 x0 r1 r2 n _ _))<|rl (rg (lp_ref08_Order_l3 x0 r1 r2 n _ _))
def H21 : LH:=.mk [] (.li 0) [] [] 0 [H21_1,H21_2,H21_3] []
def R21o : PRes:=
 ⟨[((.lb true),(zL (V 3)))],
 [],[L21_1,L21_2,L21_3]⟩
theorem e21o : sFnO Try.prog xBase iBase mdI (fcI kA 21 [13,12,105,104,106,107,108,109,10,7,36,37,35,38,40,39,41,6,3,4,9,8,5] [(8,(.mk [0,2] (.mk [(3,(.os 9 2)),(13,(.sc kI))] [] [] 10) [(.normal,(.mk [(3,(.os 9 2))] [] [] 10))])),(6,(.mk [0,2] (.mk [(3,(.os 7 2)),(10,(.sc kI))] [] [] 8) [(.normal,(.mk [(3,(.os 7 2))] [] [] 8))])),(0,(.mk [0,2] (.mk [(3,(.os 4 2)),(4,(.os 5 1)),(5,(.sc kI))] [] [] 6) [(.normal,(.mk [(3,(.os 4 2))] [] [] 6))])),(4,(.mk [0,2,3,4,5,6,7,8] (.mk [(9,(.sc kI))] [] [(28,2),(32,1)] 38) [(.normal,(.mk [(9,(.sc kI))] [] [(28,2),(32,1)] 38))])),(2,(.mk [0,2,3,4,5,6,7] (.mk [(8,(.sc kI))] [] [] 25) [(.normal,(.mk [(8,(.sc kI))] [] [] 25))]))]) 3 200 21 [zL (V 0)] 1 [] 2=some R21o:=by kernel_rfl
theorem cto_ref08_Order (x0:List GKey):CTo Try.prog sT 21 [eL GKey.enc x0] (eL GKey.enc (ref08_Order x0)) [] 2:=
 let r1:List GKey:=ref08_Order_l1 x0 (x0.length+1) [] [] 0
 let r2:List GKey:=ref08_Order_l2 x0 (x0.length+1) r1 0
 let r3:List GKey:=ref08_Order_l3 x0 (x0.length+1) r2 0
 mkO hmix xBase_ok iBase_ok e21o H21 (by kernel_rfl) [eL GKey.enc x0,eL GKey.enc r1,eL GKey.enc r2,eL GKey.enc r3] xn
  wn
  (lc1 (lp_ref08_Order_l1 x0 (x0.length+1) [] [] 0) <|
  lc1 (lp_ref08_Order_l2 x0 r1 (x0.length+1) r1 0) <|
  lc1 (lp_ref08_Order_l3 x0 r1 r2 (x0.length+1) r2 0) <|
  ln)
  (selL rfl)
def L28_2 : Lo:=
 let p0:Pc:=((qN (V 1) (.li 0)),false)::[]
 let p1:Pc:=((qL (V 3) (.rlen (V 0))),true)::p0
 .mk [((qN (V 1) (.li 0)),false)] 2 2 [(zL .nl),(zI (.li 0))] [((.not (qL (V 3) (.rlen (V 0)))),1,[(zL (V 2))]),((.lb true),0,[(zL (V 5)),(zI (aI (V 3) (.li 1)))])] [(p1,(.row (V 0) (V 3) (cV 4 GProp.kds))),
 (p1,(.app 2 (V 2) [[(zS (W 4 0)),(zI (W 4 1))]] (V 5)))] [] [1] [(V 0)]
def H28_2 : LH:=.mk [(qE (.rlen (V 2)) (V 3)),(qM (.rlen (V 2)) (.rlen (V 0)))] (mI (.rlen (V 0)) (V 3)) [((.rlen (V 0)),1)] [] 1 [] [[(qE (.rlen (V 2)) (.rlen (V 0)))]]
def rk_ref10_Keys_l2 (r:List GKey):Nat×List AV:=(0,[eL GKey.enc r])
theorem lp_ref10_Keys_l2 (x0:List GProp)(v1:Int):∀(n:Nat) (u2:List GKey) (u3:Int),RunL Try.prog sT L28_2 H28_2 [eL GProp.enc x0,eI v1] n [eL GKey.enc u2,eI u3] (rk_ref10_Keys_l2 (ref10_Keys_l2 x0 n u2 u3))
 |0,u2,u3=>l0
 |n+1,u2,u3=>
  let v4:GProp:=x0.getD (u3:Int).toNat default
  let v5:List GKey:=u2++[v4.Key]
  lmk rfl [GProp.av v4,eL GKey.enc v5] xn (wR rfl <|
  wApp (f:=GKey.enc) [v4.Key] rfl <|
  wn) ln <|
   rc rk_ref10_Keys_l2 rx<|rl (rg (lp_ref10_Keys_l2 x0 v1 n _ _))
def R28 : PRes:=
 let p0:Pc:=((qN (V 1) (.li 0)),false)::[]
 ⟨[((qN (V 1) (.li 0)),(.tup [(.slc [] false),(zI (V 1))])),((.lb true),(.tup [(zL (V 3)),(zI (.li 0))]))],
 [([],(.call 24 [(zL (V 0))] (zI (V 1)))),
 (p0,(.callo 21 [(zL (V 2))] (zL (V 3)) [] 2 true))],[L28_2]⟩
def H28 : LH:=.mk [] (.li 0) [] [] 0 [H28_2] []
theorem e28 : sFnI Try.prog xBase iBase (mdW [21] mdI) (fcI kA 28 [5,6] [(0,(.mk [0,2,3] (.mk [(5,(.os 9 2)),(6,(.sc kI))] [] [] 10) [(.normal,(.mk [(5,(.os 9 2))] [] [] 10))]))]) 3 200 28 [zL (V 0)] 1=some R28:=by kernel_rfl
theorem ct_ref10_Keys (x0:List GProp):CT Try.prog sT 28 [eL GProp.enc x0] (eR_sKey_ii64 (ref10_Keys x0)):=
 let v1:Int:=ref10_Check x0
 let r2:List GKey:=ref10_Keys_l2 x0 (x0.length+1) [] 0
 let v3:List GKey:=ref08_Order r2
 mkH hmix xBase_ok iBase_ok e28 H28 (by kernel_rfl) [eL GProp.enc x0,eI v1,eL GKey.enc r2,eL GKey.enc v3] xn
  (wC (ct_ref10_Check x0) <|
  wOf (cto_ref08_Order r2) rfl <|
  wn)
  (lc1 (lp_ref10_Keys_l2 x0 v1 (x0.length+1) [] 0) <|
  ln)
  (selE eR_sKey_ii64 rfl rfl (selL rfl))
def L29_2 : Lo:=
 let p0:Pc:=((qN (V 1) (.li 0)),false)::[]
 let p1:Pc:=((qL (V 3) (.rlen (V 0))),true)::p0
 let p2:Pc:=((qE (W 4 1) (.li 0)),true)::p1
 let p3:Pc:=((W 4 16),true)::p2
 .mk [((qN (V 1) (.li 0)),false)] 2 2 [(zL .nl),(zI (.li 0))] [((.not (qL (V 3) (.rlen (V 0)))),1,[(zL (V 2))]),((.and (W 4 16) (qE (W 4 1) (.li 0))),0,[(zL (V 5)),(zI (aI (V 3) (.li 1)))]),((.lb true),0,[(zL (V 2)),(zI (aI (V 3) (.li 1)))])] [(p1,(.row (V 0) (V 3) (cV 4 GProp.kds))),
 (p3,(.app 2 (V 2) [[(zS (W 4 0)),(zI (W 4 1))]] (V 5)))] [] [1] [(V 0)]
def H29_2 : LH:=.mk [(qM (.rlen (V 2)) (V 3))] (mI (.rlen (V 0)) (V 3)) [((.rlen (V 0)),1)] [] 1 [] []
def rk_table_Names_l2 (r:List GKey):Nat×List AV:=(0,[eL GKey.enc r])
theorem lp_table_Names_l2 (x0:List GProp)(v1:Int):∀(n:Nat) (u2:List GKey) (u3:Int),RunL Try.prog sT L29_2 H29_2 [eL GProp.enc x0,eI v1] n [eL GKey.enc u2,eI u3] (rk_table_Names_l2 (table_Names_l2 x0 n u2 u3))
 |0,u2,u3=>l0
 |n+1,u2,u3=>
  let v4:GProp:=x0.getD (u3:Int).toNat default
  let v5:List GKey:=u2++[v4.Key]
  lmk rfl [GProp.av v4,eL GKey.enc v5] xn (wR rfl <|
  wApp (f:=GKey.enc) [v4.Key] rfl <|
  wn) ln <|
   rc rk_table_Names_l2 rx<|rc rk_table_Names_l2 (rg (lp_table_Names_l2 x0 v1 n _ _))<|rl (rg (lp_table_Names_l2 x0 v1 n _ _))
def R29 : PRes:=
 let p0:Pc:=((qN (V 1) (.li 0)),false)::[]
 ⟨[((qN (V 1) (.li 0)),(.tup [(.slc [] false),(zI (V 1))])),((.lb true),(.tup [(zL (V 3)),(zI (.li 0))]))],
 [([],(.call 23 [(zL (V 0))] (zI (V 1)))),
 (p0,(.callo 20 [(zL (V 2))] (zL (V 3)) [] 2 true))],[L29_2]⟩
def H29 : LH:=.mk [] (.li 0) [] [] 0 [H29_2] []
theorem e29 : sFnI Try.prog xBase iBase (mdW [20] mdI) (fcI kA 29 [23,24,25,26,5,15] [(0,(.mk [2,3,13,14] (.mk [(5,(.os 11 2)),(15,(.sc kI))] [] [] 12) [(.normal,(.mk [(5,(.os 11 2))] [] [] 12))]))]) 3 200 29 [zL (V 0)] 1=some R29:=by kernel_rfl
theorem ct_table_Names (x0:List GProp):CT Try.prog sT 29 [eL GProp.enc x0] (eR_sKey_ii64 (table_Names x0)):=
 let v1:Int:=table_Check x0
 let r2:List GKey:=table_Names_l2 x0 (x0.length+1) [] 0
 let v3:List GKey:=key_Order r2
 mkH hmix xBase_ok iBase_ok e29 H29 (by kernel_rfl) [eL GProp.enc x0,eI v1,eL GKey.enc r2,eL GKey.enc v3] xn
  (wC (ct_table_Check x0) <|
  wOf (cto_key_Order r2) rfl <|
  wn)
  (lc1 (lp_table_Names_l2 x0 v1 (x0.length+1) [] 0) <|
  ln)
  (selE eR_sKey_ii64 rfl rfl (selL rfl))
def L30_2 : Lo:=
 let p0:Pc:=((qN (W 1 1) (.li 0)),false)::[]
 let p1:Pc:=((qL (V 3) (.rlen (W 1 0))),true)::p0
 let p2:Pc:=((qE (W 4 1) (.li 0)),true)::p1
 let p3:Pc:=((W 7 16),true)::p1
 let p4:Pc:=((qE (W 4 1) (.li 0)),true)::p3
 .mk [((qN (W 1 1) (.li 0)),false)] 2 2 [(zL .nl),(zI (.li 0))] [((.not (qL (V 3) (.rlen (W 1 0)))),1,[(zL (V 2))]),((.and (qE (W 4 1) (.li 0)) (W 7 16)),0,[(zL (V 9)),(zI (aI (V 3) (.li 1)))]),((.lb true),0,[(zL (V 2)),(zI (aI (V 3) (.li 1)))])] [(p1,(.row (W 1 0) (V 3) [(zS (W 4 0)),(zI (W 4 1))])),
 (p2,(.row (W 1 0) (V 3) [(zS (W 5 0)),(zI (W 5 1))])),
 (p2,(.call 63 [(zL (V 0)),(.agg [(zS (W 5 0)),(zI (W 5 1))])] (zI (V 6)))),
 (p2,(.row (V 0) (V 6) (cV 7 GProp.kds))),
 (p4,(.row (W 1 0) (V 3) [(zS (W 8 0)),(zI (W 8 1))])),
 (p4,(.app 2 (V 2) [[(zS (W 8 0)),(zI (W 8 1))]] (V 9)))] [] [1] [(V 0),(W 1 0)]
def H30_2 : LH:=.mk [(qM (.li 0) (V 3)),(qM (.rlen (V 2)) (V 3))] (mI (.rlen (W 1 0)) (V 3)) [((.rlen (W 1 0)),1)] [([((qM (.rlen (V 0)) (.li 4294967296)),true),((qE (W 1 1) (.li 0)),true),((qM (.li 0) (V 3)),true),((qL (V 3) (.rlen (W 1 0))),true)],(qM (.li 0) (V 6)))] 1 [] []
def rk_ref10_Names_l2 (r:List GKey):Nat×List AV:=(0,[eL GKey.enc r])
theorem lp_ref10_Names_l2 (x0:List GProp)(v1:List GKey×Int):∀(n:Nat) (u2:List GKey) (u3:Int) (q0:v1=ref10_Keys x0),RunL Try.prog sT L30_2 H30_2 [eL GProp.enc x0,eR_sKey_ii64 v1] n [eL GKey.enc u2,eI u3] (rk_ref10_Names_l2 (ref10_Names_l2 x0 v1 n u2 u3))
 |0,u2,u3,_=>l0
 |n+1,u2,u3,q0=>
  let v4:GKey:=v1.1.getD (u3:Int).toNat default
  let v5:GKey:=v1.1.getD (u3:Int).toNat default
  let v6:Int:=ref10_Place x0 v5
  let v7:GProp:=x0.getD (v6:Int).toNat default
  let v8:GKey:=v1.1.getD (u3:Int).toNat default
  let v9:List GKey:=u2++[v8]
  lmk rfl [GKey.av v4,GKey.av v5,eI v6,GProp.av v7,GKey.av v8,eL GKey.enc v9] (xp (fun h=>decide_eq_true (ref10_Names_plH (u:=u3) (v1:=v1) (v6:=v6) q0 rfl (of_decide_eq_true (h.at 0 rfl)) (iEq_t.1 (h.at 1 rfl)) (of_decide_eq_true (h.at 2 rfl)) (of_decide_eq_true (h.at 3 rfl))))<|xn) (wR rfl <|
  wR rfl <|
  wC (ct_ref10_Place x0 v5) <|
  wR rfl <|
  wR rfl <|
  wApp (f:=GKey.enc) [v8] rfl <|
  wn) ln <|
   rc rk_ref10_Names_l2 rx<|rc rk_ref10_Names_l2 (rg (lp_ref10_Names_l2 x0 v1 n _ _ q0))<|rl (rg (lp_ref10_Names_l2 x0 v1 n _ _ q0))
def R30 : PRes:=
 ⟨[((qN (W 1 1) (.li 0)),(.tup [(.slc [] false),(zI (W 1 1))])),((.lb true),(.tup [(zL (V 2)),(zI (.li 0))]))],
 [([],(.call 28 [(zL (V 0))] (.tup [(zL (W 1 0)),(zI (W 1 1))])))],[L30_2]⟩
def H30 : LH:=.mk [] (.li 0) [] [] 0 [H30_2] []
theorem e30 : sFnI Try.prog xBase iBase mdI (fcI kA 30 [32,31,33,34,30,35,29,36,37,38,39,6,7] [(0,(.mk [0,2,3,4] (.mk [(6,(.os 13 2)),(7,(.sc kI))] [] [] 14) [(.normal,(.mk [(6,(.os 13 2))] [] [] 14))]))]) 3 200 30 [zL (V 0)] 1=some R30:=by kernel_rfl
theorem ct_ref10_Names (x0:List GProp):CT Try.prog sT 30 [eL GProp.enc x0] (eR_sKey_ii64 (ref10_Names x0)):=
 let v1:List GKey×Int:=ref10_Keys x0
 let r2:List GKey:=ref10_Names_l2 x0 v1 (v1.1.length+1) [] 0
 mkH hmix xBase_ok iBase_ok e30 H30 (by kernel_rfl) [eL GProp.enc x0,eR_sKey_ii64 v1,eL GKey.enc r2] xn
  (wC (ct_ref10_Keys x0)<|wn)
  (lc1 (lp_ref10_Names_l2 x0 v1 (v1.1.length+1) [] 0 rfl) <|
  ln)
  (selE eR_sKey_ii64 rfl rfl (selL rfl))
def L31_2 : Lo:=
 let p0:Pc:=((qN (V 1) (.li 0)),false)::[]
 let p1:Pc:=((qL (V 4) (.rlen (V 0))),true)::p0
 .mk [((qN (V 1) (.li 0)),false)] 2 3 [(zB (.lb false)),(zI (.li 0)),(zI (.li 0))] [((.not (qL (V 4) (.rlen (V 0)))),1,[(zB (V 2)),(zI (V 3))]),((W 5 17),2,[(zB (.lb false)),(zI (.li 0))]),((.lb true),0,[(zB (V 2)),(zI (V 3)),(zI (aI (V 4) (.li 1)))])] [(p1,(.row (V 0) (V 4) (cV 5 GProp.kds)))] [] [2,2] [(V 0)]
def H31_2 : LH:=.mk [(qM (V 1) (V 4))] (mI (.rlen (V 0)) (V 4)) [((.rlen (V 0)),1)] [] 1 [] []
def rk_table_Sealed_l2 (r:Bool×Bool×Int×Bool×Int):Nat×List AV:=rk2 r.1 [eB r.2.1,eI r.2.2.1] [eB r.2.2.2.1,eI r.2.2.2.2]
theorem lp_table_Sealed_l2 (x0:List GProp)(v1:Int):∀(n:Nat) (u2:Bool) (u3:Int) (u4:Int),RunL Try.prog sT L31_2 H31_2 [eL GProp.enc x0,eI v1] n [eB u2,eI u3,eI u4] (rk_table_Sealed_l2 (table_Sealed_l2 x0 n u2 u3 u4))
 |0,u2,u3,u4=>l0
 |n+1,u2,u3,u4=>
  let v5:GProp:=x0.getD (u4:Int).toNat default
  lmk rfl [GProp.av v5] xn (wR rfl<|wn) ln <|
   rc rk_table_Sealed_l2 rx<|rc rk_table_Sealed_l2 rx<|rl (rg (lp_table_Sealed_l2 x0 v1 n _ _ _))
def R31 : PRes:=
 ⟨[((qN (V 1) (.li 0)),(.tup [(zB (.lb false)),(zI (V 1))])),((.not (qE (V 2) (.li 0))),(.tup [(zB (V 5)),(zI (V 6))])),((.lb true),(.tup [(zB (.lb true)),(zI (.li 0))]))],
 [([],(.call 23 [(zL (V 0))] (zI (V 1))))],[L31_2]⟩
def H31 : LH:=.mk [] (.li 0) [] [] 0 [H31_2] []
theorem e31 : sFnI Try.prog xBase iBase mdI (fcI kA 31 [14,2,3] [(0,(.mk [12,13] (.mk [(2,(.sc .bool)),(3,(.sc kI)),(14,(.sc kI))] [] [] 10) [(.normal,(.mk [(2,(.sc .bool)),(3,(.sc kI))] [] [] 10)),(.ret,(.mk [(2,(.sc .bool)),(3,(.sc kI))] [] [] 10))]))]) 3 200 31 [zL (V 0)] 1=some R31:=by kernel_rfl
theorem ct_table_Sealed (x0:List GProp):CT Try.prog sT 31 [eL GProp.enc x0] (eR_bool_ii64 (table_Sealed x0)):=
 let v1:Int:=table_Check x0
 let r2:Bool×Bool×Int×Bool×Int:=table_Sealed_l2 x0 (x0.length+1) false 0 0
 mkH hmix xBase_ok iBase_ok e31 H31 (by kernel_rfl) [eL GProp.enc x0,eI v1,eI (selB r2.1),eB r2.2.1,eI r2.2.2.1,eB r2.2.2.2.1,eI r2.2.2.2.2] xn
  (wC (ct_table_Check x0)<|wn)
  (lc2 (lp_table_Sealed_l2 x0 v1 (x0.length+1) false 0 0) <|
  ln)
  (selE eR_bool_ii64 rfl rfl (selE eR_bool_ii64 rfl rfl (selL rfl)))
def L32_2 : Lo:=
 let p0:Pc:=((qN (V 1) (.li 0)),false)::[]
 let p1:Pc:=((qL (V 4) (.rlen (V 0))),true)::p0
 .mk [((qN (V 1) (.li 0)),false)] 2 3 [(zB (.lb false)),(zI (.li 0)),(zI (.li 0))] [((.not (qL (V 4) (.rlen (V 0)))),1,[(zB (V 2)),(zI (V 3))]),((W 5 17),2,[(zB (.lb false)),(zI (.li 0))]),((.lb true),0,[(zB (V 2)),(zI (V 3)),(zI (aI (V 4) (.li 1)))])] [(p1,(.row (V 0) (V 4) (cV 5 GProp.kds)))] [] [2,2] [(V 0)]
def H32_2 : LH:=.mk [(qM (V 1) (V 4))] (mI (.rlen (V 0)) (V 4)) [((.rlen (V 0)),1)] [] 1 [] []
def rk_ref10_Sealed_l2 (r:Bool×Bool×Int×Bool×Int):Nat×List AV:=rk2 r.1 [eB r.2.1,eI r.2.2.1] [eB r.2.2.2.1,eI r.2.2.2.2]
theorem lp_ref10_Sealed_l2 (x0:List GProp)(v1:Int):∀(n:Nat) (u2:Bool) (u3:Int) (u4:Int),RunL Try.prog sT L32_2 H32_2 [eL GProp.enc x0,eI v1] n [eB u2,eI u3,eI u4] (rk_ref10_Sealed_l2 (ref10_Sealed_l2 x0 n u2 u3 u4))
 |0,u2,u3,u4=>l0
 |n+1,u2,u3,u4=>
  let v5:GProp:=x0.getD (u4:Int).toNat default
  lmk rfl [GProp.av v5] xn (wR rfl<|wn) ln <|
   rc rk_ref10_Sealed_l2 rx<|rc rk_ref10_Sealed_l2 rx<|rl (rg (lp_ref10_Sealed_l2 x0 v1 n _ _ _))
def R32 : PRes:=
 ⟨[((qN (V 1) (.li 0)),(.tup [(zB (.lb false)),(zI (V 1))])),((.not (qE (V 2) (.li 0))),(.tup [(zB (V 5)),(zI (V 6))])),((.lb true),(.tup [(zB (.lb true)),(zI (.li 0))]))],
 [([],(.call 24 [(zL (V 0))] (zI (V 1))))],[L32_2]⟩
def H32 : LH:=.mk [] (.li 0) [] [] 0 [H32_2] []
theorem e32 : sFnI Try.prog xBase iBase mdI (fcI kA 32 [5,2,3] [(0,(.mk [0] (.mk [(2,(.sc .bool)),(3,(.sc kI)),(5,(.sc kI))] [] [] 8) [(.normal,(.mk [(2,(.sc .bool)),(3,(.sc kI))] [] [] 8)),(.ret,(.mk [(2,(.sc .bool)),(3,(.sc kI))] [] [] 8))]))]) 3 200 32 [zL (V 0)] 1=some R32:=by kernel_rfl
theorem ct_ref10_Sealed (x0:List GProp):CT Try.prog sT 32 [eL GProp.enc x0] (eR_bool_ii64 (ref10_Sealed x0)):=
 let v1:Int:=ref10_Check x0
 let r2:Bool×Bool×Int×Bool×Int:=ref10_Sealed_l2 x0 (x0.length+1) false 0 0
 mkH hmix xBase_ok iBase_ok e32 H32 (by kernel_rfl) [eL GProp.enc x0,eI v1,eI (selB r2.1),eB r2.2.1,eI r2.2.2.1,eB r2.2.2.2.1,eI r2.2.2.2.2] xn
  (wC (ct_ref10_Check x0)<|wn)
  (lc2 (lp_ref10_Sealed_l2 x0 v1 (x0.length+1) false 0 0) <|
  ln)
  (selE eR_bool_ii64 rfl rfl (selE eR_bool_ii64 rfl rfl (selL rfl)))
def L33_2 : Lo:=
 let p0:Pc:=((qL (V 3) (.rlen (V 0))),true)::[]
 .mk [] 2 2 [(zB (W 1 0)),(zI (.li 0))] [((.not (qL (V 3) (.rlen (V 0)))),1,[(zB (V 2))]),((.lb true),0,[(zB (.and (V 2) (.not (W 4 15)))),(zI (aI (V 3) (.li 1)))])] [(p0,(.row (V 0) (V 3) (cV 4 GProp.kds)))] [] [1] [(V 0)]
def H33_2 : LH:=.mk [(qM (.li 0) (V 3))] (mI (.rlen (V 0)) (V 3)) [((.rlen (V 0)),1)] [] 1 [] []
def rk_table_Frozen_l2 (r:Bool):Nat×List AV:=(0,[eB r])
theorem lp_table_Frozen_l2 (x0:List GProp)(v1:Bool×Int):∀(n:Nat) (u2:Bool) (u3:Int),RunL Try.prog sT L33_2 H33_2 [eL GProp.enc x0,eR_bool_ii64 v1] n [eB u2,eI u3] (rk_table_Frozen_l2 (table_Frozen_l2 x0 n u2 u3))
 |0,u2,u3=>l0
 |n+1,u2,u3=>
  let v4:GProp:=x0.getD (u3:Int).toNat default
  lmk rfl [GProp.av v4] xn (wR rfl<|wn) ln <|
   rc rk_table_Frozen_l2 rx<|rl (rg (lp_table_Frozen_l2 x0 v1 n _ _))
def R33 : PRes:=
 ⟨[((.lb true),(.tup [(zB (V 2)),(zI (W 1 1))]))],
 [([],(.call 31 [(zL (V 0))] (.tup [(zB (W 1 0)),(zI (W 1 1))])))],[L33_2]⟩
def H33 : LH:=.mk [] (.li 0) [] [] 0 [H33_2] []
theorem e33 : sFnI Try.prog xBase iBase mdI (fcI kA 33 [4,21,22,23,24,15] [(0,(.mk [2,3,5,13,14] (.mk [(4,(.sc .bool)),(15,(.sc kI))] [] [] 12) [(.normal,(.mk [(4,(.sc .bool))] [] [] 12))]))]) 3 200 33 [zL (V 0)] 1=some R33:=by kernel_rfl
theorem ct_table_Frozen (x0:List GProp):CT Try.prog sT 33 [eL GProp.enc x0] (eR_bool_ii64 (table_Frozen x0)):=
 let v1:Bool×Int:=table_Sealed x0
 let r2:Bool:=table_Frozen_l2 x0 (x0.length+1) v1.1 0
 mkH hmix xBase_ok iBase_ok e33 H33 (by kernel_rfl) [eL GProp.enc x0,eR_bool_ii64 v1,eB r2] xn
  (wC (ct_table_Sealed x0)<|wn)
  (lc1 (lp_table_Frozen_l2 x0 v1 (x0.length+1) v1.1 0) <|
  ln)
  (selL rfl)
def L34_2 : Lo:=
 let p0:Pc:=((qE (W 1 1) (.li 0)),true)::[]
 let p1:Pc:=((qL (V 3) (.rlen (V 0))),true)::p0
 let p2:Pc:=((V 5),true)::p1
 .mk [] 2 2 [(zB (W 1 0)),(zI (.li 0))] [((.not (.and (qL (V 3) (.rlen (V 0))) (qE (W 1 1) (.li 0)))),1,[(zB (V 2))]),((.and (V 5) (W 6 15)),0,[(zB (.lb false)),(zI (aI (V 3) (.li 1)))]),((.lb true),0,[(zB (V 2)),(zI (aI (V 3) (.li 1)))])] [(p1,(.row (V 0) (V 3) (cV 4 GProp.kds))),
 (p1,(.call 69 [(.agg (cW 4 2 GDesc.kds))] (zB (V 5)))),
 (p2,(.row (V 0) (V 3) (cV 6 GProp.kds)))] [] [1] [(V 0)]
def H34_2 : LH:=.mk [(qM (.li 0) (V 3))] (mI (.rlen (V 0)) (V 3)) [((.rlen (V 0)),1)] [] 1 [] []
def rk_ref10_Frozen_l2 (r:Bool):Nat×List AV:=(0,[eB r])
theorem lp_ref10_Frozen_l2 (x0:List GProp)(v1:Bool×Int):∀(n:Nat) (u2:Bool) (u3:Int),RunL Try.prog sT L34_2 H34_2 [eL GProp.enc x0,eR_bool_ii64 v1] n [eB u2,eI u3] (rk_ref10_Frozen_l2 (ref10_Frozen_l2 x0 v1 n u2 u3))
 |0,u2,u3=>l0
 |n+1,u2,u3=>
  let v4:GProp:=x0.getD (u3:Int).toNat default
  let v5:Bool:=ref09_IsData v4.Desc
  let v6:GProp:=x0.getD (u3:Int).toNat default
  lmk rfl [GProp.av v4,eB v5,GProp.av v6] xn (wR rfl <|
  wC (ct_ref09_IsData v4.Desc) <|
  wR rfl <|
  wn) ln <|
   rc rk_ref10_Frozen_l2 rx<|rc rk_ref10_Frozen_l2 (rg (lp_ref10_Frozen_l2 x0 v1 n _ _))<|rl (rg (lp_ref10_Frozen_l2 x0 v1 n _ _))
def R34 : PRes:=
 ⟨[((.lb true),(.tup [(zB (V 2)),(zI (W 1 1))]))],
 [([],(.call 32 [(zL (V 0))] (.tup [(zB (W 1 0)),(zI (W 1 1))])))],[L34_2]⟩
def H34 : LH:=.mk [] (.li 0) [] [] 0 [H34_2] []
theorem e34 : sFnI Try.prog xBase iBase mdI (fcI kA 34 [17,18,4,30,29,31,32,33,34,6] [(0,(.mk [0,2,3,5] (.mk [(4,(.sc .bool)),(6,(.sc kI))] [] [] 10) [(.normal,(.mk [(4,(.sc .bool))] [] [] 10))]))]) 3 200 34 [zL (V 0)] 1=some R34:=by kernel_rfl
theorem ct_ref10_Frozen (x0:List GProp):CT Try.prog sT 34 [eL GProp.enc x0] (eR_bool_ii64 (ref10_Frozen x0)):=
 let v1:Bool×Int:=ref10_Sealed x0
 let r2:Bool:=ref10_Frozen_l2 x0 v1 (x0.length+1) v1.1 0
 mkH hmix xBase_ok iBase_ok e34 H34 (by kernel_rfl) [eL GProp.enc x0,eR_bool_ii64 v1,eB r2] xn
  (wC (ct_ref10_Sealed x0)<|wn)
  (lc1 (lp_ref10_Frozen_l2 x0 v1 (x0.length+1) v1.1 0) <|
  ln)
  (selL rfl)
def R35 : PRes:=
 let p0:Pc:=((.and (.and (.and (uE (W 0 0) (W 1 0)) (.bin .eql .bool (W 0 13) (W 1 13))) (.bin .eql .bool (W 0 14) (W 1 14))) (.bin .eql .bool (W 0 15) (W 1 15))),true)::[]
 let p1:Pc:=((.and (.and (.and (.and (uE (W 0 0) (W 1 0)) (.bin .eql .bool (W 0 13) (W 1 13))) (.bin .eql .bool (W 0 14) (W 1 14))) (.bin .eql .bool (W 0 15) (W 1 15))) (V 2)),true)::[]
 let p2:Pc:=((.and (.and (.and (.and (.and (uE (W 0 0) (W 1 0)) (.bin .eql .bool (W 0 13) (W 1 13))) (.bin .eql .bool (W 0 14) (W 1 14))) (.bin .eql .bool (W 0 15) (W 1 15))) (V 2)) (V 3)),true)::[]
 ⟨[((.lb true),(zB (.and (.and (.and (.and (.and (.and (uE (W 0 0) (W 1 0)) (.bin .eql .bool (W 0 13) (W 1 13))) (.bin .eql .bool (W 0 14) (W 1 14))) (.bin .eql .bool (W 0 15) (W 1 15))) (V 2)) (V 3)) (V 4))))],
 [(p0,(.call 70 [(.agg (cW 0 1 GVal.kds)),(.agg (cW 1 1 GVal.kds))] (zB (V 2)))),
 (p1,(.call 70 [(.agg (cW 0 5 GVal.kds)),(.agg (cW 1 5 GVal.kds))] (zB (V 3)))),
 (p2,(.call 70 [(.agg (cW 0 9 GVal.kds)),(.agg (cW 1 9 GVal.kds))] (zB (V 4))))],[]⟩
theorem e35 : sFnI Try.prog xBase iBase mdI (fcI kA 35 [] []) 3 200 35 [.agg (cV 0 GDesc.kds),.agg (cV 1 GDesc.kds)] 2=some R35:=by kernel_rfl
theorem ct_ref09_Alike (x0:GDesc)(x1:GDesc):CT Try.prog sT 35 [GDesc.av x0,GDesc.av x1] (eB (ref09_Alike x0 x1)):=
 let v2:Bool:=ref07_Alike x0.Value x1.Value
 let v3:Bool:=ref07_Alike x0.Get x1.Get
 let v4:Bool:=ref07_Alike x0.Set x1.Set
 mkH hmix xBase_ok iBase_ok e35 lh0 (by kernel_rfl) [GDesc.av x0,GDesc.av x1,eB v2,eB v3,eB v4] xn
  (wC (ct_ref07_Alike x0.Value x1.Value) <|
  wC (ct_ref07_Alike x0.Get x1.Get) <|
  wC (ct_ref07_Alike x0.Set x1.Set) <|
  wn)
  ln
  (selL rfl)
def L22_2 : Lo:=
 let p0:Pc:=((qN (.rlen (V 0)) (.rlen (V 1))),false)::[]
 let p1:Pc:=((qL (V 3) (.rlen (V 0))),true)::p0
 .mk [((qN (.rlen (V 0)) (.rlen (V 1))),false)] 2 2 [(zB (.lb false)),(zI (.li 0))] [((.not (qL (V 3) (.rlen (V 0)))),1,[(zB (V 2))]),((.not (.and (sE (W 4 0) (W 5 0)) (qE (W 4 1) (W 5 1)))),2,[(zB (.lb false))]),((.lb true),0,[(zB (V 2)),(zI (aI (V 3) (.li 1)))])] [(p1,(.row (V 0) (V 3) [(zS (W 4 0)),(zI (W 4 1))])),
 (p1,(.row (V 1) (V 3) [(zS (W 5 0)),(zI (W 5 1))]))] [] [1,1] [(V 0),(V 1)]
def H22_2 : LH:=.mk [(qM (.li 0) (V 3))] (mI (.rlen (V 0)) (V 3)) [((.rlen (V 0)),1)] [] 0 [] []
def rk_ref08_Same_l2 (r:Bool×Bool×Bool):Nat×List AV:=rk2 r.1 [eB r.2.1] [eB r.2.2]
theorem lp_ref08_Same_l2 (x0:List GKey)(x1:List GKey):∀(n:Nat) (u2:Bool) (u3:Int),RunL Try.prog sT L22_2 H22_2 [eL GKey.enc x0,eL GKey.enc x1] n [eB u2,eI u3] (rk_ref08_Same_l2 (ref08_Same_l2 x0 x1 n u2 u3))
 |0,u2,u3=>l0
 |n+1,u2,u3=>
  let v4:GKey:=x0.getD (u3:Int).toNat default
  let v5:GKey:=x1.getD (u3:Int).toNat default
  lmk rfl [GKey.av v4,GKey.av v5] xn (wR rfl <|
  wR rfl <|
  wn) ln <|
   rc rk_ref08_Same_l2 rx<|rc rk_ref08_Same_l2 rx<|rl (rg (lp_ref08_Same_l2 x0 x1 n _ _))
def R22 : PRes:=
 ⟨[((qN (.rlen (V 0)) (.rlen (V 1))),(zB (.lb false))),((.not (qE (V 2) (.li 0))),(zB (V 4))),((.lb true),(zB (.lb true)))],
 [],[L22_2]⟩
def H22 : LH:=.mk [] (.li 0) [] [] 0 [H22_2] []
theorem e22 : sFnI Try.prog xBase iBase mdI (fcI kA 22 [5,4] [(0,(.mk [0,1] (.mk [(4,(.sc .bool)),(5,(.sc kI))] [] [] 7) [(.normal,(.mk [(4,(.sc .bool))] [] [] 7)),(.ret,(.mk [(4,(.sc .bool))] [] [] 7))]))]) 3 200 22 [zL (V 0),zL (V 1)] 2=some R22:=by kernel_rfl
theorem ct_ref08_Same (x0:List GKey)(x1:List GKey):CT Try.prog sT 22 [eL GKey.enc x0,eL GKey.enc x1] (eB (ref08_Same x0 x1)):=
 let r2:Bool×Bool×Bool:=ref08_Same_l2 x0 x1 (x0.length+1) false 0
 mkH hmix xBase_ok iBase_ok e22 H22 (by kernel_rfl) [eL GKey.enc x0,eL GKey.enc x1,eI (selB r2.1),eB r2.2.1,eB r2.2.2] xn
  wn
  (lc2 (lp_ref08_Same_l2 x0 x1 (x0.length+1) false 0) <|
  ln)
  (selE (fun r=>.p (.bool r)) rfl rfl (selE (fun r=>.p (.bool r)) rfl rfl (selL rfl)))
def L17_2 : Lo:=
 let p0:Pc:=((qN (.rlen (V 0)) (.rlen (V 1))),false)::[]
 let p1:Pc:=((qL (V 3) (.rlen (V 0))),true)::p0
 let p2:Pc:=((.not (.and (sE (W 4 0) (W 5 0)) (qE (W 4 1) (W 5 1)))),false)::p1
 .mk [((qN (.rlen (V 0)) (.rlen (V 1))),false)] 2 2 [(zB (.lb false)),(zI (.li 0))] [((.not (qL (V 3) (.rlen (V 0)))),1,[(zB (V 2))]),((.or (.not (.and (sE (W 4 0) (W 5 0)) (qE (W 4 1) (W 5 1)))) (.not (V 8))),2,[(zB (.lb false))]),((.lb true),0,[(zB (V 2)),(zI (aI (V 3) (.li 1)))])] [(p1,(.row (V 0) (V 3) (cV 4 GProp.kds))),
 (p1,(.row (V 1) (V 3) (cV 5 GProp.kds))),
 (p2,(.row (V 0) (V 3) (cV 6 GProp.kds))),
 (p2,(.row (V 1) (V 3) (cV 7 GProp.kds))),
 (p2,(.call 35 [(.agg (cW 6 2 GDesc.kds)),(.agg (cW 7 2 GDesc.kds))] (zB (V 8))))] [] [1,1] [(V 0),(V 1)]
def H17_2 : LH:=.mk [(qM (.li 0) (V 3))] (mI (.rlen (V 0)) (V 3)) [((.rlen (V 0)),1)] [] 0 [] []
def rk_ref10_Same_l2 (r:Bool×Bool×Bool):Nat×List AV:=rk2 r.1 [eB r.2.1] [eB r.2.2]
theorem lp_ref10_Same_l2 (x0:List GProp)(x1:List GProp):∀(n:Nat) (u2:Bool) (u3:Int),RunL Try.prog sT L17_2 H17_2 [eL GProp.enc x0,eL GProp.enc x1] n [eB u2,eI u3] (rk_ref10_Same_l2 (ref10_Same_l2 x0 x1 n u2 u3))
 |0,u2,u3=>l0
 |n+1,u2,u3=>
  let v4:GProp:=x0.getD (u3:Int).toNat default
  let v5:GProp:=x1.getD (u3:Int).toNat default
  let v6:GProp:=x0.getD (u3:Int).toNat default
  let v7:GProp:=x1.getD (u3:Int).toNat default
  let v8:Bool:=ref09_Alike v6.Desc v7.Desc
  lmk rfl [GProp.av v4,GProp.av v5,GProp.av v6,GProp.av v7,eB v8] xn (wR rfl <|
  wR rfl <|
  wR rfl <|
  wR rfl <|
  wC (ct_ref09_Alike v6.Desc v7.Desc) <|
  wn) ln <|
   rc rk_ref10_Same_l2 rx<|rc rk_ref10_Same_l2 rx<|rl (rg (lp_ref10_Same_l2 x0 x1 n _ _))
def R17 : PRes:=
 ⟨[((qN (.rlen (V 0)) (.rlen (V 1))),(zB (.lb false))),((.not (qE (V 2) (.li 0))),(zB (V 4))),((.lb true),(zB (.lb true)))],
 [],[L17_2]⟩
def H17 : LH:=.mk [] (.li 0) [] [] 0 [H17_2] []
theorem e17 : sFnI Try.prog xBase iBase mdI (fcI kA 17 [30,29,31,32,35,34,36,37,38,33,39,40,5,4] [(0,(.mk [0,1] (.mk [(4,(.sc .bool)),(5,(.sc kI))] [] [] 7) [(.normal,(.mk [(4,(.sc .bool))] [] [] 7)),(.ret,(.mk [(4,(.sc .bool))] [] [] 7))]))]) 3 200 17 [zL (V 0),zL (V 1)] 2=some R17:=by kernel_rfl
theorem ct_ref10_Same (x0:List GProp)(x1:List GProp):CT Try.prog sT 17 [eL GProp.enc x0,eL GProp.enc x1] (eB (ref10_Same x0 x1)):=
 let r2:Bool×Bool×Bool:=ref10_Same_l2 x0 x1 (x0.length+1) false 0
 mkH hmix xBase_ok iBase_ok e17 H17 (by kernel_rfl) [eL GProp.enc x0,eL GProp.enc x1,eI (selB r2.1),eB r2.2.1,eB r2.2.2] xn
  wn
  (lc2 (lp_ref10_Same_l2 x0 x1 (x0.length+1) false 0) <|
  ln)
  (selE (fun r=>.p (.bool r)) rfl rfl (selE (fun r=>.p (.bool r)) rfl rfl (selL rfl)))
def R18 : PRes:=
 let p0:Pc:=((V 3),true)::[]
 let p1:Pc:=((.and (V 3) (.and (sE (W 4 0) (.ls [55,55])) (qE (W 4 1) (.li 0)))),true)::[]
 ⟨[((.lb true),(zB (.and (.and (V 3) (.and (sE (W 4 0) (.ls [55,55])) (qE (W 4 1) (.li 0)))) (.and (uE (W 5 2) (.li 0)) (.and (.and (uE (W 5 3) (.li 0)) (.and (.bin .eql .flt (W 5 4) (.lf 0)) (.and (sE (W 5 5) (.ls [])) (qE (W 5 6) (.li 0))))) (.and (.and (uE (W 5 7) (.li 0)) (.and (.bin .eql .flt (W 5 8) (.lf 0)) (.and (sE (W 5 9) (.ls [])) (qE (W 5 10) (.li 0))))) (.and (.and (uE (W 5 11) (.li 0)) (.and (.bin .eql .flt (W 5 12) (.lf 0)) (.and (sE (W 5 13) (.ls [])) (qE (W 5 14) (.li 0))))) (.and (.not (W 5 15)) (.and (.not (W 5 16)) (.not (W 5 17)))))))))))],
 [([],(.sub 18 (V 0) (some (.li 0)) (some (.rlen (V 1))) (V 2))),
 ([],(.call 17 [(zL (V 2)),(zL (V 1))] (zB (V 3)))),
 (p0,(.row (V 0) (.rlen (V 1)) (cV 4 GProp.kds))),
 (p1,(.row (V 0) (.rlen (V 1)) (cV 5 GProp.kds)))],[]⟩
theorem e18 : sFnI Try.prog xBase iBase mdI (fcI kA 18 [] []) 3 200 18 [zL (V 0),zL (V 1)] 2=some R18:=by kernel_rfl
theorem ct_law10_stays (x0:List GProp)(x1:List GProp):CT Try.prog sT 18 [eL GProp.enc x0,eL GProp.enc x1] (eB (law10_stays x0 x1)):=
 let v2:List GProp:=(x0.drop ((0:Int).toNat)).take (((mLen GProp.enc x1):Int).toNat-(0:Int).toNat)
 let v3:Bool:=ref10_Same v2 x1
 let v4:GProp:=x0.getD ((mLen GProp.enc x1):Int).toNat default
 let v5:GProp:=x0.getD ((mLen GProp.enc x1):Int).toNat default
 mkH hmix xBase_ok iBase_ok e18 lh0 (by kernel_rfl) [eL GProp.enc x0,eL GProp.enc x1,eL GProp.enc v2,eB v3,GProp.av v4,GProp.av v5] xn
  (wSub rfl <|
  wC (ct_ref10_Same v2 x1) <|
  wR rfl <|
  wR rfl <|
  wn)
  ln
  (selL rfl)
def R5 : PRes:=
 let p0:Pc:=((qG (.slen (W 1 0)) (.li 9000)),false)::[]
 let p1:Pc:=((V 2),false)::p0
 let p2:Pc:=((qG (.rlen (V 0)) (.li 1000)),true)::p1
 let p3:Pc:=((qG (.rlen (V 0)) (.li 1000)),false)::p1
 let p4:Pc:=((.and (qE (W 7 2) (W 8 2)) (.bin .eql .bool (W 7 1) (W 8 1))),true)::p3
 let p5:Pc:=((.and (.and (.and (qE (W 7 2) (W 8 2)) (.bin .eql .bool (W 7 1) (W 8 1))) (V 17)) (qE (W 9 1) (W 10 1))),true)::p3
 let p6:Pc:=((.and (.and (.and (.and (.and (qE (W 7 2) (W 8 2)) (.bin .eql .bool (W 7 1) (W 8 1))) (V 17)) (qE (W 9 1) (W 10 1))) (V 18)) (qE (W 11 1) (W 12 1))),true)::p3
 let p7:Pc:=((.and (.and (.and (.and (.and (.and (.and (.and (.and (.and (qE (W 7 2) (W 8 2)) (.bin .eql .bool (W 7 1) (W 8 1))) (V 17)) (qE (W 9 1) (W 10 1))) (V 18)) (qE (W 11 1) (W 12 1))) (V 19)) (qE (W 13 1) (W 14 1))) (.bin .eql .bool (W 13 0) (W 14 0))) (qE (W 15 1) (W 16 1))) (.bin .eql .bool (W 15 0) (W 16 0))),true)::p3
 let p8:Pc:=((.and (.and (.and (.and (.and (.and (.and (.and (.and (.and (.and (qE (W 7 2) (W 8 2)) (.bin .eql .bool (W 7 1) (W 8 1))) (V 17)) (qE (W 9 1) (W 10 1))) (V 18)) (qE (W 11 1) (W 12 1))) (V 19)) (qE (W 13 1) (W 14 1))) (.bin .eql .bool (W 13 0) (W 14 0))) (qE (W 15 1) (W 16 1))) (.bin .eql .bool (W 15 0) (W 16 0))) (qE (V 20) (V 21))),true)::p3
 ⟨[((.or (V 2) (qG (.slen (W 1 0)) (.li 9000))),(zB (.lb true))),((qG (.rlen (V 0)) (.li 1000)),(zB (qE (V 3) (V 4)))),((.lb true),(zB (.and (.and (.and (.and (.and (.and (.and (.and (.and (.and (.and (.and (qE (W 7 2) (W 8 2)) (.bin .eql .bool (W 7 1) (W 8 1))) (V 17)) (qE (W 9 1) (W 10 1))) (V 18)) (qE (W 11 1) (W 12 1))) (V 19)) (qE (W 13 1) (W 14 1))) (.bin .eql .bool (W 13 0) (W 14 0))) (qE (W 15 1) (W 16 1))) (.bin .eql .bool (W 15 0) (W 16 0))) (qE (V 20) (V 21))) (V 22))))],
 [([],(.call 11 [(zL (V 0))] (zB (V 2)))),
 (p2,(.call 23 [(zL (V 0))] (zI (V 3)))),
 (p2,(.call 24 [(zL (V 0))] (zI (V 4)))),
 (p3,(.call 12 [(zL (V 0))] (zL (V 5)))),
 (p3,(.sub 18 (V 5) (some (.li 0)) (some (.rlen (V 0))) (V 6))),
 (p3,(.call 25 [(zL (V 6)),(.agg [(zS (W 1 0)),(zI (W 1 1))])] (.tup [(.agg (cellsV 7 [0] 0 GDesc.kds)),(zB (W 7 1)),(zI (W 7 2))]))),
 (p3,(.call 26 [(zL (V 0)),(.agg [(zS (W 1 0)),(zI (W 1 1))])] (.tup [(.agg (cellsV 8 [0] 0 GDesc.kds)),(zB (W 8 1)),(zI (W 8 2))]))),
 (p3,(.call 27 [(zL (V 6))] (.tup [(zL (W 9 0)),(zI (W 9 1))]))),
 (p3,(.call 28 [(zL (V 0))] (.tup [(zL (W 10 0)),(zI (W 10 1))]))),
 (p3,(.call 29 [(zL (V 6))] (.tup [(zL (W 11 0)),(zI (W 11 1))]))),
 (p3,(.call 30 [(zL (V 0))] (.tup [(zL (W 12 0)),(zI (W 12 1))]))),
 (p3,(.call 31 [(zL (V 6))] (.tup [(zB (W 13 0)),(zI (W 13 1))]))),
 (p3,(.call 32 [(zL (V 0))] (.tup [(zB (W 14 0)),(zI (W 14 1))]))),
 (p3,(.call 33 [(zL (V 6))] (.tup [(zB (W 15 0)),(zI (W 15 1))]))),
 (p3,(.call 34 [(zL (V 0))] (.tup [(zB (W 16 0)),(zI (W 16 1))]))),
 (p4,(.call 35 [(.agg (cellsV 7 [0] 0 GDesc.kds)),(.agg (cellsV 8 [0] 0 GDesc.kds))] (zB (V 17)))),
 (p5,(.call 22 [(zL (W 9 0)),(zL (W 10 0))] (zB (V 18)))),
 (p6,(.call 22 [(zL (W 11 0)),(zL (W 12 0))] (zB (V 19)))),
 (p7,(.call 23 [(zL (V 6))] (zI (V 20)))),
 (p7,(.call 24 [(zL (V 0))] (zI (V 21)))),
 (p8,(.call 18 [(zL (V 5)),(zL (V 0))] (zB (V 22))))],[]⟩
theorem e5 : sFnI Try.prog xBase iBase mdI (fcI kA 5 [] []) 3 200 5 [zL (V 0),.agg (cV 1 GKey.kds)] 2=some R5:=by kernel_rfl
theorem ct_law10_TableAsks (x0:List GProp)(x1:GKey):CT Try.prog sT 5 [eL GProp.enc x0,GKey.av x1] (eB (law10_TableAsks x0 x1)):=
 let v2:Bool:=law10_long x0
 let v3:Int:=table_Check x0
 let v4:Int:=ref10_Check x0
 let v5:List GProp:=law10_twin x0
 let v6:List GProp:=(v5.drop ((0:Int).toNat)).take (((mLen GProp.enc x0):Int).toNat-(0:Int).toNat)
 let v7:GDesc×Bool×Int:=table_Find v6 x1
 let v8:GDesc×Bool×Int:=ref10_Find x0 x1
 let v9:List GKey×Int:=table_Keys v6
 let v10:List GKey×Int:=ref10_Keys x0
 let v11:List GKey×Int:=table_Names v6
 let v12:List GKey×Int:=ref10_Names x0
 let v13:Bool×Int:=table_Sealed v6
 let v14:Bool×Int:=ref10_Sealed x0
 let v15:Bool×Int:=table_Frozen v6
 let v16:Bool×Int:=ref10_Frozen x0
 let v17:Bool:=ref09_Alike v7.1 v8.1
 let v18:Bool:=ref08_Same v9.1 v10.1
 let v19:Bool:=ref08_Same v11.1 v12.1
 let v20:Int:=table_Check v6
 let v21:Int:=ref10_Check x0
 let v22:Bool:=law10_stays v5 x0
 mkH hmix xBase_ok iBase_ok e5 lh0 (by kernel_rfl) [eL GProp.enc x0,GKey.av x1,eB v2,eI v3,eI v4,eL GProp.enc v5,eL GProp.enc v6,eR_Desc_bool_ii64 v7,eR_Desc_bool_ii64 v8,eR_sKey_ii64 v9,eR_sKey_ii64 v10,eR_sKey_ii64 v11,eR_sKey_ii64 v12,eR_bool_ii64 v13,eR_bool_ii64 v14,eR_bool_ii64 v15,eR_bool_ii64 v16,eB v17,eB v18,eB v19,eI v20,eI v21,eB v22] xn
  (wC (ct_law10_long x0) <|
  wC (ct_table_Check x0) <|
  wC (ct_ref10_Check x0) <|
  wC (ct_law10_twin x0) <|
  wSub rfl <|
  wC (ct_table_Find v6 x1) <|
  wC (ct_ref10_Find x0 x1) <|
  wC (ct_table_Keys v6) <|
  wC (ct_ref10_Keys x0) <|
  wC (ct_table_Names v6) <|
  wC (ct_ref10_Names x0) <|
  wC (ct_table_Sealed v6) <|
  wC (ct_ref10_Sealed x0) <|
  wC (ct_table_Frozen v6) <|
  wC (ct_ref10_Frozen x0) <|
  wC (ct_ref09_Alike v7.1 v8.1) <|
  wC (ct_ref08_Same v9.1 v10.1) <|
  wC (ct_ref08_Same v11.1 v12.1) <|
  wC (ct_table_Check v6) <|
  wC (ct_ref10_Check x0) <|
  wC (ct_law10_stays v5 x0) <|
  wn)
  ln
  (selE (fun r=>.p (.bool r)) rfl rfl (selE (fun r=>.p (.bool r)) rfl rfl (selL rfl)))
theorem pc_law10_TableAsks (x0:List GProp)(x1:GKey):PC Try.prog 5 [eL GProp.enc x0,GKey.av x1] (eB (law10_TableAsks x0 x1)):=(ct_law10_TableAsks x0 x1 trivial).1
end Go.Fw
end
section
set_option linter.unusedVariables false
set_option linter.unusedSimpArgs false
set_option linter.unusedSectionVars false
namespace Go.Fw
open Go.Proofs
set_option maxRecDepth 100000
theorem rd_GVal : Rd Try.prog 27 GVal.enc GVal.wf:=
 (rd_struct Try.underlying27 (by kernel_rfl) (rdF_cons (m:=1) rfl (by kernel_rfl) (rd_int Try.underlying5) (rdF_cons (m:=1) rfl (by kernel_rfl) (rd_float Try.underlying25) (rdF_cons (m:=1) rfl (by kernel_rfl) (rd_str Try.underlying9) (rdF_cons (m:=1) rfl (by kernel_rfl) (rd_int Try.underlying3) (rdF_nil)))))).to (fun x=>GVal.mk x.1 x.2.1 x.2.2.1 x.2.2.2.1) (fun _=>rfl) (fun _ h=>⟨h.1,h.2.1,h.2.2.1,h.2.2.2.1⟩)
theorem rd_GKey : Rd Try.prog 24 GKey.enc GKey.wf:=
 (rd_struct Try.underlying24 (by kernel_rfl) (rdF_cons (m:=1) rfl (by kernel_rfl) (rd_str Try.underlying9) (rdF_cons (m:=1) rfl (by kernel_rfl) (rd_int Try.underlying3) (rdF_nil)))).to (fun x=>GKey.mk x.1 x.2.1) (fun _=>rfl) (fun _ h=>⟨h.1,h.2.1⟩)
theorem rd_GDesc : Rd Try.prog 29 GDesc.enc GDesc.wf:=
 (rd_struct Try.underlying29 (by kernel_rfl) (rdF_cons (m:=1) rfl (by kernel_rfl) (rd_int Try.underlying5) (rdF_cons (m:=4) rfl (by kernel_rfl) rd_GVal (rdF_cons (m:=4) rfl (by kernel_rfl) rd_GVal (rdF_cons (m:=4) rfl (by kernel_rfl) rd_GVal (rdF_cons (m:=1) rfl (by kernel_rfl) (rd_bool Try.underlying4) (rdF_cons (m:=1) rfl (by kernel_rfl) (rd_bool Try.underlying4) (rdF_cons (m:=1) rfl (by kernel_rfl) (rd_bool Try.underlying4) (rdF_nil))))))))).to (fun x=>GDesc.mk x.1 x.2.1 x.2.2.1 x.2.2.2.1 x.2.2.2.2.1 x.2.2.2.2.2.1 x.2.2.2.2.2.2.1) (fun _=>rfl) (fun _ h=>⟨h.1,h.2.1,h.2.2.1,h.2.2.2.1⟩)
theorem rd_GProp : Rd Try.prog 65 GProp.enc GProp.wf:=
 (rd_struct Try.underlying65 (by kernel_rfl) (rdF_cons (m:=2) rfl (by kernel_rfl) rd_GKey (rdF_cons (m:=16) rfl (by kernel_rfl) rd_GDesc (rdF_nil)))).to (fun x=>GProp.mk x.1 x.2.1) (fun _=>rfl) (fun _ h=>⟨h.1,h.2.1⟩)
end Go.Fw
end
section
set_option linter.unusedVariables false
set_option linter.unusedSimpArgs false
set_option linter.unusedSectionVars false
namespace Go.Fw
set_option linter.unusedVariables false
set_option linter.unusedSimpArgs false
theorem tKeys_l2_eq {x0:List GProp}(hl:x0.length≤4294967296):∀(n j:Nat) (u:List GKey),j≤x0.length→x0.length-j<n→table_Keys_l2 x0 n u j=u++(x0.drop j).map (·.Key)
 |0,j,u,hj,hn=>by omega
 |n+1,j,u,hj,hn=>by
  simp only [table_Keys_l2,q_lt,Int.toNat_natCast]
  by_cases hlt:j<x0.length
  ·rw [q_drop x0 j hlt]
   simp only [decide_eq_true hlt,Bool.not_true,cond_false,qAdd (show j≤4294967296 by omega)]
   rw [tKeys_l2_eq hl n (j+1) _ (by omega) (by omega)];simp
  ·simp only [decide_eq_false hlt,Bool.not_false,cond_true]
   rw [List.drop_eq_nil_iff.2 (by omega)];simp
theorem tNames_l2_eq {x0:List GProp}(hl:x0.length≤4294967296):∀(n j:Nat) (u:List GKey),j≤x0.length→x0.length-j<n→
  table_Names_l2 x0 n u j=u++((x0.drop j).filter (fun p=>p.Desc.Enumerable&&iEq p.Key.Sym 0)).map (·.Key)
 |0,j,u,hj,hn=>by omega
 |n+1,j,u,hj,hn=>by
  simp only [table_Names_l2,q_lt,Int.toNat_natCast]
  by_cases hlt:j<x0.length
  ·rw [q_drop x0 j hlt]
   simp only [decide_eq_true hlt,Bool.not_true,cond_false,qAdd (show j≤4294967296 by omega)]
   rw [tNames_l2_eq hl n (j+1) _ (by omega) (by omega),tNames_l2_eq hl n (j+1) _ (by omega) (by omega),List.filter_cons]
   cases ((x0.getD j default).Desc.Enumerable&&iEq (x0.getD j default).Key.Sym 0)<;>simp
  ·simp only [decide_eq_false hlt,Bool.not_false,cond_true]
   rw [List.drop_eq_nil_iff.2 (by omega)];simp
theorem rNames_l2_eq {x0:List GProp}{v1:List GKey×Int}(hl:v1.1.length≤4294967296):∀(n j:Nat) (u:List GKey),j≤v1.1.length→v1.1.length-j<n→
  ref10_Names_l2 x0 v1 n u j=u++(v1.1.drop j).filter (fun k=>iEq k.Sym 0&&(x0.getD (ref10_Place x0 k).toNat default).Desc.Enumerable)
 |0,j,u,hj,hn=>by omega
 |n+1,j,u,hj,hn=>by
  simp only [ref10_Names_l2,q_lt,Int.toNat_natCast]
  by_cases hlt:j<v1.1.length
  ·rw [q_drop v1.1 j hlt]
   simp only [decide_eq_true hlt,Bool.not_true,cond_false,qAdd (show j≤4294967296 by omega)]
   rw [rNames_l2_eq hl n (j+1) _ (by omega) (by omega),rNames_l2_eq hl n (j+1) _ (by omega) (by omega),List.filter_cons]
   cases (iEq (v1.1.getD j default).Sym 0&&(x0.getD (ref10_Place x0 (v1.1.getD j default)).toNat default).Desc.Enumerable)<;>simp
  ·simp only [decide_eq_false hlt,Bool.not_false,cond_true]
   rw [List.drop_eq_nil_iff.2 (by omega)];simp
theorem key_ref_Order {l:List GKey}(h:l.length≤1048576):key_Order l=ref08_Order l:=by
 have h1:=Order_ok h
 have h2:=rOrder_ok (x0:=l) h
 exact Srt.uniq h1.1 h2.1 (h1.2.trans h2.2.symm)
theorem Srt.filter {l:List GKey}(h:Srt l)(p:GKey→Bool):Srt (l.filter p):=List.Pairwise.filter p h
theorem Eqp.filter {a b:List GKey}(h:Eqp a b)(p:GKey→Bool):Eqp (a.filter p) (b.filter p):=by
 intro q
 have:=h q
 rw [List.filter_filter,List.filter_filter]
 have e:∀l:List GKey,l.filter (fun k=>decide (key_place k=q)&&p k)=(l.filter (fun k=>decide (key_place k=q))).filter p:=by
  intro l;rw [List.filter_filter];congr 1;funext k;rw [Bool.and_comm]
 rw [e a,e b,this]
theorem Order_filter {l:List GKey}(h:l.length≤1048576)(p:GKey→Bool):ref08_Order (l.filter p)=(ref08_Order l).filter p:=by
 have h1:=rOrder_ok (x0:=l) h
 have h2:=rOrder_ok (x0:=l.filter p) (Nat.le_trans (List.length_filter_le _ _) h)
 exact Srt.uniq h2.1 (h1.1.filter p) (h2.2.trans (h1.2.symm.filter p))
theorem rKeys_eq (x0:List GProp)(hl:x0.length≤4294967296)(hok:∀p∈x0,p.Desc.ok):table_Keys x0=ref10_Keys x0:=by
 rw [ref10_Keys_eq hl]
 unfold table_Keys
 dsimp only
 have h:=tKeys_l2_eq hl (x0.length+1) 0 [] (by omega) (by omega)
 simp only [show (((0:Nat):Int))=0 from rfl,List.drop_zero,List.nil_append] at h
 rw [h,tCheck_eq x0 hl hok]
 by_cases hc:ref10_Check x0=0
 ·rw [key_ref_Order (by have:=ref10_Check_len x0 hc;simp;omega)]
 ·rw [iNe_t.2 hc];rfl
theorem check_pchk {x0:List GProp}(hl:x0.length≤4294967296)(hc:ref10_Check x0=0):pchk [] x0=0:=by
 have:=ref10_Check_len x0 hc
 rw [rCheck_eq x0 hl,decide_eq_false (by omega)] at hc
 exact hc
theorem pl_self : ∀{l:List GProp},l.Pairwise (fun p q=>p.Key≠q.Key)→∀p∈l,∃i,pl l p.Key=some i∧l.getD i default=p
 |[],_,p,hp=>by cases hp
 |a::r,hn,p,hp=>by
  obtain ⟨h1,h2⟩:=List.pairwise_cons.1 hn
  by_cases he:a.Key=p.Key
  ·have:p=a:=by
    cases hp with
    |head=>rfl
    |tail _ hp=>exact absurd he (h1 p hp)
   subst this
   exact ⟨0,by simp [pl,List.findIdx?_cons],by simp⟩
  ·cases hp with
   |head=>exact absurd rfl he
   |tail _ hp=>
    obtain ⟨i,q1,q2⟩:=pl_self h2 p hp
    refine ⟨i+1,?_,by simpa using q2⟩
    unfold pl at q1 ⊢
    rw [List.findIdx?_cons,decide_eq_false he]
    simp [q1]
theorem rNames_eq (x0:List GProp)(hl:x0.length≤4294967296)(hok:∀p∈x0,p.Desc.ok):table_Names x0=ref10_Names x0:=by
 unfold table_Names ref10_Names
 dsimp only
 rw [ref10_Keys_eq hl,tCheck_eq x0 hl hok]
 by_cases hc:ref10_Check x0=0
 ·have hlen:=ref10_Check_len x0 hc
  rw [iNe_f.2 hc]
  simp only [cond_false,show iNe 0 0=false from rfl]
  have h:=tNames_l2_eq hl (x0.length+1) 0 [] (by omega) (by omega)
  simp only [show (((0:Nat):Int))=0 from rfl,List.drop_zero,List.nil_append] at h
  have lo:(ref08_Order (x0.map (·.Key))).length≤4294967296:=by
   rw [← key_ref_Order (l:=x0.map (·.Key)) (by simp;omega)]
   unfold key_Order
   dsimp only
   rw [Bool.cond_eq_ite]
   split
   ·simp;omega
   ·refine Nat.le_trans (List.length_take_le _ _) ?_
    rw [mLen_eq];simp;omega
  have h2:=rNames_l2_eq (x0:=x0) (v1:=(ref08_Order (x0.map (·.Key)),0)) lo ((ref08_Order (x0.map (·.Key))).length+1) 0 [] (by omega) (by simp)
  simp only [show (((0:Nat):Int))=0 from rfl,List.drop_zero,List.nil_append] at h2
  rw [h,h2,key_ref_Order (by simp;exact Nat.le_trans (List.length_filter_le _ _) (by omega)),← Order_filter (by simp;omega),List.filter_map]
  congr 3
  refine List.filter_congr fun p hp=>?_
  obtain ⟨i,q1,q2⟩:=pl_self (pchk_nodup (check_pchk hl hc)).2 p hp
  simp only [Function.comp]
  rw [Place_eq x0 p.Key hl,q1]
  simp only [Int.toNat_natCast,q2]
  rw [Bool.and_comm]
 ·rw [iNe_t.2 hc]
  simp only [cond_true,iNe_t.2 hc]
theorem Sealed_l2_eq {x0:List GProp}:∀(n:Nat) {a:Bool} {b c:Int},table_Sealed_l2 x0 n a b c=ref10_Sealed_l2 x0 n a b c
 |0,_,_,_=>rfl
 |n+1,a,b,c=>by
  simp only [table_Sealed_l2,ref10_Sealed_l2]
  rw [Sealed_l2_eq n]
theorem rSealed_eq (x0:List GProp)(hl:x0.length≤4294967296)(hok:∀p∈x0,p.Desc.ok):table_Sealed x0=ref10_Sealed x0:=by
 unfold table_Sealed ref10_Sealed
 dsimp only
 rw [tCheck_eq x0 hl hok,Sealed_l2_eq]
theorem Sealed_l2_ok {x0:List GProp}:∀(n:Nat) {a:Bool} {b c:Int},(ref10_Sealed_l2 x0 n a b c).1=true∨(ref10_Sealed_l2 x0 n a b c).2.2.2.2=0
 |0,_,_,_=>Or.inr rfl
 |n+1,a,b,c=>by
  simp only [ref10_Sealed_l2,Bool.cond_eq_ite]
  split
  ·exact Or.inl rfl
  ·split
   ·exact Or.inr rfl
   ·exact Sealed_l2_ok n
theorem Sealed_ok {x0:List GProp}:(ref10_Check x0=0∧(ref10_Sealed x0).2=0)∨(ref10_Check x0≠0∧(ref10_Sealed x0).1=false∧(ref10_Sealed x0).2≠0):=by
 unfold ref10_Sealed
 dsimp only
 by_cases hc:ref10_Check x0=0
 ·refine Or.inl ⟨hc,?_⟩
  rw [iNe_f.2 hc,qsel]
  simp only [cond_false]
  rcases Sealed_l2_ok (x0:=x0) (x0.length+1) (a:=false) (b:=0) (c:=0) with h|h
  ·rw [h];rfl
  ·cases (ref10_Sealed_l2 x0 (x0.length+1) false 0 0).1
   ·exact h
   ·rfl
 ·refine Or.inr ⟨hc,?_⟩
  rw [iNe_t.2 hc]
  exact ⟨rfl,hc⟩
theorem tFrozen_l2 {x0:List GProp}(hl:x0.length≤4294967296):∀(n j:Nat) {u:Bool},j≤x0.length→x0.length-j<n→table_Frozen_l2 x0 n u j=(u&&(x0.drop j).all (fun p=>!p.Desc.Writable))
 |0,j,u,hj,hn=>by omega
 |n+1,j,u,hj,hn=>by
  simp only [table_Frozen_l2,q_lt,Int.toNat_natCast]
  by_cases hlt:j<x0.length
  ·rw [q_drop x0 j hlt]
   simp only [decide_eq_true hlt,Bool.not_true,cond_false,qAdd (show j≤4294967296 by omega)]
   rw [tFrozen_l2 hl n (j+1) (by omega) (by omega),List.all_cons,Bool.and_assoc]
  ·simp only [decide_eq_false hlt,Bool.not_false,cond_true]
   rw [List.drop_eq_nil_iff.2 (by omega)];simp
theorem rFrozen_l2 {x0:List GProp}{v1:Bool×Int}(hv:v1.2=0)(hl:x0.length≤4294967296):∀(n j:Nat) {u:Bool},j≤x0.length→x0.length-j<n→ref10_Frozen_l2 x0 v1 n u j=(u&&(x0.drop j).all (fun p=>!(ref09_IsData p.Desc&&p.Desc.Writable)))
 |0,j,u,hj,hn=>by omega
 |n+1,j,u,hj,hn=>by
  have hlm:decide ((j:Int)<(mLen GProp.enc x0:Int))=decide (j<x0.length):=by rw [mLen_eq];exact decide_eq_decide.2 (by omega)
  simp only [ref10_Frozen_l2,hlm,hv,qiEq_self,Bool.and_true,Int.toNat_natCast]
  by_cases hlt:j<x0.length
  ·rw [q_drop x0 j hlt]
   simp only [decide_eq_true hlt,Bool.not_true,cond_false,qAdd (show j≤4294967296 by omega)]
   rw [rFrozen_l2 hv hl n (j+1) (by omega) (by omega),rFrozen_l2 hv hl n (j+1) (by omega) (by omega),List.all_cons]
   cases (ref09_IsData (x0.getD j default).Desc&&(x0.getD j default).Desc.Writable)<;>simp
  ·simp only [decide_eq_false hlt,Bool.not_false,cond_true]
   rw [List.drop_eq_nil_iff.2 (by omega)];simp
theorem whole_data {d:GDesc}(h:ref09_IsWhole d=true):(ref09_IsData d&&d.Writable)=d.Writable:=by
 cases hw:d.Writable with
 |false=>simp
 |true=>
  rw [Bool.and_true]
  unfold ref09_IsWhole at h
  dsimp only at h
  rw [Bool.and_eq_true] at h
  have h0:=iEq_t.1 h.1
  unfold ref09_IsData
  dsimp only
  cases h2:ref09_Has d 2 with
  |true=>simp
  |false=>
   unfold ref09_Check at h0
   dsimp only at h0
   rw [h2,hw] at h0
   simp at h0
theorem pchk_whole : ∀{l:List GProp} {pre:List GKey},pchk pre l=0→∀p∈l,ref09_IsWhole p.Desc=true
 |[],pre,h,p,hp=>by cases hp
 |a::r,pre,h,p,hp=>by
  simp only [pchk,Bool.cond_eq_ite] at h
  split at h
  ·omega
  ·split at h
   ·omega
   ·rename_i hw
    split at h
    ·omega
    ·cases hp with
     |head=>simpa using hw
     |tail _ hp=>exact pchk_whole h p hp
theorem rFrozen_eq (x0:List GProp)(hl:x0.length≤4294967296)(hok:∀p∈x0,p.Desc.ok):table_Frozen x0=ref10_Frozen x0:=by
 unfold table_Frozen ref10_Frozen
 dsimp only
 rw [rSealed_eq x0 hl hok]
 have ht:=tFrozen_l2 (x0:=x0) hl (x0.length+1) 0 (u:=(ref10_Sealed x0).1) (by omega) (by omega)
 simp only [show (((0:Nat):Int))=0 from rfl,List.drop_zero] at ht
 rw [ht]
 rcases Sealed_ok (x0:=x0) with ⟨hc,h2⟩|⟨hc,h1,h2⟩
 ·have hr:=rFrozen_l2 (x0:=x0) (v1:=ref10_Sealed x0) h2 hl (x0.length+1) 0 (u:=(ref10_Sealed x0).1) (by omega) (by omega)
  simp only [show (((0:Nat):Int))=0 from rfl,List.drop_zero] at hr
  rw [hr]
  congr 2
  rw [Bool.eq_iff_iff,List.all_eq_true,List.all_eq_true]
  have hw:=pchk_whole (check_pchk hl hc)
  exact ⟨fun h p hp=>by rw [whole_data (hw p hp)];exact h p hp,fun h p hp=>by have:=h p hp;rw [whole_data (hw p hp)] at this;exact this⟩
 ·have:ref10_Frozen_l2 x0 (ref10_Sealed x0) (x0.length+1) (ref10_Sealed x0).1 0=(ref10_Sealed x0).1:=by
   simp only [ref10_Frozen_l2]
   rw [show iEq (ref10_Sealed x0).2 0=false from by rw [qiEq];exact decide_eq_false h2]
   simp
  rw [this,h1];rfl
theorem rFind_eq (x0:List GProp)(k:GKey)(hl:x0.length≤4294967296)(hok:∀p∈x0,p.Desc.ok):table_Find x0 k=ref10_Find x0 k:=by
 unfold table_Find ref10_Find
 dsimp only
 rw [asked_eq x0 k hl hok,at_eq]
 by_cases h:ref10_Place x0 k≥0
 ·rw [decide_eq_true h,decide_eq_false (by omega:¬ref10_Place x0 k<0)];rfl
 ·rw [decide_eq_false h,decide_eq_true (by omega:ref10_Place x0 k<0)];rfl
theorem rKeys_len (x0:List GProp)(hl:x0.length≤4294967296):(ref10_Keys x0).1.length≤4294967296:=by
 rw [ref10_Keys_eq hl]
 by_cases hc:ref10_Check x0=0
 ·have hlen:=ref10_Check_len x0 hc
  rw [iNe_f.2 hc]
  show (ref08_Order (x0.map (·.Key))).length≤_
  rw [← key_ref_Order (l:=x0.map (·.Key)) (by simp;omega)]
  unfold key_Order
  dsimp only
  rw [Bool.cond_eq_ite]
  split
  ·simp;omega
  ·refine Nat.le_trans (List.length_take_le _ _) ?_
   rw [mLen_eq];simp;omega
 ·rw [iNe_t.2 hc];simp
theorem rNames_len (x0:List GProp)(hl:x0.length≤4294967296):(ref10_Names x0).1.length≤4294967296:=by
 unfold ref10_Names
 dsimp only
 rw [Bool.cond_eq_ite]
 split
 ·simp
 ·have h2:=rNames_l2_eq (x0:=x0) (v1:=ref10_Keys x0) (rKeys_len x0 hl) ((ref10_Keys x0).1.length+1) 0 [] (by omega) (by omega)
  simp only [show (((0:Nat):Int))=0 from rfl,List.drop_zero,List.nil_append] at h2
  rw [h2]
  exact Nat.le_trans (List.length_filter_le _ _) (rKeys_len x0 hl)
theorem tableAsks_true {x0:List GProp}{x1:GKey}(h0:∀p∈x0,p.wf)(hl:x0.length≤4294967296):law10_TableAsks x0 x1=true:=by
 have hok:∀p∈x0,p.Desc.ok:=fun p hp=>dok (h0 p hp).Desc
 unfold law10_TableAsks
 have ht:((law10_twin x0).drop (0:Int).toNat).take ((mLen GProp.enc x0:Int).toNat-(0:Int).toNat)=x0:=by simp [law10_twin,mLen_eq]
 simp only [ht,rFind_eq x0 x1 hl hok,rKeys_eq x0 hl hok,rNames_eq x0 hl hok,rSealed_eq x0 hl hok,rFrozen_eq x0 hl hok,tCheck_eq x0 hl hok,stays_self x0 hl,qiEq_self,qbEq_self,ref09_Alike_self,rSame_self (rKeys_len x0 hl),rSame_self (rNames_len x0 hl)]
 cases (law10_long x0||decide ((sLen x1.Str:Int) > 9000))<;>cases decide ((mLen GProp.enc x0:Int) > 1000)<;>rfl
end Go.Fw
end
