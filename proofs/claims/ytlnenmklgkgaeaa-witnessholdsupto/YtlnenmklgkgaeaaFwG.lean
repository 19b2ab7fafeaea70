/- Machinery of this seat's proofs (H, RfT, Hp, MV1, SeatV, TV1, Aw, Am, WOb, MV2, TV2, RV, LWO): lemmas that the last text uses; no statement of its own. -/
import Derived.Test.YtlnenmklgkgaeaaFwF
import Derived.Test.YtlnenmklgkgaeaaProg
import Derived.Test.YtlnenmklgkgaeaaRows
section
set_option linter.unusedVariables false
set_option linter.unusedSimpArgs false
set_option linter.unusedSectionVars false
namespace Go.Fw
set_option linter.unusedSectionVars false
set_option linter.unusedSimpArgs false
set_option linter.unusedVariables false
variable [Glob]
inductive Ek where|B|I|F|S|R
def SimE : Ek→D→D→Prop
 | .B,d,d'=>d.B=d'.B
 | .I,d,d'=>d.I=d'.I
 | .F,d,d'=>d.F=d'.F
 | .S,d,d'=>d.S=d'.S
 | .R,d,d'=>d.R=d'.R
theorem SimE.of_eq {e:Ek}{d d':D}(h:d=d'):SimE e d d':=by subst h;cases e<;>rfl
def pathSV : SV→List Nat→Option SV
 |v,[]=>some v
 | .agg l,j::p=>match nthL l j with|some x=>pathSV x p|none=>none
 | .tup l,j::p=>match nthL l j with|some x=>pathSV x p|none=>none
 |_,_::_=>none
def leafT : Ek→SV→Option Tm
 | .B,.sc .bool t=>some t
 | .I,.sc (.int _) t=>some t
 | .F,.sc .flt t=>some t
 | .S,.sc .str t=>some t
 | .R,.sc .sl t=>some t
 | .R,.sf t=>some t
 | .R,.nil=>some .nl
 | .R,.slc [] _=>some .nl
 |_,_=>none
def varSV (base:Nat)(l:List SV)(i:Nat)(p:List Nat):Option SV:=match nthL l (i-base) with
 |some v=>pathSV v p
 |none=>none
def lenSV : SV→Option Tm
 | .slc rows _=>fNat rows.length fun n=>some (.li (.ofNat n))
 |v=>match leafT .R v with|some t=>some (.rlen t)|none=>none
def ekOf : Kd→Option Ek
 | .bool=>some .B
 | .int _=>some .I
 | .flt=>some .F
 | .str=>some .S
 | .sl=>none
def asVar : Tm→Option (Nat×List Nat)
 | .var i p=>some (i,p)
 |_=>none
theorem asVar_eq {t:Tm}{x:Nat×List Nat}(h:asVar t=some x):t=.var x.1 x.2:=by
 cases t<;>simp [asVar] at h
 subst h;rfl
def substE (base:Nat)(l:List SV):Ek→Tm→Option Tm
 |_,.lb v=>some (.lb v)
 |_,.li v=>some (.li v)
 |_,.lf v=>some (.lf v)
 |_,.ls v=>some (.ls v)
 |_,.nl=>some .nl
 |e,.var i p=>bif Nat.blt i base then some (.var i p) else match varSV base l i p with
  |some v=>leafT e v
  |none=>none
 |_,.bin o k x y=>match ekOf k with
  |none=>none
  |some e=>match substE base l e x with
   |none=>none
   |some x'=>match substE base l e y with
    |none=>none
    |some y'=>some (.bin o k x' y')
 |_,.not x=>match substE base l .B x with|none=>none|some x'=>some (.not x')
 |_,.and x y=>match substE base l .B x with
  |none=>none
  |some x'=>match substE base l .B y with|none=>none|some y'=>some (.and x' y')
 |_,.or x y=>match substE base l .B x with
  |none=>none
  |some x'=>match substE base l .B y with|none=>none|some y'=>some (.or x' y')
 |e,.ite c x y=>match substE base l .B c with
  |none=>none
  |some c'=>match substE base l e x with
   |none=>none
   |some x'=>match substE base l e y with|none=>none|some y'=>some (.ite c' x' y')
 |_,.conv k x=>match substE base l .I x with|none=>none|some x'=>some (.conv k x')
 |_,.slen x=>match substE base l .S x with|none=>none|some x'=>some (.slen x')
 |_,.rlen x=>match asVar x with
  |some q=>bif Nat.blt q.1 base then some (.rlen (.var q.1 q.2)) else match varSV base l q.1 q.2 with
   |some v=>lenSV v
   |none=>none
  |none=>match substE base l .R x with|none=>none|some x'=>some (.rlen x')
 |_,.byte x i=>match substE base l .S x with
  |none=>none
  |some x'=>match substE base l .I i with|none=>none|some i'=>some (.byte x' i')
 |_,_=>none
theorem pathSV_den {ρ:List AV}:∀{p:List Nat} {v w:SV},pathSV v p=some w→cellAt (v.den ρ) p=w.den ρ
 |[],v,w,h=>by
  simp only [pathSV,Option.some.injEq] at h
  subst h
  cases v.den ρ<;>rfl
 |j::p,v,w,h=>by
  cases v<;>simp only [pathSV] at h<;>first|(cases h;done)|skip
  all_goals
   split at h
   ·rename_i l x hx
    have e:=denL_get (ρ:=ρ) hx
    simp only [SV.den,cellAt,List.getD_eq_getElem?_getD,e,Option.getD_some]
    exact pathSV_den h
   ·cases h
theorem leafT_den {ρ:List AV}{e:Ek}{v:SV}{t:Tm}(h:leafT e v=some t):SimE e (t.den ρ) (v.den ρ).D:=by
 unfold leafT at h
 split at h<;>first|(cases h;done)|(simp only [Option.some.injEq] at h;subst h;rfl)
theorem getD_tk {ρ:List AV}{base i:Nat}{m:List AV}(hb:base≤ρ.length)(hi:i<base):(ρ.take base++m).getD i undefA=ρ.getD i undefA:=by
 have:i<(ρ.take base).length:=by rw [List.length_take];omega
 rw [List.getD_eq_getElem?_getD,List.getD_eq_getElem?_getD,List.getElem?_append_left this,List.getElem?_take,if_pos hi]
theorem varSV_den {ρ:List AV}{base:Nat}{l:List SV}(hb:base≤ρ.length){i:Nat}{p:List Nat}{v:SV}(hi:¬i<base)(h:varSV base l i p=some v):cellAt ((ρ.take base++denL ρ l).getD i undefA) p=v.den ρ:=by
 unfold varSV at h
 split at h
 ·rename_i w hw
  have hl:(ρ.take base).length=base:=by rw [List.length_take];omega
  rw [List.getD_eq_getElem?_getD,List.getElem?_append_right (by omega),hl,denL_get hw]
  exact pathSV_den h
 ·cases h
theorem substE_ok {ρ:List AV}{base:Nat}{l:List SV}(hb:base≤ρ.length):∀{t:Tm} {e:Ek} {t':Tm},substE base l e t=some t'→SimE e (t'.den ρ) (t.den (ρ.take base++denL ρ l)):=by
 intro t
 induction t with
 |lb v=>intro e t' h;simp only [substE,Option.some.injEq] at h;subst h;exact .of_eq rfl
 |li v=>intro e t' h;simp only [substE,Option.some.injEq] at h;subst h;exact .of_eq rfl
 |lf v=>intro e t' h;simp only [substE,Option.some.injEq] at h;subst h;exact .of_eq rfl
 |ls v=>intro e t' h;simp only [substE,Option.some.injEq] at h;subst h;exact .of_eq rfl
 |nl=>intro e t' h;simp only [substE,Option.some.injEq] at h;subst h;exact .of_eq rfl
 |var i p=>
  intro e t' h
  simp only [substE] at h
  cases hi:Nat.blt i base
  ·rw [hi] at h
   have hi':¬i<base:=fun q=>by rw [show Nat.blt i base=true by rw [Nat.blt_eq];exact q] at hi;cases hi
   simp only [cond_false] at h
   split at h
   ·rename_i v hv
    have:=leafT_den (ρ:=ρ) h
    simp only [Tm.den,varSV_den hb hi' hv]
    exact this
   ·cases h
  ·rw [hi] at h
   simp only [cond_true,Option.some.injEq] at h;subst h
   rw [Nat.blt_eq] at hi
   exact .of_eq (by simp only [Tm.den,getD_tk hb hi])
 |bin o k x y ihx ihy=>
  intro e t' h
  simp only [substE] at h
  split at h
  ·cases h
  rename_i e' he
  split at h
  ·cases h
  rename_i x' hx
  split at h
  ·cases h
  rename_i y' hy
  simp only [Option.some.injEq] at h;subst h
  have h1:=ihx hx
  have h2:=ihy hy
  refine .of_eq ?_
  cases k<;>simp only [ekOf,Option.some.injEq] at he<;>first|(cases he;done)|skip
  all_goals
   subst he
   simp only [SimE] at h1 h2
   simp only [Tm.den]
   cases o<;>simp only [binD,h1,h2]
 |not x ih=>
  intro e t' h
  simp only [substE] at h
  split at h
  ·cases h
  rename_i x' hx
  simp only [Option.some.injEq] at h;subst h
  have h1:=ih hx
  simp only [SimE] at h1
  exact .of_eq (by simp only [Tm.den,h1])
 |and x y ihx ihy=>
  intro e t' h
  simp only [substE] at h
  split at h
  ·cases h
  rename_i x' hx
  split at h
  ·cases h
  rename_i y' hy
  simp only [Option.some.injEq] at h;subst h
  have h1:=ihx hx
  have h2:=ihy hy
  simp only [SimE] at h1 h2
  exact .of_eq (by simp only [Tm.den,h1,h2])
 |or x y ihx ihy=>
  intro e t' h
  simp only [substE] at h
  split at h
  ·cases h
  rename_i x' hx
  split at h
  ·cases h
  rename_i y' hy
  simp only [Option.some.injEq] at h;subst h
  have h1:=ihx hx
  have h2:=ihy hy
  simp only [SimE] at h1 h2
  exact .of_eq (by simp only [Tm.den,h1,h2])
 |ite c x y ihc ihx ihy=>
  intro e t' h
  simp only [substE] at h
  split at h
  ·cases h
  rename_i c' hc
  split at h
  ·cases h
  rename_i x' hx
  split at h
  ·cases h
  rename_i y' hy
  simp only [Option.some.injEq] at h;subst h
  have h0:=ihc hc
  have h1:=ihx hx
  have h2:=ihy hy
  simp only [SimE] at h0
  rw [Tm.den_ite,Tm.den_ite,h0]
  cases (c.den (ρ.take base++denL ρ l)).B
  ·exact h2
  ·exact h1
 |conv k x ih=>
  intro e t' h
  simp only [substE] at h
  split at h
  ·cases h
  rename_i x' hx
  simp only [Option.some.injEq] at h;subst h
  have h1:=ih hx
  simp only [SimE] at h1
  exact .of_eq (by simp only [Tm.den,h1])
 |slen x ih=>
  intro e t' h
  simp only [substE] at h
  split at h
  ·cases h
  rename_i x' hx
  simp only [Option.some.injEq] at h;subst h
  have h1:=ih hx
  simp only [SimE] at h1
  exact .of_eq (by simp only [Tm.den,h1])
 |rlen x ih=>
  intro e t' h
  simp only [substE] at h
  split at h
  ·rename_i q hq
   have:=asVar_eq hq;subst this
   obtain ⟨i,p⟩:=q
   dsimp only at h ⊢
   cases hi:Nat.blt i base
   ·rw [hi] at h
    have hi':¬i<base:=fun q=>by rw [show Nat.blt i base=true by rw [Nat.blt_eq];exact q] at hi;cases hi
    simp only [cond_false] at h
    split at h
    ·rename_i v hv
     unfold lenSV at h
     split at h
     ·rename_i rows fl
      simp only [fNat_eq,Option.some.injEq] at h;subst h
      refine .of_eq ?_
      simp only [Tm.den,varSV_den hb hi' hv,SV.den,AV.D,D.R,lLen,denLL_length]
      rfl
     ·split at h
      ·rename_i t0 ht0
       simp only [Option.some.injEq] at h;subst h
       have:=leafT_den (ρ:=ρ) ht0
       simp only [SimE] at this
       refine .of_eq ?_
       simp only [Tm.den,varSV_den hb hi' hv,this]
      ·cases h
    ·cases h
   ·rw [hi] at h
    simp only [cond_true,Option.some.injEq] at h;subst h
    rw [Nat.blt_eq] at hi
    exact .of_eq (by simp only [Tm.den,getD_tk hb hi])
  ·split at h
   ·cases h
   rename_i x' hx
   simp only [Option.some.injEq] at h;subst h
   have h1:=ih hx
   simp only [SimE] at h1
   exact .of_eq (by simp only [Tm.den,h1])
 |byte x y ihx ihy=>
  intro e t' h
  simp only [substE] at h
  split at h
  ·cases h
  rename_i x' hx
  split at h
  ·cases h
  rename_i y' hy
  simp only [Option.some.injEq] at h;subst h
  have h1:=ihx hx
  have h2:=ihy hy
  simp only [SimE] at h1 h2
  exact .of_eq (by simp only [Tm.den,h1,h2])
 |_=>intro e t' h;simp [substE] at h
def tLe (a b:Tm):Tm:=.bin .leq (.int .i64) a b
def tLt (a b:Tm):Tm:=.bin .lss (.int .i64) a b
def tEq (a b:Tm):Tm:=.bin .eql (.int .i64) a b
def tAdd (a b:Tm):Tm:=.bin .add (.int .i64) a b
def big : Int:=4294967296
def tTop (n:Nat):Tm:=fNat n fun n=>fInt' (big-(n:Int)) .li
def tNat (n:Nat):Tm:=fNat n fun n=>.li (.ofNat n)
def tRest (x:Tm):Tm:=.bin .sub (.int .i64) (.li big) x
def Side.cnd : Side→List Tm
 | .tm t=>[t]
 | .row t i _=>[tLe (.li 0) i,tLt i (.rlen t)]
 | .rd _ t i _ _=>[tLe (.li 0) i,tLt i (.rlen t)]
 | .st t i _ _ _=>[tLe (.li 0) i,tLt i (.rlen t)]
 | .sub _ t lo hi _=>match lo,hi with
  |none,none=>[]
  |none,some h=>[tLe (.li 0) h,tLe h (.rlen t)]
  |some l,none=>[tLe (.li 0) l,tLe l (.rlen t)]
  |some l,some h=>[tLe (.li 0) l,tLe l h,tLe h (.rlen t)]
 | .mk len cap _ _=>[tLe (.li 0) len,tLe len cap,tLe cap (.li big)]
 | .app _ x y _=>[tLe (.rlen x) (tTop y.length)]
 | .app2 _ x y _=>[tLe (.rlen y) (.li big),tLe (.rlen x) (tRest (.rlen y))]
 | .len2 m y=>[tLe (.rlen y) (tTop m)]
 | .cat x y=>[tLe (.slen y) (.li big),tLe (.slen x) (tRest (.slen y))]
 | .cpy x len _ _=>[tLe len (.rlen x)]
 | .mark _ _ d len _=>[tLe len (.rlen d)]
 | .appc _ x y _=>[tLe (.rlen y) (tTop x.length)]
 |_=>[]
def AllT (ρ:List AV):List Tm→Prop
 |[]=>True
 |t::r=>(t.den ρ).B=true∧AllT ρ r
theorem AllT.of {ρ:List AV}:∀{l:List Tm},(∀t∈l,(t.den ρ).B=true)→AllT ρ l
 |[],_=>trivial
 |t::r,h=>⟨h t (List.mem_cons_self ..),AllT.of fun x hx=>h x (List.mem_cons_of_mem _ hx)⟩
theorem AllT.mem {ρ:List AV}:∀{l:List Tm},AllT ρ l→∀t∈l,(t.den ρ).B=true
 |[],_,t,ht=>by cases ht
 |x::r,h,t,ht=>by
  rcases List.mem_cons.1 ht with rfl|ht
  ·exact h.1
  ·exact AllT.mem h.2 t ht
structure Sp where
 pre:List Tm
 bnd:List Tm
 post:List Tm
structure SpT where
 c:List (Nat×Sp)
 w:List (Nat×Nat×Sp)
def sp0 : Sp:=⟨[],[],[]⟩
def SpT.at (T:SpT)(f:Nat):Sp:=go T.c
 where go:List (Nat×Sp)→Sp
  |[]=>sp0
  |x::r=>bif Nat.beq x.1 f then x.2 else go r
def SpT.atW (T:SpT)(f n0:Nat):Sp:=go T.w
 where go:List (Nat×Nat×Sp)→Sp
  |[]=>sp0
  |x::r=>bif Nat.beq x.1 f&&Nat.beq x.2.1 n0 then x.2.2 else go r
def Blk.av : Blk→AV
 | .rows _ rs=>.sl rs false
 | .rowsE _ _ rs=>.sl rs false
 |_=>.sl [] true
def avB (l:List (Nat×Blk)):List AV:=l.map fun x=>x.2.av
def SB.sv : SB→SV
 | .rows _ rs=>.slc rs false
 | .rowsE _ _ rs=>.slc rs false
 | .rowsT _ t=>.sc .sl t
 |_=>.nil
def SB.okv : SB→Bool
 | .rowsF ..=>false
 |_=>true
theorem sv_den {ρ:List AV}{k:SB}(h:k.okv=true):k.sv.den ρ=(k.den ρ).av:=by cases k<;>first|rfl|cases h
def blSV (bl:List (Nat×SB)):List SV:=bl.map fun x=>x.2.sv
def blOk : List (Nat×SB)→Bool
 |[]=>true
 |x::r=>x.2.okv&&blOk r
theorem blSV_den {ρ:List AV}:∀{bl:List (Nat×SB)},blOk bl=true→denL ρ (blSV bl)=avB (blD ρ bl)
 |[],_=>rfl
 |x::r,h=>by
  simp only [blOk,Bool.and_eq_true] at h
  have ih:=blSV_den (ρ:=ρ) (bl:=r) h.2
  simp only [blSV,avB,blD,List.map_cons,denL,List.cons.injEq] at ih ⊢
  exact ⟨sv_den h.1,by simpa using ih⟩
def CT (P:Program)(T:SpT)(f:FuncId)(az:List AV)(r:AV):Prop:=
 AllT az (T.at f).pre→PC P f az r∧(AllT az (T.at f).bnd→AllT (az++[r]) (T.at f).post)
def CTo (P:Program)(T:SpT)(f:FuncId)(az:List AV)(r:AV)(p:List Nat)(sz:Nat):Prop:=
 AllT az (T.at f).pre→PCo P f az r p sz∧(AllT az (T.at f).bnd→AllT (az++[r]) (T.at f).post)
def CTw (P:Program)(T:SpT)(f:FuncId)(az:List AV)(bin:List (Nat×Blk))(n0:Nat)(r:AV)(bout:List (Nat×Blk)):Prop:=
 AllT (az++avB bin) (T.atW f n0).pre→PWL P f az bin n0 r bout∧(AllT (az++avB bin) (T.atW f n0).bnd→AllT (az++avB bin++(r::avB bout)) (T.atW f n0).post)
def spS (T:SpT):Side→Option (Sp×List SV×List SV)
 | .call f args r=>some (T.at f,args,args++[r])
 | .callo f args r _ _ _=>some (T.at f,args,args++[r])
 | .callw f args bl n0 r bl'=>bif blOk bl&&blOk bl' then some (T.atW f n0,args++blSV bl,args++blSV bl++(r::blSV bl')) else some ({T.atW f n0 with pre:=[.lb false]},[],[])
 |_=>none
def sbL (l:List SV):List Tm→Option (List Tm)
 |[]=>some []
 |t::r=>match substE 0 l .B t with
  |none=>none
  |some t'=>match sbL l r with|none=>none|some r'=>some (t'::r')
theorem sbL_ok {ρ:List AV}{l:List SV}:∀{ts us:List Tm},sbL l ts=some us→(AllT ρ us↔AllT (denL ρ l) ts)
 |[],us,h=>by simp only [sbL,Option.some.injEq] at h;subst h;exact Iff.rfl
 |t::r,us,h=>by
  simp only [sbL] at h
  split at h
  ·cases h
  rename_i t' ht
  split at h
  ·cases h
  rename_i r' hr
  simp only [Option.some.injEq] at h;subst h
  have h1:=substE_ok (ρ:=ρ) (Nat.zero_le _) ht
  simp only [SimE,List.take_zero,List.nil_append] at h1
  exact and_congr (by rw [h1]) (sbL_ok hr)
 mutual
def osV : SV→Option (Nat×Tm)
  | .os b _ _ t=>some (b,t)
  | .agg l=>osL l
  | .fn _ x y=>match osL x with|some z=>some z|none=>osL y
  |_=>none
def osL : List SV→Option (Nat×Tm)
  |[]=>none
  |x::r=>match osV x with|some z=>some z|none=>osL r
end
def blT (b:Nat):List (Nat×SB)→Option Tm
 |[]=>none
 |x::r=>bif Nat.beq x.1 b then (match x.2 with | .rowsT _ t=>some t|_=>none) else blT b r
def osT (args:List SV)(bl:List (Nat×SB)):Tm×Tm:=match osL args with
 |some (b,t)=>match blT b bl with|some t'=>(t,t')|none=>(.li 0,.nl)
 |none=>(.li 0,.nl)
def Side.osE : Side→List Tm
 | .callw _ args bl _ _ _=>match osL args with
  |some _=>[tEq (osT args bl).1 (.rlen (osT args bl).2)]
  |none=>[]
 |_=>[]
theorem AllT.app {ρ:List AV}:∀{a b:List Tm},AllT ρ (a++b)→AllT ρ a∧AllT ρ b
 |[],b,h=>⟨trivial,h⟩
 |x::r,b,h=>⟨⟨h.1,(AllT.app h.2).1⟩,(AllT.app h.2).2⟩
def Side.wk (P:Program)(T:SpT)(ρ:List AV):Side→Prop
 | .under pc s=>Pc.holds ρ pc→s.wk P T ρ
 | .call f args r=>CT P T f (denL ρ args) (r.den ρ)
 | .callo f args r p sz fl=>CTo P T f (denL ρ args) (r.den ρ) p sz∧(fl=true→∀row∈rowsP p (r.den ρ),flatL row=true)
 | .callw f args bl n0 r bl'=>AllT ρ (Side.osE (.callw f args bl n0 r bl'))→CTw P T f (denL ρ args) (blD ρ bl) n0 (r.den ρ) (blD ρ bl')
 |s=>AllT ρ s.cnd→s.holds P ρ
def condT (T:SpT)(s:Side):Option (List Tm):=match spS T s with
 |some (sp,l,_)=>match sp.pre with
  |[]=>some s.osE
  |p=>match sbL l p with|some q=>some (q++s.osE)|none=>none
 |none=>some s.cnd
def proveL (F:Pc)(l:List Tm):Bool:=l.all (prove 2 F)||contra F
theorem proveL_ok {ρ:List AV}{F:Pc}{l:List Tm}(h:proveL F l=true)(hF:F.holds ρ):AllT ρ l:=by
 unfold proveL at h
 rw [Bool.or_eq_true,List.all_eq_true] at h
 rcases h with h|h
 ·exact AllT.of fun t ht=>prove_ok (h t ht) hF
 ·exact (contra_ok h hF).elim
theorem holds_app {ρ:List AV}{a b:Pc}(h:Pc.holds ρ a)(k:Pc.holds ρ b):Pc.holds ρ (a++b):=fun x hx=>by
 rcases List.mem_append.1 hx with hx|hx
 ·exact h x hx
 ·exact k x hx
theorem holds_l {ρ:List AV}{a b:Pc}(h:Pc.holds ρ (a++b)):Pc.holds ρ a:=fun x hx=>h x (List.mem_append.2 (.inl hx))
theorem holds_r {ρ:List AV}{a b:Pc}(h:Pc.holds ρ (a++b)):Pc.holds ρ b:=fun x hx=>h x (List.mem_append.2 (.inr hx))
def ExL (ρ:List AV):List (Pc×Tm)→Prop
 |[]=>True
 |x::r=>(Pc.holds ρ x.1→(x.2.den ρ).B=true)∧ExL ρ r
theorem ExL.app {ρ:List AV}:∀{a b:List (Pc×Tm)},ExL ρ a→ExL ρ b→ExL ρ (a++b)
 |[],_,_,h=>h
 |_::_,_,h,k=>⟨h.1,ExL.app h.2 k⟩
def knownN (pc:Pc)(t:Tm):Option Bool:=match pc.known t with
 |some b=>some b
 |none=>match t with
  | .bin .eql k x y=>match k with
   | .int k=>(match pc.known (.bin .neq (.int k) x y) with|some b=>some (!b)|none=>none)
   |_=>none
  | .bin .neq k x y=>match k with
   | .int k=>(match pc.known (.bin .eql (.int k) x y) with|some b=>some (!b)|none=>none)
   |_=>none
  |_=>none
theorem knownN_ok {ρ:List AV}{pc:Pc}(hp:pc.holds ρ){t:Tm}{b:Bool}(h:knownN pc t=some b):(t.den ρ).B=b:=by
 unfold knownN at h
 split at h
 ·rename_i v hv
  simp only [Option.some.injEq] at h;subst h
  exact Pc.known_holds hp hv
 ·split at h
  ·split at h
   ·split at h
    ·rename_i v hv
     simp only [Option.some.injEq] at h;subst h
     have:=Pc.known_holds hp hv
     rw [← this]
     simp [Tm.den,binD,D.B,iEq,iNe,bne]
    ·cases h
   ·cases h
  ·split at h
   ·split at h
    ·rename_i v hv
     simp only [Option.some.injEq] at h;subst h
     have:=Pc.known_holds hp hv
     rw [← this]
     simp [Tm.den,binD,D.B,iEq,iNe,bne]
    ·cases h
   ·cases h
  ·cases h
def knowsAll (pc:Pc)(l:Pc):Bool:=l.all fun e=>match knownN pc e.1 with|some b=>b == e.2|none=>false
theorem knowsAll_ok {ρ:List AV}{pc l:Pc}(h:knowsAll pc l=true)(hp:pc.holds ρ):Pc.holds ρ l:=by
 unfold knowsAll at h
 rw [List.all_eq_true] at h
 intro e he
 have:=h e he
 split at this
 ·rename_i b hb
  rw [knownN_ok hp hb];simpa using this
 ·cases this
def xsF (pc:Pc):List (Pc×Tm)→Pc
 |[]=>[]
 |x::r=>bif knowsAll pc x.1 then (x.2,true)::xsF pc r else xsF pc r
theorem xsF_ok {ρ:List AV}{pc:Pc}(hp:pc.holds ρ):∀{xs:List (Pc×Tm)},ExL ρ xs→Pc.holds ρ (xsF pc xs)
 |[],_=>fun x hx=>by cases hx
 |x::r,h=>by
  simp only [xsF]
  cases hk:knowsAll pc x.1
  ·exact xsF_ok hp h.2
  ·exact Pc.holds_cons (h.1 (knowsAll_ok hk hp)) (xsF_ok hp h.2)
def decT : Tm→Bool→Pc→Pc
 | .and x y,true,acc=>decT x true (decT y true acc)
 | .or x y,false,acc=>decT x false (decT y false acc)
 | .not x,b,acc=>decT x (!b) acc
 |t,b,acc=>(t,b)::acc
theorem decT_ok {ρ:List AV}:∀{t:Tm} {b:Bool} {acc:Pc},(t.den ρ).B=b→Pc.holds ρ acc→Pc.holds ρ (decT t b acc):=by
 intro t
 induction t with
 |and x y ihx ihy=>
  intro b acc h k
  cases b with
  |false=>exact Pc.holds_cons h k
  |true=>
   have h2:((x.den ρ).B&&(y.den ρ).B)=true:=h
   rw [Bool.and_eq_true] at h2
   exact ihx h2.1 (ihy h2.2 k)
 |or x y ihx ihy=>
  intro b acc h k
  cases b with
  |true=>exact Pc.holds_cons h k
  |false=>
   have h2:((x.den ρ).B||(y.den ρ).B)=false:=h
   rw [Bool.or_eq_false_iff] at h2
   exact ihx h2.1 (ihy h2.2 k)
 |not x ih=>
  intro b acc h k
  have h2:(!(x.den ρ).B)=b:=h
  exact ih (by rw [← h2,Bool.not_not]) k
 |_=>intro b acc h k;exact Pc.holds_cons h k
def decP : Pc→Pc
 |[]=>[]
 |x::r=>decT x.1 x.2 (decP r)
theorem decP_ok {ρ:List AV}:∀{pc:Pc},Pc.holds ρ pc→Pc.holds ρ (decP pc)
 |[],h=>h
 |x::r,h=>decT_ok (h x (List.mem_cons_self ..)) (decP_ok fun y hy=>h y (List.mem_cons_of_mem _ hy))
def facts (F:Pc)(xs:List (Pc×Tm))(pc:Pc):Pc:=pc++(xsF (decP pc++F) xs++F)
theorem facts_ok {ρ:List AV}{F:Pc}{xs:List (Pc×Tm)}{pc:Pc}(hF:Pc.holds ρ F)(hx:ExL ρ xs)(hp:Pc.holds ρ pc):Pc.holds ρ (facts F xs pc):=
 holds_app hp (holds_app (xsF_ok (holds_app (decP_ok hp) hF) hx) hF)
def chkS (F:Pc)(T:SpT)(xs:List (Pc×Tm)):Pc→Side→Bool
 |pc,.under pc' s=>chkS F T xs (pc'++pc) s
 |pc,s=>match condT T s with
  |none=>false
  |some []=>true
  |some l=>proveL (facts F xs pc) l
def mkX (pc:Pc):Tm→Pc×Tm
 | .or c d=>((c,false)::pc,d)
 |t=>(pc,t)
theorem mkX_ok {ρ:List AV}{pc:Pc}{t:Tm}(h:Pc.holds ρ pc→(t.den ρ).B=true):Pc.holds ρ (mkX pc t).1→((mkX pc t).2.den ρ).B=true:=by
 cases t<;>try exact h
 rename_i c d
 intro hp
 have h1:((c.den ρ).B||(d.den ρ).B)=true:=h fun x hx=>hp x (List.mem_cons_of_mem _ hx)
 have h2:(c.den ρ).B=false:=hp (c,false) (List.mem_cons_self ..)
 rw [Bool.or_eq_true] at h1
 rcases h1 with h1|h1
 ·rw [h1] at h2;cases h2
 ·exact h1
def lenF : Side→List (Pc×Tm)
 | .st t _ _ _ n=>[([],tEq (.rlen n) (.rlen t))]
 | .mk len _ _ n=>[([],tEq (.rlen n) len)]
 | .app _ x y n=>[([],tEq (.rlen n) (tAdd (.rlen x) (tNat y.length)))]
 | .app2 _ x y n=>[([],tEq (.rlen n) (tAdd (.rlen x) (.rlen y)))]
 | .appc _ x y n=>[([],tEq (.rlen n) (tAdd (.rlen y) (tNat x.length)))]
 | .cpy x _ _ n=>[([],tEq (.rlen n) (.rlen x))]
 | .mark _ _ d _ n=>[([],tEq (.rlen n) (.rlen d))]
 | .sub _ t lo hi n=>match lo,hi with
  |none,none=>[([],tEq (.rlen n) (.rlen t))]
  |none,some h=>[([],tEq (.rlen n) h)]
  |some l,none=>[([],tLe (.rlen n) (.rlen t)),([(tLe (.rlen t) (.li big),true)],tEq (.rlen n) (.bin .sub (.int .i64) (.rlen t) l))]
  |some l,some h=>[([],tLe (.rlen n) (.rlen t)),([(tLe (.rlen t) (.li big),true)],tEq (.rlen n) (.bin .sub (.int .i64) h l))]
 |_=>[]
def underX (pc:Pc):List (Pc×Tm)→List (Pc×Tm)
 |[]=>[]
 |x::r=>(x.1++pc,x.2)::underX pc r
theorem underX_ok {ρ:List AV}{pc:Pc}:∀{l xs:List (Pc×Tm)},(Pc.holds ρ pc→ExL ρ l)→ExL ρ xs→ExL ρ (underX pc l++xs)
 |[],xs,_,h=>h
 |x::r,xs,h,k=>⟨fun hp=>(h (holds_r hp)).1 (holds_l hp),underX_ok (fun hp=>(h hp).2) k⟩
def mkXs (pc:Pc):List Tm→List (Pc×Tm)
 |[]=>[]
 |t::r=>mkX pc t::mkXs pc r
theorem mkXs_ok {ρ:List AV}{pc:Pc}:∀{l:List Tm} {xs:List (Pc×Tm)},(Pc.holds ρ pc→AllT ρ l)→ExL ρ xs→ExL ρ (mkXs pc l++xs)
 |[],xs,_,h=>h
 |t::r,xs,h,k=>⟨mkX_ok fun hp=>(h hp).1,mkXs_ok (fun hp=>(h hp).2) k⟩
def sideX (F:Pc)(T:SpT)(xs:List (Pc×Tm)):Pc→Side→List (Pc×Tm)
 |pc,.under pc' s=>sideX F T xs (pc'++pc) s
 |pc,s=>match spS T s with
  |none=>underX pc (lenF s)++xs
  |some (sp,l,l2)=>match sp.post with
   |[]=>xs
   |post=>match sbL l sp.bnd with
    |none=>xs
    |some b=>bif proveL (facts F xs pc) b then (match sbL l2 post with|some q=>mkXs pc q++xs|none=>xs) else xs
def WkL (P:Program)(T:SpT)(ρ:List AV):List (Pc×Side)→Prop
 |[]=>True
 |x::r=>(Pc.holds ρ x.1→x.2.wk P T ρ)∧WkL P T ρ r
def chkSd (F:Pc)(T:SpT)(xs:List (Pc×Tm)):List (Pc×Side)→Bool
 |[]=>true
 |x::r=>chkS F T xs x.1 x.2&&chkSd F T (sideX F T xs x.1 x.2) r
def sdX (F:Pc)(T:SpT)(xs:List (Pc×Tm)):List (Pc×Side)→List (Pc×Tm)
 |[]=>xs
 |x::r=>sdX F T (sideX F T xs x.1 x.2) r
theorem lenF_ok {P:Program}{ρ:List AV}{s:Side}(h:s.holds P ρ):ExL ρ (lenF s):=by
 have eq:∀{a b:Tm},(a.den ρ).I=(b.den ρ).I→((tEq a b).den ρ).B=true:=fun h=>by
  show iEq _ _=true
  exact iEq_t.2 h
 have rl:∀{t:Tm},((Tm.rlen t).den ρ).I=((t.den ρ).R.length:Int):=rfl
 have nat:∀{n:Nat},((tNat n).den ρ).I=(n:Int):=by intro n;unfold tNat;rw [fNat_eq];rfl
 have add:∀{a b:Tm},((tAdd a b).den ρ).I=iAdd .i64 (a.den ρ).I (b.den ρ).I:=rfl
 cases s<;>try exact trivial
 case st t i off cells n=>
  obtain ⟨row,-,-,h3⟩:=h
  exact ⟨fun _=>eq (by rw [rl,rl,h3];simp),trivial⟩
 case mk len cap z n=>
  obtain ⟨h1,-,-,h4⟩:=h
  exact ⟨fun _=>eq (by rw [rl,h4];simp;omega),trivial⟩
 case app sz x y n=>
  obtain ⟨-,h2,h3⟩:=h
  refine ⟨fun _=>eq ?_,trivial⟩
  rw [rl,h3,add,rl,nat,iAddC (by omega) (by omega)]
  simp [denLL_length]
 case app2 sz x y n=>
  obtain ⟨-,-,h2,h3⟩:=h
  refine ⟨fun _=>eq ?_,trivial⟩
  rw [rl,h3,add,rl,rl,iAddC (by omega) (by omega)]
  simp
 case appc sz x y n=>
  obtain ⟨h2,h3⟩:=h
  refine ⟨fun _=>eq ?_,trivial⟩
  rw [rl,h3,add,rl,nat,iAddC (by omega) (by omega)]
  simp [denLL_length];omega
 case cpy x len y n=>
  obtain ⟨h1,h2⟩:=h
  refine ⟨fun _=>eq ?_,trivial⟩
  rw [rl,rl,h2]
  simp only [List.length_append,List.length_take,List.length_drop];omega
 case mark m t d len n=>
  obtain ⟨-,-,h3,-⟩:=h
  exact ⟨fun _=>eq (by rw [rl,rl,h3]),trivial⟩
 case sub sz t lo hi n=>
  obtain ⟨-,h1,h2,h3,h4⟩:=h
  have hl:=congrArg List.length h4
  rw [List.length_take,List.length_drop] at hl
  have bigH:Pc.holds ρ [(tLe (.rlen t) (.li big),true)]→((t.den ρ).R.length:Int)≤4294967296:=fun hp=>by
   have:=hp (_,true) (List.mem_cons_self ..)
   have q:lLen (t.den ρ).R≤big:=of_decide_eq_true this
   unfold lLen big at q;exact q
  have le:((tLe (.rlen n) (.rlen t)).den ρ).B=true:=by
   show decide (lLen (n.den ρ).R≤lLen (t.den ρ).R)=true
   exact decide_eq_true (by unfold lLen;omega)
  cases lo with
  |none=>
   cases hi with
   |none=>
    have e1:oTm ρ 0 none=0:=rfl
    have e2:oTm ρ (t.den ρ).R.length none=(t.den ρ).R.length:=rfl
    rw [e1,e2] at hl
    exact ⟨fun _=>eq (by rw [rl,rl];omega),trivial⟩
   |some b=>
    have e1:oTm ρ 0 none=0:=rfl
    have e2:oTm ρ (t.den ρ).R.length (some b)=(b.den ρ).I:=rfl
    rw [e1,e2] at hl;rw [e2] at h3;rw [e1,e2] at h2
    exact ⟨fun _=>eq (by rw [rl];omega),trivial⟩
  |some a=>
   have e1:oTm ρ 0 (some a)=(a.den ρ).I:=rfl
   rw [e1] at h1
   cases hi with
   |none=>
    have e2:oTm ρ (t.den ρ).R.length none=(t.den ρ).R.length:=rfl
    rw [e1,e2] at h2;rw [e1,e2] at hl
    refine ⟨fun _=>le,fun hp=>eq ?_,trivial⟩
    have hb:=bigH hp
    show _=iSub .i64 (lLen (t.den ρ).R) (a.den ρ).I
    unfold lLen
    rw [rl,iSubC (by omega) (by omega)]
    omega
   |some b=>
    have e2:oTm ρ (t.den ρ).R.length (some b)=(b.den ρ).I:=rfl
    rw [e1,e2] at h2;rw [e1,e2] at hl;rw [e2] at h3
    refine ⟨fun _=>le,fun hp=>eq ?_,trivial⟩
    have hb:=bigH hp
    show _=iSub .i64 (b.den ρ).I (a.den ρ).I
    rw [rl,iSubC (by omega) (by omega)]
    omega
theorem denL_app1 {ρ:List AV}{a:List SV}{b:SV}:denL ρ (a++[b])=denL ρ a++[b.den ρ]:=by rw [denL_append];rfl
theorem chkS_ok {P:Program}{ρ:List AV}{F:Pc}{T:SpT}{xs:List (Pc×Tm)}(hF:Pc.holds ρ F)(hx:ExL ρ xs):∀{s:Side} {pc:Pc},chkS F T xs pc s=true→(Pc.holds ρ pc→s.wk P T ρ)→(Pc.holds ρ pc→s.holds P ρ)∧ExL ρ (sideX F T xs pc s):=by
 intro s
 have plain:∀{s:Side} {pc:Pc},(∀pc' s',s≠.under pc' s')→spS T s=none→(s.wk P T ρ↔(AllT ρ s.cnd→s.holds P ρ))→chkS F T xs pc s=true→(Pc.holds ρ pc→s.wk P T ρ)→(Pc.holds ρ pc→s.holds P ρ)∧ExL ρ (sideX F T xs pc s):=by
  intro s pc hu hs hwk h hw
  have hh:Pc.holds ρ pc→s.holds P ρ:=fun hp=>by
   refine hwk.1 (hw hp) ?_
   have h':(match condT T s with|none=>false|some []=>true|some l=>proveL (facts F xs pc) l)=true:=by
    cases s<;>first|exact h|exact absurd rfl (hu _ _)
   unfold condT at h'
   rw [hs] at h'
   dsimp only at h'
   split at h'
   ·cases h'
   ·rename_i e;simp only [Option.some.injEq] at e;rw [e];trivial
   ·rename_i l _ e;simp only [Option.some.injEq] at e;rw [e];exact proveL_ok h' (facts_ok hF hx hp)
  have e:sideX F T xs pc s=underX pc (lenF s)++xs:=by
   cases s<;>first|exact absurd rfl (hu _ _)|(simp only [sideX,hs])
  rw [e]
  exact ⟨hh,underX_ok (fun hp=>lenF_ok (hh hp)) hx⟩
 have calls:∀{s:Side} {pc:Pc} {sp:Sp} {l l2:List SV} {A:Prop},spS T s=some (sp,l,l2)→(∀pc' s',s≠.under pc' s')→(s.wk P T ρ→AllT ρ s.osE→AllT (denL ρ l) sp.pre→s.holds P ρ∧(AllT (denL ρ l) sp.bnd→AllT (denL ρ l2) sp.post))→chkS F T xs pc s=true→(Pc.holds ρ pc→s.wk P T ρ)→(Pc.holds ρ pc→s.holds P ρ)∧ExL ρ (sideX F T xs pc s):=by
  intro s pc sp l l2 A hs hu hwk h hw
  have hpre:Pc.holds ρ pc→AllT ρ s.osE∧AllT (denL ρ l) sp.pre:=fun hp=>by
   have h':(match condT T s with|none=>false|some []=>true|some l=>proveL (facts F xs pc) l)=true:=by
    cases s<;>first|exact h|exact absurd rfl (hu _ _)
   have h2:∃l',condT T s=some l'∧AllT ρ l':=by
    split at h'
    ·cases h'
    ·rename_i e;exact ⟨_,e,trivial⟩
    ·rename_i l' _ e;exact ⟨_,e,proveL_ok h' (facts_ok hF hx hp)⟩
   obtain ⟨l',e,hl'⟩:=h2
   unfold condT at e
   rw [hs] at e
   dsimp only at e
   split at e
   ·rename_i ep
    simp only [Option.some.injEq] at e;subst e
    rw [ep];exact ⟨hl',trivial⟩
   ·split at e
    ·rename_i q hq
     simp only [Option.some.injEq] at e;subst e
     exact ⟨(AllT.app hl').2,(sbL_ok hq).1 (AllT.app hl').1⟩
    ·cases e
  refine ⟨fun hp=>(hwk (hw hp) (hpre hp).1 (hpre hp).2).1,?_⟩
  have e:sideX F T xs pc s=(match sp.post with
   |[]=>xs
   |post=>match sbL l sp.bnd with
    |none=>xs
    |some b=>bif proveL (facts F xs pc) b then (match sbL l2 post with|some q=>mkXs pc q++xs|none=>xs) else xs):=by
   cases s<;>first|exact absurd rfl (hu _ _)|(simp only [sideX,hs])
  rw [e]
  split
  ·exact hx
  ·split
   ·exact hx
   ·rename_i b hb
    cases hpv:proveL (facts F xs pc) b
    ·exact hx
    ·simp only [cond_true]
     split
     ·rename_i q hq
      refine mkXs_ok (fun hp=>?_) hx
      have h1:=(sbL_ok hb).1 (proveL_ok hpv (facts_ok hF hx hp))
      exact (sbL_ok hq).2 ((hwk (hw hp) (hpre hp).1 (hpre hp).2).2 h1)
     ·exact hx
 induction s with
 |under pc' s ih=>
  intro pc h hw
  obtain ⟨h1,h2⟩:=ih (pc:=pc'++pc) h (fun hp=>hw (holds_r hp) (holds_l hp))
  exact ⟨fun hp hp'=>h1 (holds_app hp' hp),h2⟩
 |call f args r=>
  intro pc h hw
  refine calls (A:=True) rfl (by intro _ _ e;cases e) (fun hk _ hp=>?_) h hw
  have:=hk hp
  exact ⟨this.1,fun hb=>by rw [denL_app1];exact this.2 hb⟩
 |callo f args r p sz fl=>
  intro pc h hw
  refine calls (A:=True) rfl (by intro _ _ e;cases e) (fun hk _ hp=>?_) h hw
  have:=hk.1 hp
  exact ⟨⟨this.1,hk.2⟩,fun hb=>by rw [denL_app1];exact this.2 hb⟩
 |callw f args bl n0 r bl'=>
  intro pc h hw
  cases hbo:blOk bl&&blOk bl'
  ·refine calls (A:=True) (sp:={T.atW f n0 with pre:=[.lb false]}) (l:=[]) (l2:=[]) (by simp only [spS,hbo,cond_false]) (by intro _ _ e;cases e) (fun hk ho hp=>?_) h hw
   exact absurd hp.1 (by simp [Tm.den,D.B])
  have ho1:=hbo
  rw [Bool.and_eq_true] at ho1
  refine calls (A:=True) (sp:=T.atW f n0) (l:=args++blSV bl) (l2:=args++blSV bl++(r::blSV bl')) (by simp only [spS,hbo,cond_true]) (by intro _ _ e;cases e) (fun hk ho hp=>?_) h hw
  rw [denL_append,blSV_den ho1.1] at hp
  have:=hk ho hp
  refine ⟨this.1,fun hb=>?_⟩
  rw [denL_append,blSV_den ho1.1] at hb
  have q:=this.2 hb
  rw [denL_append,denL_append,blSV_den ho1.1]
  show AllT (_++(r.den ρ::denL ρ (blSV bl'))) _
  rw [blSV_den ho1.2];exact q
 |_=>intro pc h hw;exact plain (by intro _ _ e;cases e) rfl Iff.rfl h hw
theorem chkSd_ok {P:Program}{ρ:List AV}{F:Pc}{T:SpT}(hF:Pc.holds ρ F):∀{sd:List (Pc×Side)} {xs:List (Pc×Tm)},ExL ρ xs→chkSd F T xs sd=true→WkL P T ρ sd→SidesC P ρ sd∧ExL ρ (sdX F T xs sd)
 |[],xs,hx,_,_=>⟨trivial,hx⟩
 |x::r,xs,hx,h,hw=>by
  simp only [chkSd,Bool.and_eq_true] at h
  obtain ⟨h1,h2⟩:=chkS_ok hF hx h.1 hw.1
  obtain ⟨h3,h4⟩:=chkSd_ok hF h2 h.2 hw.2
  exact ⟨⟨h1,h3⟩,h4⟩
inductive LH where
 |mk (inv:List Tm) (mt:Tm) (ft:List (Tm×Int)) (xs:List (Pc×Tm)) (at':Nat) (sub:List LH) (post:List (List Tm))
def LH.inv : LH→List Tm | .mk a _ _ _ _ _ _=>a
def LH.mt : LH→Tm | .mk _ a _ _ _ _ _=>a
def Tm.isNl : Tm→Bool | .nl=>true|_=>false
def LH.ft : LH→List (Tm×Int) | .mk _ _ a _ _ _ _=>a
def LH.xs : LH→List (Pc×Tm) | .mk _ _ _ a _ _ _=>a
def LH.at' : LH→Nat | .mk _ _ _ _ a _ _=>a
def LH.sub : LH→List LH | .mk _ _ _ _ _ a _=>a
def LH.post : LH→List (List Tm) | .mk _ _ _ _ _ _ a=>a
def lh0 : LH:=.mk [] (.li 0) [] [] 0 [] []
def hdH : List LH→LH | []=>lh0|x::_=>x
def tlH : List LH→List LH | []=>[]|_::r=>r
def ftV (ρ:List AV):List (Tm×Int)→Int
 |[]=>0
 |x::r=>x.2*(x.1.den ρ).I+ftV ρ r
def ftL (ks:Pc):List (Tm×Int)→List Tm→List LF→LR
 |[],az,fs=>⟨az,fs,[]⟩
 |x::r,az,fs=>match lin ks x.1 az fs with
  |⟨as1,fs1,f1⟩=>match ftL ks r as1 fs1 with
   |⟨as2,fs2,f2⟩=>⟨as2,fs2,addL (scl x.2 f1) f2⟩
theorem ftL_ok {ρ:List AV}{ks:Pc}(hk:ks.holds ρ):∀{l:List (Tm×Int)} {az:List Tm} {fs:List LF},PosL ρ az fs→LROk ρ az (ftL ks l az fs) (ftV ρ l)
 |[],az,fs,h=>⟨List.prefix_refl _,h,fun bs hb=>rfl⟩
 |x::r,az,fs,h=>by
  obtain ⟨a1,a2,a3⟩:=lin_ok hk (t:=x.1) h
  obtain ⟨b1,b2,b3⟩:=ftL_ok hk (l:=r) (az:=(lin ks x.1 az fs).az) (fs:=(lin ks x.1 az fs).fs) a2
  exact ⟨a1.trans b1,b2,(a3.mono b1).scl.add b3⟩
def ftOk0 (F:Pc)(s:AS)(mt:Tm)(ft:List (Tm×Int)):Bool:=
 match s with
 |⟨az,fs⟩=>match lin F mt az fs with
  |⟨as1,fs1,f1⟩=>match ftL F ft as1 fs1 with
   |⟨_,fs2,f2⟩=>prv1 fs2 (Go.Fw.subL f2 f1)
theorem ftOk0_ok {ρ:List AV}{F:Pc}{mt:Tm}{ft:List (Tm×Int)}{s:AS}(h0:ASOk ρ s)(h:ftOk0 F s mt ft=true)(hF:F.holds ρ):(mt.den ρ).I≤ftV ρ ft:=by
 unfold ftOk0 at h
 obtain ⟨a1,a2,a3⟩:=lin_ok hF (t:=mt) h0
 obtain ⟨b1,b2,b3⟩:=ftL_ok hF (l:=ft) a2
 have q:=prv1_pos b2 h _ (List.prefix_refl _)
 rw [subL_ev,(a3.mono b1) _ (List.prefix_refl _),b3 _ (List.prefix_refl _)] at q
 omega
def ftOk1 (F:Pc)(mt:Tm)(ft:List (Tm×Int)):Bool:=ftOk0 F (asF F) mt ft
def ftOk : Nat→Pc→Tm→List (Tm×Int)→Bool
 |0,F,mt,ft=>ftOk1 F mt ft
 |n+1,F,mt,ft=>ftOk1 F mt ft||(match iteOpen F ((mt,true)::F) with
  |none=>false
  |some c=>ftOk n ((c,true)::F) mt ft&&ftOk n ((c,false)::F) mt ft)
theorem ftOk1_ok {ρ:List AV}{F:Pc}{mt:Tm}{ft:List (Tm×Int)}(h:ftOk1 F mt ft=true)(hF:F.holds ρ):(mt.den ρ).I≤ftV ρ ft:=ftOk0_ok (asF_ok hF) h hF
theorem ftOk_ok {ρ:List AV}{mt:Tm}{ft:List (Tm×Int)}:∀{n:Nat} {F:Pc},ftOk n F mt ft=true→F.holds ρ→(mt.den ρ).I≤ftV ρ ft
 |0,F,h,hF=>ftOk1_ok h hF
 |n+1,F,h,hF=>by
  simp only [ftOk,Bool.or_eq_true] at h
  rcases h with h|h
  ·exact ftOk1_ok h hF
  ·split at h
   ·cases h
   ·rename_i c _
    rw [Bool.and_eq_true] at h
    cases hc:(c.den ρ).B
    ·exact ftOk_ok h.2 (Pc.holds_cons hc hF)
    ·exact ftOk_ok h.1 (Pc.holds_cons hc hF)
def Tm.ren (f:Nat→Nat):Tm→Tm
 | .var i p=>fNat (f i) fun j=>.var j p
 | .bin o k x y=>.bin o k (x.ren f) (y.ren f)
 | .and x y=>.and (x.ren f) (y.ren f)
 | .or x y=>.or (x.ren f) (y.ren f)
 | .byte x y=>.byte (x.ren f) (y.ren f)
 | .not x=>.not (x.ren f)
 | .neg k x=>.neg k (x.ren f)
 | .com k x=>.com k (x.ren f)
 | .conv k x=>.conv k (x.ren f)
 | .toF x=>.toF (x.ren f)
 | .toI x=>.toI (x.ren f)
 | .slen x=>.slen (x.ren f)
 | .rlen x=>.rlen (x.ren f)
 | .bts x=>.bts (x.ren f)
 | .rdrop n x=>.rdrop n (x.ren f)
 | .sbs x=>.sbs (x.ren f)
 | .ite c x y=>.ite (c.ren f) (x.ren f) (y.ren f)
 | .ssub c x y=>.ssub (c.ren f) (x.ren f) (y.ren f)
 |t=>t
theorem Tm.ren_den {f:Nat→Nat}{n:Nat}{ρ σ:List AV}(h:∀i,i<n→ρ.getD (f i) undefA=σ.getD i undefA):∀{t:Tm},t.lt n=true→(t.ren f).den ρ=t.den σ:=by
 intro t
 induction t with
 |lb|li|lf|ls|nl=>intro _;rfl
 |var i p=>intro hl;simp only [Tm.ren,fNat_eq,Tm.den];rw [h i (Nat.le_of_ble_eq_true hl)]
 |bin o k x y ihx ihy=>intro hl;simp only [Tm.lt,Bool.and_eq_true] at hl;simp only [Tm.ren,Tm.den,ihx hl.1,ihy hl.2]
 |and x y ihx ihy=>intro hl;simp only [Tm.lt,Bool.and_eq_true] at hl;simp only [Tm.ren,Tm.den,ihx hl.1,ihy hl.2]
 |or x y ihx ihy=>intro hl;simp only [Tm.lt,Bool.and_eq_true] at hl;simp only [Tm.ren,Tm.den,ihx hl.1,ihy hl.2]
 |byte x y ihx ihy=>intro hl;simp only [Tm.lt,Bool.and_eq_true] at hl;simp only [Tm.ren,Tm.den,ihx hl.1,ihy hl.2]
 |ite c x y ihc ihx ihy=>intro hl;simp only [Tm.lt,Bool.and_eq_true] at hl;simp only [Tm.ren,Tm.den,ihc hl.1,ihx hl.2.1,ihy hl.2.2]
 |ssub c x y ihc ihx ihy=>intro hl;simp only [Tm.lt,Bool.and_eq_true] at hl;simp only [Tm.ren,Tm.den,ihc hl.1,ihx hl.2.1,ihy hl.2.2]
 |not x ih=>intro hl;simp only [Tm.ren,Tm.den,ih hl]
 |neg k x ih=>intro hl;simp only [Tm.ren,Tm.den,ih hl]
 |com k x ih=>intro hl;simp only [Tm.ren,Tm.den,ih hl]
 |conv k x ih=>intro hl;simp only [Tm.ren,Tm.den,ih hl]
 |toF x ih=>intro hl;simp only [Tm.ren,Tm.den,ih hl]
 |toI x ih=>intro hl;simp only [Tm.ren,Tm.den,ih hl]
 |slen x ih=>intro hl;simp only [Tm.ren,Tm.den,ih hl]
 |rlen x ih=>intro hl;simp only [Tm.ren,Tm.den,ih hl]
 |bts x ih=>intro hl;simp only [Tm.ren,Tm.den,ih hl]
 |rdrop k x ih=>intro hl;simp only [Tm.ren,Tm.den,ih hl]
 |sbs x ih=>intro hl;simp only [Tm.ren,Tm.den,ih hl]
def shf (base pos i:Nat):Nat:=bif Nat.blt i base then i else i-base+pos
def postK (base:Nat)(pos n:Nat)(pc:Pc):List Tm→List (Pc×Tm)
 |[]=>[]
 |t::r=>bif t.lt (base+n) then (pc,t.ren (shf base pos))::postK base pos n pc r else postK base pos n pc r
def nthP : List (List Tm)→Nat→List Tm
 |[],_=>[]
 |x::_,0=>x
 |_::r,k+1=>nthP r k
def selP (base:Nat)(ms:List Nat)(k:Nat):Pc:=match ms with
 |[_,_]=>match k with
  |0=>[(.bin .eql (.int .i64) (.var base []) (.li 0),true)]
  |_=>[(.bin .eql (.int .i64) (.var base []) (.li 0),false)]
 |_=>[]
def bnF : List Tm→Pc
 |[]=>[]
 |t::r=>(tLe (.rlen t) (.li big),true)::bnF r
theorem bnF_ok {ρ:List AV}:∀{bn:List Tm},(∀t∈bn,(t.den ρ).R.length≤4294967296)→Pc.holds ρ (bnF bn)
 |[],_=>fun x hx=>by cases hx
 |t::r,h=>Pc.holds_cons (by
  have:=h t (List.mem_cons_self ..)
  show decide (lLen (t.den ρ).R≤big)=true
  exact decide_eq_true (by unfold lLen big;omega)) (bnF_ok fun x hx=>h x (List.mem_cons_of_mem _ hx))
def LenOk (outs:List (Tm×Nat×List SV))(ms:List Nat):Bool:=outs.all fun o=>match o.2.1 with
 |0=>true
 |k+1=>Nat.ble (k+1) ms.length&&Nat.ble (ms.getD k 0) o.2.2.length
def bnC (F:Pc)(xs:List (Pc×Tm))(pc:Pc)(bn:List Tm):Pc:=
 bif (let F':=facts F xs pc;bn.all fun t=>prove 1 F' (tLe (.rlen t) (.li big))) then pc else bnF bn++pc
def postX (F:Pc)(xs:List (Pc×Tm)):Lo→LH→List (Pc×Tm)
 | .mk pc base _ _ outs _ _ ms bn,h=>match h.post with
  |[]=>xs
  |p=>bif LenOk outs ms then match ms with
    |[n]=>let c:=bnC F xs pc bn;postK base (posOf base ms 0) n (selP base ms 0++c) (nthP p 0)++xs
    |[n,n']=>let c:=bnC F xs pc bn;postK base (posOf base ms 0) n (selP base ms 0++c) (nthP p 0)++(postK base (posOf base ms 1) n' (selP base ms 1++c) (nthP p 1)++xs)
    |_=>xs
   else xs
def RunP (e:Bool)(S:List AV→Prop)(outs:List (Tm×Nat×List SV))(ρ0:List AV)(m:Nat):Nat→List AV→Nat→List AV→Prop
 |0,_,_,_=>e=false
 |n+1,vs,k,us=>∃cs,vs.length=m∧fzL (ρ0++vs++cs)=true∧S (ρ0++vs++cs)∧
  match selK (ρ0++vs++cs) outs with
  |none=>False
  |some (0,l)=>RunP e S outs ρ0 m n (denL (ρ0++vs++cs) l) k us
  |some (j+1,l)=>k=j∧us=denL (ρ0++vs++cs) l
 mutual
def Lo.wk (P:Program)(T:SpT):Lo→LH→List AV→Prop
  | .mk pc base m entry outs sd aw ms bn,h=>fun ρ=>Pc.holds ρ pc→(∀t∈bn,(t.den ρ).R.length≤4294967296)→base≤ρ.length∧∃(n k:Nat) (us:List AV),(0<n∧ftV ρ h.ft<(n:Int))∧
   RunP h.mt.isNl (fun σ=>ExL σ h.xs∧WkL P T σ sd∧LoW P T aw h.sub σ) outs (ρ.take base) m n (denL ρ entry) k us∧ResK ρ base ms k us
def LoW (P:Program)(T:SpT):List Lo→List LH→List AV→Prop
  |[],_=>fun _=>True
  |x::r,hs=>fun σ=>x.wk P T (hdH hs) σ∧LoW P T r (tlH hs) σ
end
def subOk (base:Nat)(l:List SV)(F:Pc)(t:Tm):Bool:=match substE base l .B t with
 |some t'=>prove 2 F t'
 |none=>false
theorem subOk_ok {ρ:List AV}{base:Nat}{l:List SV}(hb:base≤ρ.length){F:Pc}{t:Tm}(h:subOk base l F t=true)(hF:Pc.holds ρ F):(t.den (ρ.take base++denL ρ l)).B=true:=by
 unfold subOk at h
 split at h
 ·rename_i t' ht
  have h1:=prove_ok h hF
  have h2:=substE_ok hb ht
  simp only [SimE] at h2
  rw [← h2];exact h1
 ·cases h
def chkQ (F:Pc)(xs:List (Pc×Tm))(q:List Tm)(Q:Pc):Nat→Pc→Bool
 |0,G=>proveL (facts F xs G) q
 |n+1,G=>match iteOpen (facts F xs G) Q with
  |none=>proveL (facts F xs G) q
  |some c=>chkQ F xs q Q n (addPc c true G)&&chkQ F xs q Q n (addPc c false G)
theorem chkQ_ok {ρ:List AV}{F:Pc}{xs:List (Pc×Tm)}{q:List Tm}{Q:Pc}(hF:Pc.holds ρ F)(hx:ExL ρ xs):∀{n:Nat} {G:Pc},chkQ F xs q Q n G=true→Pc.holds ρ G→AllT ρ q
 |0,G,h,hG=>proveL_ok h (facts_ok hF hx hG)
 |n+1,G,h,hG=>by
  simp only [chkQ] at h
  split at h
  ·exact proveL_ok h (facts_ok hF hx hG)
  ·rename_i c _
   rw [Bool.and_eq_true] at h
   cases hc:(c.den ρ).B
   ·exact chkQ_ok hF hx h.2 (addPc_holds hc hG)
   ·exact chkQ_ok hF hx h.1 (addPc_holds hc hG)
def splQ (F:Pc)(xs:List (Pc×Tm))(t:Tm)(G:Pc):Bool:=match iteOpen (facts F xs G) [(t,true)] with
 |none=>false
 |some c=>chkQ F xs [t] [(t,true)] 3 (cloP (addPc c true G))&&chkQ F xs [t] [(t,true)] 3 (cloP (addPc c false G))
theorem splQ_ok {ρ:List AV}{F:Pc}{xs:List (Pc×Tm)}{t:Tm}{G:Pc}(hF:Pc.holds ρ F)(hx:ExL ρ xs)(h:splQ F xs t G=true)(hG:Pc.holds ρ G):(t.den ρ).B=true:=by
 unfold splQ at h
 split at h
 ·cases h
 ·rename_i c _
  rw [Bool.and_eq_true] at h
  cases hc:(c.den ρ).B
  ·exact (chkQ_ok hF hx h.2 (cloP_ok (addPc_holds hc hG))).1
  ·exact (chkQ_ok hF hx h.1 (cloP_ok (addPc_holds hc hG))).1
def subQ (base:Nat)(l:List SV)(F:Pc)(xs:List (Pc×Tm))(G:Pc)(t:Tm):Bool:=match substE base l .B t with
 |some t'=>prove 2 (facts F xs G) t'||splQ F xs t' G
 |none=>false
theorem subQ_ok {ρ:List AV}{base:Nat}{l:List SV}(hb:base≤ρ.length){F:Pc}{xs:List (Pc×Tm)}{G:Pc}{t:Tm}(hF:Pc.holds ρ F)(hx:ExL ρ xs)(h:subQ base l F xs G t=true)(hG:Pc.holds ρ G):(t.den (ρ.take base++denL ρ l)).B=true:=by
 unfold subQ at h
 split at h
 ·rename_i t' ht
  have h2:=substE_ok hb ht
  simp only [SimE] at h2
  rw [← h2]
  rw [Bool.or_eq_true] at h
  rcases h with h|h
  ·exact prove_ok h (facts_ok hF hx hG)
  ·exact splQ_ok hF hx h hG
 ·cases h
def chkO1 (base:Nat)(inv:List Tm)(mt:Tm)(post:List (List Tm))(F:Pc)(xs:List (Pc×Tm))(G:Pc)(k:Nat)(l:List SV):Bool:=
 match k with
 |0=>
  let F':=facts F xs G
  inv.all (subQ base l F xs G)&&(mt.isNl||(prove 2 F' (tLe (.li 1) mt)&&(match substE base l .I mt with|some mt'=>prove 2 F' (tLt mt' mt)|none=>false)))
 |k+1=>match nthP post k with
  |[]=>true
  |p=>p.all (subQ base l F xs G)
def chkO (base:Nat)(inv:List Tm)(mt:Tm)(post:List (List Tm))(F:Pc)(xs:List (Pc×Tm)):Pc→List (Tm×Nat×List SV)→Bool
 |_,[]=>true
 |G,[o]=>chkO1 base inv mt post F xs G o.2.1 o.2.2
 |G,o::o'::r=>chkO1 base inv mt post F xs (addPc o.1 true G) o.2.1 o.2.2&&chkO base inv mt post F xs (addPc o.1 false G) (o'::r)
def OutOk (base:Nat)(inv:List Tm)(mt:Tm)(post:List (List Tm))(ρ:List AV)(k:Nat)(l:List SV):Prop:=match k with
 |0=>(∀t∈inv,(t.den (ρ.take base++denL ρ l)).B=true)∧(mt.isNl=true∨(1≤(mt.den ρ).I∧(mt.den (ρ.take base++denL ρ l)).I<(mt.den ρ).I))
 |k+1=>∀t∈nthP post k,(t.den (ρ.take base++denL ρ l)).B=true
theorem chkO1_ok {ρ:List AV}{base:Nat}{inv:List Tm}{mt:Tm}{post:List (List Tm)}{F:Pc}{xs:List (Pc×Tm)}{G:Pc}{k:Nat}{l:List SV}(hb:base≤ρ.length)(h:chkO1 base inv mt post F xs G k l=true)(hF:Pc.holds ρ F)(hx:ExL ρ xs)(hG:Pc.holds ρ G):OutOk base inv mt post ρ k l:=by
 have hF':=facts_ok hF hx hG
 cases k with
 |zero=>
  simp only [chkO1,Bool.and_eq_true,Bool.or_eq_true] at h
  obtain ⟨h1,h23⟩:=h
  rw [List.all_eq_true] at h1
  refine ⟨fun t ht=>subQ_ok hb hF hx (h1 t ht) hG,?_⟩
  rcases h23 with h23|⟨h2,h3⟩
  ·exact .inl h23
  refine .inr ⟨?_,?_⟩
  ·exact of_decide_eq_true (p:=(1:Int)≤(mt.den ρ).I) (prove_ok h2 hF')
  ·split at h3
   ·rename_i mt' hm
    have q:=substE_ok hb hm
    simp only [SimE] at q
    rw [← q]
    exact of_decide_eq_true (p:=(mt'.den ρ).I<(mt.den ρ).I) (prove_ok h3 hF')
   ·cases h3
 |succ k=>
  simp only [chkO1] at h
  intro t ht
  split at h
  ·rename_i e;rw [e] at ht;cases ht
  ·rw [List.all_eq_true] at h
   exact subQ_ok hb hF hx (h t ht) hG
theorem chkO_ok {ρ:List AV}{base:Nat}{inv:List Tm}{mt:Tm}{post:List (List Tm)}{F:Pc}{xs:List (Pc×Tm)}(hb:base≤ρ.length)(hF:Pc.holds ρ F)(hx:ExL ρ xs):∀{outs:List (Tm×Nat×List SV)} {G:Pc} {k:Nat} {l:List SV},chkO base inv mt post F xs G outs=true→Pc.holds ρ G→selK ρ outs=some (k,l)→OutOk base inv mt post ρ k l
 |[],G,k,l,_,_,hs=>by simp [selK] at hs
 |[o],G,k,l,h,hG,hs=>by
  simp only [selK,Option.some.injEq] at hs
  simp only [chkO,hs] at h
  exact chkO1_ok hb h hF hx hG
 |o::o'::r,G,k,l,h,hG,hs=>by
  simp only [chkO,Bool.and_eq_true] at h
  simp only [selK] at hs
  cases hg:(o.1.den ρ).B
  ·rw [hg] at hs
   exact chkO_ok hb hF hx h.2 (addPc_holds hg hG) hs
  ·rw [hg] at hs
   simp only [cond_true,Option.some.injEq] at hs
   rw [hs] at h
   exact chkO1_ok hb h.1 hF hx (addPc_holds hg hG)
def ltPc (n:Nat):Pc→Pc
 |[]=>[]
 |x::r=>bif x.1.lt n then x::ltPc n r else ltPc n r
theorem ltPc_ok {n:Nat}{ρ σ:List AV}(h:AgreeV n ρ σ):∀{pc:Pc},pc.holds ρ→(ltPc n pc).holds σ
 |[],_=>fun x hx=>by cases hx
 |x::r,hp=>by
  have ih:=ltPc_ok h (pc:=r) fun y hy=>hp y (List.mem_cons_of_mem _ hy)
  simp only [ltPc]
  cases hl:x.1.lt n
  ·exact ih
  ·exact Pc.holds_cons (by rw [← Tm.lt_den h hl];exact hp x (List.mem_cons_self ..)) ih
def trueAll (l:List Tm):Pc:=l.map fun t=>(t,true)
theorem trueAll_ok {ρ:List AV}{l:List Tm}(h:∀t∈l,(t.den ρ).B=true):Pc.holds ρ (trueAll l):=fun x hx=>by
 unfold trueAll at hx
 obtain ⟨t,ht,rfl⟩:=List.mem_map.1 hx
 exact h t ht
def allX (F:Pc)(T:SpT):List (Pc×Side)→Nat→List Lo→List LH→List (Pc×Tm)→List (Pc×Tm)
 |sd,_,[],_,xs=>sdX F T xs sd
 |sd,k,x::r,hs,xs=>allX F T (sd.drop ((hdH hs).at' - k)) (hdH hs).at' r (tlH hs) (postX F (sdX F T xs (sd.take ((hdH hs).at' - k))) x (hdH hs))
 mutual
def chkLo (F:Pc)(T:SpT)(xs:List (Pc×Tm)):Lo→LH→Bool
  | .mk pc base m entry outs sd aw ms bn,h=>
   let F0:=facts (bnF bn++F) xs pc
   let Fr:=trueAll h.inv++ltPc base F0
   (h.mt.lt (base+m)&&h.inv.all fun t=>t.lt (base+m))&&((h.mt.isNl||match substE base entry .I h.mt with|some mt'=>ftOk 2 F0 mt' h.ft|none=>false)&&h.inv.all (subOk base entry F0)&&(chkA Fr T sd 0 aw h.sub h.xs&&chkO base h.inv h.mt h.post Fr (allX Fr T sd 0 aw h.sub h.xs) [] outs))
def chkA (F:Pc)(T:SpT):List (Pc×Side)→Nat→List Lo→List LH→List (Pc×Tm)→Bool
  |sd,_,[],_,xs=>chkSd F T xs sd
  |sd,k,x::r,hs,xs=>
   let n:=(hdH hs).at' - k
   chkSd F T xs (sd.take n)&&(let xs1:=sdX F T xs (sd.take n);chkLo F T xs1 x (hdH hs)&&chkA F T (sd.drop n) (hdH hs).at' r (tlH hs) (postX F xs1 x (hdH hs)))
end
theorem agree_app {n:Nat}{a b:List AV}(h:n≤a.length):AgreeV n a (a++b):=fun i hi=>by
 rw [List.getD_eq_getElem?_getD,List.getD_eq_getElem?_getD,List.getElem?_append_left (by omega)]
theorem run_up {S' S:List AV→Prop}{outs:List (Tm×Nat×List SV)}{ρ0:List AV}{base m:Nat}{inv:List Tm}{mt:Tm}{post:List (List Tm)}{Fb:Pc}{xs:List (Pc×Tm)}(hl0:ρ0.length=base)
  (hlt:(mt.lt (base+m)&&inv.all fun t=>t.lt (base+m))=true)
  (hFb:∀σ,AgreeV base ρ0 σ→Pc.holds σ Fb)
  (hS:∀σ,Pc.holds σ (trueAll inv++Fb)→S' σ→S σ∧ExL σ xs)
  (ho:chkO base inv mt post (trueAll inv++Fb) xs [] outs=true):∀{n:Nat} {vs:List AV} {k:Nat} {us:List AV},(mt.isNl=true∨0<n)→(∀t∈inv,(t.den (ρ0++vs)).B=true)→(mt.isNl=true∨(mt.den (ρ0++vs)).I<(n:Int))→RunP mt.isNl S' outs ρ0 m n vs k us→RunN S outs ρ0 m n vs k us∧∀t∈nthP post k,(t.den (ρ0++us)).B=true
 |0,_,_,_,h0,_,_,hr=>by
  rcases h0 with h0|h0
  ·have hr':mt.isNl=false:=hr
   rw [h0] at hr';cases hr'
  ·exact absurd h0 (Nat.lt_irrefl _)
 |n+1,vs,k,us,_,hi,hm,hr=>by
  obtain ⟨cs,h1,h2,h3,h4⟩:=hr
  rw [Bool.and_eq_true,List.all_eq_true] at hlt
  have hag:AgreeV (base+m) (ρ0++vs) (ρ0++vs++cs):=agree_app (by rw [List.length_append];omega)
  have hF:Pc.holds (ρ0++vs++cs) (trueAll inv++Fb):=holds_app (trueAll_ok fun t ht=>by rw [← Tm.lt_den hag (hlt.2 t ht)];exact hi t ht) (hFb _ (by rw [List.append_assoc];exact agree_app (by omega)))
  have hb:base≤(ρ0++vs++cs).length:=by simp only [List.length_append];omega
  have ht:(ρ0++vs++cs).take base=ρ0:=by rw [List.append_assoc,← hl0,List.take_left]
  have hX:=hS _ hF h3
  split at h4
  ·exact h4.elim
  ·rename_i l hsel
   have q:=chkO_ok hb hF hX.2 ho (fun x hx=>by cases hx) hsel
   simp only [OutOk] at q
   rw [ht] at q
   obtain ⟨q1,q23⟩:=q
   have hq:(mt.isNl=true∨0<n)∧(mt.isNl=true∨(mt.den (ρ0++denL (ρ0++vs++cs) l)).I<(n:Int)):=by
    rcases q23 with q|⟨q2,q3⟩
    ·exact ⟨.inl q,.inl q⟩
    ·rw [← Tm.lt_den hag hlt.1] at q2 q3
     rcases hm with hm|hm
     ·exact ⟨.inl hm,.inl hm⟩
     ·exact ⟨.inr (by omega),.inr (by omega)⟩
   obtain ⟨z1,z2⟩:=run_up hl0 (by rw [Bool.and_eq_true,List.all_eq_true];exact hlt) hFb hS ho hq.1 q1 hq.2 h4
   exact ⟨⟨cs,h1,h2,hX.1,by rw [hsel];exact z1⟩,z2⟩
  ·rename_i j l hsel
   have q:=chkO_ok hb hF hX.2 ho (fun x hx=>by cases hx) hsel
   simp only [OutOk] at q
   rw [ht] at q
   obtain ⟨rfl,rfl⟩:=h4
   exact ⟨⟨cs,h1,h2,hX.1,by rw [hsel];exact ⟨rfl,rfl⟩⟩,q⟩
theorem postK_ok {ρ:List AV}{base pos n:Nat}{pc:Pc}{l:List Tm}(h:Pc.holds ρ pc→∀t:Tm,t.lt (base+n)=true→(t∈l→((t.ren (shf base pos)).den ρ).B=true)){xs:List (Pc×Tm)}(hx:ExL ρ xs):ExL ρ (postK base pos n pc l++xs):=by
 induction l with
 |nil=>exact hx
 |cons t r ih=>
  simp only [postK]
  have ih':=ih fun hp t' h1 h2=>h hp t' h1 (List.mem_cons_of_mem _ h2)
  cases hl:t.lt (base+n)
  ·exact ih'
  ·exact ⟨fun hp=>h hp t hl (List.mem_cons_self ..),ih'⟩
theorem ren_us {ρ us:List AV}{base pos:Nat}(hb:base≤ρ.length)(h:∀(i:Nat) (u:AV),us[i]?=some u→ρ.getD (pos+i) undefA=u){n:Nat}(hn:n≤us.length){t:Tm}(hl:t.lt (base+n)=true):(t.ren (shf base pos)).den ρ=t.den (ρ.take base++us):=by
 refine Tm.ren_den (n:=base+n) (fun i hi=>?_) hl
 unfold shf
 cases hlt:Nat.blt i base
 ·have hi':¬i<base:=fun q=>by rw [show Nat.blt i base=true by rw [Nat.blt_eq];exact q] at hlt;cases hlt
  have hl':(ρ.take base).length=base:=by rw [List.length_take];omega
  simp only [cond_false]
  have:i-base<us.length:=by omega
  have e:=h (i-base) us[i-base] (by simp [this])
  rw [Nat.add_comm,e,List.getD_eq_getElem?_getD,List.getElem?_append_right (by omega),hl']
  simp [this]
 ·rw [Nat.blt_eq] at hlt
  simp only [cond_true]
  exact (getD_tk hb hlt).symm
theorem selK_mem {ρ:List AV}:∀{outs:List (Tm×Nat×List SV)} {x:Nat×List SV},selK ρ outs=some x→∃o∈outs,o.2=x
 |[],_,h=>by simp [selK] at h
 |[o],x,h=>by simp only [selK,Option.some.injEq] at h;exact ⟨o,by simp,h⟩
 |o::o'::r,x,h=>by
  simp only [selK] at h
  cases hg:(o.1.den ρ).B
  ·rw [hg] at h
   obtain ⟨q,q1,q2⟩:=selK_mem h
   exact ⟨q,List.mem_cons_of_mem _ q1,q2⟩
  ·rw [hg] at h
   simp only [cond_true,Option.some.injEq] at h
   exact ⟨o,List.mem_cons_self ..,h⟩
theorem run_ms {S:List AV→Prop}{outs:List (Tm×Nat×List SV)}{ρ0:List AV}{m:Nat}{ms:List Nat}(hL:LenOk outs ms=true):∀{n:Nat} {vs:List AV} {k:Nat} {us:List AV},RunN S outs ρ0 m n vs k us→k<ms.length∧ms.getD k 0≤us.length
 |0,_,_,_,h=>h.elim
 |n+1,vs,k,us,h=>by
  obtain ⟨cs,h1,h2,h3,h4⟩:=h
  split at h4
  ·exact h4.elim
  ·exact run_ms hL h4
  ·rename_i j l hsel
   obtain ⟨rfl,rfl⟩:=h4
   obtain ⟨o,q1,q2⟩:=selK_mem hsel
   unfold LenOk at hL
   rw [List.all_eq_true] at hL
   have:=hL o q1
   rw [q2,Bool.and_eq_true] at this
   rw [denL_length]
   exact ⟨Nat.le_of_ble_eq_true this.1,Nat.le_of_ble_eq_true this.2⟩
theorem post1 {ρ:List AV}{base pos n:Nat}{pc:Pc}{l:List Tm}{xs:List (Pc×Tm)}(h:Pc.holds ρ pc→base≤ρ.length∧∃us:List AV,n≤us.length∧(∀(i:Nat) (u:AV),us[i]?=some u→ρ.getD (pos+i) undefA=u)∧∀t∈l,(t.den (ρ.take base++us)).B=true)(hx:ExL ρ xs):ExL ρ (postK base pos n pc l++xs):=
 postK_ok (fun hp t hl ht=>by
  obtain ⟨hb,us,h1,h2,h3⟩:=h hp
  rw [ren_us hb h2 h1 hl]
  exact h3 t ht) hx
def Lo.res (L:Lo)(post:List (List Tm))(ρ:List AV):Prop:=match L with
 | .mk pc base _ _ outs _ _ ms bn=>Pc.holds ρ pc→(∀t∈bn,(t.den ρ).R.length≤4294967296)→base≤ρ.length∧∃(k:Nat) (us:List AV),(LenOk outs ms=true→k<ms.length∧ms.getD k 0≤us.length)∧ResK ρ base ms k us∧∀t∈nthP post k,(t.den (ρ.take base++us)).B=true
theorem bnC_ok {ρ:List AV}{F:Pc}{xs:List (Pc×Tm)}{pc:Pc}{bn:List Tm}(hF:Pc.holds ρ F)(hx:ExL ρ xs)(h:Pc.holds ρ (bnC F xs pc bn)):Pc.holds ρ pc∧∀t∈bn,(t.den ρ).R.length≤4294967296:=by
 have key:∀{t:Tm},((tLe (.rlen t) (.li big)).den ρ).B=true→(t.den ρ).R.length≤4294967296:=by
  intro t h
  have h2:lLen (t.den ρ).R≤big:=of_decide_eq_true h
  unfold lLen big at h2;omega
 unfold bnC at h
 dsimp only at h
 cases hq:(bn.all fun t=>prove 1 (facts F xs pc) (tLe (.rlen t) (.li big)))
 ·rw [hq] at h
  simp only [cond_false] at h
  refine ⟨fun x hx=>h x (List.mem_append.2 (.inr hx)),fun t ht=>key (h (_,true) (List.mem_append.2 (.inl ?_)))⟩
  clear hq h
  induction bn with
  |nil=>cases ht
  |cons a r ih=>
   rcases List.mem_cons.1 ht with rfl|ht
   ·exact List.mem_cons_self ..
   ·exact List.mem_cons_of_mem _ (ih ht)
 ·rw [hq] at h
  rw [List.all_eq_true] at hq
  exact ⟨h,fun t ht=>key (prove_ok (hq t ht) (facts_ok hF hx h))⟩
theorem selP_k {ρ:List AV}{base n n' k k0:Nat}{us:List AV}{c:Pc}(hk0:k0=0∨k0=1)(hk:k<2)(hr:ResK ρ base [n,n'] k us)(h:Pc.holds ρ (selP base [n,n'] k0++c)):k=k0:=by
 have h1:=hr.1 (by show 1<2;omega)
 have e:(((Tm.bin .eql (.int .i64) (.var base []) (.li 0)).den ρ).B)=iEq ((cellAt (ρ.getD base undefA) []).D.I) 0:=rfl
 have e2:cellAt (ρ.getD base undefA) []=ρ.getD base undefA:=by cases ρ.getD base undefA<;>rfl
 rw [e2,h1] at e
 rcases hk0 with rfl|rfl
 ·have q:=h (_,true) (List.mem_append.2 (.inl (List.mem_cons_self ..)))
  dsimp only at q
  rw [e,iEq_t] at q
  omega
 ·have q:=h (_,false) (List.mem_append.2 (.inl (List.mem_cons_self ..)))
  dsimp only at q
  rw [e,iEq_f] at q
  omega
theorem postX_ok {L:Lo}{H:LH}{ρ:List AV}{F:Pc}{xs:List (Pc×Tm)}(hF:Pc.holds ρ F)(hx:ExL ρ xs)(h:L.res H.post ρ):ExL ρ (postX F xs L H):=by
 obtain ⟨pc,base,m,entry,outs,sd,aw,ms,bn⟩:=L
 simp only [postX]
 split
 ·exact hx
 ·rename_i p _
  cases hL:LenOk outs ms
  ·exact hx
  ·simp only [cond_true]
   have sub:∀{a b:Pc},Pc.holds ρ (a++b)→Pc.holds ρ b:=fun h x hx=>h x (List.mem_append.2 (.inr hx))
   split
   ·rename_i n
    refine post1 (fun hp=>?_) hx
    obtain ⟨h1,h2⟩:=bnC_ok hF hx (sub hp)
    obtain ⟨hb,k,us,q1,q2,q3⟩:=h h1 h2
    have hk:=q1 hL
    have:k=0:=by have:=hk.1;simp at this;exact this
    subst this
    exact ⟨hb,us,hk.2,q2.2,q3⟩
   ·rename_i n n'
    refine post1 (fun hp=>?_) (post1 (fun hp=>?_) hx)
    ·obtain ⟨h1,h2⟩:=bnC_ok hF hx (sub hp)
     obtain ⟨hb,k,us,q1,q2,q3⟩:=h h1 h2
     have hk:=q1 hL
     have:=selP_k (.inl rfl) hk.1 q2 hp
     subst this
     exact ⟨hb,us,hk.2,q2.2,q3⟩
    ·obtain ⟨h1,h2⟩:=bnC_ok hF hx (sub hp)
     obtain ⟨hb,k,us,q1,q2,q3⟩:=h h1 h2
     have hk:=q1 hL
     have:=selP_k (.inr rfl) hk.1 q2 hp
     subst this
     exact ⟨hb,us,hk.2,q2.2,q3⟩
   ·exact hx
theorem WkL_take {P:Program}{T:SpT}{ρ:List AV}:∀{n:Nat} {sd:List (Pc×Side)},WkL P T ρ sd→WkL P T ρ (sd.take n)∧WkL P T ρ (sd.drop n)
 |0,sd,h=>⟨trivial,h⟩
 |n+1,[],h=>⟨trivial,trivial⟩
 |n+1,x::r,h=>⟨⟨h.1,(WkL_take (n:=n) h.2).1⟩,(WkL_take (n:=n) h.2).2⟩
theorem SidesC_join {P:Program}{ρ:List AV}:∀{n:Nat} {sd:List (Pc×Side)},SidesC P ρ (sd.take n)→SidesC P ρ (sd.drop n)→SidesC P ρ sd
 |0,sd,_,h=>h
 |n+1,[],_,_=>trivial
 |n+1,x::r,h,k=>⟨h.1,SidesC_join (n:=n) h.2 k⟩
 mutual
theorem chkLo_ok {P:Program}{T:SpT}:∀{L:Lo} {H:LH} {ρ:List AV} {F:Pc} {xs:List (Pc×Tm)},chkLo F T xs L H=true→Pc.holds ρ F→ExL ρ xs→L.wk P T H ρ→L.holds P ρ∧L.res H.post ρ
  | .mk pc base m entry outs sd aw ms bn,H,ρ,F,xs,h,hF,hx,hw=>by
   simp only [chkLo,Bool.and_eq_true] at h
   obtain ⟨h0,⟨hft,h1⟩,h4,h3⟩:=h
   have all:Pc.holds ρ pc→(∀t∈bn,(t.den ρ).R.length≤4294967296)→base≤ρ.length∧∃n k us,(RunN (fun σ=>SidesOk P σ sd∧LoL P aw σ) outs (ρ.take base) m n (denL ρ entry) k us∧∀t∈nthP H.post k,(t.den (ρ.take base++us)).B=true)∧ResK ρ base ms k us:=by
    intro hp hbn
    simp only [Lo.wk] at hw
    obtain ⟨hb,n,k,us,⟨hn0,hn⟩,hr,hres⟩:=hw hp hbn
    have hF0:=facts_ok (holds_app (bnF_ok hbn) hF) hx hp
    have hl:(ρ.take base).length=base:=by rw [List.length_take];omega
    rw [List.all_eq_true] at h1
    have hm:H.mt.isNl=true∨(H.mt.den (ρ.take base++denL ρ entry)).I<(n:Int):=by
     rw [Bool.or_eq_true] at hft
     rcases hft with hft|hft
     ·exact .inl hft
     refine .inr ?_
     split at hft
     ·rename_i mt' hm
      have q:=substE_ok hb hm
      simp only [SimE] at q
      have q2:=ftOk_ok hft hF0
      omega
     ·cases hft
    refine ⟨hb,n,k,us,run_up (xs:=allX (trueAll H.inv++ltPc base (facts (bnF bn++F) xs pc)) T sd 0 aw H.sub H.xs) hl (by rw [Bool.and_eq_true];exact h0) (fun σ hag=>?_) (fun σ hF' hS=>?_) h3 (.inr hn0) (fun t ht=>subOk_ok hb (h1 t ht) hF0) hm hr,hres⟩
    ·refine ltPc_ok (fun i hi=>?_) hF0
     rw [← hag i hi]
     have:=getD_tk (ρ:=ρ) (m:=[]) hb hi
     simpa using this.symm
    ·obtain ⟨z1,z2,z3⟩:=chkA_ok h4 hF' hS.1 hS.2.1 hS.2.2
     exact ⟨⟨z1.ok,z2⟩,z3⟩
   refine ⟨?_,?_⟩
   ·unfold Lo.holds
    intro hp hbn
    obtain ⟨hb,n,k,us,⟨z1,_⟩,z2⟩:=all hp hbn
    exact ⟨hb,n,k,us,z1,z2⟩
   ·intro hp hbn
    obtain ⟨hb,n,k,us,⟨z1,z3⟩,z2⟩:=all hp hbn
    exact ⟨hb,k,us,fun hL=>run_ms hL z1,z2,z3⟩
theorem chkA_ok {P:Program}{T:SpT}:∀{l:List Lo} {sd:List (Pc×Side)} {k:Nat} {hs:List LH} {ρ:List AV} {F:Pc} {xs:List (Pc×Tm)},chkA F T sd k l hs xs=true→Pc.holds ρ F→ExL ρ xs→WkL P T ρ sd→LoW P T l hs ρ→SidesC P ρ sd∧LoL P l ρ∧ExL ρ (allX F T sd k l hs xs)
  |[],sd,k,hs,ρ,F,xs,h,hF,hx,hw,_=>by
   simp only [chkA] at h
   obtain ⟨h1,h2⟩:=chkSd_ok hF hx h hw
   exact ⟨h1,trivial,h2⟩
  |x::r,sd,k,hs,ρ,F,xs,h,hF,hx,hw,hl=>by
   simp only [chkA,Bool.and_eq_true] at h
   simp only [LoW] at hl
   obtain ⟨w1,w2⟩:=WkL_take (n:=(hdH hs).at' - k) hw
   obtain ⟨a1,a2⟩:=chkSd_ok hF hx h.1 w1
   obtain ⟨b1,b2⟩:=chkLo_ok h.2.1 hF a2 hl.1
   obtain ⟨c1,c2,c3⟩:=chkA_ok h.2.2 hF (postX_ok hF a2 b2) w2 hl.2
   exact ⟨SidesC_join a1 c1,⟨b1,c2⟩,c3⟩
end
 mutual
def bndT : SV→Pc
  | .sc .sl t=>[(tLe (.rlen t) (.li big),true)]
  | .agg l=>bndTL l
  | .tup l=>bndTL l
  | .os _ _ _ t=>[(tLe t (.li big),true)]
  | .fn _ x y=>bndTL x++bndTL y
  |_=>[]
def bndTL : List SV→Pc
  |[]=>[]
  |x::r=>bndT x++bndTL r
end
 mutual
theorem bndT_ok {ρ:List AV}:∀{v:SV},(v.den ρ).bnd→Pc.holds ρ (bndT v)
  | .sc k t,h=>by
   cases k<;>simp only [bndT]<;>first|(intro x hx;cases hx;done)|skip
   exact Pc.holds_cons (by
    have:(t.den ρ).R.length≤4294967296:=h.1
    show decide (lLen (t.den ρ).R≤big)=true
    exact decide_eq_true (by unfold lLen big;omega)) fun x hx=>by cases hx
  | .agg l,h=>by simp only [bndT];exact bndTL_ok h
  | .tup l,h=>by simp only [bndT];exact bndTL_ok h
  | .os b sz off t,h=>by
   simp only [bndT]
   exact Pc.holds_cons (by
    have:(t.den ρ).I.toNat≤4294967296:=h
    show decide ((t.den ρ).I≤big)=true
    exact decide_eq_true (by unfold big;omega)) fun x hx=>by cases hx
  | .c _,_=>fun x hx=>by cases hx
  | .nil,_=>fun x hx=>by cases hx
  | .nan,_=>fun x hx=>by cases hx
  | .ost ..,_=>fun x hx=>by cases hx
  | .sf _,_=>fun x hx=>by cases hx
  | .slc _ _,_=>fun x hx=>by cases hx
  | .vp _ _,_=>fun x hx=>by cases hx
  | .op _ _ _ _,_=>fun x hx=>by cases hx
  | .fn _ _ _,h=>by simp only [bndT];exact holds_app (bndTL_ok h.1) (bndTL_ok h.2)
  | .ifc _ _,_=>fun x hx=>by cases hx
  | .mp _,_=>fun x hx=>by cases hx
theorem bndTL_ok {ρ:List AV}:∀{l:List SV},bndL (denL ρ l)→Pc.holds ρ (bndTL l)
  |[],_=>fun x hx=>by cases hx
  |x::r,h=>by simp only [bndTL];exact holds_app (bndT_ok h.1) (bndTL_ok h.2)
end
def preF' (args:List SV)(sp:Sp):Pc:=match sbL args sp.pre with
 |some l=>trueAll l
 |none=>[]
def chkF (T:SpT)(sp:Sp)(args bd:List SV)(H:LH)(sd:List (Pc×Side))(aw:List Lo):Bool:=
 let F:=preF' args sp++bndTL bd
 chkA F T sd 0 aw H.sub H.xs
theorem preF'_ok {ρ:List AV}{args:List SV}{sp:Sp}(h:AllT (denL ρ args) sp.pre):Pc.holds ρ (preF' args sp):=by
 unfold preF'
 split
 ·rename_i l hl
  exact trueAll_ok ((sbL_ok hl).2 h).mem
 ·exact fun x hx=>by cases hx
theorem chkF_ok {P:Program}{T:SpT}{sp:Sp}{ρ:List AV}{args bd:List SV}{H:LH}{sd:List (Pc×Side)}{aw:List Lo}(h:chkF T sp args bd H sd aw=true)(hp:AllT (denL ρ args) sp.pre)(hb:Pc.holds ρ (bndTL bd))(hx:ExL ρ H.xs)(hw:WkL P T ρ sd)(hl:LoW P T aw H.sub ρ):SidesC P ρ sd∧LoL P aw ρ∧ExL ρ (allX (preF' args sp++bndTL bd) T sd 0 aw H.sub H.xs):=
 chkA_ok h (holds_app (preF'_ok hp) hb) hx hw hl
def chkR (F:Pc)(xs:List (Pc×Tm))(l:SV→Option (List SV))(post:List Tm):Pc→List (Tm×SV)→Bool
  |_,[]=>true
  |G,[o]=>chkR1 F xs l post G o.2
  |G,o::o'::r=>chkR1 F xs l post (addPc o.1 true G) o.2&&chkR F xs l post (addPc o.1 false G) (o'::r)
 where chkR1 (F:Pc) (xs:List (Pc×Tm)) (l:SV→Option (List SV)) (post:List Tm) (G:Pc) (v:SV):Bool:=match l v with
  |none=>false
  |some l=>match sbL l post with
   |none=>false
   |some q=>chkQ F xs q (q.map fun t=>(t,true)) 6 (cloP G)
theorem chkR_ok {ρ:List AV}{F:Pc}{xs:List (Pc×Tm)}{l:SV→Option (List SV)}{post:List Tm}{A:AV→List AV}(hl:∀v m,l v=some m→denL ρ m=A (v.den ρ))(hF:Pc.holds ρ F)(hx:ExL ρ xs):∀{rs:List (Tm×SV)} {G:Pc},rs≠[]→chkR F xs l post G rs=true→Pc.holds ρ G→AllT (A (selR ρ rs)) post:=by
 have one:∀{G:Pc} {v:SV},chkR.chkR1 F xs l post G v=true→Pc.holds ρ G→AllT (A (v.den ρ)) post:=by
  intro G v h hG
  unfold chkR.chkR1 at h
  split at h
  ·cases h
  rename_i m hm
  split at h
  ·cases h
  rename_i q hq
  rw [← hl v m hm]
  exact (sbL_ok hq).1 (chkQ_ok hF hx h (cloP_ok hG))
 intro rs
 induction rs with
 |nil=>intro G hne;exact absurd rfl hne
 |cons o r ih=>
  intro G _ h hG
  cases r with
  |nil=>exact one h hG
  |cons o' r=>
   simp only [chkR,Bool.and_eq_true] at h
   simp only [selR]
   cases hg:(o.1.den ρ).B
   ·exact ih (by simp) h.2 (addPc_holds hg hG)
   ·exact one h.1 (addPc_holds hg hG)
def bndOk (args bd:List SV)(sp:Sp):Bool:=match sbL args sp.bnd with
 |none=>false
 |some l=>(bndTL bd).all fun x=>x.2&&l.any fun t=>t.beq x.1
theorem bndOk_ok {ρ:List AV}{args bd:List SV}{sp:Sp}(h:bndOk args bd sp=true)(hb:AllT (denL ρ args) sp.bnd):Pc.holds ρ (bndTL bd):=by
 unfold bndOk at h
 split at h
 ·cases h
 rename_i l hl
 rw [List.all_eq_true] at h
 have hb':=((sbL_ok hl).2 hb).mem
 intro x hx
 have q:=h x hx
 rw [Bool.and_eq_true,List.any_eq_true] at q
 obtain ⟨q1,t,q2,q3⟩:=q
 rw [q1,← Tm.beq_eq q3]
 exact hb' t q2
def chkP (T:SpT)(sp:Sp)(args bd:List SV)(H:LH)(R:PRes)(l:SV→Option (List SV)):Bool:=match sp.post with
 |[]=>true
 |post=>match R.rs with
  |[]=>false
  |_::_=>bndOk args bd sp&&(let F:=preF' args sp++bndTL bd;chkR F (allX F T R.sd 0 R.aw H.sub H.xs) l post [] R.rs)
theorem chkP_ok {P:Program}{T:SpT}{sp:Sp}{ρ:List AV}{args bd:List SV}{H:LH}{R:PRes}{l:SV→Option (List SV)}{A:AV→List AV}(hl:∀v m,l v=some m→denL ρ m=A (v.den ρ))(hc:chkF T sp args bd H R.sd R.aw=true)(h:chkP T sp args bd H R l=true)(hp:AllT (denL ρ args) sp.pre)(hb:AllT (denL ρ args) sp.bnd)(hx:ExL ρ H.xs)(hw:WkL P T ρ R.sd)(hlw:LoW P T R.aw H.sub ρ):AllT (A (selR ρ R.rs)) sp.post:=by
 unfold chkP at h
 split at h
 ·rename_i e;rw [e];trivial
 ·rename_i e
  split at h
  ·cases h
  ·rename_i er
   rw [Bool.and_eq_true] at h
   have hbd:=bndOk_ok h.1 hb
   obtain ⟨-,-,hX⟩:=chkF_ok hc hp hbd hx hw hlw
   exact chkR_ok hl (holds_app (preF'_ok hp) hbd) hX (by rw [er];simp) h.2 (fun x hx=>by cases hx)
theorem mk_h {P:Program}(hm:P.follows .mixedOrders=true){X:Ext'}(hX:∀σ:List AV,fzL σ=true→ExtOk P σ X){I0:Inl}(h0:∀σ:List AV,fzL σ=true→InlOk P σ I0){md:Md}{FC:FuncId→FCfg}{unr CF f nv:Nat}{args:List SV}{R:PRes}{az:List AV}{r:AV}{T:SpT}
  (h:sFnI P X I0 md FC unr CF f args nv=some R) (H:LH) (hc:(chkF T (T.at f) args args H R.sd R.aw&&chkP T (T.at f) args args H R fun v=>some (args++[v]))=true) (ρ:List AV) (hρ:fzL ρ=true) (hx:ExL ρ H.xs) (hw:WkL P T ρ R.sd) (hl:LoW P T R.aw H.sub ρ) (ha:denL ρ args=az) (hr:selR ρ R.rs=r):CT P T f az r:=fun hpre=>by
 subst ha
 rw [Bool.and_eq_true] at hc
 refine ⟨pc_bnd fun hb=>?_,fun hb=>?_⟩
 ·obtain ⟨h1,h2,-⟩:=chkF_ok hc.1 hpre (bndTL_ok hb) hx hw hl
  exact mk_pcXIL hm hX h0 (rs:=R.rs) (sd:=R.sd) (aw:=R.aw) h hρ h1 h2 rfl hr
 ·subst hr
  exact chkP_ok (A:=fun r=>denL ρ args++[r]) (fun v m hm=>by simp only [Option.some.injEq] at hm;subst hm;exact denL_app1) hc.1 hc.2 hpre hb hx hw hl
end Go.Fw
end
section
set_option linter.unusedVariables false
set_option linter.unusedSimpArgs false
set_option linter.unusedSectionVars false
namespace Go.Fw
set_option linter.unusedSectionVars false
variable [Glob]
open Go.Lib
set_option linter.unusedSimpArgs false
set_option linter.unusedVariables false
end Go.Fw
end
section
set_option linter.unusedVariables false
set_option linter.unusedSimpArgs false
set_option linter.unusedSectionVars false
namespace Go.Fw
set_option linter.unusedSectionVars false
set_option linter.unusedSimpArgs false
set_option linter.unusedVariables false
variable [Glob]
abbrev V (n:Nat):Tm:=.var n []
abbrev W (n j:Nat):Tm:=.var n [j]
abbrev kI : Kd:=.int .i64
abbrev kU : Kd:=.int .u8
abbrev zI (t:Tm):SV:=.sc (.int .i64) t
abbrev zU (t:Tm):SV:=.sc (.int .u8) t
abbrev zB (t:Tm):SV:=.sc .bool t
abbrev zS (t:Tm):SV:=.sc .str t
abbrev zF (t:Tm):SV:=.sc .flt t
abbrev zL (t:Tm):SV:=.sc .sl t
abbrev qL (a b:Tm):Tm:=.bin .lss (.int .i64) a b
abbrev qM (a b:Tm):Tm:=.bin .leq (.int .i64) a b
abbrev qG (a b:Tm):Tm:=.bin .gtr (.int .i64) a b
abbrev qH (a b:Tm):Tm:=.bin .geq (.int .i64) a b
abbrev qE (a b:Tm):Tm:=.bin .eql (.int .i64) a b
abbrev qN (a b:Tm):Tm:=.bin .neq (.int .i64) a b
abbrev uE (a b:Tm):Tm:=.bin .eql (.int .u8) a b
abbrev uN (a b:Tm):Tm:=.bin .neq (.int .u8) a b
abbrev sE (a b:Tm):Tm:=.bin .eql .str a b
abbrev aI (a b:Tm):Tm:=.bin .add (.int .i64) a b
abbrev mI (a b:Tm):Tm:=.bin .sub (.int .i64) a b
abbrev cV (n:Nat)(l:List Kd):List SV:=cellsV n [] 0 l
abbrev cW (n j:Nat)(l:List Kd):List SV:=cellsV n [] j l
abbrev eI (n:Int):AV:=.p (.int .i64 n)
abbrev eU (n:Int):AV:=.p (.int .u8 n)
abbrev eB (b:Bool):AV:=.p (.bool b)
abbrev eF (n:Nat):AV:=.p (.float .f64 n)
abbrev eS (s:List UInt8):AV:=.str s
abbrev eL {α:Type}(f:α→List AV)(l:List α):AV:=.sl (List.map f l) false
class Fz (a:AV):Prop where h:a.fz=true
class FzL (l:List AV):Prop where h:fzL l=true
class FzR {α:Type}(f:α→List AV):Prop where h:∀x,fzL (f x)=true
instance {v : Value}:Fz (.p v):=⟨rfl⟩
instance {s : List UInt8}:Fz (.str s):=⟨rfl⟩
instance {l : List AV} [h:FzL l]:Fz (.agg l):=⟨h.h⟩
instance {l : List AV} [h:FzL l]:Fz (.tup l):=⟨h.h⟩
instance {α : Type} {f:α→List AV} [h:FzR f] {l:List α}:Fz (.sl (List.map f l) false):=⟨fzs h.h l⟩
instance : FzL []:=⟨rfl⟩
instance : Fz undefA:=⟨rfl⟩
instance {a : AV} {l:List AV} [h:Fz a] [k:FzL l]:FzL (a::l):=⟨fzc h.h k.h⟩
theorem fzL_app : ∀{a b:List AV},fzL a=true→fzL b=true→fzL (a++b)=true
 |[],b,_,h=>h
 |x::r,b,h1,h2=>by
  simp only [fzL,Bool.and_eq_true,List.cons_append] at h1 ⊢
  exact ⟨h1.1,fzL_app h1.2 h2⟩
instance {a b:List AV} [h:FzL a] [k:FzL b]:FzL (a++b):=⟨fzL_app h.h k.h⟩
instance (priority :=low) {α:Type} {f:α→List AV} [h:FzR f] {x:α}:FzL (f x):=⟨h.h x⟩
instance {b : Bool} {x y:List AV} [h:FzL x] [k:FzL y]:FzL (bif b then x else y):=⟨fzb h.h k.h⟩
instance : FzR rowB:=⟨rowB_fz⟩
instance : FzR rowI:=⟨rowI_fz⟩
instance : FzR rowU8:=⟨rowU8_fz⟩
instance : FzR rowS:=⟨rowS_fz⟩
instance {K V:Type} {f:K→List AV} {g:V→List AV} [h:FzR f] [k:FzR g]:FzR (rowM f g):=⟨rowM_fz h.h k.h⟩
class Rok {α:Type}(f:α→List AV)(n:outParam Nat):Prop where h:∀x,(f x).length=n
instance : Rok rowB 1:=⟨fun _=>rfl⟩
instance : Rok rowI 1:=⟨fun _=>rfl⟩
instance : Rok rowU8 1:=⟨fun _=>rfl⟩
instance : Rok rowS 1:=⟨fun _=>rfl⟩
theorem Rok.rok {α:Type}{f:α→List AV}{n:Nat}[h:Rok f n](l:List α):rowsOk n (l.map f):=by
 intro row hr
 obtain ⟨x,-,rfl⟩:=List.mem_map.1 hr
 exact h.h x
section
variable {P : Program} {T:SpT} {ρ:List AV} {pc:Pc} {r:List (Pc×Side)}
theorem wn : WkL P T ρ []:=trivial
theorem leH {a b:Tm}(h:((tLe a b).den ρ).B=true):(a.den ρ).I≤(b.den ρ).I:=of_decide_eq_true h
theorem ltH {a b:Tm}(h:((tLt a b).den ρ).B=true):(a.den ρ).I<(b.den ρ).I:=of_decide_eq_true h
theorem wR {t i:Tm}{cells:List SV}{α:Type}{f:α→List AV}{l:List α}(ht:(t.den ρ).R=List.map f l)(k:WkL P T ρ r)[Inhabited α](hc:denL ρ cells=f (l.getD (i.den ρ).I.toNat default):=by rfl):WkL P T ρ ((pc,.row t i cells)::r):=by
 refine ⟨fun _ h=>?_,k⟩
 have h0:0≤(i.den ρ).I:=leH h.1
 have h1:(i.den ρ).I<lLen (t.den ρ).R:=ltH h.2.1
 refine ⟨h0,?_⟩
 rw [ht] at h1 ⊢
 rw [hc]
 exact (row_i h0 (by simpa [lLen] using h1)).2
theorem wSub {t m:Tm}{lo hi:Option Tm}{sz:Nat}{α:Type}{f:α→List AV}{l:List α}(ht:(t.den ρ).R=List.map f l)(k:WkL P T ρ r)[hn:Rok f sz](hm:(m.den ρ).R=List.map f ((l.drop (oTm ρ 0 lo).toNat).take ((oTm ρ l.length hi).toNat-(oTm ρ 0 lo).toNat)):=by rfl):WkL P T ρ ((pc,.sub sz t lo hi m)::r):=by
 refine ⟨fun _ h=>?_,k⟩
 have e:(t.den ρ).R.length=l.length:=by rw [ht];simp
 show rowsOk sz (t.den ρ).R∧_
 rw [e]
 have hl:(((Tm.rlen t).den ρ).I:Int)=l.length:=by show lLen (t.den ρ).R=_;unfold lLen;rw [e]
 refine ⟨by rw [ht];exact Rok.rok l,?_,?_,?_,by rw [hm,ht];simp⟩
 ·cases lo with
  |none=>exact Int.le_refl _
  |some a=>cases hi with
   |none=>exact leH h.1
   |some b=>exact leH h.1
 ·cases lo with
  |none=>cases hi with
   |none=>exact Int.natCast_nonneg _
   |some b=>exact leH h.1
  |some a=>cases hi with
   |none=>have:=leH h.2.1;rw [hl] at this;exact this
   |some b=>exact leH h.2.1
 ·cases lo with
  |none=>cases hi with
   |none=>exact Int.le_refl _
   |some b=>have:=leH h.2.1;rw [hl] at this;exact this
  |some a=>cases hi with
   |none=>exact Int.le_refl _
   |some b=>have:=leH h.2.2.1;rw [hl] at this;exact this
theorem wC {f:FuncId}{args:List SV}{v:SV}{az:List AV}{y:AV}(h:CT P T f az y)(k:WkL P T ρ r)(ha:denL ρ args=az:=by rfl)(hv:v.den ρ=y:=by rfl):WkL P T ρ ((pc,.call f args v)::r):=by
 subst ha;subst hv
 exact ⟨fun _=>h,k⟩
theorem ctP {f:FuncId}{az:List AV}{y:AV}(h:PC P f az y)(hT:T.at f=sp0:=by rfl):CT P T f az y:=fun _=>⟨h,fun _=>by rw [hT];trivial⟩
theorem wCp {f:FuncId}{args:List SV}{v:SV}{az:List AV}{y:AV}(h:Pc.holds ρ pc→CT P T f az y)(k:WkL P T ρ r)(ha:denL ρ args=az:=by rfl)(hv:v.den ρ=y:=by rfl):WkL P T ρ ((pc,.call f args v)::r):=by
 subst ha;subst hv
 exact ⟨h,k⟩
end
def RunL (P:Program)(T:SpT)(L:Lo)(H:LH)(ρ0:List AV)(n:Nat)(vs:List AV)(r:Nat×List AV):Prop:=
 match L with
 | .mk _ _ m _ outs sd aw _ _=>RunP H.mt.isNl (fun σ=>ExL σ H.xs∧WkL P T σ sd∧LoW P T aw H.sub σ) outs ρ0 m n vs r.1 r.2
def RndP (e:Bool)(S:List AV→Prop)(outs:List (Tm×Nat×List SV))(ρ0:List AV)(m n:Nat)(σ:List AV)(o:Option (Nat×List SV))(r:Nat×List AV):Prop:=
 match o with
 |none=>False
 |some (0,l)=>RunP e S outs ρ0 m n (denL σ l) r.1 r.2
 |some (j+1,l)=>r.1=j∧r.2=denL σ l
def RndL (P:Program)(T:SpT)(L:Lo)(H:LH)(ρ0:List AV)(n:Nat)(σ:List AV)(o:Option (Nat×List SV))(r:Nat×List AV):Prop:=
 match L with
 | .mk _ _ m _ outs sd aw _ _=>RndP H.mt.isNl (fun σ=>ExL σ H.xs∧WkL P T σ sd∧LoW P T aw H.sub σ) outs ρ0 m n σ o r
theorem l0 {P:Program}{T:SpT}{L:Lo}{H:LH}{ρ0 vs:List AV}{r:Nat×List AV}(h:H.mt.isNl=false:=by rfl):RunL P T L H ρ0 0 vs r:=by cases L;exact h
theorem lmk {P:Program}{T:SpT}{H:LH}{ρ0 vs:List AV}{n:Nat}{r:Nat×List AV}{pc:Pc}{base m:Nat}{entry:List SV}{outs:List (Tm×Nat×List SV)}{sd:List (Pc×Side)}{aw:List Lo}{ms:List Nat}{bn:List Tm}{L:Lo}(hL:L=.mk pc base m entry outs sd aw ms bn)
  (cs:List AV) [hf:FzL (ρ0++vs++cs)] (hx:ExL (ρ0++vs++cs) H.xs) (hw:WkL P T (ρ0++vs++cs) sd) (hl:LoW P T aw H.sub (ρ0++vs++cs)) (h:RndL P T L H ρ0 n (ρ0++vs++cs) (selK (ρ0++vs++cs) outs) r) (hm:vs.length=m:=by rfl):RunL P T L H ρ0 (n+1) vs r:=by
 subst hL
 refine ⟨cs,hm,hf.h,⟨hx,hw,hl⟩,?_⟩
 unfold RndL RndP at h
 dsimp only at h
 split at h
 ·exact h.elim
 ·rename_i l e;first|exact h|(rw [e];exact h)
 ·rename_i j l e;first|exact h|(rw [e];exact h)
theorem rcf {P:Program}{T:SpT}{L:Lo}{H:LH}{ρ0 σ:List AV}{n:Nat}{R:Type}(rk:R→Nat×List AV){g:Tm}{x:Nat×List SV}{y:Tm×Nat×List SV}{l:List (Tm×Nat×List SV)}{c:Bool}{a b:R}(h1:c=true→RndL P T L H ρ0 n σ (some x) (rk a))(h2:c=false→RndL P T L H ρ0 n σ (selK σ (y::l)) (rk b))(hg:(g.den σ).B=c:=by rfl):RndL P T L H ρ0 n σ (selK σ ((g,x)::y::l)) (rk (bif c then a else b)):=by
 simp only [selK,hg]
 cases c
 ·exact h2 rfl
 ·exact h1 rfl
theorem rc {P:Program}{T:SpT}{L:Lo}{H:LH}{ρ0 σ:List AV}{n:Nat}{R:Type}(rk:R→Nat×List AV){g:Tm}{x:Nat×List SV}{y:Tm×Nat×List SV}{l:List (Tm×Nat×List SV)}{c:Bool}{a b:R}(h1:RndL P T L H ρ0 n σ (some x) (rk a))(h2:RndL P T L H ρ0 n σ (selK σ (y::l)) (rk b))(hg:(g.den σ).B=c:=by rfl):RndL P T L H ρ0 n σ (selK σ ((g,x)::y::l)) (rk (bif c then a else b)):=
 rcf rk (fun _=>h1) (fun _=>h2) hg
theorem rl {P:Program}{T:SpT}{L:Lo}{H:LH}{ρ0 σ:List AV}{n:Nat}{r:Nat×List AV}{g:Tm}{x:Nat×List SV}(h:RndL P T L H ρ0 n σ (some x) r):RndL P T L H ρ0 n σ (selK σ [(g,x)]) r:=h
theorem rg {P:Program}{T:SpT}{L:Lo}{H:LH}{ρ0 σ vs:List AV}{n:Nat}{r:Nat×List AV}{l:List SV}(h:RunL P T L H ρ0 n vs r)(hl:denL σ l=vs:=by rfl):RndL P T L H ρ0 n σ (some (0,l)) r:=by
 subst hl
 cases L;exact h
theorem rx {P:Program}{T:SpT}{L:Lo}{H:LH}{ρ0 σ:List AV}{n:Nat}{r:Nat×List AV}{j:Nat}{l:List SV}(h1:r.1=j:=by rfl)(h2:r.2=denL σ l:=by rfl):RndL P T L H ρ0 n σ (some (j+1,l)) r:=by
 cases L;exact ⟨h1,h2⟩
theorem ln {P:Program}{T:SpT}{hs:List LH}{ρ:List AV}:LoW P T [] hs ρ:=trivial
theorem fuR {α:Type}{f:α→List AV}{l:List α}:1*lLen (List.map f l)+0<((l.length+1:Nat):Int):=by simp [lLen];omega
theorem fuN {x:Int}:1*x+0<((x.toNat+1:Nat):Int):=by omega
theorem lc2 {P:Program}{T:SpT}{ρ ρ0 vs:List AV}{hs:List LH}{ls:List Lo}{n m0 m1:Nat}{b:Bool}{u0 u1:List AV}{pc:Pc}{base m:Nat}{entry:List SV}{outs:List (Tm×Nat×List SV)}{sd:List (Pc×Side)}{aw:List Lo}{bn:List Tm}{L:Lo}
  (h:RunL P T L (hdH hs) ρ0 n vs (rk2 b u0 u1)) (k:LoW P T ls (tlH hs) ρ) (hL:L=.mk pc base m entry outs sd aw [m0,m1] bn:=by rfl) (hb:Nat.ble base ρ.length=true:=by rfl) (h0:ρ.take base=ρ0:=by rfl) (hv:denL ρ entry=vs:=by rfl)
  (hn:ftV ρ (hdH hs).ft<(n:Int):=by first|exact fuR|exact fuN) (hk:(ρ.getD base undefA).D.I=selB b:=by rfl) (hu0:(ρ.drop (base+1)).take u0.length=u0:=by rfl) (hu1:(ρ.drop (base+1+m0)).take u1.length=u1:=by rfl) (hn0:Nat.blt 0 n=true:=by rfl):LoW P T (L::ls) hs ρ:=by
 subst hL;subst h0;subst hv
 refine ⟨?_,k⟩
 simp only [Lo.wk]
 rw [Nat.blt_eq] at hn0
 refine fun _ _=>⟨Nat.le_of_ble_eq_true hb,n,(rk2 b u0 u1).1,(rk2 b u0 u1).2,⟨hn0,hn⟩,h,fun _=>?_,?_⟩
 ·rw [hk];cases b<;>rfl
 ·cases b
  ·intro i u hu
   have:=hu_of hu1 i u hu
   have e:posOf base [m0,m1] (rk2 false u0 u1).1=base+1+m0:=by show (base+1)+(m0+0)=_;omega
   rw [e];exact this
  ·intro i u hu
   have:=hu_of hu0 i u hu
   have e:posOf base [m0,m1] (rk2 true u0 u1).1=base+1:=rfl
   rw [e];exact this
theorem xn {ρ:List AV}:ExL ρ []:=trivial
theorem xc {ρ:List AV}{pc:Pc}{t:Tm}{r:List (Pc×Tm)}(h:(t.den ρ).B=true)(k:ExL ρ r):ExL ρ ((pc,t)::r):=⟨fun _=>h,k⟩
section
variable {P : Program} {T:SpT} {X:Ext'} {I0:Inl} {md:Md} {FC:FuncId→FCfg} {unr CF f nv:Nat} {args:List SV} {az:List AV} {r:AV} {R:PRes}
theorem mkH (hm:P.follows .mixedOrders=true)(hX:∀σ:List AV,fzL σ=true→ExtOk P σ X)(h0:∀σ:List AV,fzL σ=true→InlOk P σ I0)(h:sFnI P X I0 md FC unr CF f args nv=some R)(H:LH)(hc:(chkF T (T.at f) args args H R.sd R.aw&&chkP T (T.at f) args args H R fun v=>some (args++[v]))=true)(ρ:List AV)[hρ:FzL ρ](hx:ExL ρ H.xs)(hw:WkL P T ρ R.sd)(hl:LoW P T R.aw H.sub ρ)(hr:selR ρ R.rs=r)(ha:denL ρ args=az:=by rfl):CT P T f az r:=
 mk_h hm hX h0 h H hc ρ hρ.h hx hw hl ha hr
end
end Go.Fw
end
section
set_option linter.unusedVariables false
set_option linter.unusedSimpArgs false
set_option linter.unusedSectionVars false
namespace Go.Fw
set_option linter.unusedVariables false
def eR_Desc_ii64 (r:GDesc×Int):AV:=.tup [(GDesc.av r.1),(.p (.int .i64 r.2))]
def witness_counts (x0:GSeen):Bool:=
 (((!x0.Throw)&&(decide ((x0.Method:Int)≥1)))&&(decide ((x0.Method:Int)≤13)))
def value_IsObject (x0:GVal):Bool:=
 ((decide ((x0.Kind:Int)≥6))&&(decide ((x0.Kind:Int)≤8)))
def desc_IsData (x0:GDesc):Bool:=
 (iNe (iAnd .u8 x0.Has 3) 0)
def desc_IsAccess (x0:GDesc):Bool:=
 (iNe (iAnd .u8 x0.Has 12) 0)
def math_Trunc (x0:Nat):Nat:=
 let v1:Nat:=math_archTrunc x0
 v1
def math_Abs (x0:Nat):Nat:=
 let v1:Int:=math_Float64bits x0
 let v2:Nat:=math_Float64frombits (iAndNot .u64 v1 9223372036854775808)
 v2
def math_Signbit (x0:Nat):Bool:=
 let v1:Int:=math_Float64bits x0
 (decide (((IntKind.wrap .i64 v1):Int)<0))
def num_May (x0:Nat):Bool:=
 let v1:Nat:=math_Trunc x0
 let v2:Nat:=math_Abs x0
 let v3:Bool:=math_Signbit x0
 ((fNe x0 x0)||(((fEq v1 x0)&&(fLe v2 4845873199050653695))&&((fNe x0 0)||(!v3))))
def value_May (x0:GVal):Bool:=
 let v1:Bool:=num_May x0.Num
 let v2:Bool:=num_May x0.Num
 let v3:Bool:=num_May (bif (iEq x0.Kind 2) then 0 else (bif (iEq x0.Kind 3) then 0 else x0.Num))
 bif (((decide ((x0.Kind:Int) > 8))||(decide ((x0.Ref:Int)<0)))||(decide (((sLen x0.Str):Int) > 4096))) then false
 else bif ((iEq x0.Kind 2)&&((fNe x0.Num 4607182418800017408)&&((fNe x0.Num 0)||(!v1)))) then false
 else bif ((!(iEq x0.Kind 2))&&((iEq x0.Kind 3)&&(!v2))) then false
 else (((iEq x0.Kind x0.Kind)&&(((iEq x0.Kind 2)||((iEq x0.Kind 3)||(fEq x0.Num 0)))&&((bif (iEq x0.Kind 2) then (sEq x0.Str []) else (bif (iEq x0.Kind 3) then (sEq x0.Str []) else ((iEq x0.Kind 4)||(sEq x0.Str []))))&&(bif (iEq x0.Kind 2) then (iEq x0.Ref 0) else (bif (iEq x0.Kind 3) then (iEq x0.Ref 0) else (bif (iEq x0.Kind 4) then (iEq x0.Ref 0) else (((iEq x0.Kind 5)||((iEq x0.Kind 6)||((iEq x0.Kind 7)||(iEq x0.Kind 8))))||(iEq x0.Ref 0))))))))&&v3)
def value_Calls (x0:GVal):Bool:=
 ((iEq x0.Kind 7)||(iEq x0.Kind 8))
def desc_called (x0:GVal):Bool:=
 let v1:Bool:=value_May x0
 let v2:Bool:=value_Calls x0
 (v1&&((iEq x0.Kind 0)||v2))
def desc_Check (x0:GDesc):Int:=
 let v1:Bool:=desc_IsData x0
 let v2:Bool:=desc_IsAccess x0
 let v3:Bool:=value_May x0.Value
 let v4:Bool:=desc_called x0.Get
 let v5:Bool:=desc_called x0.Set
 bif (((((iNe (iAndNot .u8 x0.Has 63) 0)||(v1&&v2))||(!v3))||(!v4))||(!v5)) then 90
 else bif ((((iNe (iAnd .u8 (iCom .u8 x0.Has) 1) 0)&&(!((iEq x0.Value.Kind 0)&&((fEq x0.Value.Num 0)&&((sEq x0.Value.Str [])&&(iEq x0.Value.Ref 0))))))||((iNe (iAnd .u8 (iCom .u8 x0.Has) 4) 0)&&(!((iEq x0.Get.Kind 0)&&((fEq x0.Get.Num 0)&&((sEq x0.Get.Str [])&&(iEq x0.Get.Ref 0)))))))||((iNe (iAnd .u8 (iCom .u8 x0.Has) 8) 0)&&(!((iEq x0.Set.Kind 0)&&((fEq x0.Set.Num 0)&&((sEq x0.Set.Str [])&&(iEq x0.Set.Ref 0))))))) then 90
 else bif ((((iNe (iAnd .u8 (iCom .u8 x0.Has) 2) 0)&&x0.Writable)||((iNe (iAnd .u8 (iCom .u8 x0.Has) 16) 0)&&x0.Enumerable))||((iNe (iAnd .u8 (iCom .u8 x0.Has) 32) 0)&&x0.Configurable)) then 90
 else 0
def desc_whole (x0:GDesc):GDesc:=
 let v1:Bool:=desc_IsAccess x0
 (GDesc.mk (bif v1 then (iOr .u8 x0.Has 60) else (iOr .u8 x0.Has 51)) x0.Value x0.Get x0.Set x0.Writable x0.Enumerable x0.Configurable)
def desc_Complete (x0:GDesc):GDesc×Int:=
 let v1:Int:=desc_Check x0
 let v2:GDesc:=desc_whole x0
 bif (iNe v1 0) then ((GDesc.mk 0 (GVal.mk 0 0 [] 0) (GVal.mk 0 0 [] 0) (GVal.mk 0 0 [] 0) false false false),v1)
 else (v2,0)
def witness_holds_l2 (x0:List GKey)(x1:GKey):Nat→Bool→Int→(Bool×Bool×Bool)
 |0,_,_=>default
 |n+1,u2,u3=>
  let v4:GKey:=x0.getD (u3:Int).toNat default
  bif (!(decide ((u3:Int)<(mLen GKey.enc x0)))) then (true,u2,default)
  else bif ((sEq v4.Str x1.Str)&&(iEq v4.Sym x1.Sym)) then (false,default,true)
  else witness_holds_l2 x0 x1 n u2 (iAdd .i64 u3 1)
def witness_holds (x0:List GKey)(x1:GKey):Bool:=
 let r2:Bool×Bool×Bool:=witness_holds_l2 x0 x1 (x0.length+1) false 0
 bif (!(iEq (selB r2.1) 0)) then r2.2.2
 else false
def witness_alone_l3 (x0:GSeen):Nat→Bool→Int→(Bool×Bool×Bool)
 |0,_,_=>default
 |n+1,u3,u4=>
  let v5:GKey:=x0.Out.Keys.getD (u4:Int).toNat default
  let v6:List GKey:=(x0.Out.Keys.drop ((0:Int).toNat)).take ((u4:Int).toNat-(0:Int).toNat)
  let v7:Bool:=witness_holds v6 v5
  bif (!(decide ((u4:Int)<(mLen GKey.enc x0.Out.Keys)))) then (true,u3,default)
  else bif v7 then (false,default,false)
  else witness_alone_l3 x0 n u3 (iAdd .i64 u4 1)
def witness_alone (x0:GSeen):Bool:=
 let v1:Bool:=value_IsObject x0.Out.Value
 let v2:GDesc×Int:=desc_Complete x0.Out.Desc
 let r3:Bool×Bool×Bool:=witness_alone_l3 x0 (x0.Out.Keys.length+1) false 0
 let v6:Bool:=value_IsObject x0.Out.Value
 bif (iEq x0.Method 1) then ((iEq x0.Out.Value.Kind 1)||v1)
 else bif ((iEq x0.Method 5)&&(!x0.Out.Found)) then true
 else bif (iEq x0.Method 5) then ((iEq v2.2 0)&&(iEq v2.1.Has x0.Out.Desc.Has))
 else bif ((iEq x0.Method 11)&&(!(iEq (selB r3.1) 0))) then r3.2.2
 else bif ((!(iEq x0.Method 11))&&(iEq x0.Method 13)) then v6
 else true
def witness_closing (x0:GSeen):Bool:=
 (((iEq x0.Method 3)&&(!x0.Out.Yes))||((iEq x0.Method 4)&&x0.Out.Yes))
def value_Strict (x0:GVal)(x1:GVal):Bool:=
 let v2:Bool:=value_IsObject x0
 let v3:Bool:=value_IsObject x1
 bif (v2&&v3) then (iEq x0.Ref x1.Ref)
 else bif (iNe x0.Kind x1.Kind) then false
 else bif ((iEq x0.Kind 0)||(iEq x0.Kind 1)) then true
 else bif ((iEq x0.Kind 2)||(iEq x0.Kind 3)) then (fEq x0.Num x1.Num)
 else bif (iEq x0.Kind 4) then (sEq x0.Str x1.Str)
 else bif (iEq x0.Kind 5) then (iEq x0.Ref x1.Ref)
 else false
def value_Same (x0:GVal)(x1:GVal):Bool:=
 let v2:Bool:=value_Strict x0 x1
 bif (((iEq x0.Kind 3)&&(iEq x1.Kind 3))&&(fNe x0.Num x0.Num)) then (fNe x1.Num x1.Num)
 else v2
def witness_stays (x0:GDesc)(x1:GDesc):Bool:=
 let v2:Bool:=desc_IsAccess x0
 let v3:Bool:=value_Same x0.Get x1.Get
 let v4:Bool:=value_Same x0.Set x1.Set
 let v5:Bool:=value_Same x0.Value x1.Value
 bif (x1.Configurable||((iNe x1.Has x0.Has)||(!(bEq x1.Enumerable x0.Enumerable)))) then false
 else bif v2 then (v3&&v4)
 else (x0.Writable||((!x1.Writable)&&v5))
def witness_fixed (x0:GKey)(x1:GDesc)(x2:GSeen):Bool:=
 let v3:Bool:=witness_holds x2.Out.Keys x0
 let v4:Bool:=desc_IsData x1
 let v5:Bool:=desc_IsAccess x1
 let v6:Bool:=witness_stays x1 x2.Out.Desc
 let v7:Bool:=value_Same x1.Value x2.Out.Value
 bif (iEq x2.Method 11) then v3
 else bif (!((sEq x2.Key.Str x0.Str)&&(iEq x2.Key.Sym x0.Sym))) then true
 else bif (iEq x2.Method 5) then (x2.Out.Found&&v6)
 else bif (iEq x2.Method 7) then x2.Out.Yes
 else bif (iEq x2.Method 10) then (!x2.Out.Yes)
 else bif ((iEq x2.Method 8)&&(v4&&(!x1.Writable))) then v7
 else bif (iEq x2.Method 8) then (((!v5)||(iNe x1.Get.Kind 0))||(iEq x2.Out.Value.Kind 0))
 else bif (iEq x2.Method 9) then (((!v5)||(iNe x1.Set.Kind 0))||(!x2.Out.Yes))
 else true
def witness_closed_l3 (x0:GSeen)(x1:GSeen):Nat→Bool→Int→(Bool×Bool×Bool)
 |0,_,_=>default
 |n+1,u3,u4=>
  let v5:GKey:=x1.Out.Keys.getD (u4:Int).toNat default
  let v6:Bool:=witness_holds x0.Out.Keys v5
  bif (!(decide ((u4:Int)<(mLen GKey.enc x1.Out.Keys)))) then (true,u3,default)
  else bif (!v6) then (false,default,false)
  else witness_closed_l3 x0 x1 n u3 (iAdd .i64 u4 1)
def witness_closed (x0:GSeen)(x1:GSeen):Bool:=
 let v2:Bool:=value_Same x0.Out.Value x1.Out.Value
 let r3:Bool×Bool×Bool:=witness_closed_l3 x0 x1 (x1.Out.Keys.length+1) false 0
 let v6:Bool:=witness_holds x0.Out.Keys x1.Key
 let v7:Bool:=witness_holds x1.Out.Keys x0.Key
 bif ((iEq x0.Method 1)&&(iEq x1.Method 1)) then v2
 else bif (((iEq x0.Method 11)&&(iEq x1.Method 11))&&(!(iEq (selB r3.1) 0))) then r3.2.2
 else bif ((!((iEq x0.Method 11)&&(iEq x1.Method 11)))&&((iEq x0.Method 11)&&(iEq x1.Method 5))) then ((!x1.Out.Found)||v6)
 else bif ((!((iEq x0.Method 11)&&(iEq x1.Method 11)))&&(((iEq x0.Method 5)&&(!x0.Out.Found))&&(iEq x1.Method 5))) then ((!((sEq x0.Key.Str x1.Key.Str)&&(iEq x0.Key.Sym x1.Key.Sym)))||(!x1.Out.Found))
 else bif ((!((iEq x0.Method 11)&&(iEq x1.Method 11)))&&(((iEq x0.Method 5)&&(!x0.Out.Found))&&(iEq x1.Method 11))) then (!v7)
 else true
def witness_both (x0:List GSeen)(x1:GPast)(x2:Int)(x3:Int):Bool:=
 let v4:GSeen:=x0.getD (x2:Int).toNat default
 let v5:GSeen:=x0.getD (x3:Int).toNat default
 let v6:Bool:=witness_closing v4
 let v7:Bool:=witness_fixed v4.Key v4.Out.Desc v5
 let v8:Bool:=witness_closed v4 v5
 bif ((v6&&(iEq v5.Method 3))&&v5.Out.Yes) then false
 else bif ((((iEq v4.Method 5)&&v4.Out.Found)&&(!v4.Out.Desc.Configurable))&&(!v7)) then false
 else ((((decide ((x1.closing:Int)<0))||(decide ((x1.closing:Int)≥x2)))||(decide ((v4.Began:Int)≤x1.closing)))||v8)
end Go.Fw
end
section
set_option linter.unusedVariables false
set_option linter.unusedSimpArgs false
set_option linter.unusedSectionVars false
namespace Go.Fw
open Go.Proofs
set_option maxRecDepth 100000
theorem hmix : Try.prog.follows .mixedOrders=true:=by kernel_rfl
theorem pc_math_Float64bits (x0:Nat):PC Try.prog 124 [.p (.float .f64 x0)] (.p (.int .u64 (math_Float64bits x0))):=
 pc_ext1 (fn:=Try.f124) (e:=Extern.MathFloatBits.float64bits) (by kernel_rfl) (by kernel_rfl) (by kernel_rfl) (by kernel_rfl) (by kernel_rfl) rfl rfl rfl rfl
theorem pc_math_Float64frombits (x0:Int):PC Try.prog 123 [.p (.int .u64 x0)] (.p (.float .f64 (math_Float64frombits x0))):=
 pc_ext1 (fn:=Try.f123) (e:=Extern.MathFloatBits.float64frombits) (by kernel_rfl) (by kernel_rfl) (by kernel_rfl) (by kernel_rfl) (by kernel_rfl) rfl rfl rfl rfl
theorem pc_math_archTrunc (x0:Nat)(h:notNan x0):PC Try.prog 121 [.p (.float .f64 x0)] (.p (.float .f64 (math_archTrunc x0))):=
 pc_ext1 (fn:=Try.f121) (e:=Extern.MathFloor.toIntegral "math.archTrunc" .zero) (by kernel_rfl) (by kernel_rfl) (by kernel_rfl) (by kernel_rfl) (by kernel_rfl) rfl (trunc_run h) rfl rfl
end Go.Fw
end
section
set_option linter.unusedVariables false
set_option linter.unusedSimpArgs false
set_option linter.unusedSectionVars false
namespace Go.Fw
set_option linter.unusedVariables false
set_option linter.unusedSimpArgs false
set_option maxRecDepth 100000
set_option maxHeartbeats 4000000
open Go.Proofs
instance : FzR GVal.enc:=⟨GVal.fzL⟩
instance {x : GVal}:Fz (GVal.av x):=⟨GVal.fz x⟩
instance : Rok GVal.enc 4:=⟨GVal.len⟩
instance : FzR GKey.enc:=⟨GKey.fzL⟩
instance {x : GKey}:Fz (GKey.av x):=⟨GKey.fz x⟩
instance : Rok GKey.enc 2:=⟨GKey.len⟩
instance : FzR GDesc.enc:=⟨GDesc.fzL⟩
instance {x : GDesc}:Fz (GDesc.av x):=⟨GDesc.fz x⟩
instance : Rok GDesc.enc 16:=⟨GDesc.len⟩
instance : FzR GProp.enc:=⟨GProp.fzL⟩
instance {x : GProp}:Fz (GProp.av x):=⟨GProp.fz x⟩
instance : Rok GProp.enc 18:=⟨GProp.len⟩
instance : FzR GObj.enc:=⟨GObj.fzL⟩
instance {x : GObj}:Fz (GObj.av x):=⟨GObj.fz x⟩
instance : Rok GObj.enc 18:=⟨GObj.len⟩
instance : FzR GHeap.enc:=⟨GHeap.fzL⟩
instance {x : GHeap}:Fz (GHeap.av x):=⟨GHeap.fz x⟩
instance : Rok GHeap.enc 1:=⟨GHeap.len⟩
instance : FzR GOut.enc:=⟨GOut.fzL⟩
instance {x : GOut}:Fz (GOut.av x):=⟨GOut.fz x⟩
instance : Rok GOut.enc 26:=⟨GOut.len⟩
instance : FzR GSeen.enc:=⟨GSeen.fzL⟩
instance {x : GSeen}:Fz (GSeen.av x):=⟨GSeen.fz x⟩
instance : Rok GSeen.enc 32:=⟨GSeen.len⟩
instance : FzR GAsk.enc:=⟨GAsk.fzL⟩
instance {x : GAsk}:Fz (GAsk.av x):=⟨GAsk.fz x⟩
instance : Rok GAsk.enc 29:=⟨GAsk.len⟩
instance : FzR GWant.enc:=⟨GWant.fzL⟩
instance {x : GWant}:Fz (GWant.av x):=⟨GWant.fz x⟩
instance : Rok GWant.enc 87:=⟨GWant.len⟩
instance : FzR GFix.enc:=⟨GFix.fzL⟩
instance {x : GFix}:Fz (GFix.av x):=⟨GFix.fz x⟩
instance : Rok GFix.enc 23:=⟨GFix.len⟩
instance : FzR GFacts.enc:=⟨GFacts.fzL⟩
instance {x : GFacts}:Fz (GFacts.av x):=⟨GFacts.fz x⟩
instance : Rok GFacts.enc 24:=⟨GFacts.len⟩
instance : FzR GPast.enc:=⟨GPast.fzL⟩
instance {x : GPast}:Fz (GPast.av x):=⟨GPast.fz x⟩
instance : Rok GPast.enc 2:=⟨GPast.len⟩
instance {r : GDesc×Int}:Fz (eR_Desc_ii64 r):=⟨(inferInstance:FzL [(GDesc.av r.1),(.p (.int .i64 r.2))]).h⟩
noncomputable def xBase : Ext':=xOr (xNum 124 123 121) (xClone Try.prog)
theorem xBase_ok : ∀σ:List AV,fzL σ=true→ExtOk Try.prog σ xBase:=xOr_ok (xNum_ok pc_math_Float64bits pc_math_Float64frombits pc_math_archTrunc) xClone_ok
noncomputable def iBase : Inl:=inOr (inlO Try.prog (ocT [(22,[0],18,false),(25,[0],18,false),(27,[0,0],18,false),(31,[0,0],18,false)])) (inlW Try.prog (wcT [(100000,[(0,18)]),(100000,[(1,2)]),(100000,[(1,2)]),(100000,[(1,2)]),(100000,[(1,2)]),(100000,[(1,2)]),(88,[]),(49,[]),(52,[]),(104,[])]))
theorem iBase_ok : ∀σ:List AV,fzL σ=true→InlOk Try.prog σ iBase:=inOr_ok inlO_ok inlW_ok
def mdI : Md:=mdT 822752278852164963685720698573509829529663998224680964801429504
def kA : List (List Nat):=[[],[],[],[],[],[],[],[],[],[],[],[],[],[],[],[],[],[],[],[],[],[],[],[],[],[],[],[],[],[],[],[],[],[],[],[],[],[],[],[],[],[],[],[],[],[],[],[],[],[0,1,2,6,7,8,9,14,15,16,17,18,30],[],[],[0,1,2,6,7,8,9,14,15,16,17,18,30],[],[],[],[],[],[],[],[],[],[],[],[],[],[],[],[],[],[],[],[],[],[],[],[],[],[],[],[],[],[],[],[],[],[],[],[0,1,4],[],[],[],[],[],[],[],[],[],[],[],[],[],[],[],[0,1,4,5,7,8,9,16],[],[],[],[],[],[],[],[],[],[],[],[],[],[],[],[],[],[],[],[],[],[],[],[],[],[],[],[],[],[],[],[],[],[],[],[],[],[],[],[],[],[],[],[],[],[],[]]
def sT : SpT:=⟨[(42,⟨[(qM (.li 0) (V 2)),(qL (V 2) (.rlen (V 0))),(qM (.li 0) (V 3)),(qL (V 3) (.rlen (V 0)))],[],[]⟩)],[]⟩
def R40 : PRes:=
 ⟨[((.lb true),(zB (.and (.and (.not (W 0 5)) (.bin .geq kU (W 0 2) (.li 1))) (.bin .leq kU (W 0 2) (.li 13)))))],
 [],[]⟩
theorem e40 : sFnI Try.prog xBase iBase mdI (fcI kA 40 [] []) 3 200 40 [.agg (cV 0 GSeen.kds)] 1=some R40:=by kernel_rfl
theorem ct_witness_counts (x0:GSeen):CT Try.prog sT 40 [GSeen.av x0] (eB (witness_counts x0)):=
 mkH hmix xBase_ok iBase_ok e40 lh0 (by kernel_rfl) [GSeen.av x0] xn
  wn
  ln
  (selL rfl)
theorem pc_witness_counts (x0:GSeen):PC Try.prog 40 [GSeen.av x0] (eB (witness_counts x0)):=(ct_witness_counts x0 trivial).1
def R60 : PRes:=
 ⟨[((.lb true),(zB (.and (.bin .geq kU (W 0 0) (.li 6)) (.bin .leq kU (W 0 0) (.li 8)))))],
 [],[]⟩
theorem e60 : sFnI Try.prog xBase iBase mdI (fcI kA 60 [] []) 3 200 60 [.agg (cV 0 GVal.kds)] 1=some R60:=by kernel_rfl
theorem ct_value_IsObject (x0:GVal):CT Try.prog sT 60 [GVal.av x0] (eB (value_IsObject x0)):=
 mkH hmix xBase_ok iBase_ok e60 lh0 (by kernel_rfl) [GVal.av x0] xn
  wn
  ln
  (selL rfl)
def R80 : PRes:=
 ⟨[((.lb true),(zB (uN (.bin .and kU (W 0 0) (.li 3)) (.li 0))))],
 [],[]⟩
theorem e80 : sFnI Try.prog xBase iBase mdI (fcI kA 80 [] []) 3 200 80 [.agg (cV 0 GDesc.kds)] 1=some R80:=by kernel_rfl
theorem ct_desc_IsData (x0:GDesc):CT Try.prog sT 80 [GDesc.av x0] (eB (desc_IsData x0)):=
 mkH hmix xBase_ok iBase_ok e80 lh0 (by kernel_rfl) [GDesc.av x0] xn
  wn
  ln
  (selL rfl)
def R81 : PRes:=
 ⟨[((.lb true),(zB (uN (.bin .and kU (W 0 0) (.li 12)) (.li 0))))],
 [],[]⟩
theorem e81 : sFnI Try.prog xBase iBase mdI (fcI kA 81 [] []) 3 200 81 [.agg (cV 0 GDesc.kds)] 1=some R81:=by kernel_rfl
theorem ct_desc_IsAccess (x0:GDesc):CT Try.prog sT 81 [GDesc.av x0] (eB (desc_IsAccess x0)):=
 mkH hmix xBase_ok iBase_ok e81 lh0 (by kernel_rfl) [GDesc.av x0] xn
  wn
  ln
  (selL rfl)
def R112 : PRes:=
 ⟨[((.lb true),(zF (V 1)))],
 [([],(.call 121 [(zF (V 0))] (zF (V 1))))],[]⟩
theorem e112 : sFnI Try.prog xBase iBase mdI (fcI kA 112 [] []) 3 200 112 [zF (V 0)] 1=some R112:=by kernel_rfl
theorem ct_math_Trunc (x0:Nat)(h0:notNan x0):CT Try.prog sT 112 [eF x0] (eF (math_Trunc x0)):=
 let v1:Nat:=math_archTrunc x0
 mkH hmix xBase_ok iBase_ok e112 lh0 (by kernel_rfl) [eF x0,eF v1] xn
  (wCp (by intro h;exact ctP (pc_math_archTrunc x0 h0))<|wn)
  ln
  (selL rfl)
def R113 : PRes:=
 ⟨[((.lb true),(zF (V 2)))],
 [([],(.call 124 [(zF (V 0))] (.sc (.int .u64) (V 1)))),
 ([],(.call 123 [(.sc (.int .u64) (.bin .andNot (.int .u64) (V 1) (.li 9223372036854775808)))] (zF (V 2))))],[]⟩
theorem e113 : sFnI Try.prog xBase iBase mdI (fcI kA 113 [] []) 3 200 113 [zF (V 0)] 1=some R113:=by kernel_rfl
theorem ct_math_Abs (x0:Nat):CT Try.prog sT 113 [eF x0] (eF (math_Abs x0)):=
 let v1:Int:=math_Float64bits x0
 let v2:Nat:=math_Float64frombits (iAndNot .u64 v1 9223372036854775808)
 mkH hmix xBase_ok iBase_ok e113 lh0 (by kernel_rfl) [eF x0,.p (.int .u64 v1),eF v2] xn
  (wC (ctP (pc_math_Float64bits x0)) <|
  wC (ctP (pc_math_Float64frombits (iAndNot .u64 v1 9223372036854775808))) <|
  wn)
  ln
  (selL rfl)
def R114 : PRes:=
 ⟨[((.lb true),(zB (qL (.conv .i64 (V 1)) (.li 0))))],
 [([],(.call 124 [(zF (V 0))] (.sc (.int .u64) (V 1))))],[]⟩
theorem e114 : sFnI Try.prog xBase iBase mdI (fcI kA 114 [] []) 3 200 114 [zF (V 0)] 1=some R114:=by kernel_rfl
theorem ct_math_Signbit (x0:Nat):CT Try.prog sT 114 [eF x0] (eB (math_Signbit x0)):=
 let v1:Int:=math_Float64bits x0
 mkH hmix xBase_ok iBase_ok e114 lh0 (by kernel_rfl) [eF x0,.p (.int .u64 v1)] xn
  (wC (ctP (pc_math_Float64bits x0))<|wn)
  ln
  (selL rfl)
def R103 : PRes:=
 let p0:Pc:=((.bin .neq .flt (V 0) (V 0)),false)::[]
 let p1:Pc:=((.bin .eql .flt (V 1) (V 0)),true)::p0
 let p2:Pc:=((.and (.bin .eql .flt (V 1) (V 0)) (.bin .leq .flt (V 2) (.lf 4845873199050653695))),true)::p0
 let p3:Pc:=((.bin .neq .flt (V 0) (.lf 0)),false)::p2
 ⟨[((.lb true),(zB (.or (.bin .neq .flt (V 0) (V 0)) (.and (.and (.bin .eql .flt (V 1) (V 0)) (.bin .leq .flt (V 2) (.lf 4845873199050653695))) (.or (.bin .neq .flt (V 0) (.lf 0)) (.not (V 3)))))))],
 [(p0,(.call 112 [(zF (V 0))] (zF (V 1)))),
 (p1,(.call 113 [(zF (V 0))] (zF (V 2)))),
 (p3,(.call 114 [(zF (V 0))] (zB (V 3))))],[]⟩
theorem e103 : sFnI Try.prog xBase iBase mdI (fcI kA 103 [] []) 3 200 103 [zF (V 0)] 1=some R103:=by kernel_rfl
theorem ct_num_May (x0:Nat):CT Try.prog sT 103 [eF x0] (eB (num_May x0)):=
 let v1:Nat:=math_Trunc x0
 let v2:Nat:=math_Abs x0
 let v3:Bool:=math_Signbit x0
 mkH hmix xBase_ok iBase_ok e103 lh0 (by kernel_rfl) [eF x0,eF v1,eF v2,eB v3] xn
  (wCp (by intro h;exact ct_math_Trunc x0 (fnn3 (h.at 0 rfl))) <|
  wC (ct_math_Abs x0) <|
  wC (ct_math_Signbit x0) <|
  wn)
  ln
  (selL rfl)
def R84 : PRes:=
 let p0:Pc:=((qG (.slen (W 0 2)) (.li 4096)),false)::[]
 let p1:Pc:=((qL (W 0 3) (.li 0)),false)::p0
 let p2:Pc:=((.bin .gtr kU (W 0 0) (.li 8)),false)::p1
 let p3:Pc:=((uE (W 0 0) (.li 2)),true)::p2
 let p4:Pc:=((.bin .neq .flt (W 0 1) (.lf 4607182418800017408)),true)::p3
 let p5:Pc:=((.bin .neq .flt (W 0 1) (.lf 0)),false)::p4
 let p6:Pc:=((uE (W 0 0) (.li 2)),false)::p2
 let p7:Pc:=((uE (W 0 0) (.li 3)),true)::p6
 let p8:Pc:=((.and (uE (W 0 0) (.li 2)) (.and (.bin .neq .flt (W 0 1) (.lf 4607182418800017408)) (.or (.bin .neq .flt (W 0 1) (.lf 0)) (.not (V 1))))),false)::p2
 let p9:Pc:=((.and (.not (uE (W 0 0) (.li 2))) (.and (uE (W 0 0) (.li 3)) (.not (V 2)))),false)::p8
 let p10:Pc:=((.and (uE (W 0 0) (W 0 0)) (.and (.or (uE (W 0 0) (.li 2)) (.or (uE (W 0 0) (.li 3)) (.bin .eql .flt (W 0 1) (.lf 0)))) (.and (.ite (uE (W 0 0) (.li 2)) (sE (W 0 2) (.ls [])) (.ite (uE (W 0 0) (.li 3)) (sE (W 0 2) (.ls [])) (.or (uE (W 0 0) (.li 4)) (sE (W 0 2) (.ls []))))) (.ite (uE (W 0 0) (.li 2)) (qE (W 0 3) (.li 0)) (.ite (uE (W 0 0) (.li 3)) (qE (W 0 3) (.li 0)) (.ite (uE (W 0 0) (.li 4)) (qE (W 0 3) (.li 0)) (.or (.or (uE (W 0 0) (.li 5)) (.or (uE (W 0 0) (.li 6)) (.or (uE (W 0 0) (.li 7)) (uE (W 0 0) (.li 8))))) (qE (W 0 3) (.li 0))))))))),true)::p9
 ⟨[((.or (.or (.bin .gtr kU (W 0 0) (.li 8)) (qL (W 0 3) (.li 0))) (qG (.slen (W 0 2)) (.li 4096))),(zB (.lb false))),((.and (uE (W 0 0) (.li 2)) (.and (.bin .neq .flt (W 0 1) (.lf 4607182418800017408)) (.or (.bin .neq .flt (W 0 1) (.lf 0)) (.not (V 1))))),(zB (.lb false))),((.and (.not (uE (W 0 0) (.li 2))) (.and (uE (W 0 0) (.li 3)) (.not (V 2)))),(zB (.lb false))),((.lb true),(zB (.and (.and (uE (W 0 0) (W 0 0)) (.and (.or (uE (W 0 0) (.li 2)) (.or (uE (W 0 0) (.li 3)) (.bin .eql .flt (W 0 1) (.lf 0)))) (.and (.ite (uE (W 0 0) (.li 2)) (sE (W 0 2) (.ls [])) (.ite (uE (W 0 0) (.li 3)) (sE (W 0 2) (.ls [])) (.or (uE (W 0 0) (.li 4)) (sE (W 0 2) (.ls []))))) (.ite (uE (W 0 0) (.li 2)) (qE (W 0 3) (.li 0)) (.ite (uE (W 0 0) (.li 3)) (qE (W 0 3) (.li 0)) (.ite (uE (W 0 0) (.li 4)) (qE (W 0 3) (.li 0)) (.or (.or (uE (W 0 0) (.li 5)) (.or (uE (W 0 0) (.li 6)) (.or (uE (W 0 0) (.li 7)) (uE (W 0 0) (.li 8))))) (qE (W 0 3) (.li 0))))))))) (V 3))))],
 [(p5,(.call 103 [(zF (W 0 1))] (zB (V 1)))),
 (p7,(.call 103 [(zF (W 0 1))] (zB (V 2)))),
 (p10,(.call 103 [(zF (.ite (uE (W 0 0) (.li 2)) (.lf 0) (.ite (uE (W 0 0) (.li 3)) (.lf 0) (W 0 1))))] (zB (V 3))))],[]⟩
theorem e84 : sFnI Try.prog xBase iBase mdI (fcI kA 84 [] []) 3 200 84 [.agg (cV 0 GVal.kds)] 1=some R84:=by kernel_rfl
theorem ct_value_May (x0:GVal):CT Try.prog sT 84 [GVal.av x0] (eB (value_May x0)):=
 let v1:Bool:=num_May x0.Num
 let v2:Bool:=num_May x0.Num
 let v3:Bool:=num_May (bif (iEq x0.Kind 2) then 0 else (bif (iEq x0.Kind 3) then 0 else x0.Num))
 mkH hmix xBase_ok iBase_ok e84 lh0 (by kernel_rfl) [GVal.av x0,eB v1,eB v2,eB v3] xn
  (wC (ct_num_May x0.Num) <|
  wC (ct_num_May x0.Num) <|
  wC (ct_num_May (bif (iEq x0.Kind 2) then 0 else (bif (iEq x0.Kind 3) then 0 else x0.Num))) <|
  wn)
  ln
  (selE (fun r=>.p (.bool r)) rfl rfl (selE (fun r=>.p (.bool r)) rfl rfl (selE (fun r=>.p (.bool r)) rfl rfl (selL rfl))))
def R111 : PRes:=
 ⟨[((.lb true),(zB (.or (uE (W 0 0) (.li 7)) (uE (W 0 0) (.li 8)))))],
 [],[]⟩
theorem e111 : sFnI Try.prog xBase iBase mdI (fcI kA 111 [] []) 3 200 111 [.agg (cV 0 GVal.kds)] 1=some R111:=by kernel_rfl
theorem ct_value_Calls (x0:GVal):CT Try.prog sT 111 [GVal.av x0] (eB (value_Calls x0)):=
 mkH hmix xBase_ok iBase_ok e111 lh0 (by kernel_rfl) [GVal.av x0] xn
  wn
  ln
  (selL rfl)
def R101 : PRes:=
 let p0:Pc:=((V 1),true)::[]
 let p1:Pc:=((uE (W 0 0) (.li 0)),false)::p0
 ⟨[((.lb true),(zB (.and (V 1) (.or (uE (W 0 0) (.li 0)) (V 2)))))],
 [([],(.call 84 [(.agg (cV 0 GVal.kds))] (zB (V 1)))),
 (p1,(.call 111 [(.agg (cV 0 GVal.kds))] (zB (V 2))))],[]⟩
theorem e101 : sFnI Try.prog xBase iBase mdI (fcI kA 101 [] []) 3 200 101 [.agg (cV 0 GVal.kds)] 1=some R101:=by kernel_rfl
theorem ct_desc_called (x0:GVal):CT Try.prog sT 101 [GVal.av x0] (eB (desc_called x0)):=
 let v1:Bool:=value_May x0
 let v2:Bool:=value_Calls x0
 mkH hmix xBase_ok iBase_ok e101 lh0 (by kernel_rfl) [GVal.av x0,eB v1,eB v2] xn
  (wC (ct_value_May x0) <|
  wC (ct_value_Calls x0) <|
  wn)
  ln
  (selL rfl)
def R78 : PRes:=
 let p0:Pc:=((uN (.bin .andNot kU (W 0 0) (.li 63)) (.li 0)),false)::[]
 let p1:Pc:=((V 1),true)::p0
 let p2:Pc:=((.or (uN (.bin .andNot kU (W 0 0) (.li 63)) (.li 0)) (.and (V 1) (V 2))),false)::[]
 let p3:Pc:=((.or (.or (uN (.bin .andNot kU (W 0 0) (.li 63)) (.li 0)) (.and (V 1) (V 2))) (.not (V 3))),false)::[]
 let p4:Pc:=((.or (.or (.or (uN (.bin .andNot kU (W 0 0) (.li 63)) (.li 0)) (.and (V 1) (V 2))) (.not (V 3))) (.not (V 4))),false)::[]
 ⟨[((.or (.or (.or (.or (uN (.bin .andNot kU (W 0 0) (.li 63)) (.li 0)) (.and (V 1) (V 2))) (.not (V 3))) (.not (V 4))) (.not (V 5))),(zI (.li 90))),((.or (.or (.and (uN (.bin .and kU (.com .u8 (W 0 0)) (.li 1)) (.li 0)) (.not (.and (uE (W 0 1) (.li 0)) (.and (.bin .eql .flt (W 0 2) (.lf 0)) (.and (sE (W 0 3) (.ls [])) (qE (W 0 4) (.li 0))))))) (.and (uN (.bin .and kU (.com .u8 (W 0 0)) (.li 4)) (.li 0)) (.not (.and (uE (W 0 5) (.li 0)) (.and (.bin .eql .flt (W 0 6) (.lf 0)) (.and (sE (W 0 7) (.ls [])) (qE (W 0 8) (.li 0)))))))) (.and (uN (.bin .and kU (.com .u8 (W 0 0)) (.li 8)) (.li 0)) (.not (.and (uE (W 0 9) (.li 0)) (.and (.bin .eql .flt (W 0 10) (.lf 0)) (.and (sE (W 0 11) (.ls [])) (qE (W 0 12) (.li 0)))))))),(zI (.li 90))),((.or (.or (.and (uN (.bin .and kU (.com .u8 (W 0 0)) (.li 2)) (.li 0)) (W 0 13)) (.and (uN (.bin .and kU (.com .u8 (W 0 0)) (.li 16)) (.li 0)) (W 0 14))) (.and (uN (.bin .and kU (.com .u8 (W 0 0)) (.li 32)) (.li 0)) (W 0 15))),(zI (.li 90))),((.lb true),(zI (.li 0)))],
 [(p0,(.call 80 [(.agg (cV 0 GDesc.kds))] (zB (V 1)))),
 (p1,(.call 81 [(.agg (cV 0 GDesc.kds))] (zB (V 2)))),
 (p2,(.call 84 [(.agg (cW 0 1 GVal.kds))] (zB (V 3)))),
 (p3,(.call 101 [(.agg (cW 0 5 GVal.kds))] (zB (V 4)))),
 (p4,(.call 101 [(.agg (cW 0 9 GVal.kds))] (zB (V 5))))],[]⟩
theorem e78 : sFnI Try.prog xBase iBase mdI (fcI kA 78 [] []) 3 200 78 [.agg (cV 0 GDesc.kds)] 1=some R78:=by kernel_rfl
theorem ct_desc_Check (x0:GDesc):CT Try.prog sT 78 [GDesc.av x0] (eI (desc_Check x0)):=
 let v1:Bool:=desc_IsData x0
 let v2:Bool:=desc_IsAccess x0
 let v3:Bool:=value_May x0.Value
 let v4:Bool:=desc_called x0.Get
 let v5:Bool:=desc_called x0.Set
 mkH hmix xBase_ok iBase_ok e78 lh0 (by kernel_rfl) [GDesc.av x0,eB v1,eB v2,eB v3,eB v4,eB v5] xn
  (wC (ct_desc_IsData x0) <|
  wC (ct_desc_IsAccess x0) <|
  wC (ct_value_May x0.Value) <|
  wC (ct_desc_called x0.Get) <|
  wC (ct_desc_called x0.Set) <|
  wn)
  ln
  (selE (fun r=>.p (.int .i64 r)) rfl rfl (selE (fun r=>.p (.int .i64 r)) rfl rfl (selE (fun r=>.p (.int .i64 r)) rfl rfl (selL rfl))))
def R79 : PRes:=
 ⟨[((.lb true),(.agg [(zU (.ite (V 1) (.bin .or kU (W 0 0) (.li 60)) (.bin .or kU (W 0 0) (.li 51)))),(zU (W 0 1)),(zF (W 0 2)),(zS (W 0 3)),(zI (W 0 4)),(zU (W 0 5)),(zF (W 0 6)),(zS (W 0 7)),(zI (W 0 8)),(zU (W 0 9)),(zF (W 0 10)),(zS (W 0 11)),(zI (W 0 12)),(zB (W 0 13)),(zB (W 0 14)),(zB (W 0 15))]))],
 [([],(.call 81 [(.agg (cV 0 GDesc.kds))] (zB (V 1))))],[]⟩
theorem e79 : sFnI Try.prog xBase iBase mdI (fcI kA 79 [] []) 3 200 79 [.agg (cV 0 GDesc.kds)] 1=some R79:=by kernel_rfl
theorem ct_desc_whole (x0:GDesc):CT Try.prog sT 79 [GDesc.av x0] (GDesc.av (desc_whole x0)):=
 let v1:Bool:=desc_IsAccess x0
 mkH hmix xBase_ok iBase_ok e79 lh0 (by kernel_rfl) [GDesc.av x0,eB v1] xn
  (wC (ct_desc_IsAccess x0)<|wn)
  ln
  (selL rfl)
def R61 : PRes:=
 let p0:Pc:=((qN (V 1) (.li 0)),false)::[]
 ⟨[((qN (V 1) (.li 0)),(.tup [(.agg [(zU (.li 0)),(zU (.li 0)),(zF (.lf 0)),(zS (.ls [])),(zI (.li 0)),(zU (.li 0)),(zF (.lf 0)),(zS (.ls [])),(zI (.li 0)),(zU (.li 0)),(zF (.lf 0)),(zS (.ls [])),(zI (.li 0)),(zB (.lb false)),(zB (.lb false)),(zB (.lb false))]),(zI (V 1))])),((.lb true),(.tup [(.agg (cV 2 GDesc.kds)),(zI (.li 0))]))],
 [([],(.call 78 [(.agg (cV 0 GDesc.kds))] (zI (V 1)))),
 (p0,(.call 79 [(.agg (cV 0 GDesc.kds))] (.agg (cV 2 GDesc.kds))))],[]⟩
theorem e61 : sFnI Try.prog xBase iBase mdI (fcI kA 61 [] []) 3 200 61 [.agg (cV 0 GDesc.kds)] 1=some R61:=by kernel_rfl
theorem ct_desc_Complete (x0:GDesc):CT Try.prog sT 61 [GDesc.av x0] (eR_Desc_ii64 (desc_Complete x0)):=
 let v1:Int:=desc_Check x0
 let v2:GDesc:=desc_whole x0
 mkH hmix xBase_ok iBase_ok e61 lh0 (by kernel_rfl) [GDesc.av x0,eI v1,GDesc.av v2] xn
  (wC (ct_desc_Check x0) <|
  wC (ct_desc_whole x0) <|
  wn)
  ln
  (selE eR_Desc_ii64 rfl rfl (selL rfl))
def L62_2 : Lo:=
 let p0:Pc:=((qL (V 3) (.rlen (V 0))),true)::[]
 .mk [] 2 2 [(zB (.lb false)),(zI (.li 0))] [((.not (qL (V 3) (.rlen (V 0)))),1,[(zB (V 2))]),((.and (sE (W 4 0) (W 1 0)) (qE (W 4 1) (W 1 1))),2,[(zB (.lb true))]),((.lb true),0,[(zB (V 2)),(zI (aI (V 3) (.li 1)))])] [(p0,(.row (V 0) (V 3) [(zS (W 4 0)),(zI (W 4 1))]))] [] [1,1] [(V 0)]
def H62_2 : LH:=.mk [(qM (.li 0) (V 3))] (mI (.rlen (V 0)) (V 3)) [((.rlen (V 0)),1)] [] 0 [] []
def rk_witness_holds_l2 (r:Bool×Bool×Bool):Nat×List AV:=rk2 r.1 [eB r.2.1] [eB r.2.2]
theorem lp_witness_holds_l2 (x0:List GKey)(x1:GKey):∀(n:Nat) (u2:Bool) (u3:Int),RunL Try.prog sT L62_2 H62_2 [eL GKey.enc x0,GKey.av x1] n [eB u2,eI u3] (rk_witness_holds_l2 (witness_holds_l2 x0 x1 n u2 u3))
 |0,u2,u3=>l0
 |n+1,u2,u3=>
  let v4:GKey:=x0.getD (u3:Int).toNat default
  lmk rfl [GKey.av v4] xn (wR rfl<|wn) ln <|
   rc rk_witness_holds_l2 rx<|rc rk_witness_holds_l2 rx<|rl (rg (lp_witness_holds_l2 x0 x1 n _ _))
def R62 : PRes:=
 ⟨[((.not (qE (V 2) (.li 0))),(zB (V 4))),((.lb true),(zB (.lb false)))],
 [],[L62_2]⟩
def H62 : LH:=.mk [] (.li 0) [] [] 0 [H62_2] []
theorem e62 : sFnI Try.prog xBase iBase mdI (fcI kA 62 [9,4] [(0,(.mk [3,7,8] (.mk [(4,(.sc .bool)),(9,(.sc kI))] [] [] 5 []) [(.normal,(.mk [(4,(.sc .bool))] [] [] 5 [])),(.ret,(.mk [(4,(.sc .bool))] [] [] 5 []))]))]) 3 200 62 [zL (V 0),.agg (cV 1 GKey.kds)] 2=some R62:=by kernel_rfl
theorem ct_witness_holds (x0:List GKey)(x1:GKey):CT Try.prog sT 62 [eL GKey.enc x0,GKey.av x1] (eB (witness_holds x0 x1)):=
 let r2:Bool×Bool×Bool:=witness_holds_l2 x0 x1 (x0.length+1) false 0
 mkH hmix xBase_ok iBase_ok e62 H62 (by kernel_rfl) [eL GKey.enc x0,GKey.av x1,eI (selB r2.1),eB r2.2.1,eB r2.2.2] xn
  wn
  (lc2 (lp_witness_holds_l2 x0 x1 (x0.length+1) false 0) <|
  ln)
  (selE (fun r=>.p (.bool r)) rfl rfl (selL rfl))
def L41_3 : Lo:=
 let p0:Pc:=((uE (W 0 2) (.li 1)),false)::[]
 let p1:Pc:=((uE (W 0 2) (.li 5)),false)::p0
 let p2:Pc:=((uE (W 0 2) (.li 11)),true)::p1
 let p3:Pc:=((qL (V 4) (.rlen (W 0 29))),true)::p2
 .mk [((uE (W 0 2) (.li 11)),true),((uE (W 0 2) (.li 5)),false),((uE (W 0 2) (.li 1)),false)] 3 2 [(zB (.lb false)),(zI (.li 0))] [((.not (qL (V 4) (.rlen (W 0 29)))),1,[(zB (V 3))]),((V 7),2,[(zB (.lb false))]),((.lb true),0,[(zB (V 3)),(zI (aI (V 4) (.li 1)))])] [(p3,(.row (W 0 29) (V 4) [(zS (W 5 0)),(zI (W 5 1))])),
 (p3,(.sub 2 (W 0 29) (some (.li 0)) (some (V 4)) (V 6))),
 (p3,(.call 62 [(zL (V 6)),(.agg [(zS (W 5 0)),(zI (W 5 1))])] (zB (V 7))))] [] [1,1] [(W 0 29)]
def H41_3 : LH:=.mk [(qM (.li 0) (V 4))] (mI (.rlen (W 0 29)) (V 4)) [((.rlen (W 0 29)),1)] [] 2 [] []
def rk_witness_alone_l3 (r:Bool×Bool×Bool):Nat×List AV:=rk2 r.1 [eB r.2.1] [eB r.2.2]
theorem lp_witness_alone_l3 (x0:GSeen)(v1:Bool)(v2:GDesc×Int):∀(n:Nat) (u3:Bool) (u4:Int),RunL Try.prog sT L41_3 H41_3 [GSeen.av x0,eB v1,eR_Desc_ii64 v2] n [eB u3,eI u4] (rk_witness_alone_l3 (witness_alone_l3 x0 n u3 u4))
 |0,u3,u4=>l0
 |n+1,u3,u4=>
  let v5:GKey:=x0.Out.Keys.getD (u4:Int).toNat default
  let v6:List GKey:=(x0.Out.Keys.drop ((0:Int).toNat)).take ((u4:Int).toNat-(0:Int).toNat)
  let v7:Bool:=witness_holds v6 v5
  lmk rfl [GKey.av v5,eL GKey.enc v6,eB v7] xn (wR rfl <|
  wSub rfl <|
  wC (ct_witness_holds v6 v5) <|
  wn) ln <|
   rc rk_witness_alone_l3 rx<|rc rk_witness_alone_l3 rx<|rl (rg (lp_witness_alone_l3 x0 v1 v2 n _ _))
def R41 : PRes:=
 let p0:Pc:=((uE (W 0 2) (.li 1)),true)::[]
 let p1:Pc:=((uE (W 0 7) (.li 1)),false)::p0
 let p2:Pc:=((uE (W 0 2) (.li 1)),false)::[]
 let p3:Pc:=((uE (W 0 2) (.li 5)),true)::p2
 let p4:Pc:=((W 0 12),true)::p3
 let p5:Pc:=((uE (W 0 2) (.li 5)),false)::p2
 let p6:Pc:=((uE (W 0 2) (.li 11)),false)::p5
 let p7:Pc:=((uE (W 0 2) (.li 13)),true)::p6
 ⟨[((uE (W 0 2) (.li 1)),(zB (.or (uE (W 0 7) (.li 1)) (V 1)))),((.and (uE (W 0 2) (.li 5)) (.not (W 0 12))),(zB (.lb true))),((uE (W 0 2) (.li 5)),(zB (.and (qE (W 2 1) (.li 0)) (uE (.var 2 [0,0]) (W 0 13))))),((.and (uE (W 0 2) (.li 11)) (.not (qE (V 3) (.li 0)))),(zB (V 5))),((.and (.not (uE (W 0 2) (.li 11))) (uE (W 0 2) (.li 13))),(zB (V 6))),((.lb true),(zB (.lb true)))],
 [(p1,(.call 60 [(.agg (cW 0 7 GVal.kds))] (zB (V 1)))),
 (p4,(.call 61 [(.agg (cW 0 13 GDesc.kds))] (.tup [(.agg (cellsV 2 [0] 0 GDesc.kds)),(zI (W 2 1))]))),
 (p7,(.call 60 [(.agg (cW 0 7 GVal.kds))] (zB (V 6))))],[L41_3]⟩
def H41 : LH:=.mk [] (.li 0) [] [] 0 [H41_3] []
theorem e41 : sFnI Try.prog xBase iBase mdI (fcI kA 41 [5,52,2] [(1,(.mk [1,50,51] (.mk [(2,(.sc .bool)),(52,(.sc kI))] [] [] 15 []) [(.normal,(.mk [(2,(.sc .bool))] [] [] 15 [])),(.ret,(.mk [(2,(.sc .bool))] [] [] 15 []))]))]) 3 200 41 [.agg (cV 0 GSeen.kds)] 1=some R41:=by kernel_rfl
theorem ct_witness_alone (x0:GSeen):CT Try.prog sT 41 [GSeen.av x0] (eB (witness_alone x0)):=
 let v1:Bool:=value_IsObject x0.Out.Value
 let v2:GDesc×Int:=desc_Complete x0.Out.Desc
 let r3:Bool×Bool×Bool:=witness_alone_l3 x0 (x0.Out.Keys.length+1) false 0
 let v6:Bool:=value_IsObject x0.Out.Value
 mkH hmix xBase_ok iBase_ok e41 H41 (by kernel_rfl) [GSeen.av x0,eB v1,eR_Desc_ii64 v2,eI (selB r3.1),eB r3.2.1,eB r3.2.2,eB v6] xn
  (wC (ct_value_IsObject x0.Out.Value) <|
  wC (ct_desc_Complete x0.Out.Desc) <|
  wC (ct_value_IsObject x0.Out.Value) <|
  wn)
  (lc2 (lp_witness_alone_l3 x0 v1 v2 (x0.Out.Keys.length+1) false 0) <|
  ln)
  (selE (fun r=>.p (.bool r)) rfl rfl (selE (fun r=>.p (.bool r)) rfl rfl (selE (fun r=>.p (.bool r)) rfl rfl (selE (fun r=>.p (.bool r)) rfl rfl (selE (fun r=>.p (.bool r)) rfl rfl (selL rfl))))))
theorem pc_witness_alone (x0:GSeen):PC Try.prog 41 [GSeen.av x0] (eB (witness_alone x0)):=(ct_witness_alone x0 trivial).1
def R43 : PRes:=
 ⟨[((.lb true),(zB (.or (.and (uE (W 0 2) (.li 3)) (.not (W 0 11))) (.and (uE (W 0 2) (.li 4)) (W 0 11)))))],
 [],[]⟩
theorem e43 : sFnI Try.prog xBase iBase mdI (fcI kA 43 [] []) 3 200 43 [.agg (cV 0 GSeen.kds)] 1=some R43:=by kernel_rfl
theorem ct_witness_closing (x0:GSeen):CT Try.prog sT 43 [GSeen.av x0] (eB (witness_closing x0)):=
 mkH hmix xBase_ok iBase_ok e43 lh0 (by kernel_rfl) [GSeen.av x0] xn
  wn
  ln
  (selL rfl)
theorem pc_witness_closing (x0:GSeen):PC Try.prog 43 [GSeen.av x0] (eB (witness_closing x0)):=(ct_witness_closing x0 trivial).1
def R102 : PRes:=
 let p0:Pc:=((V 2),true)::[]
 ⟨[((.and (V 2) (V 3)),(zB (qE (W 0 3) (W 1 3)))),((uN (W 0 0) (W 1 0)),(zB (.lb false))),((.or (uE (W 0 0) (.li 0)) (uE (W 0 0) (.li 1))),(zB (.lb true))),((.or (uE (W 0 0) (.li 2)) (uE (W 0 0) (.li 3))),(zB (.bin .eql .flt (W 0 1) (W 1 1)))),((uE (W 0 0) (.li 4)),(zB (sE (W 0 2) (W 1 2)))),((uE (W 0 0) (.li 5)),(zB (qE (W 0 3) (W 1 3)))),((.lb true),(zB (.lb false)))],
 [([],(.call 60 [(.agg (cV 0 GVal.kds))] (zB (V 2)))),
 (p0,(.call 60 [(.agg (cV 1 GVal.kds))] (zB (V 3))))],[]⟩
theorem e102 : sFnI Try.prog xBase iBase mdI (fcI kA 102 [] []) 3 200 102 [.agg (cV 0 GVal.kds),.agg (cV 1 GVal.kds)] 2=some R102:=by kernel_rfl
theorem ct_value_Strict (x0:GVal)(x1:GVal):CT Try.prog sT 102 [GVal.av x0,GVal.av x1] (eB (value_Strict x0 x1)):=
 let v2:Bool:=value_IsObject x0
 let v3:Bool:=value_IsObject x1
 mkH hmix xBase_ok iBase_ok e102 lh0 (by kernel_rfl) [GVal.av x0,GVal.av x1,eB v2,eB v3] xn
  (wC (ct_value_IsObject x0) <|
  wC (ct_value_IsObject x1) <|
  wn)
  ln
  (selE (fun r=>.p (.bool r)) rfl rfl (selE (fun r=>.p (.bool r)) rfl rfl (selE (fun r=>.p (.bool r)) rfl rfl (selE (fun r=>.p (.bool r)) rfl rfl (selE (fun r=>.p (.bool r)) rfl rfl (selE (fun r=>.p (.bool r)) rfl rfl (selL rfl)))))))
def R83 : PRes:=
 let p0:Pc:=((.and (.and (uE (W 0 0) (.li 3)) (uE (W 1 0) (.li 3))) (.bin .neq .flt (W 0 1) (W 0 1))),false)::[]
 ⟨[((.and (.and (uE (W 0 0) (.li 3)) (uE (W 1 0) (.li 3))) (.bin .neq .flt (W 0 1) (W 0 1))),(zB (.bin .neq .flt (W 1 1) (W 1 1)))),((.lb true),(zB (V 2)))],
 [(p0,(.call 102 [(.agg (cV 0 GVal.kds)),(.agg (cV 1 GVal.kds))] (zB (V 2))))],[]⟩
theorem e83 : sFnI Try.prog xBase iBase mdI (fcI kA 83 [] []) 3 200 83 [.agg (cV 0 GVal.kds),.agg (cV 1 GVal.kds)] 2=some R83:=by kernel_rfl
theorem ct_value_Same (x0:GVal)(x1:GVal):CT Try.prog sT 83 [GVal.av x0,GVal.av x1] (eB (value_Same x0 x1)):=
 let v2:Bool:=value_Strict x0 x1
 mkH hmix xBase_ok iBase_ok e83 lh0 (by kernel_rfl) [GVal.av x0,GVal.av x1,eB v2] xn
  (wC (ct_value_Strict x0 x1)<|wn)
  ln
  (selE (fun r=>.p (.bool r)) rfl rfl (selL rfl))
def R82 : PRes:=
 let p0:Pc:=((.bin .eql .bool (W 1 14) (W 0 14)),true)::[]
 let p1:Pc:=((uN (W 1 0) (W 0 0)),false)::p0
 let p2:Pc:=((W 1 15),false)::p1
 let p3:Pc:=((V 2),true)::p2
 let p4:Pc:=((V 3),true)::p3
 let p5:Pc:=((V 2),false)::p2
 let p6:Pc:=((W 0 13),false)::p5
 let p7:Pc:=((.not (W 1 13)),true)::p6
 ⟨[((.or (W 1 15) (.or (uN (W 1 0) (W 0 0)) (.not (.bin .eql .bool (W 1 14) (W 0 14))))),(zB (.lb false))),((V 2),(zB (.and (V 3) (V 4)))),((.lb true),(zB (.or (W 0 13) (.and (.not (W 1 13)) (V 5)))))],
 [(p2,(.call 81 [(.agg (cV 0 GDesc.kds))] (zB (V 2)))),
 (p3,(.call 83 [(.agg (cW 0 5 GVal.kds)),(.agg (cW 1 5 GVal.kds))] (zB (V 3)))),
 (p4,(.call 83 [(.agg (cW 0 9 GVal.kds)),(.agg (cW 1 9 GVal.kds))] (zB (V 4)))),
 (p7,(.call 83 [(.agg (cW 0 1 GVal.kds)),(.agg (cW 1 1 GVal.kds))] (zB (V 5))))],[]⟩
theorem e82 : sFnI Try.prog xBase iBase mdI (fcI kA 82 [] []) 3 200 82 [.agg (cV 0 GDesc.kds),.agg (cV 1 GDesc.kds)] 2=some R82:=by kernel_rfl
theorem ct_witness_stays (x0:GDesc)(x1:GDesc):CT Try.prog sT 82 [GDesc.av x0,GDesc.av x1] (eB (witness_stays x0 x1)):=
 let v2:Bool:=desc_IsAccess x0
 let v3:Bool:=value_Same x0.Get x1.Get
 let v4:Bool:=value_Same x0.Set x1.Set
 let v5:Bool:=value_Same x0.Value x1.Value
 mkH hmix xBase_ok iBase_ok e82 lh0 (by kernel_rfl) [GDesc.av x0,GDesc.av x1,eB v2,eB v3,eB v4,eB v5] xn
  (wC (ct_desc_IsAccess x0) <|
  wC (ct_value_Same x0.Get x1.Get) <|
  wC (ct_value_Same x0.Set x1.Set) <|
  wC (ct_value_Same x0.Value x1.Value) <|
  wn)
  ln
  (selE (fun r=>.p (.bool r)) rfl rfl (selE (fun r=>.p (.bool r)) rfl rfl (selL rfl)))
def R63 : PRes:=
 let p0:Pc:=((uE (W 2 2) (.li 11)),true)::[]
 let p1:Pc:=((uE (W 2 2) (.li 11)),false)::[]
 let p2:Pc:=((qE (W 2 4) (W 0 1)),true)::p1
 let p3:Pc:=((sE (W 2 3) (W 0 0)),true)::p2
 let p4:Pc:=((uE (W 2 2) (.li 5)),true)::p3
 let p5:Pc:=((W 2 12),true)::p4
 let p6:Pc:=((uE (W 2 2) (.li 5)),false)::p3
 let p7:Pc:=((uE (W 2 2) (.li 7)),false)::p6
 let p8:Pc:=((uE (W 2 2) (.li 10)),false)::p7
 let p9:Pc:=((uE (W 2 2) (.li 8)),true)::p8
 let p10:Pc:=((W 1 13),false)::p9
 let p11:Pc:=((V 4),true)::p10
 ⟨[((uE (W 2 2) (.li 11)),(zB (V 3))),((.not (.and (sE (W 2 3) (W 0 0)) (qE (W 2 4) (W 0 1)))),(zB (.lb true))),((uE (W 2 2) (.li 5)),(zB (.and (W 2 12) (V 6)))),((uE (W 2 2) (.li 7)),(zB (W 2 11))),((uE (W 2 2) (.li 10)),(zB (.not (W 2 11)))),((.and (uE (W 2 2) (.li 8)) (.and (V 4) (.not (W 1 13)))),(zB (V 7))),((uE (W 2 2) (.li 8)),(zB (.or (.or (.not (V 5)) (uN (W 1 5) (.li 0))) (uE (W 2 7) (.li 0))))),((uE (W 2 2) (.li 9)),(zB (.or (.or (.not (V 5)) (uN (W 1 9) (.li 0))) (.not (W 2 11))))),((.lb true),(zB (.lb true)))],
 [(p0,(.call 62 [(zL (W 2 29)),(.agg [(zS (W 0 0)),(zI (W 0 1))])] (zB (V 3)))),
 (p3,(.call 80 [(.agg (cV 1 GDesc.kds))] (zB (V 4)))),
 (p3,(.call 81 [(.agg (cV 1 GDesc.kds))] (zB (V 5)))),
 (p5,(.call 82 [(.agg (cV 1 GDesc.kds)),(.agg (cW 2 13 GDesc.kds))] (zB (V 6)))),
 (p11,(.call 83 [(.agg (cW 1 1 GVal.kds)),(.agg (cW 2 7 GVal.kds))] (zB (V 7))))],[]⟩
theorem e63 : sFnI Try.prog xBase iBase mdI (fcI kA 63 [] []) 3 200 63 [.agg (cV 0 GKey.kds),.agg (cV 1 GDesc.kds),.agg (cV 2 GSeen.kds)] 3=some R63:=by kernel_rfl
theorem ct_witness_fixed (x0:GKey)(x1:GDesc)(x2:GSeen):CT Try.prog sT 63 [GKey.av x0,GDesc.av x1,GSeen.av x2] (eB (witness_fixed x0 x1 x2)):=
 let v3:Bool:=witness_holds x2.Out.Keys x0
 let v4:Bool:=desc_IsData x1
 let v5:Bool:=desc_IsAccess x1
 let v6:Bool:=witness_stays x1 x2.Out.Desc
 let v7:Bool:=value_Same x1.Value x2.Out.Value
 mkH hmix xBase_ok iBase_ok e63 lh0 (by kernel_rfl) [GKey.av x0,GDesc.av x1,GSeen.av x2,eB v3,eB v4,eB v5,eB v6,eB v7] xn
  (wC (ct_witness_holds x2.Out.Keys x0) <|
  wC (ct_desc_IsData x1) <|
  wC (ct_desc_IsAccess x1) <|
  wC (ct_witness_stays x1 x2.Out.Desc) <|
  wC (ct_value_Same x1.Value x2.Out.Value) <|
  wn)
  ln
  (selE (fun r=>.p (.bool r)) rfl rfl (selE (fun r=>.p (.bool r)) rfl rfl (selE (fun r=>.p (.bool r)) rfl rfl (selE (fun r=>.p (.bool r)) rfl rfl (selE (fun r=>.p (.bool r)) rfl rfl (selE (fun r=>.p (.bool r)) rfl rfl (selE (fun r=>.p (.bool r)) rfl rfl (selE (fun r=>.p (.bool r)) rfl rfl (selL rfl)))))))))
def L64_3 : Lo:=
 let p0:Pc:=((.and (uE (W 0 2) (.li 1)) (uE (W 1 2) (.li 1))),false)::[]
 let p1:Pc:=((uE (W 1 2) (.li 11)),true)::p0
 let p2:Pc:=((uE (W 0 2) (.li 11)),true)::p1
 let p3:Pc:=((qL (V 4) (.rlen (W 1 29))),true)::p2
 .mk [((uE (W 0 2) (.li 11)),true),((uE (W 1 2) (.li 11)),true),((.and (uE (W 0 2) (.li 1)) (uE (W 1 2) (.li 1))),false)] 3 2 [(zB (.lb false)),(zI (.li 0))] [((.not (qL (V 4) (.rlen (W 1 29)))),1,[(zB (V 3))]),((.not (V 6)),2,[(zB (.lb false))]),((.lb true),0,[(zB (V 3)),(zI (aI (V 4) (.li 1)))])] [(p3,(.row (W 1 29) (V 4) [(zS (W 5 0)),(zI (W 5 1))])),
 (p3,(.call 62 [(zL (W 0 29)),(.agg [(zS (W 5 0)),(zI (W 5 1))])] (zB (V 6))))] [] [1,1] [(W 1 29)]
def H64_3 : LH:=.mk [(qM (.li 0) (V 4))] (mI (.rlen (W 1 29)) (V 4)) [((.rlen (W 1 29)),1)] [] 1 [] []
def rk_witness_closed_l3 (r:Bool×Bool×Bool):Nat×List AV:=rk2 r.1 [eB r.2.1] [eB r.2.2]
theorem lp_witness_closed_l3 (x0:GSeen)(x1:GSeen)(v2:Bool):∀(n:Nat) (u3:Bool) (u4:Int),RunL Try.prog sT L64_3 H64_3 [GSeen.av x0,GSeen.av x1,eB v2] n [eB u3,eI u4] (rk_witness_closed_l3 (witness_closed_l3 x0 x1 n u3 u4))
 |0,u3,u4=>l0
 |n+1,u3,u4=>
  let v5:GKey:=x1.Out.Keys.getD (u4:Int).toNat default
  let v6:Bool:=witness_holds x0.Out.Keys v5
  lmk rfl [GKey.av v5,eB v6] xn (wR rfl <|
  wC (ct_witness_holds x0.Out.Keys v5) <|
  wn) ln <|
   rc rk_witness_closed_l3 rx<|rc rk_witness_closed_l3 rx<|rl (rg (lp_witness_closed_l3 x0 x1 v2 n _ _))
def R64 : PRes:=
 let p0:Pc:=((uE (W 1 2) (.li 1)),true)::[]
 let p1:Pc:=((uE (W 0 2) (.li 1)),true)::p0
 let p2:Pc:=((.and (uE (W 0 2) (.li 1)) (uE (W 1 2) (.li 1))),false)::[]
 let p3:Pc:=((.and (uE (W 0 2) (.li 11)) (uE (W 1 2) (.li 11))),false)::p2
 let p4:Pc:=((uE (W 1 2) (.li 5)),true)::p3
 let p5:Pc:=((uE (W 0 2) (.li 11)),true)::p4
 let p6:Pc:=((.not (W 1 12)),false)::p5
 let p7:Pc:=((.and (uE (W 0 2) (.li 11)) (uE (W 1 2) (.li 5))),false)::p3
 let p8:Pc:=((.and (.and (uE (W 0 2) (.li 5)) (.not (W 0 12))) (uE (W 1 2) (.li 5))),false)::p7
 let p9:Pc:=((uE (W 1 2) (.li 11)),true)::p8
 let p10:Pc:=((W 0 12),false)::p9
 let p11:Pc:=((uE (W 0 2) (.li 5)),true)::p10
 ⟨[((.and (uE (W 0 2) (.li 1)) (uE (W 1 2) (.li 1))),(zB (V 2))),((.and (.and (uE (W 0 2) (.li 11)) (uE (W 1 2) (.li 11))) (.not (qE (V 3) (.li 0)))),(zB (V 5))),((.and (.not (.and (uE (W 0 2) (.li 11)) (uE (W 1 2) (.li 11)))) (.and (uE (W 0 2) (.li 11)) (uE (W 1 2) (.li 5)))),(zB (.or (.not (W 1 12)) (V 6)))),((.and (.not (.and (uE (W 0 2) (.li 11)) (uE (W 1 2) (.li 11)))) (.and (.and (uE (W 0 2) (.li 5)) (.not (W 0 12))) (uE (W 1 2) (.li 5)))),(zB (.or (.not (.and (sE (W 0 3) (W 1 3)) (qE (W 0 4) (W 1 4)))) (.not (W 1 12))))),((.and (.not (.and (uE (W 0 2) (.li 11)) (uE (W 1 2) (.li 11)))) (.and (.and (uE (W 0 2) (.li 5)) (.not (W 0 12))) (uE (W 1 2) (.li 11)))),(zB (.not (V 7)))),((.lb true),(zB (.lb true)))],
 [(p1,(.call 83 [(.agg (cW 0 7 GVal.kds)),(.agg (cW 1 7 GVal.kds))] (zB (V 2)))),
 (p6,(.call 62 [(zL (W 0 29)),(.agg [(zS (W 1 3)),(zI (W 1 4))])] (zB (V 6)))),
 (p11,(.call 62 [(zL (W 1 29)),(.agg [(zS (W 0 3)),(zI (W 0 4))])] (zB (V 7))))],[L64_3]⟩
def H64 : LH:=.mk [] (.li 0) [] [] 0 [H64_3] []
theorem e64 : sFnI Try.prog xBase iBase mdI (fcI kA 64 [36,4] [(1,(.mk [2,34,35] (.mk [(4,(.sc .bool)),(36,(.sc kI))] [] [] 26 []) [(.normal,(.mk [(4,(.sc .bool))] [] [] 26 [])),(.ret,(.mk [(4,(.sc .bool))] [] [] 26 []))]))]) 3 200 64 [.agg (cV 0 GSeen.kds),.agg (cV 1 GSeen.kds)] 2=some R64:=by kernel_rfl
theorem ct_witness_closed (x0:GSeen)(x1:GSeen):CT Try.prog sT 64 [GSeen.av x0,GSeen.av x1] (eB (witness_closed x0 x1)):=
 let v2:Bool:=value_Same x0.Out.Value x1.Out.Value
 let r3:Bool×Bool×Bool:=witness_closed_l3 x0 x1 (x1.Out.Keys.length+1) false 0
 let v6:Bool:=witness_holds x0.Out.Keys x1.Key
 let v7:Bool:=witness_holds x1.Out.Keys x0.Key
 mkH hmix xBase_ok iBase_ok e64 H64 (by kernel_rfl) [GSeen.av x0,GSeen.av x1,eB v2,eI (selB r3.1),eB r3.2.1,eB r3.2.2,eB v6,eB v7] xn
  (wC (ct_value_Same x0.Out.Value x1.Out.Value) <|
  wC (ct_witness_holds x0.Out.Keys x1.Key) <|
  wC (ct_witness_holds x1.Out.Keys x0.Key) <|
  wn)
  (lc2 (lp_witness_closed_l3 x0 x1 v2 (x1.Out.Keys.length+1) false 0) <|
  ln)
  (selE (fun r=>.p (.bool r)) rfl rfl (selE (fun r=>.p (.bool r)) rfl rfl (selE (fun r=>.p (.bool r)) rfl rfl (selE (fun r=>.p (.bool r)) rfl rfl (selE (fun r=>.p (.bool r)) rfl rfl (selL rfl))))))
def R42 : PRes:=
 let p0:Pc:=((.and (.and (V 6) (uE (W 5 2) (.li 3))) (W 5 11)),false)::[]
 let p1:Pc:=((.and (.and (uE (W 4 2) (.li 5)) (W 4 12)) (.not (W 4 28))),true)::p0
 let p2:Pc:=((.and (.and (.and (uE (W 4 2) (.li 5)) (W 4 12)) (.not (W 4 28))) (.not (V 7))),false)::p0
 let p3:Pc:=((.or (.or (qL (W 1 1) (.li 0)) (qH (W 1 1) (V 2))) (qM (W 4 0) (W 1 1))),false)::p2
 ⟨[((.and (.and (V 6) (uE (W 5 2) (.li 3))) (W 5 11)),(zB (.lb false))),((.and (.and (.and (uE (W 4 2) (.li 5)) (W 4 12)) (.not (W 4 28))) (.not (V 7))),(zB (.lb false))),((.lb true),(zB (.or (.or (.or (qL (W 1 1) (.li 0)) (qH (W 1 1) (V 2))) (qM (W 4 0) (W 1 1))) (V 8))))],
 [([],(.row (V 0) (V 2) (cV 4 GSeen.kds))),
 ([],(.row (V 0) (V 3) (cV 5 GSeen.kds))),
 ([],(.call 43 [(.agg (cV 4 GSeen.kds))] (zB (V 6)))),
 (p1,(.call 63 [(.agg [(zS (W 4 3)),(zI (W 4 4))]),(.agg (cW 4 13 GDesc.kds)),(.agg (cV 5 GSeen.kds))] (zB (V 7)))),
 (p3,(.call 64 [(.agg (cV 4 GSeen.kds)),(.agg (cV 5 GSeen.kds))] (zB (V 8))))],[]⟩
theorem e42 : sFnI Try.prog xBase iBase mdI (fcI kA 42 [] []) 3 200 42 [zL (V 0),.agg (cV 1 GPast.kds),zI (V 2),zI (V 3)] 4=some R42:=by kernel_rfl
theorem ct_witness_both (x0:List GSeen)(x1:GPast)(x2:Int)(x3:Int):CT Try.prog sT 42 [eL GSeen.enc x0,GPast.av x1,eI x2,eI x3] (eB (witness_both x0 x1 x2 x3)):=
 let v4:GSeen:=x0.getD (x2:Int).toNat default
 let v5:GSeen:=x0.getD (x3:Int).toNat default
 let v6:Bool:=witness_closing v4
 let v7:Bool:=witness_fixed v4.Key v4.Out.Desc v5
 let v8:Bool:=witness_closed v4 v5
 mkH hmix xBase_ok iBase_ok e42 lh0 (by kernel_rfl) [eL GSeen.enc x0,GPast.av x1,eI x2,eI x3,GSeen.av v4,GSeen.av v5,eB v6,eB v7,eB v8] xn
  (wR rfl <|
  wR rfl <|
  wC (ct_witness_closing v4) <|
  wC (ct_witness_fixed v4.Key v4.Out.Desc v5) <|
  wC (ct_witness_closed v4 v5) <|
  wn)
  ln
  (selE (fun r=>.p (.bool r)) rfl rfl (selE (fun r=>.p (.bool r)) rfl rfl (selL rfl)))
end Go.Fw
end
section
set_option linter.unusedVariables false
set_option linter.unusedSimpArgs false
set_option linter.unusedSectionVars false
namespace Go.Fw
variable [Glob]
set_option linter.unusedSimpArgs false
set_option linter.unusedVariables false
set_option linter.unusedSectionVars false
abbrev CK :=AV→AH→Nat→Prop
def CW (P:Program)(f:FuncId)(az:List AV)(ah:AH)(nx:Nat)(K:CK):Prop:=
 ∀base w E vs,HeapOk base w E ah (fun b=>nx≤b)→GOk w E.fix→RepL w E az vs→
  ∀(o:Oper) (a:Act),execOp a.eval o=callFunc f vs.toArray→∀(next:Act→World→Prop) (Q:Exit→Act→World→Prop),
   (∀v w' E' r ah' nx',K r ah' nx'→Step base w E w' E'→HeapOk base w' E' ah' (fun b=>nx'≤b)→Rep w' E' r v→next (a.put o.dst v) w')→o.wp P a w next Q
section
variable {P : Program} {fr:AFr} {ah:AH} {nx:Nat} {Q:AQ}
theorem CW.mono {f:FuncId}{az:List AV}{K K':CK}(h:CW P f az ah nx K)(hk:∀r ah nx,K r ah nx→K' r ah nx):CW P f az ah nx K':=
 fun base w E vs hh hG hr o a he next Q hn=>h base w E vs hh hG hr o a he next Q fun v w' E' r ah' nx' hK=>hn v w' E' r ah' nx' (hk _ _ _ hK)
def OW (P:Program)(ops:Array Oper)(i:Nat)(fr:AFr)(ah:AH)(nx:Nat)(Q:AQ):Prop:=
 ∀base w E a,Sim base w E fr ah nx a→∀QQ:Exit→Act→World→Prop,(∀a' w',APost base w E Q .normal a' w'→QQ .normal a' w')→wpOps P ops QQ (List.range' i (ops.size-i)) a w
theorem AW_ow {id:Nat}{ops:Array Oper}(h:OW P ops 0 fr ah nx Q):AW P (.region id ops false) fr ah nx Q:=by
 intro base w E a hs
 refine wp_region ?_
 simpa [List.range_eq_range'] using h base w E a hs (APost base w E Q) (fun _ _ h=>h)
theorem OW_end {ops:Array Oper}{i:Nat}(hi:ops.size≤i)(h:Q .normal fr ah nx):OW P ops i fr ah nx Q:=by
 intro base w E a hs QQ hQ
 rw [Nat.sub_eq_zero_of_le hi]
 exact hQ _ _ ⟨E,fr,ah,nx,h,hs,Step.refl _ _ _⟩
theorem OW_opK {ops:Array Oper}{i:Nat}{o:Oper}{K:Res→Prop}(ho:ops[i]?=some o)(hK:∀r,K r→OW P ops (i+1) (fput fr o.dst r.v) (upds ah r.wr) (nx+1) Q)
  (h:aWanted ops fr o fun wt=>aIf wt (aOp P nx fr ah o.op K) (OW P ops (i+1) (fput fr o.dst (.p undef)) ah nx Q)):OW P ops i fr ah nx Q:=by
 intro base w E a hs QQ hQ
 have hlt:=(Array.getElem?_eq_some_iff.1 ho).1
 rw [show ops.size-i=(ops.size-(i+1))+1 by omega,List.range'_succ,wpOps_cons]
 unfold wpOp
 rw [ho]
 dsimp only
 obtain ⟨wt,hk,hw⟩:=aWanted_run hs.fr h
 cases wt with
 |true=>
  rw [aIf_iff,if_pos rfl] at hk
  rw [if_pos hw]
  refine .inl (aOp_wp hs.heap (Nat.le_refl _) hs.fr hk (fun r v w' E' hr hst hh' hv=>?_))
  exact hK r hr base w' E' (a.put o.dst v) ⟨hh'.weaken fun b hb=>⟨by omega,by omega⟩,(hs.fr.mono hst.ext).put o.dst hv,by rw [put_defers];exact hs.defers⟩ QQ
   fun a' w'' hp=>hQ a' w'' (hp.mono hst fun _ _ _ h=>h)
 |false=>
  rw [aIf_iff,if_neg (by simp)] at hk
  rw [if_neg (by rw [hw];simp)]
  exact hk base w E (a.put o.dst undef) ⟨hs.heap,hs.fr.put o.dst (.p rfl),by rw [put_defers];exact hs.defers⟩ QQ hQ
theorem OW_op {ops:Array Oper}{i:Nat}{o:Oper}(ho:ops[i]?=some o)
 (h:aWanted ops fr o fun wt=>aIf wt (aOp P nx fr ah o.op fun r=>OW P ops (i+1) (fput fr o.dst r.v) (upds ah r.wr) (nx+1) Q) (OW P ops (i+1) (fput fr o.dst (.p undef)) ah nx Q)):OW P ops i fr ah nx Q:=OW_opK ho (fun _ h=>h) h
end
end Go.Fw
end
section
set_option linter.unusedVariables false
set_option linter.unusedSimpArgs false
set_option linter.unusedSectionVars false
namespace Go.Fw
variable [Glob]
set_option linter.unusedSimpArgs false
set_option linter.unusedVariables false
set_option linter.unusedSectionVars false
abbrev MT :=List (Nat×AV)
def mget : MT→Nat→Option AV
 |[],_=>none
 |x::r,t=>match Nat.beq x.1 t with|true=>some x.2|false=>mget r t
def mev (M:MT):Operand→Option AV
 | .tmp t=>mget M t
 | .const v=>ofV v
 | .func f=>some (.fn (.func f) [] [])
 | .global _=>none
def mevA (M:MT):List Operand→Option (List AV)
 |[]=>some []
 |x::r=>match mev M x with
  |some a=>(match mevA M r with|some l=>some (a::l)|none=>none)
  |none=>none
def mevL {α:Type}(M:MT):List (α×Operand)→Option (List (α×AV))
 |[]=>some []
 |x::r=>match mev M x.2 with
  |some a=>(match mevL M r with|some l=>some ((x.1,a)::l)|none=>none)
  |none=>none
def mput (M:MT)(d:Option Tmp)(a:AV):MT:=match d with|some t=>(t,a)::M|none=>M
def dok (N:Nat):Option Tmp→Bool
 |none=>true
 |some t=>Nat.blt t N
def gB (ops:Array Oper)(M:MT):Option (Nat×Bool)→Bool
 |none=>true
 |some (j,want)=>match (ops[j]?).bind (·.dst) with
  |some t=>(match mget M t with|some (.p (.bool b))=>b == want|_=>false)
  |none=>false
def gN (ops:Array Oper)(M:MT):Option (Nat×Bool)→Bool
 |none=>false
 |some (j,want)=>match (ops[j]?).bind (·.dst) with
  |some t=>(match mget M t with|some (.p (.bool b))=>!(b == want)|_=>false)
  |none=>false
structure FA (N:Nat)(M:MT)(fr:AFr):Prop where
 len:fr.length=N
 get:∀t a,mget M t=some a→fget fr t=some a
def ML (M:MT):MT→Prop
 |[]=>True
 |x::r=>mget M x.1=some x.2∧ML M r
theorem ML.get {M:MT}:∀{M':MT} {t:Nat} {a:AV},ML M M'→mget M' t=some a→mget M t=some a
 |[],t,a,_,h=>by cases h
 |x::r,t,a,hl,h=>by
  simp only [mget] at h
  split at h
  ·rename_i hb
   obtain rfl:=Nat.eq_of_beq_eq_true hb
   simp only [Option.some.injEq] at h;subst h
   exact hl.1
  ·exact ML.get hl.2 h
theorem FA.le {N:Nat}{M M':MT}{fr:AFr}(h:FA N M fr)(hl:ML M M'):FA N M' fr:=⟨h.len,fun t a ht=>h.get t a (hl.get ht)⟩
theorem FA.put {N:Nat}{M:MT}{fr:AFr}{d:Option Tmp}{a:AV}(h:FA N M fr)(hd:dok N d=true):FA N (mput M d a) (fput fr d a):=by
 cases d with
 |none=>exact h
 |some t=>
  have hlt:t<N:=by simpa [dok] using hd
  refine ⟨by simp [fput,length_fset,h.len],fun j x hj=>?_⟩
  simp only [mput,mget] at hj
  simp only [fput,fget_fset,h.len]
  split at hj
  ·rename_i hb
   obtain rfl:=Nat.eq_of_beq_eq_true hb
   rw [if_pos ⟨rfl,hlt⟩];exact hj
  ·rename_i hb
   rw [if_neg (fun e=>by rw [e.1] at hb;simp at hb)]
   exact h.get j x hj
theorem mev_ev {N:Nat}{M:MT}{fr:AFr}(h:FA N M fr){x:Operand}{a:AV}(hx:mev M x=some a):ev fr x=some a:=by
 cases x with
 |tmp t=>exact h.get t a hx
 |const v=>exact hx
 |func f=>exact hx
 |global g=>cases hx
theorem mevA_ev {N:Nat}{M:MT}{fr:AFr}(h:FA N M fr):∀{l:List Operand} {az:List AV},mevA M l=some az→evA fr l=some az
 |[],az,e=>e
 |x::r,az,e=>by
  simp only [mevA] at e
  split at e
  ·rename_i a ha
   split at e
   ·rename_i l hl
    simp only [Option.some.injEq] at e;subst e
    simp [evA,mev_ev h ha,mevA_ev h hl]
   ·cases e
  ·cases e
theorem mevL_ev {α:Type}{N:Nat}{M:MT}{fr:AFr}(h:FA N M fr):∀{l:List (α×Operand)} {az:List (α×AV)},mevL M l=some az→evL fr l=some az
 |[],az,e=>e
 |x::r,az,e=>by
  simp only [mevL] at e
  split at e
  ·rename_i a ha
   split at e
   ·rename_i l hl
    simp only [Option.some.injEq] at e;subst e
    obtain ⟨i,x⟩:=x
    simp [evL,mev_ev h ha,mevL_ev h hl]
   ·cases e
  ·cases e
abbrev MQ :=Exit→MT→AH→Nat→Prop
def lft (N:Nat)(Q:MQ):AQ:=fun e fr ah nx=>∃M,FA N M fr∧Q e M ah nx
def AWm (P:Program)(c:Code)(N:Nat)(M:MT)(ah:AH)(nx:Nat)(Q:MQ):Prop:=∀fr,FA N M fr→AW P c fr ah nx (lft N Q)
def OWm (P:Program)(ops:Array Oper)(i N:Nat)(M:MT)(ah:AH)(nx:Nat)(Q:MQ):Prop:=∀fr,FA N M fr→OW P ops i fr ah nx (lft N Q)
def MThen (K:MT→AH→Nat→Prop)(Q:MQ):MQ
 | .normal,M,ah,nx=>K M ah nx
 |e,M,ah,nx=>Q e M ah nx
def MIn (id:Nat)(Q:MQ):MQ
 | .exit id',M,ah,nx=>(match Nat.beq id' id with|true=>Q .normal M ah nx|false=>Q (.exit id') M ah nx)
 |e,M,ah,nx=>Q e M ah nx
section
variable {P : Program} {N:Nat} {M:MT} {ah:AH} {nx:Nat} {Q:MQ}
theorem AWm_le {c:Code}(M':MT)(hl:ML M M')(h:AWm P c N M' ah nx Q):AWm P c N M ah nx Q:=fun fr hf=>h fr (hf.le hl)
theorem AWm.mono {c:Code}{Q':MQ}(h:AWm P c N M ah nx Q)(hq:∀e M ah nx,Q e M ah nx→Q' e M ah nx):AWm P c N M ah nx Q':=
 fun fr hf=>(h fr hf).mono fun e fr ah nx ⟨M,h1,h2⟩=>⟨M,h1,hq _ _ _ _ h2⟩
theorem AWm_seq {x y:Code}(h:AWm P x N M ah nx (MThen (fun M ah nx=>AWm P y N M ah nx Q) Q)):AWm P (.seq x y) N M ah nx Q:=by
 intro fr hf
 refine AW_seq' ((h fr hf).mono fun e fr ah nx hq=>?_)
 obtain ⟨M',h1,h2⟩:=hq
 cases e with
 |normal=>exact h2 fr h1
 |_=>exact ⟨M',h1,h2⟩
theorem AWm_mid {x y:Code}(K:MT→AH→Nat→Prop)(h:AWm P x N M ah nx (MThen K Q))(hk:∀M ah nx,K M ah nx→AWm P y N M ah nx Q):AWm P (.seq x y) N M ah nx Q:=
 AWm_seq (h.mono fun e M ah nx hq=>by cases e<;>first|exact hk _ _ _ hq|exact hq)
theorem AWm_mid2 {x y z:Code}(K:MT→AH→Nat→Prop)(h:AWm P x N M ah nx (MThen (fun M ah nx=>AWm P y N M ah nx (MThen K Q)) Q))(hk:∀M ah nx,K M ah nx→AWm P z N M ah nx Q):AWm P (.seq x (.seq y z)) N M ah nx Q:=
 AWm_seq (h.mono fun e M ah nx hq=>by cases e<;>first|exact AWm_mid K hq hk|exact hq)
theorem AWm_skip (h:Q .normal M ah nx):AWm P .skip N M ah nx Q:=fun fr hf=>AW_skip ⟨M,hf,h⟩
theorem AWm_exit {id:Nat}(h:Q (.exit id) M ah nx):AWm P (.exit id) N M ah nx Q:=fun fr hf=>AW_exit ⟨M,hf,h⟩
theorem AWm_ret (h:Q .ret M ah nx):AWm P .ret N M ah nx Q:=fun fr hf=>AW_ret ⟨M,hf,h⟩
theorem AWm_cond {c:Operand}{x y:Code}{t:Bool}(hc:mev M c=some (.p (.bool t)))(h1:t=true→AWm P x N M ah nx Q)(h2:t=false→AWm P y N M ah nx Q):AWm P (.cond c x y) N M ah nx Q:=by
 intro fr hf
 refine AW_cond t (mev_ev hf hc) ?_
 cases t with
 |true=>exact h1 rfl fr hf
 |false=>exact h2 rfl fr hf
theorem AWm_block {id:Nat}{c:Code}(h:AWm P c N M ah nx (MIn id Q)):AWm P (.block id c) N M ah nx Q:=by
 intro fr hf
 refine AW_block ((h fr hf).mono fun e fr ah nx hq=>?_)
 obtain ⟨M',h1,h2⟩:=hq
 cases e with
 |exit id'=>
  simp only [MIn] at h2
  simp only [AIn]
  split at h2
  ·rename_i hb;rw [if_pos (Nat.eq_of_beq_eq_true hb)];exact ⟨M',h1,h2⟩
  ·rename_i hb;rw [if_neg (fun e=>by rw [e] at hb;simp at hb)];exact ⟨M',h1,h2⟩
 |_=>exact ⟨M',h1,h2⟩
theorem AWm_loop {c:Code}(I:Nat→MT→AH→Nat→Prop)(n0:Nat)(M0:MT)(hl:ML M M0)(h0:I n0 M0 ah nx)
  (round:∀n M ah nx,I n M ah nx→AWm P c N M ah nx (MThen (fun M ah nx=>∃m,m<n∧∃M',ML M M'∧I m M' ah nx) Q)):AWm P (.loop c) N M ah nx Q:=by
 intro fr hf
 refine AW_loop (fun n fr ah nx=>∃M,FA N M fr∧I n M ah nx) n0 fr (FrLe.refl fr) ⟨M0,hf.le hl,h0⟩ fun n fr ah nx hI K hK=>?_
 obtain ⟨M1,h1,h2⟩:=hI
 refine (round n M1 ah nx h2 fr h1).mono fun e fr ah nx hq=>?_
 obtain ⟨M2,q1,q2⟩:=hq
 cases e with
 |normal=>
  obtain ⟨m,hm,M3,hl3,h3⟩:=q2
  exact hK _ _ _ ⟨m,hm,fr,FrLe.refl fr,M3,q1.le hl3,h3⟩
 |_=>exact ⟨M2,q1,q2⟩
theorem AWm_region {id:Nat}{ops:Array Oper}(h:OWm P ops 0 N M ah nx Q):AWm P (.region id ops false) N M ah nx Q:=fun fr hf=>AW_ow (h fr hf)
variable {ops : Array Oper} {i:Nat} {d:Option Tmp} {ty:TypeId} {pos:String} {aft:Array Edge} {g:Option (Nat×Bool)}
theorem OWm_end (hi:Nat.ble ops.size i=true)(h:Q .normal M ah nx):OWm P ops i N M ah nx Q:=fun fr hf=>OW_end (Nat.le_of_ble_eq_true hi) ⟨M,hf,h⟩
theorem OWm_do {op:Op}(ho:ops[i]?=some ⟨d,op,ty,pos,aft,g⟩)(hg:gB ops M g=true)(hd:dok N d=true)
  (h:∀fr,FA N M fr→aOp P nx fr ah op fun r=>OWm P ops (i+1) N (mput M d r.v) (upds ah r.wr) (nx+1) Q):OWm P ops i N M ah nx Q:=by
 intro fr hf
 refine OW_opK ho (K:=fun r=>OWm P ops (i+1) N (mput M d r.v) (upds ah r.wr) (nx+1) Q) (fun r hr=>hr _ (hf.put hd)) ?_
 have key:=h fr hf
 unfold aWanted
 cases g with
 |none=>exact key
 |some jw=>
  obtain ⟨j,want⟩:=jw
  simp only [gB] at hg
  split at hg
  ·rename_i t ht
   split at hg
   ·rename_i b hb
    refine withO_iff.2 ⟨t,ht,withO_iff.2 ⟨_,hf.get _ _ hb,?_⟩⟩
    show aIf (b == want) _ _
    rw [hg];exact key
   ·cases hg
  ·cases hg
theorem OWm_no {op:Op}(ho:ops[i]?=some ⟨d,op,ty,pos,aft,g⟩)(hg:gN ops M g=true)(hd:dok N d=true)(h:OWm P ops (i+1) N (mput M d (.p undef)) ah nx Q):OWm P ops i N M ah nx Q:=by
 intro fr hf
 refine OW_op ho ?_
 unfold aWanted
 cases g with
 |none=>cases hg
 |some jw=>
  obtain ⟨j,want⟩:=jw
  simp only [gN] at hg
  split at hg
  ·rename_i t ht
   split at hg
   ·rename_i b hb
    refine withO_iff.2 ⟨t,ht,withO_iff.2 ⟨_,hf.get _ _ hb,?_⟩⟩
    show aIf (b == want) _ _
    rw [show (b == want)=false by simpa using hg]
    exact h _ (hf.put hd)
   ·cases hg
  ·cases hg
theorem OWm_mv {x:Operand}{a:AV}(ho:ops[i]?=some ⟨d,.move x,ty,pos,aft,g⟩)(hg:gB ops M g=true)(hd:dok N d=true)(hx:mev M x=some a)(h:OWm P ops (i+1) N (mput M d a) ah (nx+1) Q):OWm P ops i N M ah nx Q:=
 OWm_do ho hg hd fun fr hf=>withO_iff.2 ⟨a,mev_ev hf hx,h⟩
theorem OWm_as {x:Operand}{a:AV}(ho:ops[i]?=some ⟨d,.assign x,ty,pos,aft,g⟩)(hg:gB ops M g=true)(hd:dok N d=true)(hx:mev M x=some a)(h:OWm P ops (i+1) N (mput M d a) ah (nx+1) Q):OWm P ops i N M ah nx Q:=
 OWm_do ho hg hd fun fr hf=>withO_iff.2 ⟨a,mev_ev hf hx,h⟩
theorem OWm_pick {c x y:Operand}{t:Bool}{a:AV}(ho:ops[i]?=some ⟨d,.pick c x y,ty,pos,aft,g⟩)(hg:gB ops M g=true)(hd:dok N d=true)(hc:mev M c=some (.p (.bool t)))
  (hx:mev M (match t with|true=>x|false=>y)=some a) (h:OWm P ops (i+1) N (mput M d a) ah (nx+1) Q):OWm P ops i N M ah nx Q:=
 OWm_do ho hg hd fun fr hf=>withO_iff.2 ⟨_,mev_ev hf hc,by
  show aIf t _ _
  cases t with
  |true=>exact withO_iff.2 ⟨a,mev_ev hf hx,h⟩
  |false=>exact withO_iff.2 ⟨a,mev_ev hf hx,h⟩⟩
theorem apart_eq {t:Bool×Nat}{row:List AV}{off:Nat}{v:AV}{k:AV→Prop}(h:apart t row off fun x=>x=v)(hk:k v):apart t row off k:=by
 unfold apart at h ⊢
 split
 ·rename_i ht;rw [if_pos ht] at h;exact ⟨h.1,by rw [h.2];exact hk⟩
 ·rename_i ht
  rw [if_neg ht] at h
  obtain ⟨a,h1,h2⟩:=withO_iff.1 h
  exact withO_iff.2 ⟨a,h1,by rw [h2];exact hk⟩
theorem OWm_ldv {t:TypeId}{x:Operand}{row:List AV}{off:Nat}{tt:Bool×Nat}{v:AV}(ho:ops[i]?=some ⟨d,.load t x,ty,pos,aft,g⟩)(hg:gB ops M g=true)(hd:dok N d=true)(hx:mev M x=some (.vp row off))
  (ht:tyOf P t=some tt) (hp:apart tt row off fun x=>x=v) (h:OWm P ops (i+1) N (mput M d v) ah (nx+1) Q):OWm P ops i N M ah nx Q:=
 OWm_do ho hg hd fun fr hf=>withO_iff.2 ⟨_,mev_ev hf hx,withO_iff.2 ⟨tt,ht,apart_eq hp h⟩⟩
theorem OWm_ldo {t:TypeId}{x:Operand}{b sz j off:Nat}{rs:List (List AV)}{row:List AV}{tt:Bool×Nat}{v:AV}(ho:ops[i]?=some ⟨d,.load t x,ty,pos,aft,g⟩)(hg:gB ops M g=true)(hd:dok N d=true)(hx:mev M x=some (.op b sz j off))
  (ht:tyOf P t=some tt) (hb:ah b=some (.rows sz rs)) (hr:rs[j]?=some row) (hp:apart tt row off fun x=>x=v) (h:OWm P ops (i+1) N (mput M d v) ah (nx+1) Q):OWm P ops i N M ah nx Q:=
 OWm_do ho hg hd fun fr hf=>withO_iff.2 ⟨_,mev_ev hf hx,withO_iff.2 ⟨tt,ht,by dsimp only;rw [hb];exact ⟨rfl,withO_iff.2 ⟨row,hr,apart_eq hp h⟩⟩⟩⟩
theorem OWm_st {t:TypeId}{x y:Operand}{b sz j off:Nat}{rs:List (List AV)}{row:List AV}{tt:Bool×Nat}{v:AV}(ho:ops[i]?=some ⟨d,.store t x y,ty,pos,aft,g⟩)(hg:gB ops M g=true)(hd:dok N d=true)(hx:mev M x=some (.op b sz j off))(hy:mev M y=some v)
  (ht:tyOf P t=some tt) (hb:ah b=some (.rows sz rs)) (hv:v.boxy=true) (hl:v.cells.length=tt.2) (hr:rs[j]?=some row) (hfit:off+tt.2≤row.length)
  (h:OWm P ops (i+1) N (mput M d (.p undef)) (upd ah b (some (.rows sz (rs.set j (lay row off v.cells))))) (nx+1) Q):OWm P ops i N M ah nx Q:=
 OWm_do ho hg hd fun fr hf=>withO_iff.2 ⟨_,mev_ev hf hx,withO_iff.2 ⟨_,mev_ev hf hy,withO_iff.2 ⟨tt,ht,by dsimp only;rw [hb];exact ⟨rfl,hv,hl,withO_iff.2 ⟨row,hr,hfit,h⟩⟩⟩⟩⟩
theorem OWm_fao {s:TypeId}{x:Operand}{k b sz j off:Nat}{f:Nat×Bool×Nat}(ho:ops[i]?=some ⟨d,.fieldAddr s x k,ty,pos,aft,g⟩)(hg:gB ops M g=true)(hd:dok N d=true)(hx:mev M x=some (.op b sz j off))
  (hf:fldOf P s k=some f) (h0:Nat.beq f.2.2 0=false) (h:OWm P ops (i+1) N (mput M d (.op b sz j (off+f.1))) ah (nx+1) Q):OWm P ops i N M ah nx Q:=
 OWm_do ho hg hd fun fr hfr=>withO_iff.2 ⟨_,mev_ev hfr hx,withO_iff.2 ⟨f,hf,fun e=>by rw [e] at h0;simp at h0,h⟩⟩
theorem OWm_iav {t:TypeId}{x y:Operand}{rows:List (List AV)}{full:Bool}{kk:IntKind}{n:Int}{e:Nat×Nat}{row:List AV}(ho:ops[i]?=some ⟨d,.indexAddr t x y,ty,pos,aft,g⟩)(hg:gB ops M g=true)(hd:dok N d=true)
  (hx:mev M x=some (.sl rows full)) (hy:mev M y=some (.p (.int kk n))) (he:slElem P t=some e) (h0:0≤n) (hr:rows[n.toNat]?=some row) (hl:row.length=e.1) (h:OWm P ops (i+1) N (mput M d (.vp row 0)) ah (nx+1) Q):OWm P ops i N M ah nx Q:=
 OWm_do ho hg hd fun fr hfr=>withO_iff.2 ⟨_,mev_ev hfr hx,withO_iff.2 ⟨_,mev_ev hfr hy,withO_iff.2 ⟨e,he,h0,withO_iff.2 ⟨row,hr,hl,h⟩⟩⟩⟩
theorem OWm_iao {t:TypeId}{x y:Operand}{b sz off len:Nat}{kk:IntKind}{n:Int}{e:Nat×Nat}(ho:ops[i]?=some ⟨d,.indexAddr t x y,ty,pos,aft,g⟩)(hg:gB ops M g=true)(hd:dok N d=true)
  (hx:mev M x=some (.os b sz off len)) (hy:mev M y=some (.p (.int kk n))) (he:slElem P t=some e) (h0:0≤n) (hn:n.toNat<len) (hs:sz=e.1) (h:OWm P ops (i+1) N (mput M d (.op b sz (off+n.toNat) 0)) ah (nx+1) Q):OWm P ops i N M ah nx Q:=
 OWm_do ho hg hd fun fr hfr=>withO_iff.2 ⟨_,mev_ev hfr hx,withO_iff.2 ⟨_,mev_ev hfr hy,withO_iff.2 ⟨e,he,h0,hn,hs,h⟩⟩⟩
theorem OWm_ext {x:Operand}{k:Nat}{vs:List AV}{v:AV}(ho:ops[i]?=some ⟨d,.extract x k,ty,pos,aft,g⟩)(hg:gB ops M g=true)(hd:dok N d=true)(hx:mev M x=some (.tup vs))(hv:vs[k]?=some v)
  (h:OWm P ops (i+1) N (mput M d v) ah (nx+1) Q):OWm P ops i N M ah nx Q:=
 OWm_do ho hg hd fun fr hfr=>withO_iff.2 ⟨_,mev_ev hfr hx,withO_iff.2 ⟨v,hv,h⟩⟩
theorem OWm_bin {o:BinOp}{t ty2:TypeId}{x y:Operand}{a b v:AV}(ho:ops[i]?=some ⟨d,.binOp o t x y ty2,ty,pos,aft,g⟩)(hg:gB ops M g=true)(hd:dok N d=true)(hx:mev M x=some a)(hy:mev M y=some b)
  (hv:∀K:AV→Prop,K v→aBin P o t (isC x||isC y) a b K) (h:OWm P ops (i+1) N (mput M d v) ah (nx+1) Q):OWm P ops i N M ah nx Q:=
 OWm_do ho hg hd fun fr hfr=>withO_iff.2 ⟨_,mev_ev hfr hx,withO_iff.2 ⟨_,mev_ev hfr hy,.inl (hv _ h)⟩⟩
theorem OWm_un {o:UnOp}{t:TypeId}{x:Operand}{a v:AV}(ho:ops[i]?=some ⟨d,.unOp o t x,ty,pos,aft,g⟩)(hg:gB ops M g=true)(hd:dok N d=true)(hx:mev M x=some a)
  (hv:∀K:AV→Prop,K v→aUn o a K) (h:OWm P ops (i+1) N (mput M d v) ah (nx+1) Q):OWm P ops i N M ah nx Q:=
 OWm_do ho hg hd fun fr hfr=>withO_iff.2 ⟨_,mev_ev hfr hx,hv _ h⟩
theorem OWm_len {args:Array Operand}{ts:Array TypeId}{a v:AV}{t:TypeId}(ho:ops[i]?=some ⟨d,.call ⟨.builtin .len,args,ts⟩,ty,pos,aft,g⟩)(hg:gB ops M g=true)(hd:dok N d=true)(hx:mevA M args.toList=some [a])(ht:ts[0]?=some t)
  (hv:∀K:Res→Prop,K (.val v)→aLen P ah t a K) (h:OWm P ops (i+1) N (mput M d v) ah (nx+1) Q):OWm P ops i N M ah nx Q:=
 OWm_do ho hg hd fun fr hfr=>withO_iff.2 ⟨_,mevA_ev hfr hx,withO_iff.2 ⟨t,ht,hv _ h⟩⟩
theorem len_sl {t e:TypeId}{rows:List (List AV)}{full:Bool}(hu:P.underlying t=some (.slice e)):∀K:Res→Prop,K (.val (.p (.int .i64 rows.length)))→aLen P ah t (.sl rows full) K:=fun K h=>by unfold aLen;rw [hu];exact h
theorem len_os {t e:TypeId}{b sz off len:Nat}(hu:P.underlying t=some (.slice e)):∀K:Res→Prop,K (.val (.p (.int .i64 len)))→aLen P ah t (.os b sz off len) K:=fun K h=>by unfold aLen;rw [hu];exact h
theorem OWm_bld {t:TypeId}{parts:Array (Nat×Operand)}{ps:List (Nat×AV)}{z cs:List AV}{pl:Nat→Option (Nat×Nat)}(ho:ops[i]?=some ⟨d,.build t parts,ty,pos,aft,g⟩)(hg:gB ops M g=true)(hd:dok N d=true)(hx:mevL M parts.toList=some ps)
  (hz:zeroOf P t=some z) (hp:placesOf P t=some pl) (hf:afill pl z ps=some cs) (h:OWm P ops (i+1) N (mput M d (.agg cs)) ah (nx+1) Q):OWm P ops i N M ah nx Q:=
 OWm_do ho hg hd fun fr hfr=>withO_iff.2 ⟨_,mevL_ev hfr hx,withO_iff.2 ⟨z,hz,withO_iff.2 ⟨pl,hp,withO_iff.2 ⟨cs,hf,h⟩⟩⟩⟩
theorem OWm_bsl {t el:TypeId}{e:Nat×Nat}{len:Nat}{parts:Array (Nat×Operand)}{ps:List (Nat×AV)}{z cs:List AV}(ho:ops[i]?=some ⟨d,.buildSlice t len parts,ty,pos,aft,g⟩)(hg:gB ops M g=true)(hd:dok N d=true)(hx:mevL M parts.toList=some ps)
  (hu:P.underlying t=some (.slice el)) (he:slElem P t=some e) (hz:zeroOf P el=some z) (hl:z.length=e.1) (hb:len*e.1+len≤16777216) (hf:afill (fun k=>some (k*e.1,e.1)) (List.replicate len z).flatten ps=some cs)
  (h:OWm P ops (i+1) N (mput M d (.os nx e.1 0 len)) (upd ah nx (some (.rows e.1 (chunks e.1 len cs)))) (nx+1) Q):OWm P ops i N M ah nx Q:=
 OWm_do ho hg hd fun fr hfr=>withO_iff.2 ⟨_,mevL_ev hfr hx,by
  unfold slElem at he
  rw [hu] at he
  dsimp only at he
  cases hi:P.info? el with
  |none=>rw [hi] at he;cases he
  |some inf=>
   rw [hi] at he
   simp only [Option.map_some,Option.some.injEq] at he
   subst he
   unfold aBuildSlice
   rw [hu]
   exact withO_iff.2 ⟨inf,hi,withO_iff.2 ⟨z,hz,hl,hb,withO_iff.2 ⟨cs,hf,h⟩⟩⟩⟩
theorem OWm_new {t:TypeId}{z:List AV}(ho:ops[i]?=some ⟨d,.alloc t,ty,pos,aft,g⟩)(hg:gB ops M g=true)(hd:dok N d=true)(hz:zeroOf P t=some z)(ha:arr1 P t=false)
  (h:OWm P ops (i+1) N (mput M d (.op nx z.length 0 0)) (upd ah nx (some (.rows z.length [z]))) (nx+1) Q):OWm P ops i N M ah nx Q:=
 OWm_do ho hg hd fun fr hfr=>.inl (withO_iff.2 ⟨z,hz,by rw [ha];exact h⟩)
theorem OWm_map {t:TypeId}(ho:ops[i]?=some ⟨d,.makeMap t none,ty,pos,aft,g⟩)(hg:gB ops M g=true)(hd:dok N d=true)
  (h:OWm P ops (i+1) N (mput M d (.mp nx)) (upd ah nx (some (.map []))) (nx+1) Q):OWm P ops i N M ah nx Q:=
 OWm_do ho hg hd fun fr hfr=>⟨trivial,h⟩
theorem OWm_lkp {t kt et:TypeId}{c:Bool}{x y:Operand}{b:Nat}{k z:AV}{es:List (AV×AV)}{r:Option (Nat×AV)}(ho:ops[i]?=some ⟨d,.lookup t x y c,ty,pos,aft,g⟩)(hg:gB ops M g=true)(hd:dok N d=true)
  (hx:mev M x=some (.mp b)) (hy:mev M y=some k) (hu:P.underlying t=some (.map kt et)) (hk:keyOkA P 10000 kt k=true) (hz:zeroAV P et=some z) (hb:ah b=some (.map es)) (hf:findA P kt k es=some r)
  (h:OWm P ops (i+1) N (mput M d (match r with|none=>lkOut c z false|some q=>lkOut c q.2 true)) ah (nx+1) Q):OWm P ops i N M ah nx Q:=
 OWm_do ho hg hd fun fr hfr=>withO_iff.2 ⟨_,mev_ev hfr hx,withO_iff.2 ⟨_,mev_ev hfr hy,by
  unfold aLookup;rw [hu];exact ⟨hk,withO_iff.2 ⟨z,hz,by unfold aLkM;dsimp only;rw [hb];exact withO_iff.2 ⟨r,hf,by cases r<;>exact h⟩⟩⟩⟩⟩
theorem OWm_mup {t kt et:TypeId}{x y u:Operand}{b:Nat}{k v:AV}{es:List (AV×AV)}{r:Option (Nat×AV)}(ho:ops[i]?=some ⟨d,.mapUpdate t x y u,ty,pos,aft,g⟩)(hg:gB ops M g=true)(hd:dok N d=true)
  (hx:mev M x=some (.mp b)) (hy:mev M y=some k) (hv:mev M u=some v) (hu:P.underlying t=some (.map kt et)) (hk:keyOkA P 10000 kt k=true) (hbt:bitA k=true) (hb:ah b=some (.map es)) (hf:findA P kt k es=some r)
  (hq:∀q,r=some q→(es[q.1]?).map (·.1)=some k)
  (h:OWm P ops (i+1) N (mput M d (.p undef)) (upd ah b (some (.map (match r with|none=>es++[(k,v)]|some q=>es.set q.1 (k,v))))) (nx+1) Q):OWm P ops i N M ah nx Q:=
 OWm_do ho hg hd fun fr hfr=>withO_iff.2 ⟨_,mev_ev hfr hx,withO_iff.2 ⟨_,mev_ev hfr hy,withO_iff.2 ⟨_,mev_ev hfr hv,by
  unfold aMapPut;rw [hu];exact ⟨hk,hbt,by unfold aPutM;dsimp only;rw [hb];exact withO_iff.2 ⟨r,hf,hq,by cases r<;>exact h⟩⟩⟩⟩⟩
theorem OWm_apo {args:Array Operand}{ts:Array TypeId}{t t2:TypeId}{e:Nat×Nat}{b off len b2 len2:Nat}{rs ys:List (List AV)}{el:TypeId}{z:List AV}(ho:ops[i]?=some ⟨d,.call ⟨.builtin .append,args,ts⟩,ty,pos,aft,g⟩)(hg:gB ops M g=true)(hd:dok N d=true)
  (hx:mevA M args.toList=some [.os b e.1 off len,.os b2 e.1 0 len2]) (ht:ts[0]?=some t) (ht2:ts[1]?=some t2) (he:slElem P t=some e) (h1:e.2≤4096) (h2:e.1≠0) (hu2:P.underlying t2=some (.slice el)) (hu:P.underlying t=some (.slice el)) (hz:zeroOf P el=some z) (hzl:z.length=e.1)
  (hb:ah b=some (.rows e.1 rs)) (hb2:ah b2=some (.rows e.1 ys)) (hl:off+len≤rs.length) (hl2:ys.length=len2) (hlen:len+len2≤4294967296)
  (h:OWm P ops (i+1) N (mput M d (.os nx e.1 0 (len+len2))) (upd (upd ah b none) nx (some (.rows e.1 ((rs.drop off).take len++ys)))) (nx+1) Q):OWm P ops i N M ah nx Q:=
 OWm_do ho hg hd fun fr hfr=>withO_iff.2 ⟨_,mevA_ev hfr hx,withO_iff.2 ⟨t,ht,withO_iff.2 ⟨t2,ht2,.inl (withO_iff.2 ⟨e,he,h1,h2,by rw [hu2];trivial,by rw [hu];simp [hz,hzl],by
  subst hl2
  refine ⟨rfl,?_⟩
  rw [hb2]
  refine ⟨rfl,by simp,?_⟩
  dsimp only
  refine ⟨rfl,?_⟩
  rw [hb]
  refine ⟨rfl,hl,by simpa using hlen,?_⟩
  simpa [upds] using h⟩)⟩⟩⟩
theorem OWm_pc {f:FuncId}{args:Array Operand}{ts:Array TypeId}{az as1 as2:List AV}{r:AV}(ho:ops[i]?=some ⟨d,.call ⟨.value (.func f),args,ts⟩,ty,pos,aft,g⟩)(hg:gB ops M g=true)(hd:dok N d=true)
  (hx:mevA M args.toList=some az) (hf:frzL (ahN ah deep) az=some as1) (hw:∀w E vs,RepL w E as1 vs→RepL w E as2 vs) (hp:PC P f as2 r) (hc:cleanL az=true∨r.flat=true) (h:OWm P ops (i+1) N (mput M d r) ah (nx+1) Q):OWm P ops i N M ah nx Q:=
 OWm_do ho hg hd fun fr hfr=>withO_iff.2 ⟨_,mevA_ev hfr hx,withO_iff.2 ⟨as1,hf,as2,r,hw,hp,.inl ⟨hc.imp id .inl,h⟩⟩⟩
theorem AWm_nil {c:Code}{b sz:Nat}{l r:List AV}{n:Nat}(hb:ah b=some (.rows sz [l++.sl [] true::r]))(hbn:b<nx)
  (h:AWm P c N M (upd (upd ah nx (some (.rows n []))) b (some (.rows sz [l++.os nx n 0 0::r]))) (nx+1) Q):AWm P c N M ah nx Q:=by
 intro fr hf base w E a hs
 obtain ⟨h1,h2⟩:=new_empty hs.heap (id:=nx) (Nat.le_refl _) n
 have hne:b≠nx:=by omega
 have hb2:upd ah nx (some (.rows n [])) b=some (.rows sz [l++.sl [] true::r]):=by rw [upd_ne hne];exact hb
 have hown:(E.set nx .empty).own nx≠.free:=by simp [Env.set]
 have hB:BlkOk base w (E.set nx .empty) b (.rows sz [l++.os nx n 0 0::r]):=by
  rcases h2.blk b _ hb2 with ⟨-,q⟩|⟨c,o,arr,ty,q1,q2,q3,q4,q5,q6,q7,q8⟩
  ·cases q
  ·refine .inr ⟨c,o,arr,ty,q1,q2,q3,q4,by simpa using q5,fun i row hi=>?_,fun row hm x hx=>?_,fun i row j x hi hj=>?_⟩
   ·cases i with
    |zero=>
     simp at hi;subst hi
     have:=q6 0 _ rfl
     simpa using this
    |succ i=>simp at hi
   ·simp only [List.mem_singleton] at hm;subst hm
    rcases List.mem_append.1 hx with hx|hx
    ·exact q7 _ (List.mem_singleton.2 rfl) x (List.mem_append_left _ hx)
    ·rcases List.mem_cons.1 hx with rfl|hx
     ·rfl
     ·exact q7 _ (List.mem_singleton.2 rfl) x (List.mem_append_right _ (List.mem_cons_of_mem _ hx))
   ·cases i with
    |succ i=>simp at hi
    |zero=>
     simp at hi;subst hi
     rcases Nat.lt_trichotomy j l.length with hlt|rfl|hgt
     ·rw [List.getElem?_append_left hlt] at hj
      exact q8 0 _ j x rfl (by rw [List.getElem?_append_left hlt];exact hj)
     ·simp at hj;subst hj
      obtain ⟨v,hv,hr⟩:=q8 0 _ l.length (.sl [] true) rfl (by simp)
      refine ⟨v,hv,?_⟩
      cases hr with
      |slnil _ a=>exact .osnil nx n 0 a hown
      |sl _ _ sz c o cap g hcap hfull=>
       have:=hfull rfl
       subst this
       exact .osnil nx n 0 _ hown
     ·rw [List.getElem?_append_right (by omega)] at hj
      refine q8 0 _ j x rfl ?_
      rw [List.getElem?_append_right (by omega)]
      obtain ⟨m,hm⟩:∃m,j-l.length=m+1:=⟨j-l.length-1,by omega⟩
      rw [hm] at hj ⊢
      simpa using hj
 have h3:=h2.retell hb2 hB
 refine wp_mono (h fr hf base w (E.set nx .empty) a ⟨h3.weaken fun b hb=>?_,hs.fr.mono h1.ext,hs.defers⟩) fun e a' w' hp=>hp.mono h1 fun _ _ _ h=>h
 have hb':nx+1≤b:=hb
 exact ⟨by omega,by omega⟩
def AL (args:List AV):MT→Prop
 |[]=>True
 |x::r=>args[x.1]?=some x.2∧AL args r
theorem AL.get {args:List AV}:∀{M:MT} {t:Nat} {a:AV},AL args M→mget M t=some a→args[t]?=some a
 |[],t,a,_,h=>by cases h
 |x::r,t,a,hl,h=>by
  simp only [mget] at h
  split at h
  ·rename_i hb
   obtain rfl:=Nat.eq_of_beq_eq_true hb
   simp only [Option.some.injEq] at h;subst h
   exact hl.1
  ·exact AL.get hl.2 h
theorem args_get {args:List AV}{n:Nat}{t:Nat}{a:AV}(hM:AL args M)(h:mget M t=some a):fget (args.map some++List.replicate n none) t=some a:=by
 have h0:=hM.get h
 have key:∀(l:List AV) (t:Nat),l[t]?=some a→fget (l.map some++List.replicate n none) t=some a:=by
  intro l
  induction l with
  |nil=>intro t h;simp at h
  |cons x l ih=>
   intro t h
   cases t with
   |zero=>simp at h;subst h;rfl
   |succ t=>exact ih t (by simpa using h)
 exact key args t h0
theorem AWm_pc {f:FuncId}{fn:Func}{c:Code}{args:List AV}{r:AV}{M:MT}{Q:MQ}(hf:P.funcs[f]?=some fn)(hb:fn.body=some c)(hname:fn.name≠ "runtime.NumGoroutine") (hn:args.length≤fn.ntmps)
  (hM:AL args M) (h:AWm P c fn.ntmps M (fun _=>none) 0 Q)
  (hq:∀e M fr ah nx,FA fn.ntmps M fr→Q e M ah nx→AEnd P fn r e fr ah nx):PC P f args r:=
 PC_of_AW hf hb hname hn ((h _ ⟨by simp [hn],fun t a ht=>args_get hM ht⟩).mono fun e fr ah nx ⟨M',h1,h2⟩=>hq e M' fr ah nx h1 h2)
variable {K : List Nat} {id0:Nat}
end
end Go.Fw
end
section
set_option linter.unusedVariables false
set_option linter.unusedSimpArgs false
set_option linter.unusedSectionVars false
namespace Go.Fw
open Go.Proofs
set_option linter.unusedVariables false
set_option linter.unusedSimpArgs false
set_option maxRecDepth 100000
abbrev Told :=List (Int×GPast)
def toldGet : Told→Int→Option GPast
 |[],_=>none
 |e::r,k=>bif k == e.1 then some e.2 else toldGet r k
def toldPut : Told→Int→GPast→Told
 |[],k,p=>[(k,p)]
 |e::r,k,p=>bif k == e.1 then (k,p)::r else e::toldPut r k p
def obGo (l:List GSeen):List GSeen→Nat→Told→Int×Int
 |[],_,_=>(-1,0)
 |y::r,j,T=>
  bif !witness_counts y then obGo l r (j+1) T
  else bif !witness_alone y then ((j:Int),0)
  else bif ((toldGet T y.Object).getD ⟨[],-1⟩).entries.any (fun i=>decide (y.Began > i)&&!witness_both l ((toldGet T y.Object).getD ⟨[],-1⟩) i j) then ((j:Int),0)
  else obGo l r (j+1) (toldPut T y.Object ⟨((toldGet T y.Object).getD ⟨[],-1⟩).entries++[(j:Int)],
   bif decide (((toldGet T y.Object).getD ⟨[],-1⟩).closing<0)&&witness_closing y then (j:Int) else ((toldGet T y.Object).getD ⟨[],-1⟩).closing⟩)
def witness_Obeys (l:List GSeen):Int×Int:=bif decide (lLen l > 8192) then (0,4) else obGo l l 0 []
theorem v_u22 : Try.prog.underlying 22=some (.slice 37):=by kernel_rfl
theorem v_u71 : Try.prog.underlying 71=some (.slice 3):=by kernel_rfl
theorem v_u69 : Try.prog.underlying 69=some (.map 76 73):=by kernel_rfl
theorem v_t37 : tyOf Try.prog 37=some (true,32):=by kernel_rfl
theorem v_t73 : tyOf Try.prog 73=some (true,2):=by kernel_rfl
theorem v_t71 : tyOf Try.prog 71=some (false,1):=by kernel_rfl
theorem v_t3 : tyOf Try.prog 3=some (false,1):=by kernel_rfl
theorem v_f37_0 : fldOf Try.prog 37 0=some (0,false,1):=by kernel_rfl
theorem v_f37_1 : fldOf Try.prog 37 1=some (1,false,1):=by kernel_rfl
theorem v_f73_0 : fldOf Try.prog 73 0=some (0,false,1):=by kernel_rfl
theorem v_f73_1 : fldOf Try.prog 73 1=some (1,false,1):=by kernel_rfl
theorem v_s22 : (slElem Try.prog 22).map (·.1)=some 32:=by kernel_rfl
theorem v_s71 : slElem Try.prog 71=some (1,8):=by kernel_rfl
theorem v_z73 : zeroOf Try.prog 73=some [.sl [] true,.p (.int .i64 0)]:=by kernel_rfl
theorem v_z3 : zeroOf Try.prog 3=some [.p (.int .i64 0)]:=by kernel_rfl
theorem v_z76 : zeroOf Try.prog 76=some [.p (.int .i64 0)]:=by kernel_rfl
theorem v_zA73 : zeroAV Try.prog 73=some (.agg [.sl [] true,.p (.int .i64 0)]):=by kernel_rfl
theorem v_a73 : arr1 Try.prog 73=false:=by kernel_rfl
theorem v_a37 : arr1 Try.prog 37=false:=by kernel_rfl
def z37 : List AV:=[.p (.int .i64 0),.p (.int .i64 0),.p (.int .u8 0),.str [],.p (.int .i64 0),.p (.bool false),.p (.int .u8 0),.p (.int .u8 0),.p (.float .f64 0),.str [],.p (.int .i64 0),.p (.bool false),.p (.bool false),.p (.int .u8 0),.p (.int .u8 0),.p (.float .f64 0),.str [],.p (.int .i64 0),.p (.int .u8 0),.p (.float .f64 0),.str [],.p (.int .i64 0),.p (.int .u8 0),.p (.float .f64 0),.str [],.p (.int .i64 0),.p (.bool false),.p (.bool false),.p (.bool false),.sl [] true,.p (.int .u8 0),.str []]
theorem v_z37 : zeroOf Try.prog 37=some z37:=by kernel_rfl
theorem v_ko (a:Int):keyOkA Try.prog 10000 76 (.agg [.p (.int .i64 a)])=true:=by kernel_rfl
theorem v_eq (a b:Int):aeq Try.prog 10000 76 (.agg [.p (.int .i64 a)]) (.agg [.p (.int .i64 b)])=some ((a == b)&&true):=by kernel_rfl
theorem v_pl76 : ∃pl,placesOf Try.prog 76=some pl∧∀a:Int,afill pl [.p (.int .i64 0)] [(0,.p (.int .i64 a))]=some [.p (.int .i64 a)]:=⟨_,rfl,fun a=>rfl⟩
def obR (r:Int×Int):AV:=.tup [.p (.int .i64 r.1),.p (.int .i64 r.2)]
def obQ (r:Int×Int):MQ:=fun e M ah nx=>(e=.normal∨e=.ret)∧mget M 2=some (.p (.int .i64 r.1))∧mget M 3=some (.p (.int .i64 r.2))
def obM (l:List GSeen)(k bm:Nat):MT:=[(0,.sl (l.map GSeen.enc) false),(15,.sl (l.map GSeen.enc) false),(16,.p (.int .i64 l.length)),(17,.p (.int .i64 k)),(4,.mp bm)]
def obE (e:(Int×GPast)×Nat):AV×AV:=(.agg [.p (.int .i64 e.1.1)],.agg [.os e.2 1 0 e.1.2.entries.length,.p (.int .i64 e.1.2.closing)])
structure TOk (T:List ((Int×GPast)×Nat))(bm:Nat)(ah:AH)(nx k:Nat):Prop where
 mp:ah bm=some (.map (T.map obE))
 bm:bm<nx
 blk:∀e∈T,ah e.2=some (.rows 1 (e.1.2.entries.map rowI))∧e.2<nx
 nd:(T.map (·.2)).Nodup
 rng:∀e∈T,∀i∈e.1.2.entries,0≤i∧i<(k:Int)
 len:∀e∈T,e.1.2.entries.length≤k
def obI (l:List GSeen)(r:Int×Int):Nat→MT→AH→Nat→Prop:=fun n M ah nx=>
 ∃k T bm,n=l.length+1-k∧k≤l.length∧M=obM l k bm∧TOk T bm ah nx k∧obGo l (l.drop k) k (T.map (·.1))=r
def tFind : List ((Int×GPast)×Nat)→Int→Option (Nat×((Int×GPast)×Nat))
 |[],_=>none
 |e::r,k=>bif k == e.1.1 then some (0,e) else (tFind r k).map fun q=>(q.1+1,q.2)
theorem findA_T (o:Int):∀T:List ((Int×GPast)×Nat),findA Try.prog 76 (.agg [.p (.int .i64 o)]) (T.map obE)=some ((tFind T o).map fun q=>(q.1,(obE q.2).2))
 |[]=>rfl
 |e::r=>by
  simp only [List.map_cons,findA,tFind]
  rw [show (obE e).1=.agg [.p (.int .i64 e.1.1)] from rfl,v_eq,findA_T o r]
  cases h:(o == e.1.1)
  ·simp only [Bool.and_true,cond_false]
   cases tFind r o<;>rfl
  ·rfl
theorem tFind_get {o:Int}:∀{T:List ((Int×GPast)×Nat)} {q},tFind T o=some q→T[q.1]?=some q.2∧q.2.1.1=o
 |[],q,h=>by cases h
 |e::r,q,h=>by
  simp only [tFind] at h
  cases hk:(o == e.1.1)
  ·simp only [hk,cond_false,Option.map_eq_some_iff] at h
   obtain ⟨q',h',rfl⟩:=h
   exact ⟨by simpa using (tFind_get h').1,(tFind_get h').2⟩
  ·simp only [hk,cond_true,Option.some.injEq] at h;subst h
   exact ⟨rfl,(by simpa using hk:o=e.1.1).symm⟩
theorem tFind_told {o:Int}:∀T:List ((Int×GPast)×Nat),toldGet (T.map (·.1)) o=(tFind T o).map fun q=>q.2.1.2
 |[]=>rfl
 |e::r=>by
  simp only [List.map_cons,toldGet,tFind]
  cases hk:(o == e.1.1)
  ·simp only [cond_false,tFind_told r];cases tFind r o<;>rfl
  ·rfl
theorem tFind_put {o:Int}{p:GPast}:∀T:List ((Int×GPast)×Nat),toldPut (T.map (·.1)) o p=match tFind T o with|none=>T.map (·.1)++[(o,p)]|some q=>(T.map (·.1)).set q.1 (o,p)
 |[]=>rfl
 |e::r=>by
  simp only [List.map_cons,toldPut,tFind]
  cases hk:(o == e.1.1)
  ·simp only [cond_false,tFind_put r];cases tFind r o<;>rfl
  ·rfl
theorem TOk.frame {T:List ((Int×GPast)×Nat)}{bm nx nx' k:Nat}{ah ah':AH}(h:TOk T bm ah nx k)(hn:nx≤nx')(ha:∀b,b<nx→ah' b=ah b):TOk T bm ah' nx' k:=
 ⟨by rw [ha bm h.bm];exact h.mp,Nat.lt_of_lt_of_le h.bm hn,fun e he=>⟨by rw [ha _ (h.blk e he).2];exact (h.blk e he).1,Nat.lt_of_lt_of_le (h.blk e he).2 hn⟩,h.nd,h.rng,h.len⟩
theorem TOk.put {T:List ((Int×GPast)×Nat)}{bm n0 nx k id:Nat}{o:Int}{p:GPast}{ah0 ah:AH}(h:TOk T bm ah0 n0 k)(hid:n0≤id)(hx:id<nx){X:List ((Int×GPast)×Nat)}
  (hX:X=match tFind T o with|none=>T++[((o,p),id)]|some q=>T.set q.1 ((o,p),id)) (hm:ah bm=some (.map (X.map obE))) (hp:ah id=some (.rows 1 (p.entries.map rowI)))
  (ho:∀b,b<n0→b≠bm→(∀q,tFind T o=some q→b≠q.2.2)→ah b=ah0 b) (hr:∀i∈p.entries,0≤i∧i<((k+1:Nat):Int)) (hl:p.entries.length≤k+1) (hbm:∀e∈T,e.2≠bm):TOk X bm ah nx (k+1):=by
 have old:∀e∈T,(∀q,tFind T o=some q→e.2≠q.2.2)→ah e.2=some (.rows 1 (e.1.2.entries.map rowI))∧e.2<nx:=fun e he hq=>
  ⟨by rw [ho _ (h.blk e he).2 (hbm e he) hq];exact (h.blk e he).1,Nat.lt_trans (Nat.lt_of_lt_of_le (h.blk e he).2 hid) hx⟩
 have hne:∀e∈T,e.2≠id:=fun e he=>Nat.ne_of_lt (Nat.lt_of_lt_of_le (h.blk e he).2 hid)
 have up:∀i:Int,i<(k:Int)→i<((k+1:Nat):Int):=fun i hi=>by omega
 suffices hs:(∀e∈X,ah e.2=some (.rows 1 (e.1.2.entries.map rowI))∧e.2<nx)∧(X.map (·.2)).Nodup∧(∀e∈X,∀i∈e.1.2.entries,0≤i∧i<((k+1:Nat):Int))∧(∀e∈X,e.1.2.entries.length≤k+1) from
  ⟨hm,Nat.lt_trans (Nat.lt_of_lt_of_le h.bm hid) hx,hs.1,hs.2.1,hs.2.2.1,hs.2.2.2⟩
 cases hf:tFind T o with
 |none=>
  rw [hf] at hX
  simp only at hX
  subst hX
  refine ⟨fun e he=>?_,?_,fun e he i hi=>?_,fun e he=>?_⟩
  ·rcases List.mem_append.1 he with he|he
   ·exact old e he fun q hq=>by rw [hf] at hq;cases hq
   ·obtain rfl:=List.mem_singleton.1 he;exact ⟨hp,hx⟩
  ·rw [List.map_append,List.nodup_append]
   refine ⟨h.nd,by simp,fun a ha b hb=>?_⟩
   simp at hb;subst hb
   obtain ⟨e,he,rfl⟩:=List.mem_map.1 ha
   exact hne e he
  ·rcases List.mem_append.1 he with he|he
   ·exact ⟨(h.rng e he i hi).1,up i (h.rng e he i hi).2⟩
   ·obtain rfl:=List.mem_singleton.1 he;exact hr i hi
  ·rcases List.mem_append.1 he with he|he
   ·exact Nat.le_succ_of_le (h.len e he)
   ·obtain rfl:=List.mem_singleton.1 he;exact hl
 |some q=>
  rw [hf] at hX
  simp only at hX
  subst hX
  have hq:=(tFind_get hf).1
  have split:∀e∈T.set q.1 ((o,p),id),e=((o,p),id)∨∃i,i≠q.1∧T[i]?=some e:=fun e he=>by
   obtain ⟨i,hi⟩:=List.mem_iff_getElem?.1 he
   by_cases hiq:q.1=i
   ·subst hiq
    rw [List.getElem?_set_self (List.getElem?_eq_some_iff.1 hq).1] at hi
    exact .inl (Option.some.inj hi).symm
   ·rw [List.getElem?_set_ne hiq] at hi
    exact .inr ⟨i,fun e=>hiq e.symm,hi⟩
  have dist:∀i e,i≠q.1→T[i]?=some e→e.2≠q.2.2:=fun i e hi he hc=>by
   have h1:(T.map (·.2))[i]?=some e.2:=by simp [he]
   have h2:(T.map (·.2))[q.1]?=some e.2:=by simp [hq,hc]
   obtain ⟨l1,g1⟩:=List.getElem?_eq_some_iff.1 h1
   obtain ⟨l2,g2⟩:=List.getElem?_eq_some_iff.1 h2
   exact hi ((List.getElem_inj h.nd).1 (g1.trans g2.symm))
  refine ⟨fun e he=>?_,?_,fun e he i hi=>?_,fun e he=>?_⟩
  ·rcases split e he with rfl|⟨i,hi,hg⟩
   ·exact ⟨hp,hx⟩
   ·exact old e (List.mem_of_getElem? hg) fun q' hq'=>by rw [hf] at hq';cases hq';exact dist i e hi hg
  ·rw [List.map_set]
   rw [List.nodup_iff_pairwise_ne,List.pairwise_iff_getElem]
   intro i j hi hj hij
   have hnd:=h.nd
   rw [List.nodup_iff_pairwise_ne,List.pairwise_iff_getElem] at hnd
   rw [List.getElem_set,List.getElem_set]
   simp only [List.length_set,List.length_map] at hi hj
   split
   ·split
    ·omega
    ·rw [List.getElem_map];exact fun e=>hne _ (List.getElem_mem _) e.symm
   ·split
    ·rw [List.getElem_map];exact hne _ (List.getElem_mem _)
    ·exact hnd i j (by simpa using hi) (by simpa using hj) hij
  ·rcases split e he with rfl|⟨j,hj,hg⟩
   ·exact hr i hi
   ·have:=h.rng e (List.mem_of_getElem? hg) i hi;exact ⟨this.1,up i this.2⟩
  ·rcases split e he with rfl|⟨j,hj,hg⟩
   ·exact hl
   ·exact Nat.le_succ_of_le (h.len e (List.mem_of_getElem? hg))
theorem TOk.succ {T:List ((Int×GPast)×Nat)}{bm nx k:Nat}{ah:AH}(h:TOk T bm ah nx k):TOk T bm ah nx (k+1):=
 ⟨h.mp,h.bm,h.blk,h.nd,fun e he i hi=>⟨(h.rng e he i hi).1,by have:=(h.rng e he i hi).2;omega⟩,fun e he=>Nat.le_succ_of_le (h.len e he)⟩
theorem seen_frz {ah:AH}(y:GSeen):frzL ah [y.av]=some [y.av]:=fzL_frz (by simp [fzL,GSeen.fz])
theorem seen_clean (y:GSeen):cleanL [y.av]=true:=fzL_clean (by simp [fzL,GSeen.fz])
def m6 (l:List GSeen)(k bm b6:Nat):MT:=(5,.p (.int .i64 k))::(6,.op b6 32 0 0)::obM l k bm
def m7 (l:List GSeen)(k bm b6 b7:Nat):MT:=(7,.op b7 2 0 0)::m6 l k bm b6
structure K10 (l:List GSeen)(k bm b6 n0:Nat)(T:List ((Int×GPast)×Nat))(y:GSeen)(p:GPast)(ah0:AH)(M:MT)(ah:AH)(nx b7 id:Nat):Prop where
 ml:ML M (m7 l k bm b6 b7)
 n7:n0≤b7
 x7:b7<nx
 n67:b6<b7
 h7:ah b7=some (.rows 2 [[.os id 1 0 p.entries.length,.p (.int .i64 p.closing)]])
 h6:ah b6=some (.rows 32 [y.enc])
 hid:ah id=some (.rows 1 (p.entries.map rowI))
 xid:id<nx
 i6:id≠b6
 i7:id≠b7
 old:∀b,b<n0→ah b=ah0 b
 wh:(tFind T y.Object=none∧n0≤id)∨∃q,tFind T y.Object=some q∧id=q.2.2
def m9 (l:List GSeen)(k bm b6 b7 id:Nat)(n m:Nat):MT:=(41,.os id 1 0 n)::(42,.p (.int .i64 n))::(43,.p (.int .i64 m))::m7 l k bm b6 b7
def obF (l:List GSeen)(y:GSeen)(p:GPast)(k:Nat)(i:Int):Bool:=decide (y.Began > i)&&!witness_both l p i k
def obI2 (l:List GSeen)(k bm b6 b7 id:Nat)(y:GSeen)(p:GPast)(ah2:AH)(n2:Nat):Nat→MT→AH→Nat→Prop:=fun n M ah nx=>
 ∃m,n=p.entries.length+1-m∧m≤p.entries.length∧M=m9 l k bm b6 b7 id p.entries.length m∧ah=ah2∧n2≤nx∧(p.entries.take m).any (obF l y p k)=false
theorem rowI_clean : ∀l:List Int,cleanLL (l.map rowI)=true
 |[]=>rfl
 |_::r=>by simp only [List.map_cons,cleanLL,rowI_clean r];rfl
theorem ob_frz {ah:AH}{l:List GSeen}{id:Nat}{p:GPast}{i k:Int}(h:ah id=some (.rows 1 (p.entries.map rowI))):frzL (ahN ah deep) [.sl (l.map GSeen.enc) false,.agg [.os id 1 0 p.entries.length,.p (.int .i64 p.closing)],.p (.int .i64 i),.p (.int .i64 k)]=some [.sl (l.map GSeen.enc) false,p.av,.p (.int .i64 i),.p (.int .i64 k)]:=by
 have h1:frz (ahN ah deep) (.sl (l.map GSeen.enc) false)=some (.sl (l.map GSeen.enc) false):=by
  have:frzLL (ahN ah deep) (l.map GSeen.enc)=some (l.map GSeen.enc):=fzLL_frz (fzLL_map GSeen.fzL)
  simp [frz,this]
 have h2:frz (ahN ah deep) (.os id 1 0 p.entries.length)=some (.sl (p.entries.map rowI) false):=frz_os_clean h (rowI_clean _) (by simp)
 have h3:frz (ahN ah deep) (.agg [.os id 1 0 p.entries.length,.p (.int .i64 p.closing)])=some p.av:=by
  have:frzL (ahN ah deep) [.os id 1 0 p.entries.length,.p (.int .i64 p.closing)]=some [.sl (p.entries.map rowI) false,.p (.int .i64 p.closing)]:=by
   simp only [frzL,h2,Option.bind_some];rfl
  show (frzL (ahN ah deep) _).map AV.agg=_
  rw [this];rfl
 simp only [frzL,h1,h3,Option.bind_some]
 rfl
theorem ob_inc {m:Nat}(h:m<4294967296):IntKind.wrap .i64 ((m:Int)+1)=((m+1:Nat):Int):=by
 have:=iAdd1 (i:=(m:Int)) (by omega) (by omega)
 unfold iAdd at this
 rw [this];omega
structure K19 (l:List GSeen)(k bm b6 b7 n0 id:Nat)(y:GSeen)(p:GPast)(cl:Int)(ah0:AH)(M:MT)(ah:AH)(nx nid:Nat):Prop where
 ml:ML M (m7 l k bm b6 b7)
 h7:ah b7=some (.rows 2 [[.os nid 1 0 (p.entries.length+1),.p (.int .i64 cl)]])
 h6:ah b6=some (.rows 32 [y.enc])
 hid:ah nid=some (.rows 1 ((p.entries++[(k:Int)]).map rowI))
 xid:nid<nx
 nn:n0≤nid
 i6:nid≠b6
 i7:nid≠b7
 old:∀b,b<n0→b≠id→ah b=ah0 b
theorem upd_low {ah:AH}{b n j:Nat}{k:Option Blk}(hj:j<n)(hb:n≤b):upd ah b k j=ah j:=upd_ne (Nat.ne_of_lt (Nat.lt_of_lt_of_le hj hb))
theorem TOk.ne {T:List ((Int×GPast)×Nat)}{bm nx k:Nat}{ah:AH}(h:TOk T bm ah nx k):∀e∈T,e.2≠bm:=fun e he hc=>by
 have h1:=(h.blk e he).1
 rw [hc,h.mp] at h1
 cases h1
theorem ob_walk (l:List GSeen):∃c,Try.f17.body=some c∧AWm Try.prog c 82 [(0,.sl (l.map GSeen.enc) false)] (fun _=>none) 0 (obQ (witness_Obeys l)):=by
 refine ⟨_,rfl,?_⟩
 refine AWm_seq (AWm_region ?_)
 refine OWm_as rfl rfl rfl rfl (OWm_as rfl rfl rfl rfl (OWm_end rfl ?_))
 refine AWm_seq (AWm_seq (AWm_region ?_))
 refine OWm_mv rfl rfl rfl rfl (OWm_len rfl rfl rfl rfl rfl (len_sl v_u22) (OWm_bin rfl rfl rfl rfl rfl (fun K h=>⟨rfl,h⟩) (OWm_end rfl ?_)))
 refine AWm_cond rfl (fun h=>?_) (fun h=>AWm_skip ?_)
 ·have e:witness_Obeys l=(0,4):=by
   have h':decide (lLen l > 8192)=true:=by simpa [lLen] using h
   unfold witness_Obeys;rw [h'];rfl
  rw [e]
  exact AWm_seq (AWm_region (OWm_as rfl rfl rfl rfl (OWm_as rfl rfl rfl rfl (OWm_end rfl (AWm_ret ⟨.inr rfl,rfl,rfl⟩)))))
 have hlen:l.length≤8192:=by simp at h;omega
 have e:witness_Obeys l=obGo l l 0 []:=by
  have h':decide (lLen l > 8192)=false:=by simpa [lLen] using h
  unfold witness_Obeys;rw [h'];rfl
 rw [e]
 clear e h
 refine AWm_seq (AWm_region (OWm_map rfl rfl rfl (OWm_as rfl rfl rfl rfl (OWm_end rfl ?_))))
 refine AWm_seq (AWm_seq (AWm_region ?_))
 refine OWm_mv rfl rfl rfl rfl (OWm_len rfl rfl rfl rfl rfl (len_sl v_u22) (OWm_mv rfl rfl rfl rfl (OWm_end rfl ?_)))
 generalize hr0:obGo l l 0 []=r
 refine AWm_block (AWm_loop (obI l r) (l.length+1) (obM l 0 5) ⟨rfl,rfl,congrArg (fun n:Nat=>some (AV.p (.int .i64 n))) (List.length_map (f:=GSeen.enc)),rfl,rfl,trivial⟩ ?_ fun n M ah nx hI=>?_)
 ·exact ⟨0,[],5,rfl,Nat.zero_le _,rfl,⟨rfl,by decide,by simp,by simp,by simp,by simp⟩,hr0⟩
 ·obtain ⟨k,T,bm,hn,hk,rfl,hT,hr⟩:=hI
  refine AWm_seq (AWm_region (OWm_bin rfl rfl rfl rfl rfl (fun K h=>⟨rfl,h⟩) (OWm_end rfl ?_)))
  refine AWm_seq (AWm_cond rfl (fun h=>AWm_skip ?_) fun h=>AWm_exit ?_)
  ·have hk':k<l.length:=by simpa using h
   clear h
   obtain ⟨y,hy⟩:∃y,l[k]?=some y:=⟨l[k],by simp [hk']⟩
   have hdrop:l.drop k=y::l.drop (k+1):=by
    rw [List.drop_eq_getElem_cons hk']
    rw [List.getElem?_eq_getElem hk'] at hy
    cases hy;rfl
   rw [hdrop,obGo] at hr
   obtain ⟨e22,he22,hz22⟩:∃e,slElem Try.prog 22=some e∧e.1=32:=by simpa [Option.map_eq_some_iff] using v_s22
   refine AWm_mid (fun M ah nx=>∃T',ML M (obM l k bm)∧TOk T' bm ah nx (k+1)∧obGo l (l.drop (k+1)) (k+1) (T'.map (·.1))=r) (AWm_block ?_) fun M ah nx hK=>?_
   ·refine AWm_mid (fun M ah' nx'=>∃b6,nx≤b6∧b6<nx'∧ML M (m6 l k bm b6)∧ah' b6=some (.rows 32 [y.enc])∧∀b,b<nx→ah' b=ah b) (AWm_region ?_) fun M ah1 n1 hK=>?_
    ·refine OWm_mv rfl rfl rfl rfl ?_
     refine OWm_iav rfl rfl rfl rfl rfl he22 (by omega) (row:=y.enc) (by simp [hy]) hz22.symm ?_
     refine OWm_ldv rfl rfl rfl rfl v_t37 (v:=y.av) ⟨Nat.le_refl 32,rfl⟩ ?_
     refine OWm_new rfl rfl rfl v_z37 v_a37 ?_
     refine OWm_as rfl rfl rfl rfl ?_
     refine OWm_st rfl rfl rfl rfl rfl v_t37 (upd_eq rfl) rfl rfl rfl (by decide) ?_
     refine OWm_end rfl ⟨nx+1+1+1+1,by omega,by omega,⟨rfl,rfl,rfl,rfl,rfl,rfl,rfl,trivial⟩,upd_eq rfl,fun b hb=>?_⟩
     rw [upd_low hb (by omega),upd_low hb (by omega)]
    ·obtain ⟨b6,q1,q2,hM,h6,hah⟩:=hK
     refine AWm_le _ hM ?_
     clear hM
     refine AWm_seq (AWm_seq (AWm_region ?_))
     refine OWm_ldo rfl rfl rfl rfl v_t37 h6 rfl (v:=y.av) ⟨Nat.le_refl 32,rfl⟩ ?_
     refine OWm_pc rfl rfl rfl rfl (seen_frz y) (fun _ _ _ h=>h) (pc_witness_counts y) (.inl (seen_clean y)) ?_
     refine OWm_un rfl rfl rfl rfl (fun K h=>h) (OWm_end rfl ?_)
     refine AWm_cond rfl (fun h=>AWm_exit ?_) fun h=>AWm_skip ?_
     ·rw [h] at hr
      exact ⟨T,⟨rfl,rfl,rfl,rfl,rfl,trivial⟩,(hT.frame (by omega) hah).succ,hr⟩
     rw [h] at hr
     simp only [cond_false] at hr
     clear h
     generalize hp:(toldGet (T.map (·.1)) y.Object).getD ⟨[],-1⟩=p at hr
     rw [tFind_told] at hp
     have hrng:∀i∈p.entries,0≤i∧i<(k:Int):=by
      cases hf:tFind T y.Object with
      |none=>rw [hf] at hp;subst hp;intro i hi;cases hi
      |some q=>rw [hf] at hp;subst hp;exact hT.rng q.2 (List.mem_of_getElem? (tFind_get hf).1)
     have hplen:p.entries.length≤k:=by
      cases hf:tFind T y.Object with
      |none=>rw [hf] at hp;subst hp;exact Nat.zero_le _
      |some q=>rw [hf] at hp;subst hp;exact hT.len q.2 (List.mem_of_getElem? (tFind_get hf).1)
     obtain ⟨pl,hpl,haf⟩:=v_pl76
     refine AWm_mid2 (fun M ah' nx'=>∃b7 id,K10 l k bm b6 nx T y p ah M ah' nx' b7 id) (AWm_region ?_) fun M ah2 n2 hK=>?_
     ·cases hf:tFind T y.Object with
      |none=>
       rw [hf] at hp
       have hfa:=findA_T y.Object T
       rw [hf] at hfa
       refine OWm_mv rfl rfl rfl rfl ?_
       refine OWm_fao rfl rfl rfl rfl v_f37_1 rfl ?_
       refine OWm_ldo rfl rfl rfl rfl v_t3 h6 rfl (v:=.p (.int .i64 y.Object)) rfl ?_
       refine OWm_bld rfl rfl rfl rfl v_z76 hpl (haf _) ?_
       refine OWm_lkp rfl rfl rfl rfl rfl v_u69 (v_ko _) v_zA73 (by rw [hah bm hT.bm];exact hT.mp) hfa ?_
       refine OWm_mv rfl rfl rfl rfl ?_
       refine OWm_ext rfl rfl rfl rfl rfl ?_
       refine OWm_ext rfl rfl rfl rfl rfl ?_
       refine OWm_new rfl rfl rfl v_z73 v_a73 ?_
       refine OWm_st rfl rfl rfl rfl rfl v_t73 (upd_eq rfl) rfl rfl rfl (Nat.le_refl 2) ?_
       refine OWm_as rfl rfl rfl rfl ?_
       refine OWm_end rfl ?_
       refine AWm_seq (AWm_region (OWm_mv rfl rfl rfl rfl (OWm_un rfl rfl rfl rfl (fun K h=>h) (OWm_end rfl ?_))))
       refine AWm_cond rfl (fun _=>?_) (fun h=>by cases h)
       refine AWm_nil (b:=n1+3+1+1+1+1+1+3) (l:=[]) (r:=[.p (.int .i64 0)]) (n:=1) (by rw [upd_eq (by omega)];rfl) (by omega) ?_
       refine AWm_region ?_
       refine OWm_fao rfl rfl rfl rfl v_f73_1 rfl ?_
       refine OWm_st rfl rfl rfl rfl rfl v_t3 (upd_eq rfl) rfl rfl rfl (Nat.le_refl 2) ?_
       refine OWm_end rfl ⟨n1+3+1+1+1+1+1+3,n1+16,⟨⟨rfl,rfl,rfl,rfl,rfl,rfl,rfl,rfl,trivial⟩,by omega,by omega,by omega,?_,?_,?_,by omega,by omega,by omega,fun b hb=>?_,.inl ⟨hf,by omega⟩⟩⟩
       ·rw [upd_eq (by omega)];subst hp;rfl
       ·repeat rw [upd_ne (by omega)]
        exact h6
       ·rw [upd_ne (by omega),upd_ne (by omega),upd_eq (by omega)];subst hp;rfl
       ·repeat rw [upd_ne (by omega)]
        exact hah b hb
      |some q=>
       rw [hf] at hp
       have hfa:=findA_T y.Object T
       rw [hf] at hfa
       have hq:=hT.blk q.2 (List.mem_of_getElem? (tFind_get hf).1)
       have hp':q.2.1.2=p:=hp
       refine OWm_mv rfl rfl rfl rfl ?_
       refine OWm_fao rfl rfl rfl rfl v_f37_1 rfl ?_
       refine OWm_ldo rfl rfl rfl rfl v_t3 h6 rfl (v:=.p (.int .i64 y.Object)) rfl ?_
       refine OWm_bld rfl rfl rfl rfl v_z76 hpl (haf _) ?_
       refine OWm_lkp rfl rfl rfl rfl rfl v_u69 (v_ko _) v_zA73 (by rw [hah bm hT.bm];exact hT.mp) hfa ?_
       refine OWm_mv rfl rfl rfl rfl ?_
       refine OWm_ext rfl rfl rfl rfl rfl ?_
       refine OWm_ext rfl rfl rfl rfl rfl ?_
       refine OWm_new rfl rfl rfl v_z73 v_a73 ?_
       refine OWm_st rfl rfl rfl rfl rfl v_t73 (upd_eq rfl) rfl rfl rfl (Nat.le_refl 2) ?_
       refine OWm_as rfl rfl rfl rfl ?_
       refine OWm_end rfl ?_
       refine AWm_seq (AWm_region (OWm_mv rfl rfl rfl rfl (OWm_un rfl rfl rfl rfl (fun K h=>h) (OWm_end rfl ?_))))
       refine AWm_cond rfl (fun h=>by cases h) (fun _=>AWm_skip ?_)
       refine ⟨n1+3+1+1+1+1+1+3,q.2.2,⟨⟨rfl,rfl,rfl,rfl,rfl,rfl,rfl,rfl,trivial⟩,by omega,by omega,by omega,?_,?_,?_,by omega,by omega,by omega,fun b hb=>?_,.inr ⟨q,hf,rfl⟩⟩⟩
       ·rw [upd_eq (by omega)];subst hp';rfl
       ·repeat rw [upd_ne (by omega)]
        exact h6
       ·repeat rw [upd_ne (by omega)]
        rw [hah _ hq.2,hq.1,hp']
       ·repeat rw [upd_ne (by omega)]
        exact hah b hb
     ·obtain ⟨b7,id,hK⟩:=hK
      refine AWm_le _ hK.ml ?_
      refine AWm_seq (AWm_seq (AWm_region ?_))
      refine OWm_ldo rfl rfl rfl rfl v_t37 hK.h6 rfl (v:=y.av) ⟨Nat.le_refl 32,rfl⟩ ?_
      refine OWm_pc rfl rfl rfl rfl (seen_frz y) (fun _ _ _ h=>h) (pc_witness_alone y) (.inl (seen_clean y)) ?_
      refine OWm_un rfl rfl rfl rfl (fun K h=>h) (OWm_end rfl ?_)
      refine AWm_cond rfl (fun h=>?_) fun h=>AWm_skip ?_
      ·rw [h] at hr
       simp only [cond_true] at hr
       subst hr
       exact AWm_seq (AWm_region (OWm_mv rfl rfl rfl rfl (OWm_as rfl rfl rfl rfl (OWm_as rfl rfl rfl rfl (OWm_end rfl (AWm_ret ⟨.inr rfl,rfl,rfl⟩))))))
      rw [h] at hr
      simp only [cond_false] at hr
      clear h
      refine AWm_seq (AWm_seq (AWm_region ?_))
      refine OWm_fao rfl rfl rfl rfl v_f73_0 rfl ?_
      refine OWm_ldo rfl rfl rfl rfl v_t71 hK.h7 rfl (v:=.os id 1 0 p.entries.length) rfl ?_
      refine OWm_len rfl rfl rfl rfl rfl (len_os v_u71) ?_
      refine OWm_mv rfl rfl rfl rfl (OWm_end rfl ?_)
      rw [show (fun i=>decide (y.Began > i)&&!witness_both l p i (k:Int))=obF l y p k from rfl] at hr
      refine AWm_block (AWm_loop (obI2 l k bm b6 b7 id y p ah2 n2) (p.entries.length+1) (m9 l k bm b6 b7 id p.entries.length 0) ⟨rfl,rfl,rfl,rfl,rfl,rfl,rfl,rfl,rfl,rfl,rfl,trivial⟩ ⟨0,rfl,Nat.zero_le _,rfl,rfl,by omega,rfl⟩ fun n M ah3 n3 hI=>?_)
      obtain ⟨m,hn,hm,rfl,rfl,hnx,hany⟩:=hI
      refine AWm_seq (AWm_region (OWm_bin rfl rfl rfl rfl rfl (fun K h=>⟨rfl,h⟩) (OWm_end rfl ?_)))
      refine AWm_seq (AWm_cond rfl (fun h=>AWm_skip ?_) fun h=>AWm_exit ?_)
      ·have hm':m<p.entries.length:=by simpa using h
       clear h
       obtain ⟨i,hi⟩:∃i,p.entries[m]?=some i:=⟨p.entries[m],by simp [hm']⟩
       have htake:(p.entries.take (m+1)).any (obF l y p k)=obF l y p k i:=by
        rw [List.take_add_one,hi];simp [hany]
       refine AWm_seq (AWm_block (AWm_seq (AWm_region ?_)))
       refine OWm_iao rfl rfl rfl rfl rfl v_s71 (by omega) (by simpa using hm') rfl ?_
       refine OWm_ldo rfl rfl rfl rfl v_t3 hK.hid (row:=rowI i) (by simp [hi]) (v:=.p (.int .i64 i)) rfl ?_
       refine OWm_as rfl rfl rfl rfl (OWm_end rfl ?_)
       refine AWm_mid (fun M ah nx=>ML M ((58,.p (.bool (obF l y p k i)))::m9 l k bm b6 b7 id p.entries.length m)∧ah=ah3∧n2≤nx) (AWm_region ?_) fun M ah nx hq=>?_
       ·refine OWm_fao rfl rfl rfl rfl v_f37_0 rfl ?_
        refine OWm_ldo rfl rfl rfl rfl v_t3 hK.h6 rfl (v:=.p (.int .i64 y.Began)) rfl ?_
        refine OWm_mv rfl rfl rfl rfl ?_
        refine OWm_bin rfl rfl rfl rfl rfl (fun K h=>⟨rfl,h⟩) ?_
        generalize hb:decide (y.Began > i)=b
        refine OWm_mv rfl rfl rfl rfl ?_
        have hF:obF l y p k i=(b&&!witness_both l p i k):=by unfold obF;rw [hb]
        rw [hF]
        cases b with
        |true=>
         refine OWm_mv rfl rfl rfl rfl ?_
         refine OWm_ldo rfl rfl rfl rfl v_t73 hK.h7 rfl (v:=.agg [.os id 1 0 p.entries.length,.p (.int .i64 p.closing)]) ⟨Nat.le_refl 2,rfl⟩ ?_
         refine OWm_mv rfl rfl rfl rfl ?_
         refine OWm_mv rfl rfl rfl rfl ?_
         have hi1:=hrng i (List.mem_of_getElem? hi)
         refine OWm_pc rfl rfl rfl rfl (ob_frz hK.hid) (fun _ _ _ h=>h) (ct_witness_both l p i k ⟨decide_eq_true hi1.1,decide_eq_true ?_,decide_eq_true (Int.natCast_nonneg k),decide_eq_true ?_,trivial⟩).1 (.inr rfl) ?_
         ·show i<(((l.map GSeen.enc).length:Nat):Int)
          rw [List.length_map];omega
         ·show (k:Int)<(((l.map GSeen.enc).length:Nat):Int)
          rw [List.length_map];omega
         refine OWm_un rfl rfl rfl rfl (fun K h=>h) ?_
         refine OWm_pick rfl rfl rfl rfl rfl (OWm_end rfl ⟨⟨rfl,rfl,rfl,rfl,rfl,rfl,rfl,rfl,rfl,rfl,rfl,rfl,trivial⟩,rfl,by omega⟩)
        |false=>
         refine OWm_no rfl rfl rfl ?_
         refine OWm_no rfl rfl rfl ?_
         refine OWm_no rfl rfl rfl ?_
         refine OWm_no rfl rfl rfl ?_
         refine OWm_no rfl rfl rfl ?_
         refine OWm_no rfl rfl rfl ?_
         refine OWm_pick rfl rfl rfl rfl rfl (OWm_end rfl ⟨⟨rfl,rfl,rfl,rfl,rfl,rfl,rfl,rfl,rfl,rfl,rfl,rfl,trivial⟩,rfl,by omega⟩)
       ·obtain ⟨hM,rfl,hn2⟩:=hq
        refine AWm_le _ hM ?_
        refine AWm_cond rfl (fun h=>?_) fun h=>AWm_skip ?_
        ·rw [show p.entries.any (obF l y p k)=true from List.any_eq_true.2 ⟨i,List.mem_of_getElem? hi,h⟩] at hr
         simp only [cond_true] at hr
         subst hr
         exact AWm_seq (AWm_region (OWm_mv rfl rfl rfl rfl (OWm_as rfl rfl rfl rfl (OWm_as rfl rfl rfl rfl (OWm_end rfl (AWm_ret ⟨.inr rfl,rfl,rfl⟩))))))
        ·refine AWm_region (OWm_bin rfl rfl rfl rfl rfl (fun K h=>⟨rfl,h⟩) (OWm_mv rfl rfl rfl rfl (OWm_end rfl ?_)))
         refine ⟨p.entries.length+1-(m+1),by omega,m9 l k bm b6 b7 id p.entries.length (m+1),⟨rfl,rfl,?_,rfl,rfl,rfl,rfl,rfl,rfl,rfl,rfl,trivial⟩,m+1,rfl,by omega,rfl,rfl,by omega,by rw [htake,h]⟩
         show some (AV.p (.int .i64 (IntKind.wrap .i64 ((m:Int)+1))))=_
         rw [ob_inc (by omega)]
      ·have hm2:m=p.entries.length:=by
        have:¬m<p.entries.length:=by simpa using h
        omega
       rw [hm2,List.take_length] at hany
       rw [hany] at hr
       simp only [cond_false] at hr
       clear h
       refine AWm_le (m7 l k bm b6 b7) ⟨rfl,rfl,rfl,rfl,rfl,rfl,rfl,rfl,trivial⟩ ?_
       have hh7:=hK.h7
       have hh6:=hK.h6
       have hhid:=hK.hid
       have g1:=hK.n7;have g2:=hK.x7;have g3:=hK.n67;have g4:=hK.xid;have g5:=hK.i6;have g6:=hK.i7
       refine AWm_mid (fun M ah' nx'=>∃nid,K19 l k bm b6 b7 nx id y p p.closing ah M ah' nx' nid) (AWm_region ?_) fun M ah4 n4 hq=>?_
       ·refine OWm_fao rfl rfl rfl rfl v_f73_0 rfl ?_
        refine OWm_ldo rfl rfl rfl rfl v_t71 hh7 rfl (v:=.os id 1 0 p.entries.length) rfl ?_
        refine OWm_mv rfl rfl rfl rfl ?_
        refine OWm_bsl rfl rfl rfl rfl v_u71 v_s71 v_z3 rfl (by decide) (cs:=[.p (.int .i64 k)]) rfl ?_
        refine OWm_apo rfl rfl rfl rfl rfl rfl v_s71 (by decide) (by decide) v_u71 v_u71 v_z3 rfl (rs:=p.entries.map rowI) (ys:=[rowI k]) ?_ (upd_eq rfl) (by simp) rfl (by show p.entries.length+1≤_;omega) ?_
        ·rw [upd_ne (by omega)];exact hhid
        refine OWm_fao rfl rfl rfl rfl v_f73_0 rfl ?_
        refine OWm_st rfl rfl rfl rfl rfl v_t71 (rs:=[[.os id 1 0 p.entries.length,.p (.int .i64 p.closing)]]) ?_ rfl rfl rfl (Nat.le_of_ble_eq_true rfl) ?_
        ·rw [upd_ne (by omega),upd_ne (by omega),upd_ne (by omega)];exact hh7
        refine OWm_end rfl ⟨_,⟨⟨rfl,rfl,rfl,rfl,rfl,rfl,rfl,rfl,trivial⟩,upd_eq rfl,?_,?_,?_,?_,?_,?_,fun b hb hbi=>?_⟩⟩
        ·repeat rw [upd_ne (by omega)]
         exact hh6
        ·rw [upd_ne (by omega),upd_eq rfl];simp [List.take_of_length_le]
        ·omega
        ·omega
        ·omega
        ·omega
        ·repeat rw [upd_ne (by omega)]
         exact hK.old b hb
       ·obtain ⟨nid,hL⟩:=hq
        refine AWm_le _ hL.ml ?_
        have e1:=hL.xid;have e2:=hL.nn;have e3:=hL.i6;have e4:=hL.i7
        refine AWm_mid (fun M ah' nx'=>K19 l k bm b6 b7 nx id y p (bif decide (p.closing<0)&&witness_closing y then (k:Int) else p.closing) ah M ah' nx' nid) (AWm_seq (AWm_region ?_)) fun M ah5 n5 hL2=>?_
        ·refine OWm_fao rfl rfl rfl rfl v_f73_1 rfl ?_
         refine OWm_ldo rfl rfl rfl rfl v_t3 hL.h7 rfl (v:=.p (.int .i64 p.closing)) rfl ?_
         refine OWm_bin rfl rfl rfl rfl rfl (fun K h=>⟨rfl,h⟩) ?_
         generalize decide (p.closing<0)=b
         refine OWm_mv rfl rfl rfl rfl ?_
         cases b with
         |false=>
          refine OWm_no rfl rfl rfl (OWm_no rfl rfl rfl ?_)
          refine OWm_pick rfl rfl rfl rfl rfl (OWm_end rfl ?_)
          refine AWm_cond rfl (fun h=>by cases h) fun _=>AWm_skip ?_
          exact ⟨⟨rfl,rfl,rfl,rfl,rfl,rfl,rfl,rfl,trivial⟩,hL.h7,hL.h6,hL.hid,by omega,e2,e3,e4,hL.old⟩
         |true=>
          refine OWm_ldo rfl rfl rfl rfl v_t37 hL.h6 rfl (v:=y.av) ⟨Nat.le_refl 32,rfl⟩ ?_
          refine OWm_pc rfl rfl rfl rfl (seen_frz y) (fun _ _ _ h=>h) (pc_witness_closing y) (.inl (seen_clean y)) ?_
          refine OWm_pick rfl rfl rfl rfl rfl (OWm_end rfl ?_)
          refine AWm_cond rfl (fun h=>?_) fun h=>AWm_skip ?_
          ·rw [h]
           refine AWm_region (OWm_mv rfl rfl rfl rfl (OWm_fao rfl rfl rfl rfl v_f73_1 rfl ?_))
           refine OWm_st rfl rfl rfl rfl rfl v_t3 hL.h7 rfl rfl rfl (Nat.le_of_ble_eq_true rfl) ?_
           refine OWm_end rfl ⟨⟨rfl,rfl,rfl,rfl,rfl,rfl,rfl,rfl,trivial⟩,upd_eq rfl,?_,?_,by omega,e2,e3,e4,fun b hb hbi=>?_⟩
           ·rw [upd_ne (by omega)];exact hL.h6
           ·rw [upd_ne (by omega)];exact hL.hid
           ·rw [upd_ne (by omega)];exact hL.old b hb hbi
          ·rw [h]
           exact ⟨⟨rfl,rfl,rfl,rfl,rfl,rfl,rfl,rfl,trivial⟩,hL.h7,hL.h6,hL.hid,by omega,e2,e3,e4,hL.old⟩
        ·generalize (bif decide (p.closing<0)&&witness_closing y then (k:Int) else p.closing)=cl at hL2 hr
         refine AWm_le _ hL2.ml (AWm_region ?_)
         have f1:=hL2.xid
         have hbm:ah5 bm=some (.map (T.map obE)):=by
          rw [hL2.old bm hT.bm ?_]
          ·exact hT.mp
          ·rcases hK.wh with ⟨-,h⟩|⟨q,hq,rfl⟩
           ·have:=hT.bm;omega
           ·exact (hT.ne q.2 (List.mem_of_getElem? (tFind_get hq).1)).symm
         refine OWm_mv rfl rfl rfl rfl ?_
         refine OWm_fao rfl rfl rfl rfl v_f37_1 rfl ?_
         refine OWm_ldo rfl rfl rfl rfl v_t3 hL2.h6 rfl (v:=.p (.int .i64 y.Object)) rfl ?_
         refine OWm_bld rfl rfl rfl rfl v_z76 hpl (haf _) ?_
         refine OWm_ldo rfl rfl rfl rfl v_t73 hL2.h7 rfl (v:=.agg [.os nid 1 0 (p.entries.length+1),.p (.int .i64 cl)]) ⟨Nat.le_refl 2,rfl⟩ ?_
         refine OWm_mup rfl rfl rfl rfl rfl rfl v_u69 (v_ko _) rfl hbm (findA_T _ _) (fun q hq=>?_) (OWm_end rfl ?_)
         ·simp only [Option.map_eq_some_iff] at hq
          obtain ⟨q',hq',rfl⟩:=hq
          have:=tFind_get hq'
          simp [this.1,obE,this.2]
         ·refine ⟨match tFind T y.Object with|none=>T++[((y.Object,⟨p.entries++[(k:Int)],cl⟩),nid)]|some q=>T.set q.1 ((y.Object,⟨p.entries++[(k:Int)],cl⟩),nid),⟨rfl,rfl,rfl,rfl,rfl,trivial⟩,hT.put (o:=y.Object) (p:=⟨p.entries++[(k:Int)],cl⟩) e2 (by omega) rfl ?_ ?_ ?_ ?_ ?_ hT.ne,?_⟩
          ·rw [upd_eq rfl]
           cases tFind T y.Object with
           |none=>simp [obE]
           |some q=>simp [obE,List.map_set]
          ·rw [upd_ne (by have:=hT.bm;omega)];exact hL2.hid
          ·intro b hb hbm hq
           rw [upd_ne hbm]
           refine hL2.old b hb ?_
           rcases hK.wh with ⟨-,h⟩|⟨q,hq',rfl⟩
           ·omega
           ·exact hq q hq'
          ·intro i hi
           rcases List.mem_append.1 hi with hi|hi
           ·have:=hrng i hi;omega
           ·obtain rfl:=List.mem_singleton.1 hi;omega
          ·simp;omega
          ·rw [tFind_put] at hr
           rw [← hr]
           congr 1
           cases tFind T y.Object with
           |none=>simp
           |some q=>simp [List.map_set]
   ·obtain ⟨T',hM,hT',hr'⟩:=hK
    refine AWm_le _ hM (AWm_region (OWm_bin rfl rfl rfl rfl rfl (fun K h=>⟨rfl,h⟩) (OWm_mv rfl rfl rfl rfl (OWm_end rfl ?_))))
    refine ⟨l.length+1-(k+1),by omega,obM l (k+1) bm,⟨rfl,rfl,rfl,?_,rfl,trivial⟩,k+1,T',bm,rfl,by omega,rfl,hT'.frame (by omega) fun _ _=>rfl,hr'⟩
    show some (AV.p (.int .i64 (IntKind.wrap .i64 ((k:Int)+1))))=_
    rw [ob_inc (by omega)]
  ·have hk2:l.drop k=[]:=by
    have:¬k<l.length:=by simpa using h
    exact List.drop_eq_nil_of_le (by omega)
   rw [hk2] at hr
   have hr2:((-1:Int),(0:Int))=r:=hr
   subst hr2
   exact AWm_seq (AWm_region (OWm_as rfl rfl rfl rfl (OWm_as rfl rfl rfl rfl (OWm_end rfl (AWm_ret ⟨.inr rfl,rfl,rfl⟩)))))
theorem pc_witness_Obeys (l:List GSeen):PC Try.prog 17 [eL GSeen.enc l] (obR (witness_Obeys l)):=by
 obtain ⟨c,hc,hw⟩:=ob_walk l
 refine AWm_pc (M:=[(0,.sl (l.map GSeen.enc) false)]) Try.func17 hc (by decide) (Nat.le_of_ble_eq_true rfl) ⟨rfl,trivial⟩ hw fun e M fr ah nx hf hq=>⟨hq.1,?_⟩
 exact withO_iff.2 ⟨_,hf.get _ _ hq.2.1,withO_iff.2 ⟨_,hf.get _ _ hq.2.2,rfl⟩⟩
end Go.Fw
end
section
set_option linter.unusedVariables false
set_option linter.unusedSimpArgs false
set_option linter.unusedSectionVars false
namespace Go.Fw
set_option linter.unusedVariables false
def eR_ii64_ii64 (r:Int×Int):AV:=.tup [(.p (.int .i64 r.1)),(.p (.int .i64 r.2))]
def key_Of (x0:List UInt8):GKey:=
 (GKey.mk x0 0)
def law25_tells (x0:Int)(x1:Int)(x2:Bool):GSeen:=
 let v3:GKey:=key_Of [97]
 (GSeen.mk x0 0 x1 v3 false (GOut.mk 1 (GVal.mk 0 0 [] 0) x2 false (GDesc.mk 0 (GVal.mk 0 0 [] 0) (GVal.mk 0 0 [] 0) (GVal.mk 0 0 [] 0) false false false) [] 0 []))
def law25_breaks (x0:List GSeen)(x1:Int):Bool:=
 let v2:Int×Int:=witness_Obeys x0
 ((iEq v2.2 0)&&(iEq v2.1 x1))
def law25_alive : Bool:=
 let v0:GSeen:=law25_tells 0 3 false
 let v1:GSeen:=law25_tells 0 3 true
 let v2:Bool:=law25_breaks [v0,v1] (-1)
 let v3:GSeen:=law25_tells 1 3 true
 let v4:Bool:=law25_breaks [v0,v3] 1
 bif v2 then v4
 else false
def law25_long_l1 (x0:List GSeen):Nat→Bool→Int→(Bool×Bool×Bool)
 |0,_,_=>default
 |n+1,u1,u2=>
  let v3:GSeen:=x0.getD (u2:Int).toNat default
  let v4:GSeen:=x0.getD (u2:Int).toNat default
  bif (!(decide ((u2:Int)<(mLen GSeen.enc x0)))) then (true,u1,default)
  else bif (((((((decide (((mLen GKey.enc v3.Out.Keys):Int) > 60))||(decide (((sLen v4.Key.Str):Int) > 5000)))||(decide (((sLen v3.Out.Value.Str):Int) > 5000)))||(decide (((sLen v3.Out.Desc.Value.Str):Int) > 5000)))||(decide (((sLen v3.Out.Desc.Get.Str):Int) > 5000)))||(decide (((sLen v3.Out.Desc.Set.Str):Int) > 5000)))||(decide (((sLen v3.Out.Text):Int) > 5000))) then (false,default,true)
  else law25_long_l1 x0 n u1 (iAdd .i64 u2 1)
def law25_long (x0:List GSeen):Bool:=
 let r1:Bool×Bool×Bool:=law25_long_l1 x0 (x0.length+1) false 0
 bif (decide (((mLen GSeen.enc x0):Int) > 150)) then ((decide (((mLen GSeen.enc x0):Int)≤8192))||(decide (((mLen GSeen.enc x0):Int) > 8300)))
 else bif (!(iEq (selB r1.1) 0)) then r1.2.2
 else false
def law25_WitnessHolds_l6 (x0:List GSeen)(u5:Int):Nat→Bool→Int→(Bool×Bool×Int×Bool)
 |0,_,_=>default
 |n+1,u6,u7=>
  let v8:GSeen:=x0.getD (u7:Int).toNat default
  let v9:GSeen:=x0.getD (u5:Int).toNat default
  bif (!(decide ((u7:Int)<u5))) then (true,u6,u7,default)
  else bif ((((iNe v8.Object v9.Object)||v8.Throw)||v9.Throw)||(decide ((v9.Began:Int)≤u7))) then law25_WitnessHolds_l6 x0 u5 n u6 (iAdd .i64 u7 1)
  else bif ((((iEq v8.Method 4)&&v8.Out.Yes)&&((iEq v9.Method 3)&&v9.Out.Yes))||(((iEq v8.Method 3)&&(!v8.Out.Yes))&&((iEq v9.Method 3)&&v9.Out.Yes))) then (false,default,default,false)
  else bif (((((iEq v8.Method 5)&&v8.Out.Found)&&(!v8.Out.Desc.Configurable))&&((((iEq v9.Method 5)&&(!v9.Out.Found))||((iEq v9.Method 7)&&(!v9.Out.Yes)))||((iEq v9.Method 10)&&v9.Out.Yes)))&&((sEq v8.Key.Str v9.Key.Str)&&(iEq v8.Key.Sym v9.Key.Sym))) then (false,default,default,false)
  else law25_WitnessHolds_l6 x0 u5 n u6 (iAdd .i64 u7 1)
def law25_WitnessHolds_l4 (x0:List GSeen)(v3:Int×Int):Nat→Bool→Int→(Bool×Bool×Bool)
 |0,_,_=>default
 |n+1,u4,u5=>
  let r6:Bool×Bool×Int×Bool:=law25_WitnessHolds_l6 x0 u5 (x0.length+1) u4 0
  bif (!((decide ((u5:Int)<(mLen GSeen.enc x0)))&&(decide ((v3.1:Int)<0)))) then (true,u4,default)
  else bif (!(iEq (selB r6.1) 0)) then (false,default,r6.2.2.2)
  else law25_WitnessHolds_l4 x0 v3 n r6.2.1 (iAdd .i64 u5 1)
def law25_WitnessHolds (x0:List GSeen):Bool:=
 let v1:Bool:=law25_alive
 let v2:Bool:=law25_long x0
 let v3:Int×Int:=witness_Obeys x0
 let r4:Bool×Bool×Bool:=law25_WitnessHolds_l4 x0 v3 (x0.length+1) false 0
 bif ((v2||(decide (((mLen GSeen.enc x0):Int) > 150)))||(!v1)) then v1
 else bif (iNe v3.2 0) then false
 else bif (!(iEq (selB r4.1) 0)) then r4.2.2
 else true
end Go.Fw
end
section
set_option linter.unusedVariables false
set_option linter.unusedSimpArgs false
set_option linter.unusedSectionVars false
namespace Go.Fw
set_option linter.unusedVariables false
set_option linter.unusedSimpArgs false
set_option maxRecDepth 100000
set_option maxHeartbeats 4000000
open Go.Proofs
instance : FzR GVal.enc:=⟨GVal.fzL⟩
instance {x : GVal}:Fz (GVal.av x):=⟨GVal.fz x⟩
instance : Rok GVal.enc 4:=⟨GVal.len⟩
instance : FzR GKey.enc:=⟨GKey.fzL⟩
instance {x : GKey}:Fz (GKey.av x):=⟨GKey.fz x⟩
instance : Rok GKey.enc 2:=⟨GKey.len⟩
instance : FzR GDesc.enc:=⟨GDesc.fzL⟩
instance {x : GDesc}:Fz (GDesc.av x):=⟨GDesc.fz x⟩
instance : Rok GDesc.enc 16:=⟨GDesc.len⟩
instance : FzR GProp.enc:=⟨GProp.fzL⟩
instance {x : GProp}:Fz (GProp.av x):=⟨GProp.fz x⟩
instance : Rok GProp.enc 18:=⟨GProp.len⟩
instance : FzR GObj.enc:=⟨GObj.fzL⟩
instance {x : GObj}:Fz (GObj.av x):=⟨GObj.fz x⟩
instance : Rok GObj.enc 18:=⟨GObj.len⟩
instance : FzR GHeap.enc:=⟨GHeap.fzL⟩
instance {x : GHeap}:Fz (GHeap.av x):=⟨GHeap.fz x⟩
instance : Rok GHeap.enc 1:=⟨GHeap.len⟩
instance : FzR GOut.enc:=⟨GOut.fzL⟩
instance {x : GOut}:Fz (GOut.av x):=⟨GOut.fz x⟩
instance : Rok GOut.enc 26:=⟨GOut.len⟩
instance : FzR GSeen.enc:=⟨GSeen.fzL⟩
instance {x : GSeen}:Fz (GSeen.av x):=⟨GSeen.fz x⟩
instance : Rok GSeen.enc 32:=⟨GSeen.len⟩
instance : FzR GAsk.enc:=⟨GAsk.fzL⟩
instance {x : GAsk}:Fz (GAsk.av x):=⟨GAsk.fz x⟩
instance : Rok GAsk.enc 29:=⟨GAsk.len⟩
instance : FzR GWant.enc:=⟨GWant.fzL⟩
instance {x : GWant}:Fz (GWant.av x):=⟨GWant.fz x⟩
instance : Rok GWant.enc 87:=⟨GWant.len⟩
instance : FzR GFix.enc:=⟨GFix.fzL⟩
instance {x : GFix}:Fz (GFix.av x):=⟨GFix.fz x⟩
instance : Rok GFix.enc 23:=⟨GFix.len⟩
instance : FzR GFacts.enc:=⟨GFacts.fzL⟩
instance {x : GFacts}:Fz (GFacts.av x):=⟨GFacts.fz x⟩
instance : Rok GFacts.enc 24:=⟨GFacts.len⟩
instance : FzR GPast.enc:=⟨GPast.fzL⟩
instance {x : GPast}:Fz (GPast.av x):=⟨GPast.fz x⟩
instance : Rok GPast.enc 2:=⟨GPast.len⟩
instance {r : Int×Int}:Fz (eR_ii64_ii64 r):=⟨(inferInstance:FzL [(.p (.int .i64 r.1)),(.p (.int .i64 r.2))]).h⟩
def sT2 : SpT:=⟨[],[]⟩
def R59 : PRes:=
 ⟨[((.lb true),(.agg [(zS (V 0)),(zI (.li 0))]))],
 [],[]⟩
theorem e59 : sFnI Try.prog xBase iBase mdI (fcI kA 59 [] []) 3 200 59 [zS (V 0)] 1=some R59:=by kernel_rfl
theorem ct_key_Of (x0:List UInt8):CT Try.prog sT2 59 [eS x0] (GKey.av (key_Of x0)):=
 mkH hmix xBase_ok iBase_ok e59 lh0 (by kernel_rfl) [eS x0] xn
  wn
  ln
  (selL rfl)
def R39 : PRes:=
 ⟨[((.lb true),(.agg [(zI (V 0)),(zI (.li 0)),(zU (V 1)),(zS (W 3 0)),(zI (W 3 1)),(zB (.lb false)),(zU (.li 1)),(zU (.li 0)),(zF (.lf 0)),(zS (.ls [])),(zI (.li 0)),(zB (V 2)),(zB (.lb false)),(zU (.li 0)),(zU (.li 0)),(zF (.lf 0)),(zS (.ls [])),(zI (.li 0)),(zU (.li 0)),(zF (.lf 0)),(zS (.ls [])),(zI (.li 0)),(zU (.li 0)),(zF (.lf 0)),(zS (.ls [])),(zI (.li 0)),(zB (.lb false)),(zB (.lb false)),(zB (.lb false)),(.slc [] false),(zU (.li 0)),(zS (.ls []))]))],
 [([],(.call 59 [(zS (.ls [97]))] (.agg [(zS (W 3 0)),(zI (W 3 1))])))],[]⟩
theorem e39 : sFnI Try.prog xBase iBase mdI (fcI kA 39 [] []) 3 200 39 [zI (V 0),zU (V 1),zB (V 2)] 3=some R39:=by kernel_rfl
theorem ct_law25_tells (x0:Int)(x1:Int)(x2:Bool):CT Try.prog sT2 39 [eI x0,eU x1,eB x2] (GSeen.av (law25_tells x0 x1 x2)):=
 let v3:GKey:=key_Of [97]
 mkH hmix xBase_ok iBase_ok e39 lh0 (by kernel_rfl) [eI x0,eU x1,eB x2,GKey.av v3] xn
  (wC (ct_key_Of [97])<|wn)
  ln
  (selL rfl)
def R18 : PRes:=
 ⟨[((.lb true),(zB (.and (qE (W 2 1) (.li 0)) (qE (W 2 0) (V 1)))))],
 [([],(.call 17 [(zL (V 0))] (.tup [(zI (W 2 0)),(zI (W 2 1))])))],[]⟩
theorem e18 : sFnI Try.prog xBase iBase mdI (fcI kA 18 [] []) 3 200 18 [zL (V 0),zI (V 1)] 2=some R18:=by kernel_rfl
theorem ct_law25_breaks (x0:List GSeen)(x1:Int):CT Try.prog sT2 18 [eL GSeen.enc x0,eI x1] (eB (law25_breaks x0 x1)):=
 let v2:Int×Int:=witness_Obeys x0
 mkH hmix xBase_ok iBase_ok e18 lh0 (by kernel_rfl) [eL GSeen.enc x0,eI x1,eR_ii64_ii64 v2] xn
  (wC (ctP (pc_witness_Obeys x0))<|wn)
  ln
  (selL rfl)
def R16 : PRes:=
 let p0:Pc:=((V 2),true)::[]
 ⟨[((V 2),(zB (V 4))),((.lb true),(zB (.lb false)))],
 [([],(.call 39 [(zI (.li 0)),(zU (.li 3)),(zB (.lb false))] (.agg (cV 0 GSeen.kds)))),
 ([],(.call 39 [(zI (.li 0)),(zU (.li 3)),(zB (.lb true))] (.agg (cV 1 GSeen.kds)))),
 ([],(.call 18 [(.slc [[(zI (W 0 0)),(zI (W 0 1)),(zU (W 0 2)),(zS (W 0 3)),(zI (W 0 4)),(zB (W 0 5)),(zU (W 0 6)),(zU (W 0 7)),(zF (W 0 8)),(zS (W 0 9)),(zI (W 0 10)),(zB (W 0 11)),(zB (W 0 12)),(zU (W 0 13)),(zU (W 0 14)),(zF (W 0 15)),(zS (W 0 16)),(zI (W 0 17)),(zU (W 0 18)),(zF (W 0 19)),(zS (W 0 20)),(zI (W 0 21)),(zU (W 0 22)),(zF (W 0 23)),(zS (W 0 24)),(zI (W 0 25)),(zB (W 0 26)),(zB (W 0 27)),(zB (W 0 28)),(zL (W 0 29)),(zU (W 0 30)),(zS (W 0 31))],[(zI (W 1 0)),(zI (W 1 1)),(zU (W 1 2)),(zS (W 1 3)),(zI (W 1 4)),(zB (W 1 5)),(zU (W 1 6)),(zU (W 1 7)),(zF (W 1 8)),(zS (W 1 9)),(zI (W 1 10)),(zB (W 1 11)),(zB (W 1 12)),(zU (W 1 13)),(zU (W 1 14)),(zF (W 1 15)),(zS (W 1 16)),(zI (W 1 17)),(zU (W 1 18)),(zF (W 1 19)),(zS (W 1 20)),(zI (W 1 21)),(zU (W 1 22)),(zF (W 1 23)),(zS (W 1 24)),(zI (W 1 25)),(zB (W 1 26)),(zB (W 1 27)),(zB (W 1 28)),(zL (W 1 29)),(zU (W 1 30)),(zS (W 1 31))]] false),(zI (.li (-1)))] (zB (V 2)))),
 (p0,(.call 39 [(zI (.li 1)),(zU (.li 3)),(zB (.lb true))] (.agg (cV 3 GSeen.kds)))),
 (p0,(.call 18 [(.slc [[(zI (W 0 0)),(zI (W 0 1)),(zU (W 0 2)),(zS (W 0 3)),(zI (W 0 4)),(zB (W 0 5)),(zU (W 0 6)),(zU (W 0 7)),(zF (W 0 8)),(zS (W 0 9)),(zI (W 0 10)),(zB (W 0 11)),(zB (W 0 12)),(zU (W 0 13)),(zU (W 0 14)),(zF (W 0 15)),(zS (W 0 16)),(zI (W 0 17)),(zU (W 0 18)),(zF (W 0 19)),(zS (W 0 20)),(zI (W 0 21)),(zU (W 0 22)),(zF (W 0 23)),(zS (W 0 24)),(zI (W 0 25)),(zB (W 0 26)),(zB (W 0 27)),(zB (W 0 28)),(zL (W 0 29)),(zU (W 0 30)),(zS (W 0 31))],[(zI (W 3 0)),(zI (W 3 1)),(zU (W 3 2)),(zS (W 3 3)),(zI (W 3 4)),(zB (W 3 5)),(zU (W 3 6)),(zU (W 3 7)),(zF (W 3 8)),(zS (W 3 9)),(zI (W 3 10)),(zB (W 3 11)),(zB (W 3 12)),(zU (W 3 13)),(zU (W 3 14)),(zF (W 3 15)),(zS (W 3 16)),(zI (W 3 17)),(zU (W 3 18)),(zF (W 3 19)),(zS (W 3 20)),(zI (W 3 21)),(zU (W 3 22)),(zF (W 3 23)),(zS (W 3 24)),(zI (W 3 25)),(zB (W 3 26)),(zB (W 3 27)),(zB (W 3 28)),(zL (W 3 29)),(zU (W 3 30)),(zS (W 3 31))]] false),(zI (.li 1))] (zB (V 4))))],[]⟩
theorem e16 : sFnI Try.prog xBase iBase mdI (fcI kA 16 [] []) 3 200 16 [] 0=some R16:=by kernel_rfl
theorem ct_law25_alive : CT Try.prog sT2 16 [] (eB law25_alive):=
 mkH hmix xBase_ok iBase_ok e16 lh0 (by kernel_rfl) [GSeen.av (law25_tells 0 3 false),GSeen.av (law25_tells 0 3 true),eB (law25_breaks [(law25_tells 0 3 false),(law25_tells 0 3 true)] (-1)),GSeen.av (law25_tells 1 3 true),eB (law25_breaks [(law25_tells 0 3 false),(law25_tells 1 3 true)] 1)] xn
  (wC (ct_law25_tells 0 3 false) <|
  wC (ct_law25_tells 0 3 true) <|
  wC (ct_law25_breaks [(law25_tells 0 3 false),(law25_tells 0 3 true)] (-1)) <|
  wC (ct_law25_tells 1 3 true) <|
  wC (ct_law25_breaks [(law25_tells 0 3 false),(law25_tells 1 3 true)] 1) <|
  wn)
  ln
  (selE (fun r=>.p (.bool r)) rfl rfl (selL rfl))
def L8_1 : Lo:=
 let p0:Pc:=((qG (.rlen (V 0)) (.li 150)),false)::[]
 let p1:Pc:=((qL (V 2) (.rlen (V 0))),true)::p0
 let p2:Pc:=((qG (.rlen (W 3 29)) (.li 60)),false)::p1
 .mk [((qG (.rlen (V 0)) (.li 150)),false)] 1 2 [(zB (.lb false)),(zI (.li 0))] [((.not (qL (V 2) (.rlen (V 0)))),1,[(zB (V 1))]),((.or (.or (.or (.or (.or (.or (qG (.rlen (W 3 29)) (.li 60)) (qG (.slen (W 4 3)) (.li 5000))) (qG (.slen (W 3 9)) (.li 5000))) (qG (.slen (W 3 16)) (.li 5000))) (qG (.slen (W 3 20)) (.li 5000))) (qG (.slen (W 3 24)) (.li 5000))) (qG (.slen (W 3 31)) (.li 5000))),2,[(zB (.lb true))]),((.lb true),0,[(zB (V 1)),(zI (aI (V 2) (.li 1)))])] [(p1,(.row (V 0) (V 2) (cV 3 GSeen.kds))),
 (p2,(.row (V 0) (V 2) (cV 4 GSeen.kds)))] [] [1,1] [(V 0)]
def H8_1 : LH:=.mk [(qM (.li 0) (V 2))] (mI (.rlen (V 0)) (V 2)) [((.rlen (V 0)),1)] [] 0 [] []
def rk_law25_long_l1 (r:Bool×Bool×Bool):Nat×List AV:=rk2 r.1 [eB r.2.1] [eB r.2.2]
theorem lp_law25_long_l1 (x0:List GSeen):∀(n:Nat) (u1:Bool) (u2:Int),RunL Try.prog sT2 L8_1 H8_1 [eL GSeen.enc x0] n [eB u1,eI u2] (rk_law25_long_l1 (law25_long_l1 x0 n u1 u2))
 |0,u1,u2=>l0
 |n+1,u1,u2=>
  let v3:GSeen:=x0.getD (u2:Int).toNat default
  let v4:GSeen:=x0.getD (u2:Int).toNat default
  lmk rfl [GSeen.av v3,GSeen.av v4] xn (wR rfl <|
  wR rfl <|
  wn) ln <|
   rc rk_law25_long_l1 rx<|rc rk_law25_long_l1 rx<|rl (rg (lp_law25_long_l1 x0 n _ _))
def R8 : PRes:=
 ⟨[((qG (.rlen (V 0)) (.li 150)),(zB (.or (qM (.rlen (V 0)) (.li 8192)) (qG (.rlen (V 0)) (.li 8300))))),((.not (qE (V 1) (.li 0))),(zB (V 3))),((.lb true),(zB (.lb false)))],
 [],[L8_1]⟩
def H8 : LH:=.mk [] (.li 0) [] [] 0 [H8_1] []
theorem e8 : sFnI Try.prog xBase iBase mdI (fcI kA 8 [33,32,34,35,36,37,38,39,42,43,44,45,46,49,50,51,52,53,54,57,58,59,60,61,62,65,66,67,68,69,70,73,74,75,76,3,2] [(0,(.mk [0] (.mk [(2,(.sc .bool)),(3,(.sc kI))] [] [] 5 []) [(.normal,(.mk [(2,(.sc .bool))] [] [] 5 [])),(.ret,(.mk [(2,(.sc .bool))] [] [] 5 []))]))]) 3 200 8 [zL (V 0)] 1=some R8:=by kernel_rfl
theorem ct_law25_long (x0:List GSeen):CT Try.prog sT2 8 [eL GSeen.enc x0] (eB (law25_long x0)):=
 let r1:Bool×Bool×Bool:=law25_long_l1 x0 (x0.length+1) false 0
 mkH hmix xBase_ok iBase_ok e8 H8 (by kernel_rfl) [eL GSeen.enc x0,eI (selB r1.1),eB r1.2.1,eB r1.2.2] xn
  wn
  (lc2 (lp_law25_long_l1 x0 (x0.length+1) false 0) <|
  ln)
  (selE (fun r=>.p (.bool r)) rfl rfl (selE (fun r=>.p (.bool r)) rfl rfl (selL rfl)))
def R4 : PRes:=
 let p0:Pc:=((V 2),true)::[]
 let p1:Pc:=((qG (.rlen (V 0)) (.li 150)),false)::p0
 let p2:Pc:=((V 3),false)::p1
 let p3:Pc:=((qH (W 4 0) (.rlen (V 0))),false)::p2
 let p4:Pc:=((qL (W 4 0) (.li (-1))),false)::p3
 let p5:Pc:=((qN (W 4 1) (.li 0)),false)::p4
 let p6:Pc:=((qH (W 4 0) (.li 0)),true)::p5
 let p7:Pc:=((.not (V 6)),false)::p6
 let p8:Pc:=((.and (qH (W 4 0) (.li 0)) (.or (.not (V 6)) (.not (V 8)))),false)::p5
 let p9:Pc:=((qG (V 1) (.rlen (V 0))),false)::p8
 let p10:Pc:=((qL (V 1) (.li 0)),false)::p9
 let p11:Pc:=((qL (W 4 0) (V 1)),true)::p10
 let p12:Pc:=((qH (W 4 0) (.li 0)),true)::p11
 let p13:Pc:=((.and (qH (W 4 0) (.li 0)) (qL (W 4 0) (V 1))),false)::p10
 ⟨[((.or (.or (V 3) (qG (.rlen (V 0)) (.li 150))) (.not (V 2))),(zB (V 2))),((.or (.or (qN (W 4 1) (.li 0)) (qL (W 4 0) (.li (-1)))) (qH (W 4 0) (.rlen (V 0)))),(zB (.lb false))),((.and (qH (W 4 0) (.li 0)) (.or (.not (V 6)) (.not (V 8)))),(zB (.lb false))),((.or (qL (V 1) (.li 0)) (qG (V 1) (.rlen (V 0)))),(zB (.lb true))),((.and (qH (W 4 0) (.li 0)) (qL (W 4 0) (V 1))),(zB (V 10))),((.lb true),(zB (V 12)))],
 [([],(.call 16 [] (zB (V 2)))),
 ([],(.call 8 [(zL (V 0))] (zB (V 3)))),
 (p2,(.call 17 [(zL (V 0))] (.tup [(zI (W 4 0)),(zI (W 4 1))]))),
 (p6,(.sub 32 (V 0) (some (.li 0)) (some (W 4 0)) (V 5))),
 (p6,(.call 18 [(zL (V 5)),(zI (.li (-1)))] (zB (V 6)))),
 (p7,(.sub 32 (V 0) (some (.li 0)) (some (aI (W 4 0) (.li 1))) (V 7))),
 (p7,(.call 18 [(zL (V 7)),(zI (W 4 0))] (zB (V 8)))),
 (p12,(.sub 32 (V 0) (some (.li 0)) (some (V 1)) (V 9))),
 (p12,(.call 18 [(zL (V 9)),(zI (W 4 0))] (zB (V 10)))),
 (p13,(.sub 32 (V 0) (some (.li 0)) (some (V 1)) (V 11))),
 (p13,(.call 18 [(zL (V 11)),(zI (.li (-1)))] (zB (V 12))))],[]⟩
theorem e4 : sFnI Try.prog xBase iBase mdI (fcI kA 4 [] []) 3 200 4 [zL (V 0),zI (V 1)] 2=some R4:=by kernel_rfl
def L5_6 : Lo:=
 let p0:Pc:=((V 1),true)::[]
 let p1:Pc:=((qG (.rlen (V 0)) (.li 150)),false)::p0
 let p2:Pc:=((V 2),false)::p1
 let p3:Pc:=((qN (W 3 1) (.li 0)),false)::p2
 let p4:Pc:=((qL (W 3 0) (.li 0)),true)::p3
 let p5:Pc:=((qL (V 5) (.rlen (V 0))),true)::p4
 let p6:Pc:=((qL (V 7) (V 5)),true)::p5
 .mk [((qL (V 5) (.rlen (V 0))),true),((qL (W 3 0) (.li 0)),true),((qN (W 3 1) (.li 0)),false),((V 2),false),((qG (.rlen (V 0)) (.li 150)),false),((V 1),true)] 6 2 [(zB (V 4)),(zI (.li 0))] [((.not (qL (V 7) (V 5))),1,[(zB (V 6)),(zI (V 7))]),((.or (.or (.or (qN (W 8 1) (W 9 1)) (W 8 5)) (W 9 5)) (qM (W 9 0) (V 7))),0,[(zB (V 6)),(zI (aI (V 7) (.li 1)))]),((.or (.and (.and (uE (W 8 2) (.li 4)) (W 8 11)) (.and (uE (W 9 2) (.li 3)) (W 9 11))) (.and (.and (uE (W 8 2) (.li 3)) (.not (W 8 11))) (.and (uE (W 9 2) (.li 3)) (W 9 11)))),2,[(zB (.lb false))]),((.and (.and (.and (.and (uE (W 8 2) (.li 5)) (W 8 12)) (.not (W 8 28))) (.or (.or (.and (uE (W 9 2) (.li 5)) (.not (W 9 12))) (.and (uE (W 9 2) (.li 7)) (.not (W 9 11)))) (.and (uE (W 9 2) (.li 10)) (W 9 11)))) (.and (sE (W 8 3) (W 9 3)) (qE (W 8 4) (W 9 4)))),2,[(zB (.lb false))]),((.lb true),0,[(zB (V 6)),(zI (aI (V 7) (.li 1)))])] [(p6,(.row (V 0) (V 7) (cV 8 GSeen.kds))),
 (p6,(.row (V 0) (V 5) (cV 9 GSeen.kds)))] [] [2,1] [(V 0)]
def H5_6 : LH:=.mk [(qM (.li 0) (V 7))] (mI (V 5) (V 7)) [((.rlen (V 0)),1)] [] 0 [] []
def rk_law25_WitnessHolds_l6 (r:Bool×Bool×Int×Bool):Nat×List AV:=rk2 r.1 [eB r.2.1,eI r.2.2.1] [eB r.2.2.2]
theorem lp_law25_WitnessHolds_l6 (x0:List GSeen)(v1:Bool)(v2:Bool)(v3:Int×Int)(u4:Bool)(u5:Int):∀(n:Nat) (u6:Bool) (u7:Int),RunL Try.prog sT2 L5_6 H5_6 [eL GSeen.enc x0,eB v1,eB v2,eR_ii64_ii64 v3,eB u4,eI u5] n [eB u6,eI u7] (rk_law25_WitnessHolds_l6 (law25_WitnessHolds_l6 x0 u5 n u6 u7))
 |0,u6,u7=>l0
 |n+1,u6,u7=>
  let v8:GSeen:=x0.getD (u7:Int).toNat default
  let v9:GSeen:=x0.getD (u5:Int).toNat default
  lmk rfl [GSeen.av v8,GSeen.av v9] xn (wR rfl <|
  wR rfl <|
  wn) ln <|
   rc rk_law25_WitnessHolds_l6 rx<|rc rk_law25_WitnessHolds_l6 (rg (lp_law25_WitnessHolds_l6 x0 v1 v2 v3 u4 u5 n _ _))<|rc rk_law25_WitnessHolds_l6 rx<|rc rk_law25_WitnessHolds_l6 rx<|rl (rg (lp_law25_WitnessHolds_l6 x0 v1 v2 v3 u4 u5 n _ _))
def L5_4 : Lo:=
 .mk [((qN (W 3 1) (.li 0)),false),((V 2),false),((qG (.rlen (V 0)) (.li 150)),false),((V 1),true)] 4 2 [(zB (.lb false)),(zI (.li 0))] [((.not (.and (qL (V 5) (.rlen (V 0))) (qL (W 3 0) (.li 0)))),1,[(zB (V 4))]),((.not (qE (V 6) (.li 0))),2,[(zB (V 9))]),((.lb true),0,[(zB (V 7)),(zI (aI (V 5) (.li 1)))])] [] [L5_6] [1,1] [(V 0)]
def H5_4 : LH:=.mk [(qM (W 3 1) (V 5))] (mI (.rlen (V 0)) (V 5)) [((.rlen (V 0)),1)] [] 3 [H5_6] []
def rk_law25_WitnessHolds_l4 (r:Bool×Bool×Bool):Nat×List AV:=rk2 r.1 [eB r.2.1] [eB r.2.2]
theorem lp_law25_WitnessHolds_l4 (x0:List GSeen)(v1:Bool)(v2:Bool)(v3:Int×Int):∀(n:Nat) (u4:Bool) (u5:Int),RunL Try.prog sT2 L5_4 H5_4 [eL GSeen.enc x0,eB v1,eB v2,eR_ii64_ii64 v3] n [eB u4,eI u5] (rk_law25_WitnessHolds_l4 (law25_WitnessHolds_l4 x0 v3 n u4 u5))
 |0,u4,u5=>l0
 |n+1,u4,u5=>
  let r6:Bool×Bool×Int×Bool:=law25_WitnessHolds_l6 x0 u5 (x0.length+1) u4 0
  lmk rfl [eI (selB r6.1),eB r6.2.1,eI r6.2.2.1,eB r6.2.2.2] xn wn (lc2 (lp_law25_WitnessHolds_l6 x0 v1 v2 v3 u4 u5 (x0.length+1) u4 0) <|
  ln) <|
   rc rk_law25_WitnessHolds_l4 rx<|rc rk_law25_WitnessHolds_l4 rx<|rl (rg (lp_law25_WitnessHolds_l4 x0 v1 v2 v3 n _ _))
def R5 : PRes:=
 let p0:Pc:=((V 1),true)::[]
 let p1:Pc:=((qG (.rlen (V 0)) (.li 150)),false)::p0
 let p2:Pc:=((V 2),false)::p1
 ⟨[((.or (.or (V 2) (qG (.rlen (V 0)) (.li 150))) (.not (V 1))),(zB (V 1))),((qN (W 3 1) (.li 0)),(zB (.lb false))),((.not (qE (V 4) (.li 0))),(zB (V 6))),((.lb true),(zB (.lb true)))],
 [([],(.call 16 [] (zB (V 1)))),
 ([],(.call 8 [(zL (V 0))] (zB (V 2)))),
 (p2,(.call 17 [(zL (V 0))] (.tup [(zI (W 3 0)),(zI (W 3 1))])))],[L5_4]⟩
def H5 : LH:=.mk [] (.li 0) [] [] 0 [H5_4] []
theorem e5 : sFnI Try.prog xBase iBase mdI (fcI kA 5 [38,39,7,79,80,81,87,88,89,92,95,96,97,99,100,101,102,98,103,10,105,104,106,162,159,161,160,158,155,12,11,151,147,150,149,148,146,145,144,141,136,140,139,138,137,135,134,133,130,129,128,127,121,120,119,118,117,114,113,112,2,73,71,72,70,67,66,63,62,6] [(0,(.mk [0,4] (.mk [(2,(.sc .bool)),(6,(.sc kI))] [] [] 24 []) [(.normal,(.mk [(2,(.sc .bool))] [] [] 24 [])),(.ret,(.mk [(2,(.sc .bool))] [] [] 24 []))])),(2,(.mk [0,4,6,38,39] (.mk [(2,(.sc .bool)),(7,(.sc kI))] [] [] 33 []) [(.normal,(.mk [(2,(.sc .bool)),(7,(.sc kI))] [] [] 33 [])),(.ret,(.mk [(2,(.sc .bool))] [] [] 33 []))]))]) 3 200 5 [zL (V 0)] 1=some R5:=by kernel_rfl
theorem ct_law25_WitnessHolds (x0:List GSeen):CT Try.prog sT2 5 [eL GSeen.enc x0] (eB (law25_WitnessHolds x0)):=
 let v1:Bool:=law25_alive
 let v2:Bool:=law25_long x0
 let v3:Int×Int:=witness_Obeys x0
 let r4:Bool×Bool×Bool:=law25_WitnessHolds_l4 x0 v3 (x0.length+1) false 0
 mkH hmix xBase_ok iBase_ok e5 H5 (by kernel_rfl) [eL GSeen.enc x0,eB v1,eB v2,eR_ii64_ii64 v3,eI (selB r4.1),eB r4.2.1,eB r4.2.2] xn
  (wC (ct_law25_alive) <|
  wC (ct_law25_long x0) <|
  wC (ctP (pc_witness_Obeys x0)) <|
  wn)
  (lc2 (lp_law25_WitnessHolds_l4 x0 v1 v2 v3 (x0.length+1) false 0) <|
  ln)
  (show _=eB (bif ((v2||(decide (((mLen GSeen.enc x0):Int) > 150)))||(!v1)) then v1 else bif (iNe v3.2 0) then false else bif (!(iEq (selB r4.1) 0)) then r4.2.2 else true) from selE (fun r=>.p (.bool r)) rfl rfl (selE (fun r=>.p (.bool r)) rfl rfl (selE (fun r=>.p (.bool r)) rfl rfl (selL rfl))))
theorem pc_law25_WitnessHolds (x0:List GSeen):PC Try.prog 5 [eL GSeen.enc x0] (eB (law25_WitnessHolds x0)):=(ct_law25_WitnessHolds x0 trivial).1
end Go.Fw
end
section
set_option linter.unusedVariables false
set_option linter.unusedSimpArgs false
set_option linter.unusedSectionVars false
namespace Go.Fw
open Go.Proofs
set_option maxRecDepth 100000
theorem rd_GVal : Rd Try.prog 30 GVal.enc GVal.wf:=
 (rd_struct Try.underlying30 (by kernel_rfl) (rdF_cons (m:=1) rfl (by kernel_rfl) (rd_int Try.underlying5) (rdF_cons (m:=1) rfl (by kernel_rfl) (rd_float Try.underlying28) (rdF_cons (m:=1) rfl (by kernel_rfl) (rd_str Try.underlying9) (rdF_cons (m:=1) rfl (by kernel_rfl) (rd_int Try.underlying3) (rdF_nil)))))).to (fun x=>GVal.mk x.1 x.2.1 x.2.2.1 x.2.2.2.1) (fun _=>rfl) (fun _ h=>⟨h.1,h.2.1,h.2.2.1,h.2.2.2.1⟩)
theorem rd_GKey : Rd Try.prog 27 GKey.enc GKey.wf:=
 (rd_struct Try.underlying27 (by kernel_rfl) (rdF_cons (m:=1) rfl (by kernel_rfl) (rd_str Try.underlying9) (rdF_cons (m:=1) rfl (by kernel_rfl) (rd_int Try.underlying3) (rdF_nil)))).to (fun x=>GKey.mk x.1 x.2.1) (fun _=>rfl) (fun _ h=>⟨h.1,h.2.1⟩)
theorem rd_GDesc : Rd Try.prog 32 GDesc.enc GDesc.wf:=
 (rd_struct Try.underlying32 (by kernel_rfl) (rdF_cons (m:=1) rfl (by kernel_rfl) (rd_int Try.underlying5) (rdF_cons (m:=4) rfl (by kernel_rfl) rd_GVal (rdF_cons (m:=4) rfl (by kernel_rfl) rd_GVal (rdF_cons (m:=4) rfl (by kernel_rfl) rd_GVal (rdF_cons (m:=1) rfl (by kernel_rfl) (rd_bool Try.underlying4) (rdF_cons (m:=1) rfl (by kernel_rfl) (rd_bool Try.underlying4) (rdF_cons (m:=1) rfl (by kernel_rfl) (rd_bool Try.underlying4) (rdF_nil))))))))).to (fun x=>GDesc.mk x.1 x.2.1 x.2.2.1 x.2.2.2.1 x.2.2.2.2.1 x.2.2.2.2.2.1 x.2.2.2.2.2.2.1) (fun _=>rfl) (fun _ h=>⟨h.1,h.2.1,h.2.2.1,h.2.2.2.1⟩)
theorem rd_GOut : Rd Try.prog 35 GOut.enc GOut.wf:=
 (rd_struct Try.underlying35 (by kernel_rfl) (rdF_cons (m:=1) rfl (by kernel_rfl) (rd_int Try.underlying5) (rdF_cons (m:=4) rfl (by kernel_rfl) rd_GVal (rdF_cons (m:=1) rfl (by kernel_rfl) (rd_bool Try.underlying4) (rdF_cons (m:=1) rfl (by kernel_rfl) (rd_bool Try.underlying4) (rdF_cons (m:=16) rfl (by kernel_rfl) rd_GDesc (rdF_cons (m:=1) rfl (by kernel_rfl) (rd_slice (m:=2) Try.underlying33 (by kernel_rfl) (by decide) (fun _=>rfl) rd_GKey) (rdF_cons (m:=1) rfl (by kernel_rfl) (rd_int Try.underlying5) (rdF_cons (m:=1) rfl (by kernel_rfl) (rd_str Try.underlying9) (rdF_nil)))))))))).to (fun x=>GOut.mk x.1 x.2.1 x.2.2.1 x.2.2.2.1 x.2.2.2.2.1 x.2.2.2.2.2.1 x.2.2.2.2.2.2.1 x.2.2.2.2.2.2.2.1) (fun _=>rfl) (fun _ h=>⟨h.1,h.2.1,h.2.2.2.2.1,h.2.2.2.2.2.1,h.2.2.2.2.2.2.1,h.2.2.2.2.2.2.2.1⟩)
theorem rd_GSeen : Rd Try.prog 37 GSeen.enc GSeen.wf:=
 (rd_struct Try.underlying37 (by kernel_rfl) (rdF_cons (m:=1) rfl (by kernel_rfl) (rd_int Try.underlying3) (rdF_cons (m:=1) rfl (by kernel_rfl) (rd_int Try.underlying3) (rdF_cons (m:=1) rfl (by kernel_rfl) (rd_int Try.underlying5) (rdF_cons (m:=2) rfl (by kernel_rfl) rd_GKey (rdF_cons (m:=1) rfl (by kernel_rfl) (rd_bool Try.underlying4) (rdF_cons (m:=26) rfl (by kernel_rfl) rd_GOut (rdF_nil)))))))).to (fun x=>GSeen.mk x.1 x.2.1 x.2.2.1 x.2.2.2.1 x.2.2.2.2.1 x.2.2.2.2.2.1) (fun _=>rfl) (fun _ h=>⟨h.1,h.2.1,h.2.2.1,h.2.2.2.1,h.2.2.2.2.2.1⟩)
end Go.Fw
end
section
set_option linter.unusedVariables false
set_option linter.unusedSimpArgs false
set_option linter.unusedSectionVars false
namespace Go.Fw
set_option linter.unusedVariables false
set_option linter.unusedSimpArgs false
theorem alive25 : law25_alive=true:=by decide +kernel
def TI (T:Told)(j:Nat):Prop:=∀k p,toldGet T k=some p→∀i∈p.entries,0≤i∧i<(j:Int)
theorem toldGet_put (T:Told)(k:Int)(p:GPast)(k':Int):toldGet (toldPut T k p) k'=bif k' == k then some p else toldGet T k':=by
 induction T with
 |nil=>simp only [toldPut,toldGet]
 |cons e r ih=>
  simp only [toldPut]
  cases h:(k == e.1)
  ·simp only [cond_false,toldGet,ih]
   cases h1:(k' == e.1)
   ·rfl
   ·have:k'≠k:=by
     intro hc
     subst hc
     rw [h] at h1;cases h1
    rw [show (k' == k)=false by simpa using this];rfl
  ·simp only [cond_true,toldGet]
   cases h1:(k' == k)
   ·simp only [cond_false]
    have:k'≠e.1:=by
     intro hc
     have h2:k=e.1:=by simpa using h
     rw [hc,← h2] at h1
     simp at h1
    rw [show (k' == e.1)=false by simpa using this];rfl
   ·rfl
theorem TI.put {T:Told}{j:Nat}{k:Int}{p:GPast}(h:TI T j)(hp:∀i∈p.entries,0≤i∧i<((j+1:Nat):Int)):TI (toldPut T k p) (j+1):=by
 intro k' p' hg i hi
 rw [toldGet_put] at hg
 cases hb:(k' == k)
 ·rw [hb] at hg
  have:=h k' p' (by simpa using hg) i hi
  omega
 ·rw [hb] at hg
  simp only [cond_true,Option.some.injEq] at hg;subst hg
  exact hp i hi
theorem TI.succ {T:Told}{j:Nat}(h:TI T j):TI T (j+1):=fun k p hg i hi=>by have:=h k p hg i hi;omega
def pastOf (T:Told)(k:Int):GPast:=(toldGet T k).getD ⟨[],-1⟩
theorem TI.past {T:Told}{j:Nat}(h:TI T j)(k:Int):∀i∈(pastOf T k).entries,0≤i∧i<(j:Int):=by
 unfold pastOf
 cases hg:toldGet T k with
 |none=>intro i hi;cases hi
 |some p=>exact h k p hg
theorem TI.next {T:Told}{j:Nat}(h:TI T j)(k c:Int):TI (toldPut T k ⟨(pastOf T k).entries++[(j:Int)],c⟩) (j+1):=by
 refine h.put fun i hi=>?_
 rcases List.mem_append.1 hi with hi|hi
 ·have:=h.past k i hi;omega
 ·obtain rfl:=List.mem_singleton.1 hi;omega
theorem obGo_cons (l:List GSeen)(y:GSeen)(r:List GSeen)(j:Nat)(T:Told):obGo l (y::r) j T =
 bif !witness_counts y then obGo l r (j+1) T
 else bif !witness_alone y then ((j:Int),0)
 else bif (pastOf T y.Object).entries.any (fun i=>decide (y.Began > i)&&!witness_both l (pastOf T y.Object) i j) then ((j:Int),0)
 else obGo l r (j+1) (toldPut T y.Object ⟨(pastOf T y.Object).entries++[(j:Int)],bif decide ((pastOf T y.Object).closing<0)&&witness_closing y then (j:Int) else (pastOf T y.Object).closing⟩):=rfl
theorem obGo_rng (l:List GSeen):∀(r:List GSeen) (j:Nat) (T:Told),obGo l r j T=(-1,0)∨((obGo l r j T).2=0∧(j:Int)≤(obGo l r j T).1∧(obGo l r j T).1<((j+r.length:Nat):Int))
 |[],j,T=>.inl rfl
 |y::r,j,T=>by
  have up:∀T',obGo l r (j+1) T'=(-1,0)∨((obGo l r (j+1) T').2=0∧(j:Int)≤(obGo l r (j+1) T').1∧(obGo l r (j+1) T').1<((j+(y::r).length:Nat):Int)):=fun T'=>by
   rcases obGo_rng l r (j+1) T' with h|⟨h1,h2,h3⟩
   ·exact .inl h
   ·refine .inr ⟨h1,by omega,?_⟩
    simp only [List.length_cons];omega
  have at':((j:Int),(0:Int))=(-1,0)∨(((j:Int),(0:Int)).2=0∧(j:Int)≤((j:Int),(0:Int)).1∧((j:Int),(0:Int)).1<((j+(y::r).length:Nat):Int)):=
   .inr ⟨rfl,Int.le_refl _,by simp only [List.length_cons];omega⟩
  rw [obGo_cons]
  cases witness_counts y
  ·exact up T
  ·cases witness_alone y
   ·exact at'
   ·simp only [Bool.not_true,cond_false]
    cases (pastOf T y.Object).entries.any (fun i=>decide (y.Began > i)&&!witness_both l (pastOf T y.Object) i j)
    ·exact up _
    ·exact at'
theorem TI.nil : TI [] 0:=fun k p h=>by cases h
theorem Obeys_eq {l:List GSeen}(h:l.length≤8192):witness_Obeys l=obGo l l 0 []:=by
 unfold witness_Obeys lLen
 rw [decide_eq_false (by omega)];rfl
theorem Obeys_rng {l:List GSeen}(h:l.length≤8192):witness_Obeys l=(-1,0)∨((witness_Obeys l).2=0∧0≤(witness_Obeys l).1∧(witness_Obeys l).1<(l.length:Int)):=by
 rw [Obeys_eq h]
 rcases obGo_rng l l 0 [] with h|⟨h1,h2,h3⟩
 ·exact .inl h
 ·exact .inr ⟨h1,by simpa using h2,by simpa using h3⟩
def TInv (l:List GSeen)(T:Told)(j:Nat):Prop:=∀(i:Nat) (x:GSeen),i<j→l[i]?=some x→witness_counts x=true→(i:Int)∈(pastOf T x.Object).entries
theorem pastOf_put (T:Told)(k:Int)(p:GPast)(k':Int):pastOf (toldPut T k p) k'=bif k' == k then p else pastOf T k':=by
 unfold pastOf
 rw [toldGet_put]
 cases (k' == k)<;>rfl
theorem obGo_holds {l:List GSeen}:∀(d j:Nat) (T:Told),d=l.length-j→j≤l.length→TInv l T j→(obGo l (l.drop j) j T).1<0→
  ∀(i m:Nat) (x y:GSeen),j≤m→i<m→l[i]?=some x→l[m]?=some y→witness_counts x=true→witness_counts y=true→x.Object=y.Object→y.Began > (i:Int)→∃p,witness_both l p i m=true
 |0,j,T,hd,hj,hT,hr,i,m,x,y,hjm,him,hx,hy,hcx,hcy,ho,hb=>by
  have:=(List.getElem?_eq_some_iff.1 hy).1;omega
 |d+1,j,T,hd,hj,hT,hr,i,m,x,y,hjm,him,hx,hy,hcx,hcy,ho,hb=>by
  have hjl:j<l.length:=by omega
  obtain ⟨z,hz⟩:∃z,l[j]?=some z:=⟨l[j],by simp [hjl]⟩
  have e1:l.drop j=z::l.drop (j+1):=by
   rw [List.drop_eq_getElem_cons hjl]
   rw [List.getElem?_eq_getElem hjl] at hz
   cases hz;rfl
  rw [e1,obGo_cons] at hr
  have ih:=fun T' (hT':TInv l T' (j+1)) (hr':(obGo l (l.drop (j+1)) (j+1) T').1<0) (h:j+1≤m)=>obGo_holds d (j+1) T' (by omega) (by omega) hT' hr' i m x y h him hx hy hcx hcy ho hb
  cases hc:witness_counts z
  ·rw [hc] at hr
   rcases Nat.lt_or_ge j m with h|h
   ·refine ih T (fun i' x' hi' hx' hc'=>?_) hr h
    rcases Nat.lt_or_ge i' j with h2|h2
    ·exact hT i' x' h2 hx' hc'
    ·have:i'=j:=by omega
     subst this
     rw [hz] at hx';cases hx';rw [hc] at hc';cases hc'
   ·have:m=j:=by omega
    subst this
    rw [hz] at hy;cases hy;rw [hc] at hcy;cases hcy
  ·rw [hc] at hr
   cases ha:witness_alone z
   ·rw [ha] at hr
    simp only [Bool.not_true,cond_false,Bool.not_false,cond_true] at hr
    omega
   ·rw [ha] at hr
    simp only [Bool.not_true,cond_false] at hr
    cases hany:(pastOf T z.Object).entries.any (fun i=>decide (z.Began > i)&&!witness_both l (pastOf T z.Object) i j)
    ·rw [hany] at hr
     simp only [cond_false] at hr
     rcases Nat.lt_or_ge j m with h|h
     ·refine ih _ (fun i' x' hi' hx' hc'=>?_) hr h
      rw [pastOf_put]
      cases hk:(x'.Object == z.Object)
      ·simp only [cond_false]
       rcases Nat.lt_or_ge i' j with h2|h2
       ·exact hT i' x' h2 hx' hc'
       ·have:i'=j:=by omega
        subst this
        rw [hz] at hx';cases hx';simp at hk
      ·simp only [cond_true]
       rcases Nat.lt_or_ge i' j with h2|h2
       ·have:=hT i' x' h2 hx' hc'
        rw [show x'.Object=z.Object by simpa using hk] at this
        exact List.mem_append_left _ this
       ·have:i'=j:=by omega
        subst this
        exact List.mem_append_right _ (List.mem_singleton.2 rfl)
     ·have hmj:m=j:=by omega
      subst hmj
      rw [hz] at hy;cases hy
      have hmem:=hT i x him hx hcx
      rw [ho] at hmem
      rw [List.any_eq_false] at hany
      have:=hany _ hmem
      simp only [Bool.and_eq_true,decide_eq_true_eq,Bool.not_eq_true',not_and,Bool.not_eq_false] at this
      exact ⟨_,this hb⟩
    ·rw [hany] at hr
     simp only [cond_true] at hr
     omega
theorem TInv.nil (l:List GSeen):TInv l [] 0:=fun i x h=>by omega
def hOpen (x y:GSeen):Bool:=(((iEq x.Method 4)&&x.Out.Yes)&&((iEq y.Method 3)&&y.Out.Yes))||(((iEq x.Method 3)&&(!x.Out.Yes))&&((iEq y.Method 3)&&y.Out.Yes))
def hFix (x y:GSeen):Bool:=((((iEq x.Method 5)&&x.Out.Found)&&(!x.Out.Desc.Configurable))&&((((iEq y.Method 5)&&(!y.Out.Found))||((iEq y.Method 7)&&(!y.Out.Yes)))||((iEq y.Method 10)&&y.Out.Yes)))&&((sEq x.Key.Str y.Key.Str)&&(iEq x.Key.Sym y.Key.Sym))
theorem open_both (x y:GSeen):((witness_closing x&&iEq y.Method 3)&&y.Out.Yes)=hOpen x y:=by
 unfold witness_closing hOpen
 cases iEq x.Method 4<;>cases iEq x.Method 3<;>cases x.Out.Yes<;>cases iEq y.Method 3<;>cases y.Out.Yes<;>rfl
theorem fix_parts {x y:GSeen}(h:hFix x y=true):x.Method=5∧x.Out.Found=true∧x.Out.Desc.Configurable=false∧((y.Method=5∧y.Out.Found=false)∨(y.Method=7∧y.Out.Yes=false)∨(y.Method=10∧y.Out.Yes=true))∧y.Key=x.Key:=by
 simp only [hFix,Bool.and_eq_true,Bool.or_eq_true,Bool.not_eq_true',iEq,sEq,beq_iff_eq,decide_eq_true_eq] at h
 obtain ⟨⟨⟨⟨h1,h2⟩,h3⟩,h4⟩,h5,h6⟩:=h
 refine ⟨h1,h2,h3,?_,?_⟩
 ·rcases h4 with (h4|h4)|h4
  ·exact .inl h4
  ·exact .inr (.inl h4)
  ·exact .inr (.inr h4)
 ·cases hx:x.Key;cases hy:y.Key
  rw [hx,hy] at h5 h6
  simp only at h5 h6
  subst h5;subst h6;rfl
theorem fix_fixed {x y:GSeen}(h:hFix x y=true):witness_fixed x.Key x.Out.Desc y=false:=by
 obtain ⟨-,-,-,h4,h5⟩:=fix_parts h
 unfold witness_fixed
 rw [h5]
 have e1:sEq x.Key.Str x.Key.Str=true:=by simp [sEq]
 have e2:iEq x.Key.Sym x.Key.Sym=true:=by simp [iEq]
 rw [e1,e2]
 rcases h4 with ⟨h,h'⟩|⟨h,h'⟩|⟨h,h'⟩<;>rw [h,h']<;>rfl
theorem both_not {l:List GSeen}{p:GPast}{i m:Nat}{x y:GSeen}(hx:l[i]?=some x)(hy:l[m]?=some y)(h:witness_both l p i m=true):hOpen x y=false∧hFix x y=false:=by
 unfold witness_both at h
 rw [show l.getD ((i:Int).toNat) default=x by simp [List.getD_eq_getElem?_getD,hx],show l.getD ((m:Int).toNat) default=y by simp [List.getD_eq_getElem?_getD,hy]] at h
 simp only [open_both] at h
 cases ho:hOpen x y
 ·refine ⟨rfl,?_⟩
  cases hf:hFix x y
  ·rfl
  ·obtain ⟨a,b,c,-,-⟩:=fix_parts hf
   rw [ho,fix_fixed hf,a,b,c] at h
   cases h
 ·rw [ho] at h;cases h
theorem cnt {x:GSeen}(h:x.Throw=false)(h1:1≤x.Method)(h2:x.Method≤13):witness_counts x=true:=by
 unfold witness_counts
 rw [h,decide_eq_true (show x.Method≥1 from h1),decide_eq_true h2];rfl
theorem open_cnt {x y:GSeen}(h:hOpen x y=true):(1≤x.Method∧x.Method≤13)∧1≤y.Method∧y.Method≤13:=by
 simp only [hOpen,Bool.and_eq_true,Bool.or_eq_true,iEq,beq_iff_eq] at h
 rcases h with ⟨⟨h1,-⟩,h2,-⟩|⟨⟨h1,-⟩,h2,-⟩<;>omega
theorem fix_cnt {x y:GSeen}(h:hFix x y=true):(1≤x.Method∧x.Method≤13)∧1≤y.Method∧y.Method≤13:=by
 obtain ⟨a,-,-,b,-⟩:=fix_parts h
 rcases b with ⟨b,-⟩|⟨b,-⟩|⟨b,-⟩<;>omega
theorem holds_pair {l:List GSeen}(h8:l.length≤8192)(hr:(witness_Obeys l).1<0){i m:Nat}{x y:GSeen}(him:i<m)(hx:l[i]?=some x)(hy:l[m]?=some y)
  (hs:((((iNe x.Object y.Object)||x.Throw)||y.Throw)||(decide ((y.Began:Int)≤i)))=false):hOpen x y=false∧hFix x y=false:=by
 simp only [Bool.or_eq_false_iff,iNe,bne_eq_false_iff_eq,decide_eq_false_iff_not] at hs
 obtain ⟨⟨⟨h1,h2⟩,h3⟩,h4⟩:=hs
 rw [Obeys_eq h8] at hr
 have key:=fun hcx hcy=>obGo_holds l.length 0 [] (by omega) (Nat.zero_le _) (TInv.nil l) hr i m x y (Nat.zero_le _) him hx hy hcx hcy h1 (by omega)
 cases ho:hOpen x y
 ·cases hf:hFix x y
  ·exact ⟨rfl,rfl⟩
  ·have:=fix_cnt hf
   obtain ⟨p,hp⟩:=key (cnt h2 this.1.1 this.1.2) (cnt h3 this.2.1 this.2.2)
   have:=(both_not hx hy hp).2
   rw [hf] at this;cases this
 ·have:=open_cnt ho
  obtain ⟨p,hp⟩:=key (cnt h2 this.1.1 this.1.2) (cnt h3 this.2.1 this.2.2)
  have:=(both_not hx hy hp).1
  rw [ho] at this;cases this
theorem holds_l6 {l:List GSeen}(h8:l.length≤8192)(hr:(witness_Obeys l).1<0){m:Nat}(hm:m<l.length):∀(n i:Nat) (u:Bool),m-i<n→i≤m→(law25_WitnessHolds_l6 l m n u i).1=true
 |0,i,u,h,_=>by omega
 |n+1,i,u,h,hi=>by
  unfold law25_WitnessHolds_l6
  simp only
  by_cases him:i<m
  ·obtain ⟨x,hx⟩:∃x,l[i]?=some x:=⟨l[i]'(by omega),by simp [show i<l.length by omega]⟩
   obtain ⟨y,hy⟩:∃y,l[m]?=some y:=⟨l[m],by simp [hm]⟩
   have ih:=holds_l6 h8 hr hm n (i+1) u (by omega) (by omega)
   rw [show l.getD ((i:Int).toNat) default=x by simp [List.getD_eq_getElem?_getD,hx],show l.getD ((m:Int).toNat) default=y by simp [List.getD_eq_getElem?_getD,hy]]
   rw [show decide ((i:Int)<(m:Int))=true from decide_eq_true (by omega)]
   rw [iAdd1 (by omega) (by omega)]
   simp only [Bool.not_true,cond_false]
   cases hs:((((iNe x.Object y.Object)||x.Throw)||y.Throw)||(decide ((y.Began:Int)≤i)))
   ·have:=holds_pair h8 hr him hx hy hs
    rw [show ((((iEq x.Method 4)&&x.Out.Yes)&&((iEq y.Method 3)&&y.Out.Yes))||(((iEq x.Method 3)&&(!x.Out.Yes))&&((iEq y.Method 3)&&y.Out.Yes)))=false from this.1]
    rw [show (((((iEq x.Method 5)&&x.Out.Found)&&(!x.Out.Desc.Configurable))&&((((iEq y.Method 5)&&(!y.Out.Found))||((iEq y.Method 7)&&(!y.Out.Yes)))||((iEq y.Method 10)&&y.Out.Yes)))&&((sEq x.Key.Str y.Key.Str)&&(iEq x.Key.Sym y.Key.Sym)))=false from this.2]
    exact ih
   ·exact ih
  ·rw [show decide ((i:Int)<(m:Int))=false from decide_eq_false (by omega)]
   rfl
theorem holds_l4 {l:List GSeen}(h8:l.length≤8192):∀(n m:Nat) (u:Bool),l.length-m<n→m≤l.length→(law25_WitnessHolds_l4 l (witness_Obeys l) n u m).1=true
 |0,m,u,h,_=>by omega
 |n+1,m,u,h,hm=>by
  unfold law25_WitnessHolds_l4
  simp only [mLen_eq]
  cases hc:(decide ((m:Int)<(l.length:Int))&&decide ((witness_Obeys l).1<0))
  ·rfl
  ·simp only [Bool.and_eq_true,decide_eq_true_eq] at hc
   have hm':m<l.length:=by omega
   have h6:=holds_l6 h8 hc.2 hm' (l.length+1) 0 u (by omega) (Nat.zero_le _)
   rw [show ((0:Nat):Int)=0 from rfl] at h6
   rw [h6,iAdd1 (by omega) (by omega)]
   exact holds_l4 h8 n (m+1) _ (by omega) (by omega)
theorem WitnessHolds_true (x0:List GSeen):law25_WitnessHolds x0=true:=by
 unfold law25_WitnessHolds
 simp only [alive25,mLen_eq,Bool.not_true,Bool.or_false]
 cases hl:(law25_long x0||decide ((x0.length:Int) > 150))
 ·simp only [cond_false]
  have h8:x0.length≤8192:=by
   simp only [Bool.or_eq_false_iff,decide_eq_false_iff_not] at hl
   omega
  have h2:(witness_Obeys x0).2=0:=by
   rcases Obeys_rng h8 with h|⟨h,-,-⟩
   ·rw [h]
   ·exact h
  have h4:=holds_l4 h8 (x0.length+1) 0 false (by omega) (Nat.zero_le _)
  rw [show ((0:Nat):Int)=0 from rfl] at h4
  rw [h2,h4];rfl
 ·rfl
end Go.Fw
end
