
import Derived.Test.YtlnenmklgkgaeaaFwG
import Derived.Test.YtlnenmklgkgaeaaFwF
import Derived.Test.YtlnenmklgkgaeaaProg
set_option linter.unusedVariables false
set_option linter.unusedSimpArgs false
set_option linter.unusedSectionVars false
set_option linter.unnecessarySimpa false
section
namespace Go.Fw
def adp (x0:dJ):dJ:=
 x0
def aia (x0:dH):Nat->Int->dH->dH
 |0,_,_=>default|n+1,u1,u2=>
  let v3:dJ:=x0.Objects.getD (u1:Int).toNat default;let v4:dJ:=adp v3;let v5:List dJ:=u2.Objects++[v4]
  bif (!(decide ((u1:Int)<(jT dJ.enc x0.Objects)))) then u2
  else aia x0 n (fK .i64 u1 1) (dH.mk v5)
def al7 (x0:dH):dH:=
 let r1:dH:=aia x0 (x0.Objects.length+1) 0 (dH.mk [])
 r1
def aq0 (x0:dH)(x1:dJ):dH×Int×Int:=
 let v2:Bool:=aeH x0;let v3:dH:=al7 x0;let v4:dJ:=adp x1;let v5:List dJ:=v3.Objects++[v4];let v6:Bool:=aeH (dH.mk v5)
 bif (!v2) then ((dH.mk []),0,9)
 else bif (decide (((jT dJ.enc x0.Objects):Int)>=4096)) then ((dH.mk []),0,4)
 else bif (!v6) then ((dH.mk []),0,9)
 else ((dH.mk v5),(jT dJ.enc x0.Objects),0)
def ar6 (x0:dH)(x1:Int):dJ×Int:=
 let v2:Bool:=aeH x0;let v3:dJ:=x0.Objects.getD (x1:Int).toNat default;let v4:dJ:=adp v3
 bif (!v2) then ((dJ.mk 0 (dL.mk 0 0 [] 0) false [] (dL.mk 0 0 [] 0) (dL.mk 0 0 [] 0) [] false false),9)
 else bif ((decide ((x1:Int)<0))||(decide ((x1:Int)>=(jT dJ.enc x0.Objects)))) then ((dJ.mk 0 (dL.mk 0 0 [] 0) false [] (dL.mk 0 0 [] 0) (dL.mk 0 0 [] 0) [] false false),2)
 else (v4,0)
def aq1 (x0:dH)(x1:Int)(x2:dJ):dH×Int:=
 let v3:Bool:=aeH x0;let v4:dH:=al7 x0;let v5:dJ:=adp x2;let v6:List dJ:=v4.Objects.set (x1:Int).toNat v5;let v7:List dJ:=(v6.drop (0)).take (((jT dJ.enc v4.Objects):Int).toNat-0);let v8:Bool:=aeH (dH.mk v7);let v9:List dJ:=(v6.drop (0)).take (((jT dJ.enc v4.Objects):Int).toNat-0)
 bif (!v3) then ((dH.mk []),9)
 else bif ((decide ((x1:Int)<0))||(decide ((x1:Int)>=(jT dJ.enc x0.Objects)))) then ((dH.mk []),2)
 else bif (!v8) then ((dH.mk []),9)
 else ((dH.mk v9),0)
def aq4 (x0:dH):Int:=
 let v1:Bool:=aeH x0
 bif (!v1) then 9
 else 0
def afB (x0:dJ)(x1:dJ):Nat->Bool->Int->(Bool×Bool×Bool)
 |0,_,_=>default|n+1,u5,u6=>
  let v7:dI:=x0.Props.getD (u6:Int).toNat default;let v8:dI:=x1.Props.getD (u6:Int).toNat default;let v9:dI:=x0.Props.getD (u6:Int).toNat default;let v10:dI:=x1.Props.getD (u6:Int).toNat default;let v11:Bool:=al6 v9.dQ v10.dQ
  bif (!(decide ((u6:Int)<(jT dI.enc x0.Props)))) then (true,u5,default)
  else bif ((!((Dw v7.Key.Str v8.Key.Str)&&(dU v7.Key.Sym v8.Key.Sym)))||(!v11)) then (false,default,false)
  else afB x0 x1 n u5 (fK .i64 u6 1)
def agv (x0:dJ)(x1:dJ):Bool:=
 let v2:Bool:=aek x0.fA x1.fA;let v3:Bool:=aek x0.Target x1.Target;let v4:Bool:=aek x0.Handler x1.Handler;let r5:Bool×Bool×Bool:=afB x0 x1 (x0.Props.length+1) false 0
 bif (((((((((jk x0.Kind x1.Kind)||(!v2))||(!(Qy x0.Ext x1.Ext)))||(!v3))||(!v4))||(sNe x0.Text x1.Text))||(!(Qy x0.Calls x1.Calls)))||(!(Qy x0.Makes x1.Makes)))||(jk (jT dI.enc x0.Props) (jT dI.enc x1.Props))) then false
 else bif (!(dU (mg r5.1) 0)) then r5.2.2
 else true
def alW (x0:dH)(x1:dH):Nat->Bool->Int->(Bool×Bool×Bool)
 |0,_,_=>default|n+1,u2,u3=>
  let v4:dJ:=x0.Objects.getD (u3:Int).toNat default;let v5:dJ:=x1.Objects.getD (u3:Int).toNat default;let v6:Bool:=agv v4 v5
  bif (!(decide ((u3:Int)<(jT dJ.enc x0.Objects)))) then (true,u2,default)
  else bif (!v6) then (false,default,false)
  else alW x0 x1 n u2 (fK .i64 u3 1)
def arn (x0:dH)(x1:dH):Bool:=
 let r2:Bool×Bool×Bool:=alW x0 x1 (x0.Objects.length+1) false 0
 bif (jk (jT dJ.enc x0.Objects) (jT dJ.enc x1.Objects)) then false
 else bif (!(dU (mg r2.1) 0)) then r2.2.2
 else true
end Go.Fw
end
section
namespace Go.Fw
open Go.Proofs
set_option maxRecDepth 100000
theorem oJ : Try.prog.follows .mixedOrders=true:=by kernel_rfl
theorem tV (x0:Nat):PC Try.prog 124 [.p (.float .f64 x0)] (.p (.int .u64 (mY x0))):=
 YE (fn:=Try.f124) (e:=Extern.MathFloatBits.float64bits) (by kernel_rfl) (by kernel_rfl) (by kernel_rfl) (by kernel_rfl) (by kernel_rfl) rfl rfl rfl rfl
theorem vI (x0:Int):PC Try.prog 123 [.p (.int .u64 x0)] (.p (.float .f64 (oC x0))):=
 YE (fn:=Try.f123) (e:=Extern.MathFloatBits.float64frombits) (by kernel_rfl) (by kernel_rfl) (by kernel_rfl) (by kernel_rfl) (by kernel_rfl) rfl rfl rfl rfl
theorem CQ (x0:Nat)(h:Ij x0):PC Try.prog 121 [.p (.float .f64 x0)] (.p (.float .f64 (iH x0))):=
 YE (fn:=Try.f121) (e:=Extern.MathFloor.toIntegral "math.archTrunc" .zero) (by kernel_rfl) (by kernel_rfl) (by kernel_rfl) (by kernel_rfl) (by kernel_rfl) rfl (ahk h) rfl rfl
end Go.Fw
end
section
namespace Go.Fw
set_option maxRecDepth 100000
set_option maxHeartbeats 4000000
open Go.Proofs
instance : UK dL.enc:=⟨dL.fU⟩
instance {x : dL}:Fz (dL.av x):=⟨dL.fz x⟩
instance : Qp dL.enc 4:=⟨dL.len⟩
instance : UK dP.enc:=⟨dP.fU⟩
instance {x : dP}:Fz (dP.av x):=⟨dP.fz x⟩
instance : Qp dP.enc 2:=⟨dP.len⟩
instance : UK dN.enc:=⟨dN.fU⟩
instance {x : dN}:Fz (dN.av x):=⟨dN.fz x⟩
instance : Qp dN.enc 16:=⟨dN.len⟩
instance : UK dI.enc:=⟨dI.fU⟩
instance {x : dI}:Fz (dI.av x):=⟨dI.fz x⟩
instance : Qp dI.enc 18:=⟨dI.len⟩
instance : UK dJ.enc:=⟨dJ.fU⟩
instance {x : dJ}:Fz (dJ.av x):=⟨dJ.fz x⟩
instance : Qp dJ.enc 18:=⟨dJ.len⟩
instance : UK dH.enc:=⟨dH.fU⟩
instance {x : dH}:Fz (dH.av x):=⟨dH.fz x⟩
instance : Qp dH.enc 1:=⟨dH.len⟩
instance {r : dN×Int}:Fz (zK r):=⟨(inferInstance:YV [(dN.av r.1),(.p (.int .i64 r.2))]).h⟩
instance {r : Int×Bool}:Fz (qx r):=⟨(inferInstance:YV [(.p (.int .i64 r.1)),(.p (.bool r.2))]).h⟩
instance {r : dH×Int×Int}:Fz (lV r):=⟨(inferInstance:YV [(dH.av r.1),(.p (.int .i64 r.2.1)),(.p (.int .i64 r.2.2))]).h⟩
instance {r : dJ×Int}:Fz (alY r):=⟨(inferInstance:YV [(dJ.av r.1),(.p (.int .i64 r.2))]).h⟩
instance {r : dH×Int}:Fz (ame r):=⟨(inferInstance:YV [(dH.av r.1),(.p (.int .i64 r.2))]).h⟩
noncomputable def jI : oN:=xOr (ap1 124 123 121) (adq Try.prog)
theorem fE : ∀σ:List AV,fU σ=true->ny Try.prog σ jI:=ap4 (am2 tV vI CQ) aho
noncomputable def jJ : B_:=ap6 (aso Try.prog (ocT [(22,[0],18,false),(25,[0],18,false),(27,[0,0],18,false),(31,[0,0],18,false)])) (ap_ Try.prog (wcT [(100000,[(0,18)]),(100000,[(1,2)]),(100000,[(1,2)]),(100000,[(1,2)]),(100000,[(1,2)]),(100000,[(1,2)]),(88,[]),(49,[]),(52,[]),(104,[])]))
theorem fF : ∀σ:List AV,fU σ=true->lT Try.prog σ jJ:=am7 am8 anc
abbrev dF : Tm:=.rlen (W 0 0)
abbrev oO : SV:=zB (.lb false)
abbrev av2 : Tm:=uE (W 0 0) (.li 2)
abbrev av4 : Tm:=uE (W 0 0) (.li 3)
abbrev zz2 : Tm:=.and (uE (W 0 0) (W 0 0)) (.and (.or av2 (.or av4 (.bin .eql .jL (W 0 1) (.lf 0)))) (.and (.ite av2 (sE (W 0 2) (.ls [])) (.ite av4 (sE (W 0 2) (.ls [])) (.or (uE (W 0 0) (.li 4)) (sE (W 0 2) (.ls []))))) (.ite av2 (qE (W 0 3) (.li 0)) (.ite av4 (qE (W 0 3) (.li 0)) (.ite (uE (W 0 0) (.li 4)) (qE (W 0 3) (.li 0)) (.or (.or (uE (W 0 0) (.li 5)) (.or (uE (W 0 0) (.li 6)) (.or (uE (W 0 0) (.li 7)) (uE (W 0 0) (.li 8))))) (qE (W 0 3) (.li 0))))))))
abbrev zz3 : Tm:=.and (.not (V 7)) (.not (.and (.and (.and (.and (uE (W 2 0) (.li 5)) (V 4)) (qL (W 2 10) (V 1))) (V 5)) (uE (W 6 0) (.li 6))))
abbrev zz4 : SV:=zI (.li 0)
abbrev zz5 : Tm:=.and (.and (.and (uE (W 0 0) (W 1 0)) (.bin .eql .bool (W 0 13) (W 1 13))) (.bin .eql .bool (W 0 14) (W 1 14))) (.bin .eql .bool (W 0 15) (W 1 15))
abbrev zz6 : SV:=.agg [(zL (W 0 0))]
abbrev zz7 : List SV:=(cV 0 dN.jY)
abbrev zz8 : Tm:=.and (.not (W 2 16)) (.not (W 2 17))
abbrev zz9 : Tm:=.rlen (V 0)
abbrev axC : Tm:=.conv .i32 (aI (.li 48) (.bin .rem kI (V 2) (.li 10)))
abbrev aCN : List SV:=[(zU (W 4 0)),(zU (W 4 1)),(zF (W 4 2)),(zS (W 4 3)),(zI (W 4 4)),(zB (W 4 5)),(zL (W 4 6)),(zU (W 4 7)),(zF (W 4 8)),(zS (W 4 9)),(zI (W 4 10)),(zU (W 4 11)),(zF (W 4 12)),(zS (W 4 13)),(zI (W 4 14)),(zS (W 4 15)),(zB (W 4 16)),(zB (W 4 17))]
abbrev axD : Tm:=.and (sN (W 2 15) (.ls [])) (uN (W 2 0) (.li 3))
abbrev avV : Tm×Bool:=((qG dF (.li 4096)),false)
abbrev avW : Tm:=.lf 4607182418800017408
abbrev aCO : SV:=.agg [(zU (.li 0)),(zU (.li 0)),(zF (.lf 0)),(zS (.ls [])),zz4,oO,(.slc [] false),(zU (.li 0)),(zF (.lf 0)),(zS (.ls [])),zz4,(zU (.li 0)),(zF (.lf 0)),(zS (.ls [])),zz4,(zS (.ls [])),oO,oO]
abbrev ase : List SV:=(cV 0 dL.jY)
abbrev aAt : Tm:=.or (uN (.bin .andNot kU (W 0 0) (.li 63)) (.li 0)) (.and (V 1) (V 2))
abbrev atq : List SV:=(cV 0 dH.jY)
abbrev avx : Tm:=qE (V 1) (.li 0)
abbrev avX : Tm:=.slen (W 0 0)
abbrev awJ : SV:=.agg [(zS (W 4 0)),(zI (W 4 1))]
abbrev awK : Tm:=uN (W 2 1) (.li 1)
abbrev axE : Tm:=.and awK (.not (V 9))
abbrev aA5 : Tm:=.or (.or (uN (W 0 0) (W 1 0)) (.not (V 2))) (.not (.bin .eql .bool (W 0 5) (W 1 5)))
abbrev aws : Tm:=qG (.rlen (W 1 6)) (.li 0)
abbrev aA6 : Tm:=.or (.or (.or (.not (V 8)) (.not (V 9))) (qH (W 1 10) (V 2))) (qH (W 1 14) (V 2))
abbrev aA7 : Tm:=.and (.and (uE (W 0 0) (W 1 0)) (sE (W 0 2) (W 1 2))) (qE (W 0 3) (W 1 3))
abbrev avN : SV:=zB (.lb true)
abbrev axM : Tm:=.conv .i32 (aI (.li 48) (V 2))
abbrev awt : SV:=.agg (cW 1 7 dL.jY)
abbrev axR : Tm:=.and (W 1 17) (.not (W 1 16))
abbrev awu : SV:=zI (aI (V 3) (.li 1))
abbrev aAa : Tm:=.ls [108,101,110,103,116,104]
abbrev aAu : List SV:=[(zL (V 0)),(.fn 91 [] [(.vp [(zS (V 1))] 0)])]
abbrev awL : Tm:=.not (qE (V 2) (.li 0))
abbrev av5 : Tm:=qG (W 0 1) (.li 0)
abbrev ax0 : Tm:=.bin .neq .jL (V 0) (V 0)
abbrev aA8 : Tm:=.and (qG avX (.li 1)) (uE (.byte (W 0 0) (.li 0)) (.li 48))
abbrev aCS : Tm:=.and av2 (.and (.bin .neq .jL (W 0 1) avW) (.or (.bin .neq .jL (W 0 1) (.lf 0)) (.not (V 1))))
abbrev aBa : Tm:=.and (.and (uE (W 1 0) (.li 5)) (V 3)) (qL (W 1 10) (V 2))
abbrev aAv : Tm:=.and (W 5 1) (qL (W 5 0) (.slen (V 1)))
abbrev aww : Tm:=uE (W 2 0) (.li 6)
abbrev awM : SV:=.agg (cV 4 dJ.jY)
abbrev ax1 : SV:=.agg (cW 1 11 dL.jY)
abbrev ax3 : SV:=.agg [(.slc [] false)]
abbrev awz : Tm:=qM (.li 0) (V 3)
abbrev avO : Tm:=.not (V 3)
abbrev awE : Tm:=qL (V 0) (.li 0)
abbrev ax4 : SV:=zI (aI (V 2) (.li 1))
abbrev aAx : SV:=.gW [(zI (W 5 0)),(zB (W 5 1))]
abbrev aAy : SV:=.fn 89 [] [(.op 21 1 (.li 0) 0)]
abbrev ax5 : Tm:=sN (W 1 15) (.ls [])
abbrev ax6 : Tm:=.byte (W 0 0) (V 4)
abbrev aCV : Tm:=.and (.bin .eql .jL (V 1) (V 0)) (.bin .leq .jL (V 2) (.lf 4845873199050653695))
abbrev aBe : Tm:=.and (qG dF (.li 60)) (qM dF (.li 4096))
abbrev avQ : SV:=zI (.li 9)
abbrev aAb : SV:=.agg (cW 0 1 dL.jY)
abbrev aAz : Tm:=.bin .neq .jL (V 0) (.lf 0)
abbrev aAA : Tm:=.bin .gtr kU (W 0 0) (.li 8)
abbrev ax8 : Tm:=uE (W 0 0) (.li 0)
abbrev aya : Tm:=uE (W 2 0) (.li 2)
abbrev aAB : Tm:=.bin .eql .jL (V 0) (.lf 0)
abbrev awN : Tm:=qG avX (.li 4)
abbrev ayb : Tm:=qG zz9 (.li 1024)
abbrev aBg : List SV:=[zz6,(.agg (cV 2 dJ.jY)),(zI (V 1))]
abbrev azN : Tm:=qM (.li 0) (V 2)
abbrev avZ : List SV:=[(zF (V 0))]
abbrev awF : List SV:=(cV 1 dL.jY)
abbrev azO : Tm:=.com .u8 (W 0 0)
abbrev azP : Tm:=aI (V 6) (.li 1)
abbrev awp : Tm:=.rlen (V 1)
def Di : Md:=mdT 822752278852164963685720698573509829529663998224680964801429504
def kA : List (List Nat):=[[],[],[],[],[],[],[],[],[],[],[],[],[],[],[],[],[],[],[],[],[],[],[],[],[],[],[],[],[],[],[],[],[],[],[],[],[],[],[],[],[],[],[],[],[],[],[],[],[],[0,1,2,6,7,8,9,14,15,16,17,18,30],[],[],[0,1,2,6,7,8,9,14,15,16,17,18,30],[],[],[],[],[],[],[],[],[],[],[],[],[],[],[],[],[],[],[],[],[],[],[],[],[],[],[],[],[],[],[],[],[],[],[],[0,1,4],[],[],[],[],[],[],[],[],[],[],[],[],[],[],[],[0,1,4,5,7,8,9,16],[],[],[],[],[],[],[],[],[],[],[],[],[],[],[],[],[],[],[],[],[],[],[],[],[],[],[],[],[],[],[],[],[],[],[],[],[],[],[],[],[],[],[],[],[],[],[]]
def sT : Bh:=⟨[(46,⟨[(qM (.li 0) (V 1)),(qL (V 1) (.rlen (W 0 0)))],[],[]⟩),
 (25,⟨[],[(qM (.rlen (W 0 0)) (.li 4294967296))],[(qM (.rlen (W 1 0)) (.rlen (W 0 0))),(qE (.rlen (W 1 0)) (.rlen (W 0 0)))]⟩),
 (132,⟨[(uN (V 1) (.li 0))],[],[]⟩),
 (127,⟨[(qM (.li 0) (V 0)),(qM (V 0) (.li 1000000))],[],[]⟩),
 (120,⟨[(qM (.li 0) (V 0)),(qM (V 0) (.li 1000000))],[],[]⟩),
 (73,⟨[(qM (.li 0) (V 1)),(qL (V 1) (.rlen (W 0 0)))],[],[]⟩)],[]⟩
theorem aoV (a b:Int):aeq Try.prog 10000 3 (.p (.int .i64 a)) (.p (.int .i64 b))=some (decide (a=b)):=by
 have h:yEq Try.prog 10000 3 (.sc (.int .i64) (.var 0 [])) (.sc (.int .i64) (.var 1 []))=some (.bin .eql (.int .i64) (.var 0 []) (.var 1 [])):=by kernel_rfl
 have h2:=Oi (P:=Try.prog) (ρ:=[.p (.int .i64 a),.p (.int .i64 b)]) h;refine h2.trans ?_;show some (a == b)=_;rw [ay2]
theorem alx (a b:dP):aeq Try.prog 10000 27 (.agg a.enc) (.agg b.enc)=some (decide (a=b)):=by
 have h:yEq Try.prog 10000 27 (.agg (kG 0 [] 0 dP.jY)) (.agg (kG 1 [] 0 dP.jY))=some (.and (.bin .eql .str (.var 0 [0]) (.var 1 [0])) (.bin .eql (.int .i64) (.var 0 [1]) (.var 1 [1]))):=by kernel_rfl
 have h2:=Oi (P:=Try.prog) (ρ:=[a.av,b.av]) h;refine h2.trans ?_;congr 1;show (Dw a.Str b.Str&&dU a.Sym b.Sym)=decide (a=b);cases a;cases b;simp [Dw,dU,Qy,Bool.decide_and,ay2]
def ao_ : Lo:=
 let p0:Pc:=((qG dF (.li 5000)),false)::[];let p1:Pc:=(aBe,false)::p0;let p2:Pc:=((qL (V 2) dF),true)::p1
 .mk [(aBe,false),((qG dF (.li 5000)),false)] 1 2 [oO,zz4] [((.not (qL (V 2) dF)),1,[(zB (V 1))]),((qG (.rlen (W 3 6)) (.li 100)),2,[avN]),((.lb true),0,[(zB (V 1)),ax4])] [(p2,(.row (W 0 0) (V 2) (cV 3 dJ.jY)))] [] [1,1] []
def apa : LH:=.mk [azN] (mI dF (V 2)) [(dF,1)] [] 0 [] []
def wM (r:Bool×Bool×Bool):Nat×List AV:=rk2 r.1 [eB r.2.1] [eB r.2.2]
theorem CV (x0:dH):∀(n:Nat) (u1:Bool) (u2:Int),Gs Try.prog sT ao_ apa [dH.av x0] n [eB u1,eI u2] (wM (wK x0 n u1 u2))
 |0,u1,u2=>l0|n+1,u1,u2=>
  let v3:dJ:=x0.Objects.getD (u2:Int).toNat default
  lmk rfl [dJ.av v3] xn (wR rfl<|wn) ln <|
   rc wM rx<|rc wM rx<|rl (rg (CV x0 n _ _))
def R20 : kR:=
 ⟨[((.or aBe (qG dF (.li 5000))),avN),((.not avx),(zB (V 3))),((.lb true),oO)],
 [],[ao_]⟩
def H20 : LH:=.mk [] (.li 0) [] [] 0 [apa] []
theorem e20 : pK Try.prog jI jJ Di (Df kA 20 [3,2] [(0,(.mk [1] (.mk [(2,(.sc .bool)),(3,(.sc kI))] [] [] 19 []) [(.normal,(.mk [(2,(.sc .bool))] [] [] 19 [])),(.ret,(.mk [(2,(.sc .bool))] [] [] 19 []))]))]) 3 200 20 [.agg atq] 1=some R20:=by kernel_rfl
theorem Vf (x0:dH):CT Try.prog sT 20 [dH.av x0] (eB (IE x0)):=
 let r1:Bool×Bool×Bool:=wK x0 (x0.Objects.length+1) false 0
 Gx oJ fE fF e20 H20 (by kernel_rfl) [dH.av x0,eI (mg r1.1),eB r1.2.1,eB r1.2.2] xn
  wn
  (lc2 (CV x0 (x0.Objects.length+1) false 0) <|
  ln)
  (nO (fun r=>.p (.bool r)) rfl rfl (nO (fun r=>.p (.bool r)) rfl rfl (oQ rfl)))
theorem Vg (x0:dH):PC Try.prog 20 [dH.av x0] (eB (IE x0)):=(Vf x0 trivial).1
def aoW : Lo:=
 let p0:Pc:=((qL (V 3) dF),true)::[];let p1:Pc:=((W 8 0),false)::p0;let p2:Pc:=((W 9 1),false)::p1
 .mk [((qL (V 3) dF),true)] 5 3 [(zB (V 2)),(zI (V 3)),(.slc [] false)] [((.not (.not (W 8 0))),1,[(zB (V 5)),(zI (V 6)),(zL (V 7))]),((W 9 1),2,[avN,(zL (V 7))]),((uE (W 11 1) (.li 1)),1,[(zB (V 5)),(zI (V 6)),(zL (V 10))]),((.lb true),0,[(zB (V 5)),(zI (W 11 4)),(zL (V 10))])] [(p0,(.tm (qM (.li 0) (V 6)))),
 (p0,(.tm (qL (V 6) dF))),
 (p0,(.rd (false,1) (V 4) (V 6) 0 (zB (W 8 0)))),
 (p1,(.look 3 (.mk false 1 false 1) (V 7) (zI (V 6)) oO (W 9 0) (zB (W 9 1)))),
 (p2,(.put 3 (.mk false 1 false 1) (V 7) (zI (V 6)) avN (V 10))),
 (p2,(.row (W 0 0) (V 6) (cV 11 dJ.jY)))] [] [3,2] []
def aoX : LH:=.mk [(qM (.li 0) (V 6)),(qL (V 6) dF)] .nl [] [([((uN (W 11 1) (.li 1)),true)],(qM (.li 0) (W 11 4))),([((uN (W 11 1) (.li 1)),true),((qL (V 6) dF),true),((qM (.li 0) (V 6)),true)],(qL (W 11 4) dF))] 0 [] []
def sZ (r:Bool×Bool×Int×List (Int×Bool)×Bool×List (Int×Bool)):Nat×List AV:=rk2 r.1 [eB r.2.1,eI r.2.2.1,eL (yQ Bc rowB) r.2.2.2.1] [eB r.2.2.2.2.1,eL (yQ Bc rowB) r.2.2.2.2.2]
theorem Eh (x0:dH)(v1:List Bool)(u2:Bool)(u3:Int)(u4:List Bool):∀(n:Nat) (u5:Bool) (u6:Int) (u7:List (Int×Bool)) (hP:Ze x0) (hB:x0.Objects.length<=4294967296) (_:jM x0 u4 n u5 u6 u7=true),Gs Try.prog sT aoW aoX [dH.av x0,eL rowB v1,eB u2,eI u3,eL rowB u4] n [eB u5,eI u6,eL (yQ Bc rowB) u7] (sZ (f_ x0 u4 n u5 u6 u7))
 |0,u5,u6,u7,_,_,hE=>absurd (show false=true from hE) Bool.false_ne_true|n+1,u5,u6,u7,hP,hB,hE=>
  let v8:Bool:=u4.getD (u6:Int).toNat default;let v9:Bool×Bool:=mJ false u6 u7;let v10:List (Int×Bool):=mM u6 true u7;let v11:dJ:=x0.Objects.getD (u6:Int).toNat default;have hE:(bif (!(!v8)) then true
  else bif v9.2 then true
  else bif (dU v11.fA.Kind 1) then true
  else jM x0 u4 n u5 v11.fA.Ref v10)=true:=hE
  lmk rfl [.agg (rowB v8),.agg (eB v9.1::rowB v9.2),eL (yQ Bc rowB) v10,dJ.av v11] (xp (fun h=>decide_eq_true (alf hP (aa2.1 (h.at 0 rfl))))<|xp (fun h=>decide_eq_true (aoP hP (aa2.1 (h.at 0 rfl)) (of_decide_eq_true (h.at 1 rfl)) (of_decide_eq_true (h.at 2 rfl))))<|xn) (wT <|
  wT <|
  wRd rfl <|
  aoL (f:=Bc) (g:=rowB) aoV u6 false rfl <|
  asO (f:=Bc) (g:=rowB) aoV u6 true rfl <|
  wR rfl <|
  wn) ln <|
   rcf sZ (fun g0=>rx)<|fun g0=>rcf sZ (fun g1=>rx)<|fun g1=>rcf sZ (fun g2=>rx)<|fun g2=>rl (rg (Eh x0 v1 u2 u3 u4 n _ _ _ hP hB (ak6 g2 (ak6 g1 (ak6 g0 hE)))))
def aoY : Lo:=
 let p0:Pc:=((qL (V 3) dF),true)::[];let p1:Pc:=((qE (V 5) (.li 0)),true)::p0
 .mk [] 2 3 [oO,zz4,(zL (V 1))] [((.not (qL (V 3) dF)),1,[(zB (V 2)),(zL (V 4))]),((.not (qE (V 5) (.li 0))),2,[(zB (V 9)),(zL (V 4))]),((.lb true),0,[(zB (V 6)),awu,(zL (V 11))])] [(p1,(.mark (.mk false 1 false 1) (V 8) (V 4) dF (V 11)))] [aoW] [2,2] []
def aoZ : LH:=.mk [awz,(qE (.rlen (V 4)) awp)] (mI dF (V 3)) [(dF,1)] [] 1 [aoX] []
def yj (r:Bool×Bool×List Bool×Bool×List Bool):Nat×List AV:=rk2 r.1 [eB r.2.1,eL rowB r.2.2.1] [eB r.2.2.2.1,eL rowB r.2.2.2.2]
theorem Ei (x0:dH)(v1:List Bool):∀(n:Nat) (u2:Bool) (u3:Int) (u4:List Bool) (hP:Ze x0) (hB:x0.Objects.length<=4294967296) (k0:0<=u3),Gs Try.prog sT aoY aoZ [dH.av x0,eL rowB v1] n [eB u2,eI u3,eL rowB u4] (yj (jZ x0 n u2 u3 u4))
 |0,u2,u3,u4,_,_,_=>l0|n+1,u2,u3,u4,hP,hB,k0=>
  let r5:Bool×Bool×Int×List (Int×Bool)×Bool×List (Int×Bool):=f_ x0 u4 (x0.Objects.length+3) u2 u3 [];let v11:List Bool:=MS r5.2.2.2.1 u4
  lmk rfl [eI (mg r5.1),eB r5.2.1,eI r5.2.2.1,eL (yQ Bc rowB) r5.2.2.2.1,eB r5.2.2.2.2.1,eL (yQ Bc rowB) r5.2.2.2.2.2,eL rowB v11] xn (asN (u:=r5.2.2.2.1) (l:=u4) rfl rfl (by intro h;exact abE hP (fun e he=>absurd he List.not_mem_nil) k0 (of_decide_eq_true (h.at 1 rfl)))<|wn) (lc2 (Eh x0 v1 u2 u3 u4 (x0.Objects.length+3) u2 u3 [] hP hB (O8 hP)) (hn:=Int.natCast_pos.2 (Nat.succ_pos _)) <|
  ln) <|
   rcf yj (fun g0=>rx)<|fun g0=>rcf yj (fun g1=>rx)<|fun g1=>rl (rg (Ei x0 v1 n _ _ _ hP hB (aqy hB k0 g0)))
def R47 : kR:=
 ⟨[(awL,(zB (V 5))),((.lb true),oO)],
 [([],(.mk dF dF [oO] (V 1)))],[aoY]⟩
def H47 : LH:=.mk [] (.li 0) [] [] 0 [aoZ] []
theorem e47 : pK Try.prog jI jJ Di (Df kA 47 [4,2,6,5,8,16] [(0,(.mk [1,3,15] (.mk [(2,(.sc .bool)),(16,(.sc kI))] [] [(5,1)] 11 []) [(.normal,(.mk [(2,(.sc .bool))] [] [(5,1)] 11 [])),(.ret,(.mk [(2,(.sc .bool))] [] [(5,1)] 11 []))])),(2,(.mk [1,3,4,5,15,16] (.mk [(2,(.sc .bool)),(6,(.sc kI))] [] [(14,(.map (.mk false 1 false 1)))] 18 []) [(.normal,(.mk [(2,(.sc .bool)),(6,(.sc kI))] [] [(14,(.map (.mk false 1 false 1)))] 18 [])),(.ret,(.mk [(2,(.sc .bool))] [] [(14,(.map (.mk false 1 false 1)))] 18 []))]))]) 3 200 47 [.agg atq] 1=some R47:=by kernel_rfl
theorem VD (x0:dH)(hP:Ze x0)(hB:x0.Objects.length<=4294967296):CT Try.prog sT 47 [dH.av x0] (eB (qy x0)):=
 let v1:List Bool:=List.replicate ((jT dJ.enc x0.Objects):Int).toNat false;let r2:Bool×Bool×List Bool×Bool×List Bool:=jZ x0 (x0.Objects.length+1) false 0 v1
 Gx oJ fE fF e47 H47 (by kernel_rfl) [dH.av x0,eL rowB v1,eI (mg r2.1),eB r2.2.1,eL rowB r2.2.2.1,eB r2.2.2.2.1,eL rowB r2.2.2.2.2] xn
  (wMk (f:=rowB) false rfl<|wn)
  (lc2 (Ei x0 v1 (x0.Objects.length+1) false 0 v1 hP hB (Int.le_refl _)) <|
  ln)
  (nO (fun r=>.p (.bool r)) rfl rfl (oQ rfl))
def avd : kR:=
 ⟨[((.lb true),(zF (V 1)))],
 [([],(.call 121 avZ (zF (V 1))))],[]⟩
theorem ave : pK Try.prog jI jJ Di (Df kA 112 [] []) 3 200 112 [zF (V 0)] 1=some avd:=by kernel_rfl
theorem VE (x0:Nat)(h0:Ij x0):CT Try.prog sT 112 [eF x0] (eF (Fj x0)):=
 let v1:Nat:=iH x0
 Gx oJ fE fF ave K_ (by kernel_rfl) [eF x0,eF v1] xn
  (wCp (by intro h;exact ctP (CQ x0 h0))<|wn)
  ln
  (oQ rfl)
def avf : kR:=
 ⟨[((.lb true),(zF (V 2)))],
 [([],(.call 124 avZ (.sc (.int .u64) (V 1)))),
 ([],(.call 123 [(.sc (.int .u64) (.bin .andNot (.int .u64) (V 1) (.li 9223372036854775808)))] (zF (V 2))))],[]⟩
theorem avg : pK Try.prog jI jJ Di (Df kA 113 [] []) 3 200 113 [zF (V 0)] 1=some avf:=by kernel_rfl
theorem abP (x0:Nat):CT Try.prog sT 113 [eF x0] (eF (MW x0)):=
 let v1:Int:=mY x0;let v2:Nat:=oC (nK .u64 v1 9223372036854775808)
 Gx oJ fE fF avg K_ (by kernel_rfl) [eF x0,.p (.int .u64 v1),eF v2] xn
  (wC (ctP (tV x0)) <|
  wC (ctP (vI (nK .u64 v1 9223372036854775808))) <|
  wn)
  ln
  (oQ rfl)
def avh : kR:=
 ⟨[((.lb true),(zB (qL (.conv .i64 (V 1)) (.li 0))))],
 [([],(.call 124 avZ (.sc (.int .u64) (V 1))))],[]⟩
theorem avi : pK Try.prog jI jJ Di (Df kA 114 [] []) 3 200 114 [zF (V 0)] 1=some avh:=by kernel_rfl
theorem Qr (x0:Nat):CT Try.prog sT 114 [eF x0] (eB (zM x0)):=
 let v1:Int:=mY x0
 Gx oJ fE fF avi K_ (by kernel_rfl) [eF x0,.p (.int .u64 v1)] xn
  (wC (ctP (tV x0))<|wn)
  ln
  (oQ rfl)
def avj : kR:=
 let p0:Pc:=(ax0,false)::[];let p1:Pc:=((.bin .eql .jL (V 1) (V 0)),true)::p0;let p2:Pc:=(aCV,true)::p0;let p3:Pc:=(aAz,false)::p2
 ⟨[((.lb true),(zB (.or ax0 (.and aCV (.or aAz avO)))))],
 [(p0,(.call 112 avZ (zF (V 1)))),
 (p1,(.call 113 avZ (zF (V 2)))),
 (p3,(.call 114 avZ (zB (V 3))))],[]⟩
theorem avk : pK Try.prog jI jJ Di (Df kA 103 [] []) 3 200 103 [zF (V 0)] 1=some avj:=by kernel_rfl
theorem Lc (x0:Nat):CT Try.prog sT 103 [eF x0] (eB (uG x0)):=
 let v1:Nat:=Fj x0;let v2:Nat:=MW x0;let v3:Bool:=zM x0
 Gx oJ fE fF avk K_ (by kernel_rfl) [eF x0,eF v1,eF v2,eB v3] xn
  (wCp (by intro h;exact VE x0 (auI (h.at 0 rfl))) <|
  wC (abP x0) <|
  wC (Qr x0) <|
  wn)
  ln
  (oQ rfl)
def R84 : kR:=
 let p0:Pc:=((qG (.slen (W 0 2)) (.li 4096)),false)::[];let p1:Pc:=((qL (W 0 3) (.li 0)),false)::p0;let p2:Pc:=(aAA,false)::p1;let p3:Pc:=(av2,true)::p2;let p4:Pc:=((.bin .neq .jL (W 0 1) avW),true)::p3;let p5:Pc:=((.bin .neq .jL (W 0 1) (.lf 0)),false)::p4;let p6:Pc:=(av2,false)::p2;let p7:Pc:=(av4,true)::p6;let p8:Pc:=(aCS,false)::p2;let p9:Pc:=((.and (.not av2) (.and av4 (.not (V 2)))),false)::p8;let p10:Pc:=(zz2,true)::p9
 ⟨[((.or (.or aAA (qL (W 0 3) (.li 0))) (qG (.slen (W 0 2)) (.li 4096))),oO),(aCS,oO),((.and (.not av2) (.and av4 (.not (V 2)))),oO),((.lb true),(zB (.and zz2 (V 3))))],
 [(p5,(.call 103 [(zF (W 0 1))] (zB (V 1)))),
 (p7,(.call 103 [(zF (W 0 1))] (zB (V 2)))),
 (p10,(.call 103 [(zF (.ite av2 (.lf 0) (.ite av4 (.lf 0) (W 0 1))))] (zB (V 3))))],[]⟩
theorem e84 : pK Try.prog jI jJ Di (Df kA 84 [] []) 3 200 84 [.agg ase] 1=some R84:=by kernel_rfl
theorem zV (x0:dL):CT Try.prog sT 84 [dL.av x0] (eB (iI x0)):=
 let v1:Bool:=uG x0.Num;let v2:Bool:=uG x0.Num;let v3:Bool:=uG (bif (dU x0.Kind 2) then 0 else (bif (dU x0.Kind 3) then 0 else x0.Num))
 Gx oJ fE fF e84 K_ (by kernel_rfl) [dL.av x0,eB v1,eB v2,eB v3] xn
  (wC (Lc x0.Num) <|
  wC (Lc x0.Num) <|
  wC (Lc (bif (dU x0.Kind 2) then 0 else (bif (dU x0.Kind 3) then 0 else x0.Num))) <|
  wn)
  ln
  (nO (fun r=>.p (.bool r)) rfl rfl (nO (fun r=>.p (.bool r)) rfl rfl (nO (fun r=>.p (.bool r)) rfl rfl (oQ rfl))))
def R68 : kR:=
 let p0:Pc:=((uE (W 0 0) (V 1)),true)::[]
 ⟨[((.lb true),(zB (.and (uE (W 0 0) (V 1)) (V 2))))],
 [(p0,(.call 84 [(.agg ase)] (zB (V 2))))],[]⟩
theorem e68 : pK Try.prog jI jJ Di (Df kA 68 [] []) 3 200 68 [.agg ase,zU (V 1)] 2=some R68:=by kernel_rfl
theorem Bq (x0:dL)(x1:Int):CT Try.prog sT 68 [dL.av x0,eU x1] (eB (oG x0 x1)):=
 let v2:Bool:=iI x0
 Gx oJ fE fF e68 K_ (by kernel_rfl) [dL.av x0,eU x1,eB v2] xn
  (wC (zV x0)<|wn)
  ln
  (oQ rfl)
def R60 : kR:=
 ⟨[((.lb true),(zB (.and (.bin .geq kU (W 0 0) (.li 6)) (.bin .leq kU (W 0 0) (.li 8)))))],
 [],[]⟩
theorem e60 : pK Try.prog jI jJ Di (Df kA 60 [] []) 3 200 60 [.agg ase] 1=some R60:=by kernel_rfl
theorem qZ (x0:dL):CT Try.prog sT 60 [dL.av x0] (eB (dR x0)):=
 Gx oJ fE fF e60 K_ (by kernel_rfl) [dL.av x0] xn
  wn
  ln
  (oQ rfl)
def R85 : kR:=
 ⟨[((W 0 17),(zU (.li 8))),((W 0 16),(zU (.li 7))),((.lb true),(zU (.li 6)))],
 [],[]⟩
theorem e85 : pK Try.prog jI jJ Di (Df kA 85 [] []) 3 200 85 [.agg (cV 0 dJ.jY)] 1=some R85:=by kernel_rfl
theorem Y5 (x0:dJ):CT Try.prog sT 85 [dJ.av x0] (eU (Eb x0)):=
 Gx oJ fE fF e85 K_ (by kernel_rfl) [dJ.av x0] xn
  wn
  ln
  (nO (fun r=>.p (.int .u8 r)) rfl rfl (nO (fun r=>.p (.int .u8 r)) rfl rfl (oQ rfl)))
def R67 : kR:=
 let p0:Pc:=((V 2),true)::[];let p1:Pc:=(avO,false)::p0;let p2:Pc:=((qL (W 1 3) dF),true)::p1
 ⟨[((.not (V 2)),oO),((.lb true),(zB (.or avO (.and (qL (W 1 3) dF) (uE (V 5) (W 1 0))))))],
 [([],(.call 84 [(.agg awF)] (zB (V 2)))),
 (p0,(.call 60 [(.agg awF)] (zB (V 3)))),
 (p2,(.row (W 0 0) (W 1 3) (cV 4 dJ.jY))),
 (p2,(.call 85 [awM] (zU (V 5))))],[]⟩
def H67 : LH:=.mk [] (.li 0) [] [([((V 2),true)],(qM (.li 0) (W 1 3)))] 0 [] []
theorem e67 : pK Try.prog jI jJ Di (Df kA 67 [] []) 3 200 67 [.agg atq,.agg awF] 2=some R67:=by kernel_rfl
theorem yu (x0:dH)(x1:dL):CT Try.prog sT 67 [dH.av x0,dL.av x1] (eB (dZ x0 x1)):=
 let v2:Bool:=iI x1;let v3:Bool:=dR x1;let v4:dJ:=x0.Objects.getD (x1.Ref:Int).toNat default;let v5:Int:=Eb v4
 Gx oJ fE fF e67 H67 (by kernel_rfl) [dH.av x0,dL.av x1,eB v2,eB v3,dJ.av v4,eU v5] (xp (fun h=>decide_eq_true (QT ( (h.at 0 rfl))))<|xn)
  (wC (zV x1) <|
  wC (qZ x1) <|
  wR rfl <|
  wC (Y5 v4) <|
  wn)
  ln
  (nO (fun r=>.p (.bool r)) rfl rfl (oQ rfl))
def ao0 : Lo:=
 let p0:Pc:=(axR,false)::[];let p1:Pc:=(ax5,false)::p0;let p2:Pc:=((V 3),true)::p1;let p3:Pc:=((W 1 5),false)::p2;let p4:Pc:=(aws,false)::p3;let p5:Pc:=((.and (V 4) (V 5)),false)::p4;let p6:Pc:=((qL (V 7) (.li 2)),true)::p5;let p7:Pc:=((.not (V 10)),false)::p6
 .mk [((.and (V 4) (V 5)),false),(aws,false),((W 1 5),false),((V 3),true),(ax5,false),(axR,false)] 6 3 [oO,zz4,(.slc [[(zU (W 1 7)),(zF (W 1 8)),(zS (W 1 9)),(zI (W 1 10))],[(zU (W 1 11)),(zF (W 1 12)),(zS (W 1 13)),(zI (W 1 14))]] false)] [((.not (qL (V 7) (.li 2))),1,[(zB (V 6)),(zL (V 8))]),((.or (.or (.not (V 10)) (.not (V 11))) (qH (W 9 3) (V 2))),2,[oO,(zL (V 8))]),((.lb true),0,[(zB (V 6)),(zI (aI (V 7) (.li 1))),(zL (V 8))])] [(p6,(.tm (qM (.li 0) (V 7)))),
 (p6,(.rd (true,4) (V 8) (V 7) 0 (.agg (cV 9 dL.jY)))),
 (p6,(.call 60 [(.agg (cV 9 dL.jY))] (zB (V 10)))),
 (p7,(.call 67 [zz6,(.agg (cV 9 dL.jY))] (zB (V 11))))] [] [2,2] []
def ao1 : LH:=.mk [(qM (.rlen (W 1 6)) (V 7)),(qE (.rlen (V 8)) (.li 2))] (mI (.li 2) (V 7)) [((.li 2),1)] [] 3 [] []
def yw (r:Bool×Bool×List dL×Bool×List dL):Nat×List AV:=rk2 r.1 [eB r.2.1,eL dL.enc r.2.2.1] [eB r.2.2.2.1,eL dL.enc r.2.2.2.2]
theorem Ej (x0:dH)(x1:dJ)(x2:Int)(v3:Bool)(v4:Bool)(v5:Bool):∀(n:Nat) (u6:Bool) (u7:Int) (u8:List dL),Gs Try.prog sT ao0 ao1 [dH.av x0,dJ.av x1,eI x2,eB v3,eB v4,eB v5] n [eB u6,eI u7,eL dL.enc u8] (yw (jO x0 x2 n u6 u7 u8))
 |0,u6,u7,u8=>l0|n+1,u6,u7,u8=>
  let v9:dL:=u8.getD (u7:Int).toNat default;let v10:Bool:=dR v9;let v11:Bool:=dZ x0 v9
  lmk rfl [dL.av v9,eB v10,eB v11] xn (wT <|
  wRd rfl <|
  wC (qZ v9) <|
  wC (yu x0 v9) <|
  wn) ln <|
   rc yw rx<|rc yw rx<|rl (rg (Ej x0 x1 x2 v3 v4 v5 n _ _ _))
def R66 : kR:=
 let p0:Pc:=((.or aws (W 1 5)),false)::[];let p1:Pc:=(axR,false)::[];let p2:Pc:=(ax5,false)::p1;let p3:Pc:=((V 3),true)::p2;let p4:Pc:=((W 1 5),false)::p3;let p5:Pc:=(aws,false)::p4;let p6:Pc:=((V 4),true)::p5;let p7:Pc:=((.and (V 4) (V 5)),false)::p5;let p8:Pc:=((qE (V 6) (.li 0)),true)::p7
 ⟨[((.or (.or (.or (.or aws (W 1 5)) avO) ax5) axR),oO),((.and (V 4) (V 5)),avN),((.not (qE (V 6) (.li 0))),(zB (V 9))),((.lb true),(zB (.and (.bin .eql .bool (W 11 16) (W 1 16)) (.bin .eql .bool (W 11 17) (W 1 17)))))],
 [(p0,(.call 68 [(.agg (cW 1 1 dL.jY)),(zU (.li 1))] (zB (V 3)))),
 (p5,(.call 68 [awt,(zU (.li 1))] (zB (V 4)))),
 (p6,(.call 68 [ax1,(zU (.li 1))] (zB (V 5)))),
 (p8,(.row (W 0 0) (W 1 10) (cV 11 dJ.jY)))],[ao0]⟩
def H66 : LH:=.mk [] (.li 0) [] [([((qE (V 6) (.li 0)),true)],(qM (.li 0) (W 1 10))),([((qE (V 6) (.li 0)),true)],(qL (W 1 10) dF))] 0 [ao1] []
theorem e66 : pK Try.prog jI jJ Di (Df kA 66 [61,60,62,63,66,68,67,69,52,6] [(0,(.mk [2,3,4,50,51] (.mk [(6,(.sc .bool)),(52,(.sc kI))] [] [(43,4)] 46 []) [(.normal,(.mk [(6,(.sc .bool))] [] [(43,4)] 46 [])),(.ret,(.mk [(6,(.sc .bool))] [] [(43,4)] 46 []))]))]) 3 200 66 [.agg atq,.agg (cV 1 dJ.jY),zI (V 2)] 3=some R66:=by kernel_rfl
theorem VF (x0:dH)(x1:dJ)(x2:Int):CT Try.prog sT 66 [dH.av x0,dJ.av x1,eI x2] (eB (sJ x0 x1 x2)):=
 let v3:Bool:=oG x1.fA 1;let v4:Bool:=oG x1.Target 1;let v5:Bool:=oG x1.Handler 1;let r6:Bool×Bool×List dL×Bool×List dL:=jO x0 x2 ((2:Int).toNat+1) false 0 [x1.Target,x1.Handler];let v11:dJ:=x0.Objects.getD (x1.Target.Ref:Int).toNat default
 Gx oJ fE fF e66 H66 (by kernel_rfl) [dH.av x0,dJ.av x1,eI x2,eB v3,eB v4,eB v5,eI (mg r6.1),eB r6.2.1,eL dL.enc r6.2.2.1,eB r6.2.2.2.1,eL dL.enc r6.2.2.2.2,dJ.av v11] (xp (fun h=>decide_eq_true (ald (rQ.1 (h.at 0 rfl))))<|xp (fun h=>decide_eq_true (ale (rQ.1 (h.at 0 rfl))))<|xn)
  (wC (Bq x1.fA 1) <|
  wC (Bq x1.Target 1) <|
  wC (Bq x1.Handler 1) <|
  wR rfl <|
  wn)
  (lc2 (Ej x0 x1 x2 v3 v4 v5 ((2:Int).toNat+1) false 0 [x1.Target,x1.Handler]) <|
  ln)
  (nO (fun r=>.p (.bool r)) rfl rfl (nO (fun r=>.p (.bool r)) rfl rfl (nO (fun r=>.p (.bool r)) rfl rfl (oQ rfl))))
def R86 : kR:=
 ⟨[((.or (.or (qL (W 0 1) (.li 0)) (qG avX (.li 4096))) (.and av5 (sN (W 0 0) (.ls [])))),avQ),((.lb true),zz4)],
 [],[]⟩
theorem e86 : pK Try.prog jI jJ Di (Df kA 86 [] []) 3 200 86 [.agg (cV 0 dP.jY)] 1=some R86:=by kernel_rfl
theorem Y6 (x0:dP):CT Try.prog sT 86 [dP.av x0] (eI (vw x0)):=
 Gx oJ fE fF e86 K_ (by kernel_rfl) [dP.av x0] xn
  wn
  ln
  (nO (fun r=>.p (.int .i64 r)) rfl rfl (oQ rfl))
def R80 : kR:=
 ⟨[((.lb true),(zB (uN (.bin .and kU (W 0 0) (.li 3)) (.li 0))))],
 [],[]⟩
theorem e80 : pK Try.prog jI jJ Di (Df kA 80 [] []) 3 200 80 [.agg zz7] 1=some R80:=by kernel_rfl
theorem IG (x0:dN):CT Try.prog sT 80 [dN.av x0] (eB (kE x0)):=
 Gx oJ fE fF e80 K_ (by kernel_rfl) [dN.av x0] xn
  wn
  ln
  (oQ rfl)
def R81 : kR:=
 ⟨[((.lb true),(zB (uN (.bin .and kU (W 0 0) (.li 12)) (.li 0))))],
 [],[]⟩
theorem e81 : pK Try.prog jI jJ Di (Df kA 81 [] []) 3 200 81 [.agg zz7] 1=some R81:=by kernel_rfl
theorem Em (x0:dN):CT Try.prog sT 81 [dN.av x0] (eB (iy x0)):=
 Gx oJ fE fF e81 K_ (by kernel_rfl) [dN.av x0] xn
  wn
  ln
  (oQ rfl)
def avl : kR:=
 ⟨[((.lb true),(zB (.or (uE (W 0 0) (.li 7)) (uE (W 0 0) (.li 8)))))],
 [],[]⟩
theorem avm : pK Try.prog jI jJ Di (Df kA 111 [] []) 3 200 111 [.agg ase] 1=some avl:=by kernel_rfl
theorem U9 (x0:dL):CT Try.prog sT 111 [dL.av x0] (eB (Io x0)):=
 Gx oJ fE fF avm K_ (by kernel_rfl) [dL.av x0] xn
  wn
  ln
  (oQ rfl)
def avn : kR:=
 let p0:Pc:=((V 1),true)::[];let p1:Pc:=(ax8,false)::p0
 ⟨[((.lb true),(zB (.and (V 1) (.or ax8 (V 2)))))],
 [([],(.call 84 [(.agg ase)] (zB (V 1)))),
 (p1,(.call 111 [(.agg ase)] (zB (V 2))))],[]⟩
theorem avo : pK Try.prog jI jJ Di (Df kA 101 [] []) 3 200 101 [.agg ase] 1=some avn:=by kernel_rfl
theorem II (x0:dL):CT Try.prog sT 101 [dL.av x0] (eB (lC x0)):=
 let v1:Bool:=iI x0;let v2:Bool:=Io x0
 Gx oJ fE fF avo K_ (by kernel_rfl) [dL.av x0,eB v1,eB v2] xn
  (wC (zV x0) <|
  wC (U9 x0) <|
  wn)
  ln
  (oQ rfl)
def R78 : kR:=
 let p0:Pc:=((uN (.bin .andNot kU (W 0 0) (.li 63)) (.li 0)),false)::[];let p1:Pc:=((V 1),true)::p0;let p2:Pc:=(aAt,false)::[];let p3:Pc:=((.or aAt avO),false)::[];let p4:Pc:=((.or (.or aAt avO) (.not (V 4))),false)::[]
 ⟨[((.or (.or (.or aAt avO) (.not (V 4))) (.not (V 5))),(zI (.li 90))),((.or (.or (.and (uN (.bin .and kU azO (.li 1)) (.li 0)) (.not (.and (uE (W 0 1) (.li 0)) (.and (.bin .eql .jL (W 0 2) (.lf 0)) (.and (sE (W 0 3) (.ls [])) (qE (W 0 4) (.li 0))))))) (.and (uN (.bin .and kU azO (.li 4)) (.li 0)) (.not (.and (uE (W 0 5) (.li 0)) (.and (.bin .eql .jL (W 0 6) (.lf 0)) (.and (sE (W 0 7) (.ls [])) (qE (W 0 8) (.li 0)))))))) (.and (uN (.bin .and kU azO (.li 8)) (.li 0)) (.not (.and (uE (W 0 9) (.li 0)) (.and (.bin .eql .jL (W 0 10) (.lf 0)) (.and (sE (W 0 11) (.ls [])) (qE (W 0 12) (.li 0)))))))),(zI (.li 90))),((.or (.or (.and (uN (.bin .and kU azO (.li 2)) (.li 0)) (W 0 13)) (.and (uN (.bin .and kU azO (.li 16)) (.li 0)) (W 0 14))) (.and (uN (.bin .and kU azO (.li 32)) (.li 0)) (W 0 15))),(zI (.li 90))),((.lb true),zz4)],
 [(p0,(.call 80 [(.agg zz7)] (zB (V 1)))),
 (p1,(.call 81 [(.agg zz7)] (zB (V 2)))),
 (p2,(.call 84 [aAb] (zB (V 3)))),
 (p3,(.call 101 [(.agg (cW 0 5 dL.jY))] (zB (V 4)))),
 (p4,(.call 101 [(.agg (cW 0 9 dL.jY))] (zB (V 5))))],[]⟩
theorem e78 : pK Try.prog jI jJ Di (Df kA 78 [] []) 3 200 78 [.agg zz7] 1=some R78:=by kernel_rfl
theorem VG (x0:dN):CT Try.prog sT 78 [dN.av x0] (eI (rX x0)):=
 let v1:Bool:=kE x0;let v2:Bool:=iy x0;let v3:Bool:=iI x0.Value;let v4:Bool:=lC x0.Get;let v5:Bool:=lC x0.Set
 Gx oJ fE fF e78 K_ (by kernel_rfl) [dN.av x0,eB v1,eB v2,eB v3,eB v4,eB v5] xn
  (wC (IG x0) <|
  wC (Em x0) <|
  wC (zV x0.Value) <|
  wC (II x0.Get) <|
  wC (II x0.Set) <|
  wn)
  ln
  (nO (fun r=>.p (.int .i64 r)) rfl rfl (nO (fun r=>.p (.int .i64 r)) rfl rfl (nO (fun r=>.p (.int .i64 r)) rfl rfl (oQ rfl))))
def R79 : kR:=
 ⟨[((.lb true),(.agg [(zU (.ite (V 1) (.bin .or kU (W 0 0) (.li 60)) (.bin .or kU (W 0 0) (.li 51)))),(zU (W 0 1)),(zF (W 0 2)),(zS (W 0 3)),(zI (W 0 4)),(zU (W 0 5)),(zF (W 0 6)),(zS (W 0 7)),(zI (W 0 8)),(zU (W 0 9)),(zF (W 0 10)),(zS (W 0 11)),(zI (W 0 12)),(zB (W 0 13)),(zB (W 0 14)),(zB (W 0 15))]))],
 [([],(.call 81 [(.agg zz7)] (zB (V 1))))],[]⟩
theorem e79 : pK Try.prog jI jJ Di (Df kA 79 [] []) 3 200 79 [.agg zz7] 1=some R79:=by kernel_rfl
theorem VH (x0:dN):CT Try.prog sT 79 [dN.av x0] (dN.av (kS x0)):=
 let v1:Bool:=iy x0
 Gx oJ fE fF e79 K_ (by kernel_rfl) [dN.av x0,eB v1] xn
  (wC (Em x0)<|wn)
  ln
  (oQ rfl)
def R61 : kR:=
 let p0:Pc:=((qN (V 1) (.li 0)),false)::[]
 ⟨[((qN (V 1) (.li 0)),(.gW [(.agg [(zU (.li 0)),(zU (.li 0)),(zF (.lf 0)),(zS (.ls [])),zz4,(zU (.li 0)),(zF (.lf 0)),(zS (.ls [])),zz4,(zU (.li 0)),(zF (.lf 0)),(zS (.ls [])),zz4,oO,oO,oO]),(zI (V 1))])),((.lb true),(.gW [(.agg (cV 2 dN.jY)),zz4]))],
 [([],(.call 78 [(.agg zz7)] (zI (V 1)))),
 (p0,(.call 79 [(.agg zz7)] (.agg (cV 2 dN.jY))))],[]⟩
theorem e61 : pK Try.prog jI jJ Di (Df kA 61 [] []) 3 200 61 [.agg zz7] 1=some R61:=by kernel_rfl
theorem Pj (x0:dN):CT Try.prog sT 61 [dN.av x0] (zK (yF x0)):=
 let v1:Int:=rX x0;let v2:dN:=kS x0
 Gx oJ fE fF e61 K_ (by kernel_rfl) [dN.av x0,eI v1,dN.av v2] xn
  (wC (VG x0) <|
  wC (VH x0) <|
  wn)
  ln
  (nO zK rfl rfl (oQ rfl))
def R87 : kR:=
 ⟨[((.lb true),(zB (.and (qE (W 1 1) (.li 0)) (uE (.var 1 [0,0]) (W 0 0)))))],
 [([],(.call 61 [(.agg zz7)] (.gW [(.agg (kG 1 [0] 0 dN.jY)),(zI (W 1 1))])))],[]⟩
theorem e87 : pK Try.prog jI jJ Di (Df kA 87 [] []) 3 200 87 [.agg zz7] 1=some R87:=by kernel_rfl
theorem U_ (x0:dN):CT Try.prog sT 87 [dN.av x0] (eB (rY x0)):=
 let v1:dN×Int:=yF x0
 Gx oJ fE fF e87 K_ (by kernel_rfl) [dN.av x0,zK v1] xn
  (wC (Pj x0)<|wn)
  ln
  (oQ rfl)
def ao2 : Lo:=
 let p0:Pc:=(ayb,false)::[];let p1:Pc:=((qL (V 2) zz9),true)::p0;let p2:Pc:=((qN (V 5) (.li 0)),false)::p1;let p3:Pc:=((V 6),true)::p2;let p4:Pc:=((qG (W 7 1) (.li 0)),false)::p3
 .mk [(ayb,false)] 1 3 [zz4,zz4,(.slc [] false)] [((.not (qL (V 2) zz9)),1,[(zI (V 1)),(zL (V 3))]),((qN (V 5) (.li 0)),2,[(zI (V 5)),(zL (V 3))]),((.not (V 6)),2,[(zI (.li 90)),(zL (V 3))]),((qG (W 7 1) (.li 0)),2,[(zI (.li 100)),(zL (V 3))]),((.lb true),0,[(zI (V 1)),ax4,(zL (V 8))])] [(p1,(.row (V 0) (V 2) (cV 4 dI.jY))),
 (p1,(.call 86 [awJ] (zI (V 5)))),
 (p2,(.call 87 [(.agg (cW 4 2 dN.jY))] (zB (V 6)))),
 (p3,(.look 27 (.mk true 2 false 1) (V 3) awJ zz4 (W 7 0) (zI (W 7 1)))),
 (p4,(.put 27 (.mk true 2 false 1) (V 3) awJ ax4 (V 8)))] [] [2,2] [(V 0)]
def ao3 : LH:=.mk [(qM (.li 0) (V 1)),(qM (V 1) (V 2))] (mI zz9 (V 2)) [(zz9,1)] [] 0 [] []
def oK (r:Bool×Int×List (dP×Int)×Int×List (dP×Int)):Nat×List AV:=rk2 r.1 [eI r.2.1,eL (yQ dP.enc Bc) r.2.2.1] [eI r.2.2.2.1,eL (yQ dP.enc Bc) r.2.2.2.2]
theorem CU (x0:List dI):∀(n:Nat) (u1:Int) (u2:Int) (u3:List (dP×Int)),Gs Try.prog sT ao2 ao3 [eL dI.enc x0] n [eI u1,eI u2,eL (yQ dP.enc Bc) u3] (oK (nD x0 n u1 u2 u3))
 |0,u1,u2,u3=>l0|n+1,u1,u2,u3=>
  let v4:dI:=x0.getD (u2:Int).toNat default;let v5:Int:=vw v4.Key;let v6:Bool:=rY v4.dQ;let v7:Bool×Int:=mJ 0 v4.Key u3;let v8:List (dP×Int):=mM v4.Key (fK .i64 u2 1) u3
  lmk rfl [dI.av v4,eI v5,eB v6,.agg (eB v7.1::Bc v7.2),eL (yQ dP.enc Bc) v8] xn (wR rfl <|
  wC (Y6 v4.Key) <|
  wC (U_ v4.dQ) <|
  aoL (f:=dP.enc) (g:=Bc) alx v4.Key 0 rfl <|
  asO (f:=dP.enc) (g:=Bc) alx v4.Key (fK .i64 u2 1) rfl <|
  wn) ln <|
   rc oK rx<|rc oK rx<|rc oK rx<|rc oK rx<|rl (rg (CU x0 n _ _ _))
def R69 : kR:=
 ⟨[(ayb,(zI (.li 4))),((.not avx),(zI (V 4))),((.lb true),zz4)],
 [],[ao2]⟩
def H69 : LH:=.mk [] (.li 0) [] [] 0 [ao3] []
theorem e69 : pK Try.prog jI jJ Di (Df kA 69 [15,4,6,2] [(0,(.mk [3,13,14] (.mk [(2,(.sc kI)),(15,(.sc kI))] [] [(6,(.map (.mk true 2 false 1)))] 11 []) [(.normal,(.mk [(2,(.sc kI))] [] [(6,(.map (.mk true 2 false 1)))] 11 [])),(.ret,(.mk [(2,(.sc kI))] [] [(6,(.map (.mk true 2 false 1)))] 11 []))]))]) 3 200 69 [zL (V 0)] 1=some R69:=by kernel_rfl
theorem Va (x0:List dI):CT Try.prog sT 69 [eL dI.enc x0] (eI (jG x0)):=
 let r1:Bool×Int×List (dP×Int)×Int×List (dP×Int):=nD x0 (x0.length+1) 0 0 []
 Gx oJ fE fF e69 H69 (by kernel_rfl) [eL dI.enc x0,eI (mg r1.1),eI r1.2.1,eL (yQ dP.enc Bc) r1.2.2.1,eI r1.2.2.2.1,eL (yQ dP.enc Bc) r1.2.2.2.2] xn
  wn
  (lc2 (CU x0 (x0.length+1) 0 0 []) <|
  ln)
  (nO (fun r=>.p (.int .i64 r)) rfl rfl (nO (fun r=>.p (.int .i64 r)) rfl rfl (oQ rfl)))
def R59 : kR:=
 ⟨[((.lb true),(.agg [(zS (V 0)),zz4]))],
 [],[]⟩
theorem e59 : pK Try.prog jI jJ Di (Df kA 59 [] []) 3 200 59 [zS (V 0)] 1=some R59:=by kernel_rfl
theorem XB (x0:List UInt8):CT Try.prog sT 59 [eS x0] (dP.av (UL x0)):=
 Gx oJ fE fF e59 K_ (by kernel_rfl) [eS x0] xn
  wn
  ln
  (oQ rfl)
def ao4 : Lo:=
 let p0:Pc:=(aA8,false)::[];let p1:Pc:=(awN,false)::p0;let p2:Pc:=((sE (W 0 0) (.ls [])),false)::p1;let p3:Pc:=(av5,false)::p2;let p4:Pc:=((qL (V 4) avX),true)::p3;let p5:Pc:=((.bin .lss kU ax6 (.li 48)),false)::p4;let p6:Pc:=((.bin .gtr kU ax6 (.li 57)),false)::p4;let p7:Pc:=((.bin .lss kU ax6 (.li 48)),false)::p6
 .mk [(av5,false),((sE (W 0 0) (.ls [])),false),(awN,false),(aA8,false)] 1 4 [zz4,oO,zz4,zz4] [((.not (qL (V 4) avX)),1,[(zI (V 1)),(zB (V 2)),(zI (V 3))]),((.or (.bin .lss kU ax6 (.li 48)) (.bin .gtr kU ax6 (.li 57))),2,[zz4,oO]),((.lb true),0,[(zI (V 1)),(zB (V 2)),(zI (aI (.bin .mul kI (V 3) (.li 10)) (.conv .i64 (.bin .sub kU ax6 (.li 48))))),(zI (aI (V 4) (.li 1)))])] [(p4,(.tm (qM (.li 0) (V 4)))),
 (p5,(.tm (qM (.li 0) (V 4)))),
 (p7,(.tm (qM (.li 0) (V 4))))] [] [3,2] []
def ao5 : LH:=.mk [(qM (.li 0) (V 4))] (mI avX (V 4)) [(avX,1)] [] 1 [] []
def y7 (r:Bool×Int×Bool×Int×Int×Bool):Nat×List AV:=rk2 r.1 [eI r.2.1,eB r.2.2.1,eI r.2.2.2.1] [eI r.2.2.2.2.1,eB r.2.2.2.2.2]
theorem F6 (x0:dP):∀(n:Nat) (u1:Int) (u2:Bool) (u3:Int) (u4:Int),Gs Try.prog sT ao4 ao5 [dP.av x0] n [eI u1,eB u2,eI u3,eI u4] (y7 (zO x0 n u1 u2 u3 u4))
 |0,u1,u2,u3,u4=>l0|n+1,u1,u2,u3,u4=>
  lmk rfl [] xn (wT <|
  wT <|
  wT <|
  wn) ln <|
   rc y7 rx<|rc y7 rx<|rl (rg (F6 x0 n _ _ _ _))
def R90 : kR:=
 let p0:Pc:=((.or (.or av5 (sE (W 0 0) (.ls []))) awN),false)::[];let p1:Pc:=((qG avX (.li 1)),true)::p0
 ⟨[((.or (.or (.or av5 (sE (W 0 0) (.ls []))) awN) aA8),(.gW [zz4,oO])),((.not avx),(.gW [(zI (V 5)),(zB (V 6))])),((qH (V 4) (.li 1024)),(.gW [zz4,oO])),((.lb true),(.gW [(zI (V 4)),avN]))],
 [(p1,(.tm (qL (.li 0) avX)))],[ao4]⟩
def H90 : LH:=.mk [] (.li 0) [] [] 0 [ao5] []
theorem e90 : pK Try.prog jI jJ Di (Df kA 90 [44,46,45,47,48,35,5,4,2,3] [(0,(.mk [1,34] (.mk [(2,(.sc kI)),(3,(.sc .bool)),(4,(.sc kI)),(35,(.sc kI))] [] [] 34 []) [(.normal,(.mk [(2,(.sc kI)),(3,(.sc .bool)),(4,(.sc kI))] [] [] 34 [])),(.ret,(.mk [(2,(.sc kI)),(3,(.sc .bool))] [] [] 34 []))]))]) 3 200 90 [.agg (cV 0 dP.jY)] 1=some R90:=by kernel_rfl
theorem Nw (x0:dP):CT Try.prog sT 90 [dP.av x0] (qx (vF x0)):=
 let r1:Bool×Int×Bool×Int×Int×Bool:=zO x0 (((sLen x0.Str):Int).toNat+1) 0 false 0 0
 Gx oJ fE fF e90 H90 (by kernel_rfl) [dP.av x0,eI (mg r1.1),eI r1.2.1,eB r1.2.2.1,eI r1.2.2.2.1,eI r1.2.2.2.2.1,eB r1.2.2.2.2.2] xn
  (wT<|wn)
  (lc2 (F6 x0 (((sLen x0.Str):Int).toNat+1) 0 false 0 0) <|
  ln)
  (nO qx rfl rfl (nO qx rfl rfl (nO qx rfl rfl (oQ rfl))))
def XC : Lo:=
 let p0:Pc:=((qL (V 3) awp),true)::[];let p1:Pc:=((W 5 1),true)::p0
 .mk [] 2 2 [zz4,zz4] [((.not (qL (V 3) awp)),1,[(zI (V 2))]),((.and (W 5 1) (qH (W 5 0) (.ZJ (V 0)))),2,[(zI (V 3))]),((.lb true),0,[(zI (V 2)),awu])] [(p0,(.row (V 1) (V 3) (cV 4 dI.jY))),
 (p0,(.call 90 [awJ] aAx)),
 (p1,(.num .i64 (V 0) (.ZJ (V 0))))] [] [1,1] [(V 1)]
def XD : LH:=.mk [awz] (mI awp (V 3)) [(awp,1)] [] 0 [] []
def kJ (r:Bool×Int×Int):Nat×List AV:=rk2 r.1 [eI r.2.1] [eI r.2.2]
theorem o_ (x0:Nat)(x1:List dI):∀(n:Nat) (u2:Int) (u3:Int) (h0:ad3 x0=true),Gs Try.prog sT XC XD [eF x0,eL dI.enc x1] n [eI u2,eI u3] (kJ (jQ x0 x1 n u2 u3))
 |0,u2,u3,_=>l0|n+1,u2,u3,h0=>
  let v4:dI:=x1.getD (u3:Int).toNat default;let v5:Int×Bool:=vF v4.Key
  lmk rfl [dI.av v4,qx v5] xn (wR rfl <|
  wC (Nw v4.Key) <|
  wX (fun _ _=>alc h0) <|
  wn) ln <|
   rc kJ rx<|rc kJ rx<|rl (rg (o_ x0 x1 n _ _ h0))
def anW : kR:=
 ⟨[(awL,(.gW [(zI (V 4))])),((.lb true),(.gW [(zI (.li (-1)))]))],
 [],[XC]⟩
def anX : LH:=.mk [] (.li 0) [] [] 0 [XD] []
theorem anY : Ur Try.prog jI jJ Di (Df kA 104 [8,5,4] [(0,(.mk [0,1,7] (.mk [(4,(.sc kI)),(8,(.sc kI))] [] [] 26 []) [(.normal,(.mk [(4,(.sc kI))] [] [] 26 [])),(.ret,(.mk [(4,(.sc kI))] [] [] 26 []))]))]) 3 200 104 [(zL (V 1)),aAy] 2 [(21,(.rows 1 [avZ]))] [] 22=some anW:=by kernel_rfl
theorem yV (x0:Nat)(x1:List dI)(h0:ad3 x0=true):CTw Try.prog sT 104 [(.sl (List.map dI.enc x1) false),(.fn (.func 89) [] [(.op 21 1 0 0)])] [(21,.rows 1 [[(.p (.float .f64 x0))]])] 22 (.p (.int .i64 (nP x0 x1))) [(21,.rows 1 [[(.p (.float .f64 x0))]])]:=
 let r2:Bool×Int×Int:=jQ x0 x1 (x1.length+1) 0 0
 mkW (cs:=[]) oJ fE fF anY anX (by kernel_rfl) [eF x0,eL dI.enc x1,eI (mg r2.1),eI r2.2.1,eI r2.2.2] xn
  wn
  (lc2 (o_ x0 x1 (x1.length+1) 0 0 h0) <|
  ln)
  (nO (fun r=>.gW [(.p (.int .i64 r))]) rfl rfl (oQ rfl))
def aqF : kR:=
 ⟨[((.lb true),(.gW [(zB (qH (V 2) (.li 0)))]))],
 [([],(.BQ 104 [(zL (V 1)),aAy] [(21,(.rows 1 [avZ]))] 22 (zI (V 2)) [(21,(.rows 1 [avZ]))]))],[]⟩
theorem aqG : Ur Try.prog jI jJ Di (Df kA 88 [] []) 3 200 88 [(zL (V 1)),aAy] 2 [(21,(.rows 1 [avZ]))] [] 22=some aqF:=by kernel_rfl
theorem wL (x0:Nat)(x1:List dI)(h0:ad3 x0=true):CTw Try.prog sT 88 [(.sl (List.map dI.enc x1) false),(.fn (.func 89) [] [(.op 21 1 0 0)])] [(21,.rows 1 [[(.p (.float .f64 x0))]])] 22 (.p (.bool (lX x0 x1))) [(21,.rows 1 [[(.p (.float .f64 x0))]])]:=
 let w2:Int:=nP x0 x1;let r2:Int:=w2
 mkW (cs:=[]) oJ fE fF aqG K_ (by kernel_rfl) [eF x0,eL dI.enc x1,eI r2] xn
  (wWp (by intro h;exact yV x0 x1 h0)<|wn)
  ln
  (oQ rfl)
def R70 : kR:=
 let p0:Pc:=((qE zz9 (.li 0)),false)::[];let p1:Pc:=((qE (W 1 1) (W 2 1)),true)::[];let p2:Pc:=((sE (W 1 0) (W 2 0)),true)::p1;let p3:Pc:=((qE zz9 (.li 0)),false)::p2;let p4:Pc:=((.bin .leq .jL (W 3 4) (.lf 4652218415073722368)),true)::p3;let p5:Pc:=((.bin .geq .jL (W 3 4) (.lf 0)),true)::p4;let p6:Pc:=((uN (W 3 3) (.li 3)),false)::p5;let p7:Pc:=((W 3 17),false)::p6;let p8:Pc:=((W 3 16),false)::p7;let p9:Pc:=((V 4),true)::p8
 ⟨[((.or (qE zz9 (.li 0)) (.not (.and (sE (W 1 0) (W 2 0)) (qE (W 1 1) (W 2 1))))),oO),((.or (.or (.or (.or (.not (V 4)) (W 3 16)) (W 3 17)) (uN (W 3 3) (.li 3))) (.not (.and (.bin .geq .jL (W 3 4) (.lf 0)) (.bin .leq .jL (W 3 4) (.lf 4652218415073722368))))),oO),((.lb true),(zB (.not (V 5))))],
 [(p0,(.row (V 0) (.li 0) (cV 1 dI.jY))),
 (p0,(.call 59 [(zS aAa)] (.agg [(zS (W 2 0)),(zI (W 2 1))]))),
 (p3,(.row (V 0) (.li 0) (cV 3 dI.jY))),
 (p3,(.call 80 [(.agg (cW 3 2 dN.jY))] (zB (V 4)))),
 (p9,(.BQ 88 [(zL (V 0)),aAy] [(21,(.rows 1 [[(zF (W 3 4))]]))] 22 (zB (V 5)) [(21,(.rows 1 [[(zF (W 3 4))]]))]))],[]⟩
theorem e70 : pK Try.prog jI jJ Di (Df kA 70 [] []) 3 200 70 [zL (V 0)] 1=some R70:=by kernel_rfl
theorem VI (x0:List dI):CT Try.prog sT 70 [eL dI.enc x0] (eB (Bj x0)):=
 let v1:dI:=x0.getD (0:Int).toNat default;let v2:dP:=UL [108,101,110,103,116,104];let v3:dI:=x0.getD (0:Int).toNat default;let v4:Bool:=kE v3.dQ;let w5:Bool:=lX v3.dQ.Value.Num x0;let r5:Bool:=w5
 Gx oJ fE fF e70 K_ (by kernel_rfl) [eL dI.enc x0,dI.av v1,dP.av v2,dI.av v3,eB v4,eB r5] xn
  (wR rfl <|
  wC (XB [108,101,110,103,116,104]) <|
  wR rfl <|
  wC (IG v3.dQ) <|
  wWp (by intro h;exact wL v3.dQ.Value.Num x0 (anP (h.at 4 rfl) (h.at 5 rfl))) <|
  wn)
  ln
  (nO (fun r=>.p (.bool r)) rfl rfl (nO (fun r=>.p (.bool r)) rfl rfl (oQ rfl)))
def abQ : Lo:=
 let p0:Pc:=((qL (V 3) zz9),true)::[];let p1:Pc:=(aAv,false)::p0
 .mk [] 2 2 [zz4,zz4] [((.not (qL (V 3) zz9)),1,[(zI (V 2))]),((.or aAv (.and (sE (W 4 0) (W 6 0)) (qE (W 4 1) (W 6 1)))),2,[(zI (V 3))]),((.lb true),0,[(zI (V 2)),awu])] [(p0,(.row (V 0) (V 3) (cV 4 dI.jY))),
 (p0,(.call 90 [awJ] aAx)),
 (p1,(.call 59 [(zS aAa)] (.agg [(zS (W 6 0)),(zI (W 6 1))])))] [] [1,1] [(V 0)]
def abR : LH:=.mk [awz] (mI zz9 (V 3)) [(zz9,1)] [] 0 [] []
def lF (r:Bool×Int×Int):Nat×List AV:=rk2 r.1 [eI r.2.1] [eI r.2.2]
theorem pY (x0:List dI)(x1:List UInt8):∀(n:Nat) (u2:Int) (u3:Int),Gs Try.prog sT abQ abR [eL dI.enc x0,eS x1] n [eI u2,eI u3] (lF (ku x0 x1 n u2 u3))
 |0,u2,u3=>l0|n+1,u2,u3=>
  let v4:dI:=x0.getD (u3:Int).toNat default;let v5:Int×Bool:=vF v4.Key;let v6:dP:=UL [108,101,110,103,116,104]
  lmk rfl [dI.av v4,qx v5,dP.av v6] xn (wR rfl <|
  wC (Nw v4.Key) <|
  wC (XB [108,101,110,103,116,104]) <|
  wn) ln <|
   rc lF rx<|rc lF rx<|rl (rg (pY x0 x1 n _ _))
def aqH : kR:=
 ⟨[(awL,(.gW [(zI (V 4))])),((.lb true),(.gW [(zI (.li (-1)))]))],
 [],[abQ]⟩
def aqI : LH:=.mk [] (.li 0) [] [] 0 [abR] []
theorem aqJ : Ur Try.prog jI jJ Di (Df kA 104 [8,5,4] [(0,(.mk [0,1,7] (.mk [(4,(.sc kI)),(8,(.sc kI))] [] [] 4 []) [(.normal,(.mk [(4,(.sc kI))] [] [] 4 [])),(.ret,(.mk [(4,(.sc kI))] [] [] 4 []))]))]) 3 200 104 aAu 2 [] [] 0=some aqH:=by kernel_rfl
theorem zW (x0:List dI)(x1:List UInt8):CTw Try.prog sT 104 [(.sl (List.map dI.enc x0) false),(.fn (.func 91) [] [(.vp [(.str x1)] 0)])] [] 0 (.p (.int .i64 (pR x0 x1))) []:=
 let r2:Bool×Int×Int:=ku x0 x1 (x0.length+1) 0 0
 mkW (cs:=[]) oJ fE fF aqJ aqI (by kernel_rfl) [eL dI.enc x0,eS x1,eI (mg r2.1),eI r2.2.1,eI r2.2.2] xn
  wn
  (lc2 (pY x0 x1 (x0.length+1) 0 0) <|
  ln)
  (nO (fun r=>.gW [(.p (.int .i64 r))]) rfl rfl (oQ rfl))
def asX : kR:=
 ⟨[((.lb true),(.gW [(zB (qH (V 2) (.li 0)))]))],
 [([],(.BQ 104 aAu [] 0 (zI (V 2)) []))],[]⟩
theorem asY : Ur Try.prog jI jJ Di (Df kA 88 [] []) 3 200 88 aAu 2 [] [] 0=some asX:=by kernel_rfl
theorem yx (x0:List dI)(x1:List UInt8):CTw Try.prog sT 88 [(.sl (List.map dI.enc x0) false),(.fn (.func 91) [] [(.vp [(.str x1)] 0)])] [] 0 (.p (.bool (nG x0 x1))) []:=
 let w2:Int:=pR x0 x1;let r2:Int:=w2
 mkW (cs:=[]) oJ fE fF asY K_ (by kernel_rfl) [eL dI.enc x0,eS x1,eI r2] xn
  (wW (zW x0 x1)<|wn)
  ln
  (oQ rfl)
def R71 : kR:=
 let p0:Pc:=((qM (.slen (V 1)) (.li 4096)),true)::[]
 ⟨[((.lb true),(zB (.and (qM (.slen (V 1)) (.li 4096)) (.not (V 2)))))],
 [(p0,(.call 88 aAu (zB (V 2))))],[]⟩
theorem e71 : pK Try.prog jI jJ Di (Df kA 71 [] []) 3 200 71 [zL (V 0),zS (V 1)] 2=some R71:=by kernel_rfl
theorem VJ (x0:List dI)(x1:List UInt8):CT Try.prog sT 71 [eL dI.enc x0,eS x1] (eB (Bl x0 x1)):=
 let w2:Bool:=nG x0 x1;let r2:Bool:=w2
 Gx oJ fE fF e71 K_ (by kernel_rfl) [eL dI.enc x0,eS x1,eB r2] xn
  (wC (ctW rfl (yx x0 x1))<|wn)
  ln
  (oQ rfl)
def aly : Lo:=
 let p0:Pc:=(aww,false)::[];let p1:Pc:=(axD,false)::p0;let p2:Pc:=((V 8),true)::p1;let p3:Pc:=(zz3,false)::p2;let p4:Pc:=((qN (V 11) (.li 0)),false)::p3;let p5:Pc:=((V 10),true)::p4;let p6:Pc:=(axE,false)::p5;let p7:Pc:=((qL (V 13) (.rlen (W 2 6))),true)::p6;let p8:Pc:=((.not (V 15)),false)::p7;let p9:Pc:=((.or (.not (V 15)) (.not (V 16))),false)::p7
 .mk [(axE,false),((V 10),true),((qN (V 11) (.li 0)),false),(zz3,false),((V 8),true),(axD,false),(aww,false)] 12 2 [oO,zz4] [((.not (qL (V 13) (.rlen (W 2 6)))),1,[(zB (V 12))]),((.or (.or (.not (V 15)) (.not (V 16))) (.not (V 17))),2,[oO]),((.lb true),0,[(zB (V 12)),(zI (aI (V 13) (.li 1)))])] [(p7,(.row (W 2 6) (V 13) (cV 14 dI.jY))),
 (p7,(.call 67 [zz6,(.agg (cW 14 3 dL.jY))] (zB (V 15)))),
 (p8,(.call 67 [zz6,(.agg (cW 14 7 dL.jY))] (zB (V 16)))),
 (p9,(.call 67 [zz6,(.agg (cW 14 11 dL.jY))] (zB (V 17))))] [] [1,1] [(W 2 6)]
def alz : LH:=.mk [(qM (V 11) (V 13))] (mI (.rlen (W 2 6)) (V 13)) [((.rlen (W 2 6)),1)] [] 10 [] []
def uP (r:Bool×Bool×Bool):Nat×List AV:=rk2 r.1 [eB r.2.1] [eB r.2.2]
theorem Bv (x0:dH)(x1:Int)(v2:dJ)(v3:Bool)(v4:Bool)(v5:Bool)(v6:dJ)(v7:Bool)(v8:Bool)(v9:Bool)(v10:Bool)(v11:Int):∀(n:Nat) (u12:Bool) (u13:Int),Gs Try.prog sT aly alz [dH.av x0,eI x1,dJ.av v2,eB v3,eB v4,eB v5,dJ.av v6,eB v7,eB v8,eB v9,eB v10,eI v11] n [eB u12,eI u13] (uP (gG x0 v2 n u12 u13))
 |0,u12,u13=>l0|n+1,u12,u13=>
  let v14:dI:=v2.Props.getD (u13:Int).toNat default;let v15:Bool:=dZ x0 v14.dQ.Value;let v16:Bool:=dZ x0 v14.dQ.Get;let v17:Bool:=dZ x0 v14.dQ.Set
  lmk rfl [dI.av v14,eB v15,eB v16,eB v17] xn (wR rfl <|
  wC (yu x0 v14.dQ.Value) <|
  wC (yu x0 v14.dQ.Get) <|
  wC (yu x0 v14.dQ.Set) <|
  wn) ln <|
   rc uP rx<|rc uP rx<|rl (rg (Bv x0 x1 v2 v3 v4 v5 v6 v7 v8 v9 v10 v11 n _ _))
def R46 : kR:=
 let p0:Pc:=(aww,true)::[];let p1:Pc:=(aww,false)::[];let p2:Pc:=((uE (W 2 0) (.li 5)),true)::p1;let p3:Pc:=((.and (.and (uE (W 2 0) (.li 5)) (V 4)) (qL (W 2 10) (V 1))),true)::p1;let p4:Pc:=((.and (.and (.and (uE (W 2 0) (.li 5)) (V 4)) (qL (W 2 10) (V 1))) (V 5)),true)::p1;let p5:Pc:=(zz3,false)::p1;let p6:Pc:=(axD,false)::p1;let p7:Pc:=((V 8),true)::p6;let p8:Pc:=(zz3,false)::p7;let p9:Pc:=(awK,true)::p8;let p10:Pc:=(axE,false)::p8;let p11:Pc:=((.or axE (.not (V 10))),false)::p8;let p12:Pc:=((qN (V 11) (.li 0)),false)::p8;let p13:Pc:=((V 10),true)::p12;let p14:Pc:=(axE,false)::p13;let p15:Pc:=((qE (V 12) (.li 0)),true)::p14;let p16:Pc:=((uE (W 2 0) (.li 1)),false)::p15;let p17:Pc:=(aya,true)::p16;let p18:Pc:=(zz8,true)::p17;let p19:Pc:=(aya,false)::p16;let p20:Pc:=((uE (W 2 0) (.li 3)),true)::p19;let p21:Pc:=(zz8,true)::p20
 ⟨[(aww,(zB (V 3))),((.or (.or zz3 (.not (V 8))) axD),oO),((.or (.or axE (.not (V 10))) (qN (V 11) (.li 0))),oO),((.not (qE (V 12) (.li 0))),(zB (V 14))),((uE (W 2 0) (.li 1)),(zB zz8)),(aya,(zB (.and zz8 (V 15)))),((uE (W 2 0) (.li 3)),(zB (.and zz8 (V 16)))),((uE (W 2 0) (.li 4)),(zB (.and (W 2 16) (W 2 17)))),((uE (W 2 0) (.li 5)),(zB (W 2 16))),((.lb true),oO)],
 [([],(.row (W 0 0) (V 1) (cV 2 dJ.jY))),
 (p0,(.call 66 aBg (zB (V 3)))),
 (p2,(.call 60 [(.agg (cW 2 7 dL.jY))] (zB (V 4)))),
 (p3,(.call 67 [zz6,(.agg (cW 2 7 dL.jY))] (zB (V 5)))),
 (p4,(.row (W 0 0) (W 2 10) (cV 6 dJ.jY))),
 (p1,(.call 68 [(.agg (cW 2 7 dL.jY)),(zU (.li 0))] (zB (V 7)))),
 (p5,(.call 68 [(.agg (cW 2 11 dL.jY)),(zU (.li 0))] (zB (V 8)))),
 (p9,(.call 60 [(.agg (cW 2 1 dL.jY))] (zB (V 9)))),
 (p10,(.call 67 [zz6,(.agg (cW 2 1 dL.jY))] (zB (V 10)))),
 (p11,(.call 69 [(zL (W 2 6))] (zI (V 11)))),
 (p18,(.call 70 [(zL (W 2 6))] (zB (V 15)))),
 (p21,(.call 71 [(zL (W 2 6)),(zS (W 2 15))] (zB (V 16))))],[aly]⟩
def H46 : LH:=.mk [] (.li 0) [] [([((V 5),true)],(qM (.li 0) (W 2 10))),([((V 5),true),((V 4),true)],(qL (W 2 10) dF))] 0 [alz] []
theorem e46 : pK Try.prog jI jJ Di (Df kA 46 [115,116,117,114,118,119,123,124,125,122,126,127,103,4] [(0,(.mk [2,5,101,102] (.mk [(4,(.sc .bool)),(103,(.sc kI))] [] [] 96 []) [(.normal,(.mk [(4,(.sc .bool))] [] [] 96 [])),(.ret,(.mk [(4,(.sc .bool))] [] [] 96 []))]))]) 3 200 46 [.agg atq,zI (V 1)] 2=some R46:=by kernel_rfl
theorem Vb (x0:dH)(x1:Int):CT Try.prog sT 46 [dH.av x0,eI x1] (eB (jH x0 x1)):=
 let v2:dJ:=x0.Objects.getD (x1:Int).toNat default;let v3:Bool:=sJ x0 v2 x1;let v4:Bool:=dR v2.Target;let v5:Bool:=dZ x0 v2.Target;let v6:dJ:=x0.Objects.getD (v2.Target.Ref:Int).toNat default;let v7:Bool:=oG v2.Target 0;let v8:Bool:=oG v2.Handler 0;let v9:Bool:=dR v2.fA;let v10:Bool:=dZ x0 v2.fA;let v11:Int:=jG v2.Props;let r12:Bool×Bool×Bool:=gG x0 v2 (v2.Props.length+1) false 0;let v15:Bool:=Bj v2.Props;let v16:Bool:=Bl v2.Props v2.Text
 Gx oJ fE fF e46 H46 (by kernel_rfl) [dH.av x0,eI x1,dJ.av v2,eB v3,eB v4,eB v5,dJ.av v6,eB v7,eB v8,eB v9,eB v10,eI v11,eI (mg r12.1),eB r12.2.1,eB r12.2.2,eB v15,eB v16] (xp (fun h=>decide_eq_true (afJ ( (h.at 0 rfl))))<|xp (fun h=>decide_eq_true (afK ( (h.at 0 rfl)) ( (h.at 1 rfl))))<|xn)
  (wR rfl <|
  wC (VF x0 v2 x1) <|
  wC (qZ v2.Target) <|
  wC (yu x0 v2.Target) <|
  wR rfl <|
  wC (Bq v2.Target 0) <|
  wC (Bq v2.Handler 0) <|
  wC (qZ v2.fA) <|
  wC (yu x0 v2.fA) <|
  wC (Va v2.Props) <|
  wC (VI v2.Props) <|
  wC (VJ v2.Props v2.Text) <|
  wn)
  (lc2 (Bv x0 x1 v2 v3 v4 v5 v6 v7 v8 v9 v10 v11 (v2.Props.length+1) false 0) <|
  ln)
  (nO (fun r=>.p (.bool r)) rfl rfl (nO (fun r=>.p (.bool r)) rfl rfl (nO (fun r=>.p (.bool r)) rfl rfl (nO (fun r=>.p (.bool r)) rfl rfl (nO (fun r=>.p (.bool r)) rfl rfl (nO (fun r=>.p (.bool r)) rfl rfl (nO (fun r=>.p (.bool r)) rfl rfl (nO (fun r=>.p (.bool r)) rfl rfl (nO (fun r=>.p (.bool r)) rfl rfl (oQ rfl))))))))))
def ao6 : Lo:=
 let p0:Pc:=avV::[];let p1:Pc:=((qL (V 2) dF),true)::p0
 .mk [avV] 1 2 [zz4,zz4] [((.not (qL (V 2) dF)),1,[(zI (V 1))]),(avO,2,[avQ]),((.lb true),0,[(zI (V 1)),ax4])] [(p1,(.call 46 [zz6,(zI (V 2))] (zB (V 3))))] [] [1,1] []
def ao7 : LH:=.mk [azN] (mI dF (V 2)) [(dF,1)] [] 0 [] []
def yA (r:Bool×Int×Int):Nat×List AV:=rk2 r.1 [eI r.2.1] [eI r.2.2]
theorem En (x0:dH):∀(n:Nat) (u1:Int) (u2:Int),Gs Try.prog sT ao6 ao7 [dH.av x0] n [eI u1,eI u2] (yA (o7 x0 n u1 u2))
 |0,u1,u2=>l0|n+1,u1,u2=>
  let v3:Bool:=jH x0 u2
  lmk rfl [eB v3] xn (wC (Vb x0 u2)<|wn) ln <|
   rc yA rx<|rc yA rx<|rl (rg (En x0 n _ _))
def R21 : kR:=
 let p0:Pc:=avV::[];let p1:Pc:=(avx,true)::p0
 ⟨[((qG dF (.li 4096)),avQ),((.not avx),(zI (V 3))),((V 4),avQ),((.lb true),zz4)],
 [(p1,(.call 47 [zz6] (zB (V 4))))],[ao6]⟩
def H21 : LH:=.mk [] (.li 0) [] [] 0 [ao7] []
theorem e21 : pK Try.prog jI jJ Di (Df kA 21 [3,11,2] [(0,(.mk [1,10] (.mk [(2,(.sc kI)),(11,(.sc kI))] [] [] 10 []) [(.normal,(.mk [(2,(.sc kI))] [] [] 10 [])),(.ret,(.mk [(2,(.sc kI))] [] [] 10 []))]))]) 3 200 21 [.agg atq] 1=some R21:=by kernel_rfl
theorem yH (x0:dH):CT Try.prog sT 21 [dH.av x0] (eI (lY x0)):=
 let r1:Bool×Int×Int:=o7 x0 (x0.Objects.length+1) 0 0;let v4:Bool:=qy x0
 Gx oJ fE fF e21 H21 (by kernel_rfl) [dH.av x0,eI (mg r1.1),eI r1.2.1,eI r1.2.2,eB v4] xn
  (wCp (by intro h;exact VD x0 (anQ (abG (h.at 1 rfl)) (rQ.1 (h.at 0 rfl))) (abG (h.at 1 rfl)))<|wn)
  (lc2 (En x0 (x0.Objects.length+1) 0 0) <|
  ln)
  (nO (fun r=>.p (.int .i64 r)) rfl rfl (nO (fun r=>.p (.int .i64 r)) rfl rfl (nO (fun r=>.p (.int .i64 r)) rfl rfl (oQ rfl))))
theorem VK (x0:dH):PC Try.prog 21 [dH.av x0] (eI (lY x0)):=(yH x0 trivial).1
def R26 : kR:=
 ⟨[((.lb true),(.agg (cV 0 dJ.jY)))],
 [([],(.Lh 18 (W 0 6))),
 ([],(.len2 0 (W 0 6)))],[]⟩
theorem e26 : pK Try.prog jI jJ Di (Df kA 26 [] []) 3 200 26 [.agg (cV 0 dJ.jY)] 1=some R26:=by kernel_rfl
theorem alV (x0:dJ):CT Try.prog sT 26 [dJ.av x0] (dJ.av (adp x0)):=
 Gx oJ fE fF e26 K_ (by kernel_rfl) [dJ.av x0] xn
  (asM (f:=dI.enc) rfl <|
  asL <|
  wn)
  ln
  (oQ rfl)
theorem asE (x0:dJ):PC Try.prog 26 [dJ.av x0] (dJ.av (adp x0)):=(alV x0 trivial).1
def aw5 : Lo:=
 let p0:Pc:=((qL (V 1) dF),true)::[]
 .mk [] 1 2 [zz4,(.agg [(zL .nl)])] [((.not (qL (V 1) dF)),1,[(.agg [(zL (W 2 0))])]),((.lb true),0,[(zI (aI (V 1) (.li 1))),(.agg [(zL (V 5))])])] [(p0,(.row (W 0 0) (V 1) (cV 3 dJ.jY))),
 (p0,(.call 26 [(.agg (cV 3 dJ.jY))] awM)),
 (p0,(.app 18 (W 2 0) [aCN] (V 5)))] [] [1] []
def ayd : LH:=.mk [(qM (V 1) dF),(qE (.rlen (W 2 0)) (V 1))] (mI dF (V 1)) [(dF,1)] [] 0 [] [[(qE (.rlen (W 1 0)) dF)]]
def arf (r:dH):Nat×List AV:=(0,[dH.av r])
theorem aoB (x0:dH):∀(n:Nat) (u1:Int) (u2:dH),Gs Try.prog sT aw5 ayd [dH.av x0] n [eI u1,dH.av u2] (arf (aia x0 n u1 u2))
 |0,u1,u2=>l0|n+1,u1,u2=>
  let v3:dJ:=x0.Objects.getD (u1:Int).toNat default;let v4:dJ:=adp v3;let v5:List dJ:=u2.Objects++[v4]
  lmk rfl [dJ.av v3,dJ.av v4,eL dJ.enc v5] xn (wR rfl <|
  wC (alV v3) <|
  au5 (f:=dJ.enc) [v4] rfl <|
  wn) ln <|
   rc arf rx<|rl (rg (aoB x0 n _ _))
def R25 : kR:=
 ⟨[((.lb true),(.agg [(zL (W 1 0))]))],
 [],[aw5]⟩
def H25 : LH:=.mk [] (.li 0) [] [] 0 [ayd] []
theorem e25 : pK Try.prog jI jJ Di (Df kA 25 [4] [(0,(.mk [1,2,3] (.mk [(4,(.sc kI))] [] [] 5 [(2,(.mk [] 4 18 []))]) [(.normal,(.mk [] [] [] 5 [(2,(.mk [] 4 18 []))]))]))]) 3 200 25 [.agg atq] 1=some R25:=by kernel_rfl
theorem aug (x0:dH):CT Try.prog sT 25 [dH.av x0] (dH.av (al7 x0)):=
 let r1:dH:=aia x0 (x0.Objects.length+1) 0 (dH.mk [])
 Gx oJ fE fF e25 H25 (by kernel_rfl) [dH.av x0,dH.av r1] xn
  wn
  (lc1 (aoB x0 (x0.Objects.length+1) 0 (dH.mk [])) <|
  ln)
  (oQ rfl)
theorem auh (x0:dH):PC Try.prog 25 [dH.av x0] (dH.av (al7 x0)):=(aug x0 trivial).1
def aB_ : kR:=
 let p0:Pc:=(aAB,true)::[]
 ⟨[((.lb true),(zB (.and aAB (.bin .gtr .jL (.bin .quo .jL avW (V 0)) (.lf 0)))))],
 [(p0,(.fop .quo avW (V 0)))],[]⟩
theorem e115 : pK Try.prog jI jJ Di (Df kA 115 [] []) 3 200 115 [zF (V 0)] 1=some aB_:=by kernel_rfl
theorem asH (x0:Nat):CT Try.prog sT 115 [eF x0] (eB (iU x0)):=
 Gx oJ fE fF e115 K_ (by kernel_rfl) [eF x0] xn
  (wX (fun h _=>axF (aAw (h.at 0 rfl)))<|wn)
  ln
  (oQ rfl)
def aCa : kR:=
 let p0:Pc:=((.bin .leq .jL (V 0) (.lf 4845873199050653695)),true)::[];let p1:Pc:=((.bin .geq .jL (V 0) (.lf 14069245235905429503)),true)::p0;let p2:Pc:=((.bin .neq .jL (.toF (.ZJ (V 0))) (V 0)),false)::p1;let p3:Pc:=(aAB,true)::p2
 ⟨[((.not (.and (.bin .geq .jL (V 0) (.lf 14069245235905429503)) (.bin .leq .jL (V 0) (.lf 4845873199050653695)))),(.gW [zz4,oO])),((.or (.bin .neq .jL (.toF (.ZJ (V 0))) (V 0)) (.and aAB (.bin .lss .jL (.bin .quo .jL avW (V 0)) (.lf 0)))),(.gW [zz4,oO])),((.lb true),(.gW [(zI (.ZJ (V 0))),avN]))],
 [(p1,(.num .i64 (V 0) (.ZJ (V 0)))),
 (p3,(.fop .quo avW (V 0)))],[]⟩
theorem e125 : pK Try.prog jI jJ Di (Df kA 125 [] []) 3 200 125 [zF (V 0)] 1=some aCa:=by kernel_rfl
theorem atx (x0:Nat):CT Try.prog sT 125 [eF x0] (qx (Ir x0)):=
 Gx oJ fE fF e125 K_ (by kernel_rfl) [eF x0] xn
  (wX (fun h _=>num1 (h.at 0 rfl) (h.at 1 rfl)) <|
  wX (fun h _=>axF (aAw (h.at 0 rfl))) <|
  wn)
  ln
  (nO qx rfl rfl (nO qx rfl rfl (oQ rfl)))
def aCb : kR:=
 ⟨[((.lb true),(zB (.or (W 1 1) ax0)))],
 [([],(.call 125 avZ (.gW [(zI (W 1 0)),(zB (W 1 1))])))],[]⟩
theorem e116 : pK Try.prog jI jJ Di (Df kA 116 [] []) 3 200 116 [zF (V 0)] 1=some aCb:=by kernel_rfl
theorem au0 (x0:Nat):CT Try.prog sT 116 [eF x0] (eB (Ji x0)):=
 let v1:Int×Bool:=Ir x0
 Gx oJ fE fF e116 K_ (by kernel_rfl) [eF x0,qx v1] xn
  (wC (atx x0)<|wn)
  ln
  (oQ rfl)
def aCc : kR:=
 let p0:Pc:=(aAA,false)::[];let p1:Pc:=(av4,true)::p0
 ⟨[(aAA,oO),((.lb true),(zB (.and (.and (.ite av4 (V 2) (.ite av2 (.or (V 1) (.bin .eql .jL (W 0 1) avW)) (V 1))) (.or (sE (W 0 2) (.ls [])) (.and (uE (W 0 0) (.li 4)) (qM (.slen (W 0 2)) (.li 4096))))) (.or (qE (W 0 3) (.li 0)) (.and (.bin .geq kU (W 0 0) (.li 5)) (qG (W 0 3) (.li 0)))))))],
 [(p0,(.call 115 [(zF (W 0 1))] (zB (V 1)))),
 (p1,(.call 116 [(zF (W 0 1))] (zB (V 2))))],[]⟩
theorem aCd : pK Try.prog jI jJ Di (Df kA 106 [] []) 3 200 106 [.agg ase] 1=some aCc:=by kernel_rfl
theorem aod (x0:dL):CT Try.prog sT 106 [dL.av x0] (eB (kT x0)):=
 let v1:Bool:=iU x0.Num;let v2:Bool:=Ji x0.Num
 Gx oJ fE fF aCd K_ (by kernel_rfl) [dL.av x0,eB v1,eB v2] xn
  (wC (asH x0.Num) <|
  wC (au0 x0.Num) <|
  wn)
  ln
  (nO (fun r=>.p (.bool r)) rfl rfl (oQ rfl))
def aCe : kR:=
 let p0:Pc:=((uE (W 0 0) (.li 1)),true)::[]
 ⟨[((.lb true),(zB (.and (uE (W 0 0) (.li 1)) (V 1))))],
 [(p0,(.call 106 [(.agg ase)] (zB (V 1))))],[]⟩
theorem aCf : pK Try.prog jI jJ Di (Df kA 105 [] []) 3 200 105 [.agg ase] 1=some aCe:=by kernel_rfl
theorem an7 (x0:dL):CT Try.prog sT 105 [dL.av x0] (eB (ab7 x0)):=
 let v1:Bool:=kT x0
 Gx oJ fE fF aCf K_ (by kernel_rfl) [dL.av x0,eB v1] xn
  (wC (aod x0)<|wn)
  ln
  (oQ rfl)
def R95 : kR:=
 ⟨[((.lb true),(zB (.or (.or (uE (W 0 0) (.li 6)) (uE (W 0 0) (.li 7))) (uE (W 0 0) (.li 8)))))],
 [],[]⟩
theorem e95 : pK Try.prog jI jJ Di (Df kA 95 [] []) 3 200 95 [.agg ase] 1=some R95:=by kernel_rfl
theorem ahz (x0:dL):CT Try.prog sT 95 [dL.av x0] (eB (wI x0)):=
 Gx oJ fE fF e95 K_ (by kernel_rfl) [dL.av x0] xn
  wn
  ln
  (oQ rfl)
def aCg : kR:=
 ⟨[((.lb true),(.agg [(zU (.ite (W 0 17) (.li 8) (.ite (W 0 16) (.li 7) (.li 6)))),(zF (.lf 0)),(zS (.ls [])),(zI (V 1))]))],
 [],[]⟩
theorem aCh : pK Try.prog jI jJ Di (Df kA 107 [] []) 3 200 107 [.agg (cV 0 dJ.jY),zI (V 1)] 2=some aCg:=by kernel_rfl
theorem aty (x0:dJ)(x1:Int):CT Try.prog sT 107 [dJ.av x0,eI x1] (dL.av (aq2 x0 x1)):=
 Gx oJ fE fF aCh K_ (by kernel_rfl) [dJ.av x0,eI x1] xn
  wn
  ln
  (oQ rfl)
def R96 : kR:=
 let p0:Pc:=((V 2),true)::[];let p1:Pc:=((V 3),true)::p0;let p2:Pc:=((qL (W 1 3) dF),true)::p1
 ⟨[((.not (V 2)),oO),(avO,avN),((.lb true),(zB (.and (qL (W 1 3) dF) (.and (uE (W 5 0) (W 1 0)) (.and (.bin .eql .jL (W 5 1) (W 1 1)) (.and (sE (W 5 2) (W 1 2)) (qE (W 5 3) (W 1 3))))))))],
 [([],(.call 106 [(.agg awF)] (zB (V 2)))),
 (p0,(.call 95 [(.agg awF)] (zB (V 3)))),
 (p2,(.row (W 0 0) (W 1 3) (cV 4 dJ.jY))),
 (p2,(.call 107 [awM,(zI (W 1 3))] (.agg (cV 5 dL.jY))))],[]⟩
def H96 : LH:=.mk [] (.li 0) [] [([((V 2),true)],(qM (.li 0) (W 1 3)))] 0 [] []
theorem e96 : pK Try.prog jI jJ Di (Df kA 96 [] []) 3 200 96 [.agg atq,.agg awF] 2=some R96:=by kernel_rfl
theorem akB (x0:dH)(x1:dL):CT Try.prog sT 96 [dH.av x0,dL.av x1] (eB (aa1 x0 x1)):=
 let v2:Bool:=kT x1;let v3:Bool:=wI x1;let v4:dJ:=x0.Objects.getD (x1.Ref:Int).toNat default;let v5:dL:=aq2 v4 x1.Ref
 Gx oJ fE fF e96 H96 (by kernel_rfl) [dH.av x0,dL.av x1,eB v2,eB v3,dJ.av v4,dL.av v5] (xp (fun h=>decide_eq_true (atv ( (h.at 0 rfl))))<|xn)
  (wC (aod x1) <|
  wC (ahz x1) <|
  wR rfl <|
  wC (aty v4 x1.Ref) <|
  wn)
  ln
  (nO (fun r=>.p (.bool r)) rfl rfl (nO (fun r=>.p (.bool r)) rfl rfl (oQ rfl)))
def R92 : kR:=
 let p0:Pc:=((.or aws (W 1 5)),false)::[];let p1:Pc:=(axR,false)::[];let p2:Pc:=(ax5,false)::p1;let p3:Pc:=((V 3),true)::p2;let p4:Pc:=((W 1 5),false)::p3;let p5:Pc:=(aws,false)::p4;let p6:Pc:=((V 4),false)::p5;let p7:Pc:=((.or (V 4) (V 5)),true)::p5;let p8:Pc:=((V 6),true)::p7;let p9:Pc:=((V 5),false)::p5;let p10:Pc:=((V 4),false)::p9;let p11:Pc:=((.not (V 8)),false)::p10;let p12:Pc:=(aA6,false)::p10;let p13:Pc:=((.or aA6 (.not (V 10))),false)::p10;let p14:Pc:=((V 11),true)::p10;let p15:Pc:=((V 10),true)::p14;let p16:Pc:=((qH (W 1 14) (V 2)),false)::p15;let p17:Pc:=((qH (W 1 10) (V 2)),false)::p16;let p18:Pc:=((V 9),true)::p17;let p19:Pc:=((V 8),true)::p18
 ⟨[((.or (.or (.or (.or aws (W 1 5)) avO) ax5) axR),oO),((.or (V 4) (V 5)),(zB (.and (V 6) (V 7)))),((.or (.or aA6 (.not (V 10))) (.not (V 11))),oO),((.lb true),(zB (.and (.bin .eql .bool (W 12 16) (W 1 16)) (.bin .eql .bool (W 12 17) (W 1 17)))))],
 [(p0,(.call 105 [(.agg (cW 1 1 dL.jY))] (zB (V 3)))),
 (p5,(.call 105 [awt] (zB (V 4)))),
 (p6,(.call 105 [ax1] (zB (V 5)))),
 (p7,(.call 105 [awt] (zB (V 6)))),
 (p8,(.call 105 [ax1] (zB (V 7)))),
 (p10,(.call 95 [awt] (zB (V 8)))),
 (p11,(.call 95 [ax1] (zB (V 9)))),
 (p12,(.call 96 [zz6,awt] (zB (V 10)))),
 (p13,(.call 96 [zz6,ax1] (zB (V 11)))),
 (p19,(.row (W 0 0) (W 1 10) (cV 12 dJ.jY)))],[]⟩
def H92 : LH:=.mk [] (.li 0) [] [([((V 10),true)],(qM (.li 0) (W 1 10))),([((V 10),true),((V 8),true)],(qL (W 1 10) dF))] 0 [] []
theorem e92 : pK Try.prog jI jJ Di (Df kA 92 [] []) 3 200 92 [.agg atq,.agg (cV 1 dJ.jY),zI (V 2)] 3=some R92:=by kernel_rfl
theorem atz (x0:dH)(x1:dJ)(x2:Int):CT Try.prog sT 92 [dH.av x0,dJ.av x1,eI x2] (eB (aoa x0 x1 x2)):=
 let v3:Bool:=ab7 x1.fA;let v4:Bool:=ab7 x1.Target;let v5:Bool:=ab7 x1.Handler;let v6:Bool:=ab7 x1.Target;let v7:Bool:=ab7 x1.Handler;let v8:Bool:=wI x1.Target;let v9:Bool:=wI x1.Handler;let v10:Bool:=aa1 x0 x1.Target;let v11:Bool:=aa1 x0 x1.Handler;let v12:dJ:=x0.Objects.getD (x1.Target.Ref:Int).toNat default
 Gx oJ fE fF e92 H92 (by kernel_rfl) [dH.av x0,dJ.av x1,eI x2,eB v3,eB v4,eB v5,eB v6,eB v7,eB v8,eB v9,eB v10,eB v11,dJ.av v12] (xp (fun h=>decide_eq_true (awY ( (h.at 0 rfl))))<|xp (fun h=>decide_eq_true (awZ ( (h.at 0 rfl)) ( (h.at 1 rfl))))<|xn)
  (wC (an7 x1.fA) <|
  wC (an7 x1.Target) <|
  wC (an7 x1.Handler) <|
  wC (an7 x1.Target) <|
  wC (an7 x1.Handler) <|
  wC (ahz x1.Target) <|
  wC (ahz x1.Handler) <|
  wC (akB x0 x1.Target) <|
  wC (akB x0 x1.Handler) <|
  wR rfl <|
  wn)
  ln
  (nO (fun r=>.p (.bool r)) rfl rfl (nO (fun r=>.p (.bool r)) rfl rfl (nO (fun r=>.p (.bool r)) rfl rfl (oQ rfl))))
def R93 : kR:=
 let p0:Pc:=(ax8,true)::[]
 ⟨[((.lb true),(zB (.and ax8 (V 1))))],
 [(p0,(.call 106 [(.agg ase)] (zB (V 1))))],[]⟩
theorem e93 : pK Try.prog jI jJ Di (Df kA 93 [] []) 3 200 93 [.agg ase] 1=some R93:=by kernel_rfl
theorem asb (x0:dL):CT Try.prog sT 93 [dL.av x0] (eB (aiO x0)):=
 let v1:Bool:=kT x0
 Gx oJ fE fF e93 K_ (by kernel_rfl) [dL.av x0,eB v1] xn
  (wC (aod x0)<|wn)
  ln
  (oQ rfl)
def R94 : kR:=
 let p0:Pc:=((uE (W 1 0) (.li 5)),true)::[];let p1:Pc:=(aBa,true)::[];let p2:Pc:=((.and aBa (V 4)),true)::[]
 ⟨[((.lb true),(zB (.and (.and aBa (V 4)) (uE (W 5 0) (.li 6)))))],
 [(p0,(.call 95 [awt] (zB (V 3)))),
 (p1,(.call 96 [zz6,awt] (zB (V 4)))),
 (p2,(.row (W 0 0) (W 1 10) (cV 5 dJ.jY)))],[]⟩
def H94 : LH:=.mk [] (.li 0) [] [([((V 4),true)],(qM (.li 0) (W 1 10))),([((V 4),true),((V 3),true)],(qL (W 1 10) dF))] 0 [] []
theorem e94 : pK Try.prog jI jJ Di (Df kA 94 [] []) 3 200 94 [.agg atq,.agg (cV 1 dJ.jY),zI (V 2)] 3=some R94:=by kernel_rfl
theorem asv (x0:dH)(x1:dJ)(x2:Int):CT Try.prog sT 94 [dH.av x0,dJ.av x1,eI x2] (eB (amO x0 x1 x2)):=
 let v3:Bool:=wI x1.Target;let v4:Bool:=aa1 x0 x1.Target;let v5:dJ:=x0.Objects.getD (x1.Target.Ref:Int).toNat default
 Gx oJ fE fF e94 H94 (by kernel_rfl) [dH.av x0,dJ.av x1,eI x2,eB v3,eB v4,dJ.av v5] (xp (fun h=>decide_eq_true (awY ( (h.at 0 rfl))))<|xp (fun h=>decide_eq_true (awZ ( (h.at 0 rfl)) ( (h.at 1 rfl))))<|xn)
  (wC (ahz x1.Target) <|
  wC (akB x0 x1.Target) <|
  wR rfl <|
  wn)
  ln
  (oQ rfl)
def aCi : kR:=
 ⟨[((.or (.or (qL (W 0 1) (.li 0)) (qG avX (.li 4096))) (.and av5 (qG avX (.li 0)))),avQ),((.lb true),zz4)],
 [],[]⟩
theorem e117 : pK Try.prog jI jJ Di (Df kA 117 [] []) 3 200 117 [.agg (cV 0 dP.jY)] 1=some aCi:=by kernel_rfl
theorem atA (x0:dP):CT Try.prog sT 117 [dP.av x0] (eI (gV x0)):=
 Gx oJ fE fF e117 K_ (by kernel_rfl) [dP.av x0] xn
  wn
  ln
  (nO (fun r=>.p (.int .i64 r)) rfl rfl (oQ rfl))
def aCj : kR:=
 ⟨[((.lb true),(zB (uE (.bin .rem kU (.bin .quo kU (W 0 0) (V 1)) (.li 2)) (.li 1))))],
 [([],(.tm (uN (V 1) (.li 0))))],[]⟩
theorem aCk : pK Try.prog jI jJ Di (Df kA 132 [] []) 3 200 132 [.agg zz7,zU (V 1)] 2=some aCj:=by kernel_rfl
theorem af2 (x0:dN)(x1:Int):CT Try.prog sT 132 [dN.av x0,eU x1] (eB (fP x0 x1)):=
 Gx oJ fE fF aCk K_ (by kernel_rfl) [dN.av x0,eU x1] xn
  (wT<|wn)
  ln
  (oQ rfl)
def aCl : kR:=
 let p0:Pc:=((V 1),false)::[]
 ⟨[((.lb true),(zB (.or (V 1) (V 2))))],
 [([],(.call 132 [(.agg zz7),(zU (.li 1))] (zB (V 1)))),
 (p0,(.call 132 [(.agg zz7),(zU (.li 2))] (zB (V 2))))],[]⟩
theorem e129 : pK Try.prog jI jJ Di (Df kA 129 [] []) 3 200 129 [.agg zz7] 1=some aCl:=by kernel_rfl
theorem asI (x0:dN):CT Try.prog sT 129 [dN.av x0] (eB (jP x0)):=
 let v1:Bool:=fP x0 1;let v2:Bool:=fP x0 2
 Gx oJ fE fF e129 K_ (by kernel_rfl) [dN.av x0,eB v1,eB v2] xn
  (wC (af2 x0 1) <|
  wC (af2 x0 2) <|
  wn)
  ln
  (oQ rfl)
def aCm : kR:=
 let p0:Pc:=((V 1),false)::[]
 ⟨[((.lb true),(zB (.or (V 1) (V 2))))],
 [([],(.call 132 [(.agg zz7),(zU (.li 4))] (zB (V 1)))),
 (p0,(.call 132 [(.agg zz7),(zU (.li 8))] (zB (V 2))))],[]⟩
theorem aCn : pK Try.prog jI jJ Di (Df kA 130 [] []) 3 200 130 [.agg zz7] 1=some aCm:=by kernel_rfl
theorem asj (x0:dN):CT Try.prog sT 130 [dN.av x0] (eB (iJ x0)):=
 let v1:Bool:=fP x0 4;let v2:Bool:=fP x0 8
 Gx oJ fE fF aCn K_ (by kernel_rfl) [dN.av x0,eB v1,eB v2] xn
  (wC (af2 x0 4) <|
  wC (af2 x0 8) <|
  wn)
  ln
  (oQ rfl)
def aCo : kR:=
 let p0:Pc:=((.bin .neq .jL (V 1) (V 1)),false)::[];let p1:Pc:=(ax0,false)::p0;let p2:Pc:=((.bin .eql .jL (V 0) (V 1)),true)::p1;let p3:Pc:=(aAz,false)::p2
 ⟨[((.or ax0 (.bin .neq .jL (V 1) (V 1))),(zB (.and ax0 (.bin .neq .jL (V 1) (V 1))))),((.lb true),(zB (.and (.bin .eql .jL (V 0) (V 1)) (.or aAz (.bin .eql .jL (.bin .quo .jL avW (V 0)) (.bin .quo .jL avW (V 1)))))))],
 [(p3,(.fop .quo avW (V 0))),
 (p3,(.fop .quo avW (V 1)))],[]⟩
theorem e100 : pK Try.prog jI jJ Di (Df kA 100 [] []) 3 200 100 [zF (V 0),zF (V 1)] 2=some aCo:=by kernel_rfl
theorem auA (x0:Nat)(x1:Nat):CT Try.prog sT 100 [eF x0,eF x1] (eB (KW x0 x1)):=
 Gx oJ fE fF e100 K_ (by kernel_rfl) [eF x0,eF x1] xn
  (wX (fun h _=>axF (auI (h.at 0 rfl))) <|
  wX (fun h _=>axF (aBU (h.at 1 rfl))) <|
  wn)
  ln
  (nO (fun r=>.p (.bool r)) rfl rfl (oQ rfl))
def R74 : kR:=
 let p0:Pc:=(aA7,true)::[]
 ⟨[((.lb true),(zB (.and aA7 (V 2))))],
 [(p0,(.call 100 [(zF (W 0 1)),(zF (W 1 1))] (zB (V 2))))],[]⟩
theorem e74 : pK Try.prog jI jJ Di (Df kA 74 [] []) 3 200 74 [.agg ase,.agg awF] 2=some R74:=by kernel_rfl
theorem atB (x0:dL)(x1:dL):CT Try.prog sT 74 [dL.av x0,dL.av x1] (eB (Iq x0 x1)):=
 let v2:Bool:=KW x0.Num x1.Num
 Gx oJ fE fF e74 K_ (by kernel_rfl) [dL.av x0,dL.av x1,eB v2] xn
  (wC (auA x0.Num x1.Num)<|wn)
  ln
  (oQ rfl)
def aCp : kR:=
 ⟨[((.lb true),(zB (V 1)))],
 [([],(.call 74 [(.agg ase),(.agg [(zU (.li 0)),(zF (.lf 0)),(zS (.ls [])),zz4])] (zB (V 1))))],[]⟩
theorem aCq : pK Try.prog jI jJ Di (Df kA 131 [] []) 3 200 131 [.agg ase] 1=some aCp:=by kernel_rfl
theorem ara (x0:dL):CT Try.prog sT 131 [dL.av x0] (eB (iC x0)):=
 let v1:Bool:=Iq x0 (dL.mk 0 0 [] 0)
 Gx oJ fE fF aCq K_ (by kernel_rfl) [dL.av x0,eB v1] xn
  (wC (atB x0 (dL.mk 0 0 [] 0))<|wn)
  ln
  (oQ rfl)
def aCr : kR:=
 ⟨[((.lb true),(zB (.or (uE (W 0 0) (.li 7)) (uE (W 0 0) (.li 8)))))],
 [],[]⟩
theorem aCs : pK Try.prog jI jJ Di (Df kA 134 [] []) 3 200 134 [.agg ase] 1=some aCr:=by kernel_rfl
theorem atC (x0:dL):CT Try.prog sT 134 [dL.av x0] (eB (abb x0)):=
 Gx oJ fE fF aCs K_ (by kernel_rfl) [dL.av x0] xn
  wn
  ln
  (oQ rfl)
def aCt : kR:=
 let p0:Pc:=((V 1),true)::[];let p1:Pc:=(ax8,false)::p0
 ⟨[((.lb true),(zB (.and (V 1) (.or ax8 (V 2)))))],
 [([],(.call 106 [(.agg ase)] (zB (V 1)))),
 (p1,(.call 134 [(.agg ase)] (zB (V 2))))],[]⟩
theorem aCu : pK Try.prog jI jJ Di (Df kA 133 [] []) 3 200 133 [.agg ase] 1=some aCt:=by kernel_rfl
theorem arK (x0:dL):CT Try.prog sT 133 [dL.av x0] (eB (iq x0)):=
 let v1:Bool:=kT x0;let v2:Bool:=abb x0
 Gx oJ fE fF aCu K_ (by kernel_rfl) [dL.av x0,eB v1,eB v2] xn
  (wC (aod x0) <|
  wC (atC x0) <|
  wn)
  ln
  (oQ rfl)
def aCv : kR:=
 let p0:Pc:=((.bin .gtr kU (W 0 0) (.li 63)),false)::[];let p1:Pc:=((V 1),true)::p0;let p2:Pc:=((.and (V 1) (V 2)),false)::[];let p3:Pc:=((.bin .gtr kU (W 0 0) (.li 63)),false)::p2;let p4:Pc:=((V 4),true)::p3;let p5:Pc:=((V 7),true)::p3;let p6:Pc:=((V 10),true)::p3;let p7:Pc:=((.not (W 0 13)),false)::p3;let p8:Pc:=((.or (.not (W 0 13)) (V 12)),true)::p3;let p9:Pc:=((.not (W 0 14)),false)::p8;let p10:Pc:=((.and (.or (.not (W 0 13)) (V 12)) (.or (.not (W 0 14)) (V 13))),true)::p3;let p11:Pc:=((.not (W 0 15)),false)::p10
 ⟨[((.or (.bin .gtr kU (W 0 0) (.li 63)) (.and (V 1) (V 2))),(zI (.li 90))),((.or (.or (.or (.not (.ite (V 4) (V 5) (V 3))) (.not (.ite (V 7) (V 8) (V 6)))) (.not (.ite (V 10) (V 11) (V 9)))) (.not (.and (.and (.or (.not (W 0 13)) (V 12)) (.or (.not (W 0 14)) (V 13))) (.or (.not (W 0 15)) (V 14))))),(zI (.li 90))),((.lb true),zz4)],
 [(p0,(.call 129 [(.agg zz7)] (zB (V 1)))),
 (p1,(.call 130 [(.agg zz7)] (zB (V 2)))),
 (p3,(.call 131 [aAb] (zB (V 3)))),
 (p3,(.call 132 [(.agg zz7),(zU (.li 1))] (zB (V 4)))),
 (p4,(.call 106 [aAb] (zB (V 5)))),
 (p3,(.call 131 [(.agg (cW 0 5 dL.jY))] (zB (V 6)))),
 (p3,(.call 132 [(.agg zz7),(zU (.li 4))] (zB (V 7)))),
 (p5,(.call 133 [(.agg (cW 0 5 dL.jY))] (zB (V 8)))),
 (p3,(.call 131 [(.agg (cW 0 9 dL.jY))] (zB (V 9)))),
 (p3,(.call 132 [(.agg zz7),(zU (.li 8))] (zB (V 10)))),
 (p6,(.call 133 [(.agg (cW 0 9 dL.jY))] (zB (V 11)))),
 (p7,(.call 132 [(.agg zz7),(zU (.li 2))] (zB (V 12)))),
 (p9,(.call 132 [(.agg zz7),(zU (.li 16))] (zB (V 13)))),
 (p11,(.call 132 [(.agg zz7),(zU (.li 32))] (zB (V 14))))],[]⟩
theorem e126 : pK Try.prog jI jJ Di (Df kA 126 [] []) 3 200 126 [.agg zz7] 1=some aCv:=by kernel_rfl
theorem atD (x0:dN):CT Try.prog sT 126 [dN.av x0] (eI (jv x0)):=
 let v1:Bool:=jP x0;let v2:Bool:=iJ x0;let v3:Bool:=iC x0.Value;let v4:Bool:=fP x0 1;let v5:Bool:=kT x0.Value;let v6:Bool:=iC x0.Get;let v7:Bool:=fP x0 4;let v8:Bool:=iq x0.Get;let v9:Bool:=iC x0.Set;let v10:Bool:=fP x0 8;let v11:Bool:=iq x0.Set;let v12:Bool:=fP x0 2;let v13:Bool:=fP x0 16;let v14:Bool:=fP x0 32
 Gx oJ fE fF e126 K_ (by kernel_rfl) [dN.av x0,eB v1,eB v2,eB v3,eB v4,eB v5,eB v6,eB v7,eB v8,eB v9,eB v10,eB v11,eB v12,eB v13,eB v14] xn
  (wC (asI x0) <|
  wC (asj x0) <|
  wC (ara x0.Value) <|
  wC (af2 x0 1) <|
  wC (aod x0.Value) <|
  wC (ara x0.Get) <|
  wC (af2 x0 4) <|
  wC (arK x0.Get) <|
  wC (ara x0.Set) <|
  wC (af2 x0 8) <|
  wC (arK x0.Set) <|
  wC (af2 x0 2) <|
  wC (af2 x0 16) <|
  wC (af2 x0 32) <|
  wn)
  ln
  (nO (fun r=>.p (.int .i64 r)) rfl rfl (nO (fun r=>.p (.int .i64 r)) rfl rfl (oQ rfl)))
def aCw : kR:=
 ⟨[((.lb true),(zB (.and avx (.or (uE (W 0 0) (.li 51)) (uE (W 0 0) (.li 60))))))],
 [([],(.call 126 [(.agg zz7)] (zI (V 1))))],[]⟩
theorem e118 : pK Try.prog jI jJ Di (Df kA 118 [] []) 3 200 118 [.agg zz7] 1=some aCw:=by kernel_rfl
theorem asw (x0:dN):CT Try.prog sT 118 [dN.av x0] (eB (gU x0)):=
 let v1:Int:=jv x0
 Gx oJ fE fF e118 K_ (by kernel_rfl) [dN.av x0,eI v1] xn
  (wC (atD x0)<|wn)
  ln
  (oQ rfl)
def aw6 : Lo:=
 let p0:Pc:=((qL (V 3) zz9),true)::[]
 .mk [] 2 2 [zz4,zz4] [((.not (qL (V 3) zz9)),1,[(zI (V 2))]),((.and (sE (W 4 0) (W 1 0)) (qE (W 4 1) (W 1 1))),2,[(zI (V 3))]),((.lb true),0,[(zI (V 2)),awu])] [(p0,(.row (V 0) (V 3) (cV 4 dI.jY)))] [] [1,1] [(V 0)]
def aw7 : LH:=.mk [awz] (mI zz9 (V 3)) [(zz9,1)] [] 0 [] []
def aoe (r:Bool×Int×Int):Nat×List AV:=rk2 r.1 [eI r.2.1] [eI r.2.2]
theorem aq5 (x0:List dI)(x1:dP):∀(n:Nat) (u2:Int) (u3:Int),Gs Try.prog sT aw6 aw7 [eL dI.enc x0,dP.av x1] n [eI u2,eI u3] (aoe (pO x0 x1 n u2 u3))
 |0,u2,u3=>l0|n+1,u2,u3=>
  let v4:dI:=x0.getD (u3:Int).toNat default
  lmk rfl [dI.av v4] xn (wR rfl<|wn) ln <|
   rc aoe rx<|rc aoe rx<|rl (rg (aq5 x0 x1 n _ _))
def aCx : kR:=
 ⟨[(awL,(zI (V 4))),((.lb true),(zI (.li (-1))))],
 [],[aw6]⟩
def aCy : LH:=.mk [] (.li 0) [] [] 0 [aw7] []
theorem e119 : pK Try.prog jI jJ Di (Df kA 119 [5,4] [(0,(.mk [0,3] (.mk [(4,(.sc kI)),(5,(.sc kI))] [] [] 3 []) [(.normal,(.mk [(4,(.sc kI))] [] [] 3 [])),(.ret,(.mk [(4,(.sc kI))] [] [] 3 []))]))]) 3 200 119 [zL (V 0),.agg (cV 1 dP.jY)] 2=some aCx:=by kernel_rfl
theorem atE (x0:List dI)(x1:dP):CT Try.prog sT 119 [eL dI.enc x0,dP.av x1] (eI (vC x0 x1)):=
 let r2:Bool×Int×Int:=pO x0 x1 (x0.length+1) 0 0
 Gx oJ fE fF e119 aCy (by kernel_rfl) [eL dI.enc x0,dP.av x1,eI (mg r2.1),eI r2.2.1,eI r2.2.2] xn
  wn
  (lc2 (aq5 x0 x1 (x0.length+1) 0 0) <|
  ln)
  (nO (fun r=>.p (.int .i64 r)) rfl rfl (oQ rfl))
def aw8 : Lo:=
 let p0:Pc:=(ayb,false)::[];let p1:Pc:=((qL (V 2) zz9),true)::p0;let p2:Pc:=((qN (V 4) (.li 0)),false)::p1;let p3:Pc:=((V 6),true)::p2
 .mk [(ayb,false)] 1 2 [zz4,zz4] [((.not (qL (V 2) zz9)),1,[(zI (V 1))]),((qN (V 4) (.li 0)),2,[avQ]),((.not (V 6)),2,[(zI (.li 90))]),((qH (V 9) (.li 0)),2,[(zI (.li 100))]),((.lb true),0,[(zI (V 1)),ax4])] [(p1,(.row (V 0) (V 2) (cV 3 dI.jY))),
 (p1,(.call 117 [(.agg [(zS (W 3 0)),(zI (W 3 1))])] (zI (V 4)))),
 (p2,(.row (V 0) (V 2) (cV 5 dI.jY))),
 (p2,(.call 118 [(.agg (cW 5 2 dN.jY))] (zB (V 6)))),
 (p3,(.sub 18 (V 0) (some (.li 0)) (some (V 2)) (V 7))),
 (p3,(.row (V 0) (V 2) (cV 8 dI.jY))),
 (p3,(.call 119 [(zL (V 7)),(.agg [(zS (W 8 0)),(zI (W 8 1))])] (zI (V 9))))] [] [1,1] [(V 0)]
def aw9 : LH:=.mk [azN] (mI zz9 (V 2)) [(zz9,1)] [] 0 [] []
def ahH (r:Bool×Int×Int):Nat×List AV:=rk2 r.1 [eI r.2.1] [eI r.2.2]
theorem aq6 (x0:List dI):∀(n:Nat) (u1:Int) (u2:Int),Gs Try.prog sT aw8 aw9 [eL dI.enc x0] n [eI u1,eI u2] (ahH (r_ x0 n u1 u2))
 |0,u1,u2=>l0|n+1,u1,u2=>
  let v3:dI:=x0.getD (u2:Int).toNat default;let v4:Int:=gV v3.Key;let v5:dI:=x0.getD (u2:Int).toNat default;let v6:Bool:=gU v5.dQ;let v7:List dI:=(x0.drop ((0:Int).toNat)).take ((u2:Int).toNat-(0:Int).toNat);let v8:dI:=x0.getD (u2:Int).toNat default;let v9:Int:=vC v7 v8.Key
  lmk rfl [dI.av v3,eI v4,dI.av v5,eB v6,eL dI.enc v7,dI.av v8,eI v9] xn (wR rfl <|
  wC (atA v3.Key) <|
  wR rfl <|
  wC (asw v5.dQ) <|
  az0 rfl <|
  wR rfl <|
  wC (atE v7 v8.Key) <|
  wn) ln <|
   rc ahH rx<|rc ahH rx<|rc ahH rx<|rc ahH rx<|rl (rg (aq6 x0 n _ _))
def aCz : kR:=
 ⟨[(ayb,(zI (.li 4))),((.not avx),(zI (V 3))),((.lb true),zz4)],
 [],[aw8]⟩
def aCA : LH:=.mk [] (.li 0) [] [] 0 [aw9] []
theorem e108 : pK Try.prog jI jJ Di (Df kA 108 [3,2] [(0,(.mk [0] (.mk [(2,(.sc kI)),(3,(.sc kI))] [] [] 5 []) [(.normal,(.mk [(2,(.sc kI))] [] [] 5 [])),(.ret,(.mk [(2,(.sc kI))] [] [] 5 []))]))]) 3 200 108 [zL (V 0)] 1=some aCz:=by kernel_rfl
theorem atF (x0:List dI):CT Try.prog sT 108 [eL dI.enc x0] (eI (jV x0)):=
 let r1:Bool×Int×Int:=r_ x0 (x0.length+1) 0 0
 Gx oJ fE fF e108 aCA (by kernel_rfl) [eL dI.enc x0,eI (mg r1.1),eI r1.2.1,eI r1.2.2] xn
  wn
  (lc2 (aq6 x0 (x0.length+1) 0 0) <|
  ln)
  (nO (fun r=>.p (.int .i64 r)) rfl rfl (nO (fun r=>.p (.int .i64 r)) rfl rfl (oQ rfl)))
def aye : Lo:=
 let p0:Pc:=((qN (V 2) (.li 0)),false)::[];let p1:Pc:=((qL (V 4) awp),true)::p0;let p2:Pc:=((.not (V 6)),false)::p1;let p3:Pc:=((.or (.not (V 6)) (.not (V 7))),false)::p1
 .mk [((qN (V 2) (.li 0)),false)] 3 2 [oO,zz4] [((.not (qL (V 4) awp)),1,[(zB (V 3))]),((.or (.or (.not (V 6)) (.not (V 7))) (.not (V 8))),2,[oO]),((.lb true),0,[(zB (V 3)),(zI (aI (V 4) (.li 1)))])] [(p1,(.row (V 1) (V 4) (cV 5 dI.jY))),
 (p1,(.call 96 [zz6,(.agg (cW 5 3 dL.jY))] (zB (V 6)))),
 (p2,(.call 96 [zz6,(.agg (cW 5 7 dL.jY))] (zB (V 7)))),
 (p3,(.call 96 [zz6,(.agg (cW 5 11 dL.jY))] (zB (V 8))))] [] [1,1] [(V 1)]
def ayf : LH:=.mk [(qM (V 2) (V 4))] (mI awp (V 4)) [(awp,1)] [] 1 [] []
def aog (r:Bool×Bool×Bool):Nat×List AV:=rk2 r.1 [eB r.2.1] [eB r.2.2]
theorem aq7 (x0:dH)(x1:List dI)(v2:Int):∀(n:Nat) (u3:Bool) (u4:Int),Gs Try.prog sT aye ayf [dH.av x0,eL dI.enc x1,eI v2] n [eB u3,eI u4] (aog (aiI x0 x1 n u3 u4))
 |0,u3,u4=>l0|n+1,u3,u4=>
  let v5:dI:=x1.getD (u4:Int).toNat default;let v6:Bool:=aa1 x0 v5.dQ.Value;let v7:Bool:=aa1 x0 v5.dQ.Get;let v8:Bool:=aa1 x0 v5.dQ.Set
  lmk rfl [dI.av v5,eB v6,eB v7,eB v8] xn (wR rfl <|
  wC (akB x0 v5.dQ.Value) <|
  wC (akB x0 v5.dQ.Get) <|
  wC (akB x0 v5.dQ.Set) <|
  wn) ln <|
   rc aog rx<|rc aog rx<|rl (rg (aq7 x0 x1 v2 n _ _))
def R97 : kR:=
 ⟨[((qN (V 2) (.li 0)),oO),((.not (qE (V 3) (.li 0))),(zB (V 5))),((.lb true),avN)],
 [([],(.call 108 [(zL (V 1))] (zI (V 2))))],[aye]⟩
def H97 : LH:=.mk [] (.li 0) [] [] 0 [ayf] []
theorem e97 : pK Try.prog jI jJ Di (Df kA 97 [28,29,27,30,31,35,36,34,37,38,5,4] [(0,(.mk [1,2] (.mk [(4,(.sc .bool)),(5,(.sc kI))] [] [] 6 []) [(.normal,(.mk [(4,(.sc .bool))] [] [] 6 [])),(.ret,(.mk [(4,(.sc .bool))] [] [] 6 []))]))]) 3 200 97 [.agg atq,zL (V 1)] 2=some R97:=by kernel_rfl
theorem atG (x0:dH)(x1:List dI):CT Try.prog sT 97 [dH.av x0,eL dI.enc x1] (eB (aq3 x0 x1)):=
 let v2:Int:=jV x1;let r3:Bool×Bool×Bool:=aiI x0 x1 (x1.length+1) false 0
 Gx oJ fE fF e97 H97 (by kernel_rfl) [dH.av x0,eL dI.enc x1,eI v2,eI (mg r3.1),eB r3.2.1,eB r3.2.2] xn
  (wC (atF x1)<|wn)
  (lc2 (aq7 x0 x1 v2 (x1.length+1) false 0) <|
  ln)
  (nO (fun r=>.p (.bool r)) rfl rfl (nO (fun r=>.p (.bool r)) rfl rfl (oQ rfl)))
def aw_ : Lo:=
 let p0:Pc:=(awE,false)::[];let p1:Pc:=((qH (V 2) (.li 10)),true)::p0
 .mk [(awE,false)] 2 2 [(zI (V 0)),(zS (.ls []))] [((.not (qH (V 2) (.li 10))),1,[(zI (V 2)),(zS (V 3))]),((.lb true),0,[(zI (.bin .quo kI (V 2) (.li 10))),(zS (.bin .add .str (.Gj (.ls KD) axC (aI axC (.li 1))) (V 3)))])] [(p1,(.tm (qM (.li 0) axC))),
 (p1,(.tm (qL axC (.li 128)))),
 (p1,(.cat (.Gj (.ls KD) axC (aI axC (.li 1))) (V 3)))] [] [2] []
def axa : LH:=.mk [azN,(qM (.slen (V 3)) (.bin .mul kI (.li 128) (mI (.li 1000000) (V 2)))),(qM (V 2) (V 0))] (V 2) [((V 0),1)] [] 2 [] [[(qM (.slen (V 3)) (.li 128000000)),azN,(qL (V 2) (.li 10))]]
def arh (r:Int×List UInt8):Nat×List AV:=(0,[eI r.1,eS r.2])
theorem ari (x0:Int)(v1:List UInt8):∀(n:Nat) (u2:Int) (u3:List UInt8),Gs Try.prog sT aw_ axa [eI x0,eS v1] n [eI u2,eS u3] (arh (apo n u2 u3))
 |0,u2,u3=>l0|n+1,u2,u3=>
  lmk rfl [] xn (wT <|
  wT <|
  axK <|
  wn) ln <|
   rc arh rx<|rl (rg (ari x0 v1 n _ _))
def aCB : kR:=
 let p0:Pc:=(awE,true)::[];let p1:Pc:=(awE,false)::[]
 ⟨[(awE,(zS (.bin .add .str (.ls [45]) (V 1)))),((.lb true),(zS (.bin .add .str (.Gj (.ls KD) axM (aI axM (.li 1))) (V 3))))],
 [(p0,(.call 127 [(zI (.neg kI (V 0)))] (zS (V 1)))),
 (p0,(.cat (.ls [45]) (V 1))),
 (p1,(.tm (qM (.li 0) axM))),
 (p1,(.tm (qL axM (.li 128)))),
 (p1,(.cat (.Gj (.ls KD) axM (aI axM (.li 1))) (V 3)))],[aw_]⟩
def aCC : LH:=.mk [] (.li 0) [] [] 0 [axa] []
theorem e127 : pK Try.prog jI jJ Di (Df kA 127 [3,0] [(0,(.mk [2] (.mk [(0,(.sc kI)),(3,(.sc .str))] [] [] 4 []) [(.normal,(.mk [(0,(.sc kI)),(3,(.sc .str))] [] [] 4 []))]))]) 3 200 127 [zI (V 0)] 1=some aCB:=by kernel_rfl
theorem auE (x0:Int):CT Try.prog sT 127 [eI x0] (eS (asf x0)):=
 fun hp=>
 let v1:List UInt8:=default;let r2:Int×List UInt8:=apo (x0.toNat+1) x0 []
 (Gx oJ fE fF e127 aCC (by kernel_rfl) [eI x0,eS v1,eI r2.1,eS r2.2] xn
  (wX (fun h=>absurd (of_decide_eq_true hp.1) (Int.not_le.2 (of_decide_eq_true (h.at 0 rfl)))) <|
  axK <|
  wT <|
  wT <|
  axK <|
  wn)
  (lc1 (ari x0 v1 (x0.toNat+1) x0 []) <|
  ln)
  (nO (fun r=>.str r) rfl rfl (oQ rfl))) hp
def aCD : kR:=
 let p0:Pc:=((qL (.neg kI (V 0)) (.li 0)),true)::[];let p1:Pc:=(awE,true)::p0;let p2:Pc:=((.and awE (qL (.neg kI (V 0)) (.li 0))),false)::[]
 ⟨[((.and awE (qL (.neg kI (V 0)) (.li 0))),(zS (.bin .add .str (V 1) (V 2)))),((.lb true),(zS (V 3)))],
 [(p1,(.call 120 [(zI (.bin .quo kI (V 0) (.li 10)))] (zS (V 1)))),
 (p1,(.call 120 [(zI (.neg kI (.bin .rem kI (V 0) (.li 10))))] (zS (V 2)))),
 (p1,(.cat (V 1) (V 2))),
 (p2,(.call 127 [(zI (V 0))] (zS (V 3))))],[]⟩
theorem e120 : pK Try.prog jI jJ Di (Df kA 120 [] []) 3 200 120 [zI (V 0)] 1=some aCD:=by kernel_rfl
theorem auF (x0:Int):CT Try.prog sT 120 [eI x0] (eS (ah_ x0)):=
 fun hp=>
 let v1:List UInt8:=default;let v2:List UInt8:=default;let v3:List UInt8:=asf x0
 (Gx oJ fE fF e120 K_ (by kernel_rfl) [eI x0,eS v1,eS v2,eS v3] xn
  (wX (fun h=>absurd (of_decide_eq_true hp.1) (Int.not_le.2 (of_decide_eq_true (h.at 0 rfl)))) <|
  wX (fun h=>absurd (of_decide_eq_true hp.1) (Int.not_le.2 (of_decide_eq_true (h.at 0 rfl)))) <|
  axK <|
  wC (auE x0) <|
  wn)
  ln
  (nO (fun r=>.str r) rfl rfl (oQ rfl))) hp
def axb : Lo:=
 let p0:Pc:=(awN,false)::[];let p1:Pc:=(av5,false)::p0;let p2:Pc:=((qL (V 3) (.li 1024)),true)::p1
 .mk [(av5,false),(awN,false)] 1 3 [zz4,oO,zz4] [((.not (qL (V 3) (.li 1024))),1,[(zI (V 1)),(zB (V 2))]),((sE (V 4) (W 0 0)),2,[(zI (V 3)),avN]),((.lb true),0,[(zI (V 1)),(zB (V 2)),awu])] [(p2,(.call 120 [(zI (V 3))] (zS (V 4))))] [] [2,2] []
def axc : LH:=.mk [awz] (mI (.li 1024) (V 3)) [((.li 1024),1)] [] 0 [] []
def aoi (r:Bool×Int×Bool×Int×Bool):Nat×List AV:=rk2 r.1 [eI r.2.1,eB r.2.2.1] [eI r.2.2.2.1,eB r.2.2.2.2]
theorem aq8 (x0:dP):∀(n:Nat) (u1:Int) (u2:Bool) (u3:Int),Gs Try.prog sT axb axc [dP.av x0] n [eI u1,eB u2,eI u3] (aoi (aiH x0 n u1 u2 u3))
 |0,u1,u2,u3=>l0|n+1,u1,u2,u3=>
  let v4:List UInt8:=ah_ u3
  lmk rfl [eS v4] xn (wC (auF u3)<|wn) ln <|
   rc aoi rx<|rc aoi rx<|rl (rg (aq8 x0 n _ _ _))
def aCE : kR:=
 ⟨[((.or av5 awN),(.gW [zz4,oO])),((.not avx),(.gW [(zI (V 4)),(zB (V 5))])),((.lb true),(.gW [zz4,oO]))],
 [],[axb]⟩
def aCF : LH:=.mk [] (.li 0) [] [] 0 [axc] []
theorem aCG : pK Try.prog jI jJ Di (Df kA 110 [4,2,3] [(0,(.mk [1] (.mk [(2,(.sc kI)),(3,(.sc .bool)),(4,(.sc kI))] [] [] 13 []) [(.normal,(.mk [(2,(.sc kI)),(3,(.sc .bool))] [] [] 13 [])),(.ret,(.mk [(2,(.sc kI)),(3,(.sc .bool))] [] [] 13 []))]))]) 3 200 110 [.agg (cV 0 dP.jY)] 1=some aCE:=by kernel_rfl
theorem ar7 (x0:dP):CT Try.prog sT 110 [dP.av x0] (qx (ahe x0)):=
 let r1:Bool×Int×Bool×Int×Bool:=aiH x0 ((1024:Int).toNat+1) 0 false 0
 Gx oJ fE fF aCG aCF (by kernel_rfl) [dP.av x0,eI (mg r1.1),eI r1.2.1,eB r1.2.2.1,eI r1.2.2.2.1,eB r1.2.2.2.2] xn
  wn
  (lc2 (aq8 x0 ((1024:Int).toNat+1) 0 false 0) <|
  ln)
  (nO qx rfl rfl (nO qx rfl rfl (oQ rfl)))
def axd : Lo:=
 let p0:Pc:=((qL (V 3) zz9),true)::[]
 .mk [] 2 2 [oO,zz4] [((.not (qL (V 3) zz9)),1,[(zB (V 2))]),((.and (W 5 1) (qH (W 5 0) (V 1))),2,[oO]),((.lb true),0,[(zB (V 2)),awu])] [(p0,(.row (V 0) (V 3) (cV 4 dI.jY))),
 (p0,(.call 110 [awJ] aAx))] [] [1,1] [(V 0)]
def axe : LH:=.mk [awz] (mI zz9 (V 3)) [(zz9,1)] [] 0 [] []
def aoj (r:Bool×Bool×Bool):Nat×List AV:=rk2 r.1 [eB r.2.1] [eB r.2.2]
theorem aq9 (x0:List dI)(x1:Int):∀(n:Nat) (u2:Bool) (u3:Int),Gs Try.prog sT axd axe [eL dI.enc x0,eI x1] n [eB u2,eI u3] (aoj (afc x0 x1 n u2 u3))
 |0,u2,u3=>l0|n+1,u2,u3=>
  let v4:dI:=x0.getD (u3:Int).toNat default;let v5:Int×Bool:=ahe v4.Key
  lmk rfl [dI.av v4,qx v5] xn (wR rfl <|
  wC (ar7 v4.Key) <|
  wn) ln <|
   rc aoj rx<|rc aoj rx<|rl (rg (aq9 x0 x1 n _ _))
def aCH : kR:=
 ⟨[(awL,(zB (V 4))),((.lb true),avN)],
 [],[axd]⟩
def aCI : LH:=.mk [] (.li 0) [] [] 0 [axe] []
theorem e109 : pK Try.prog jI jJ Di (Df kA 109 [7,6,26,25,27,5,4] [(0,(.mk [0,1] (.mk [(4,(.sc .bool)),(5,(.sc kI))] [] [] 2 []) [(.normal,(.mk [(4,(.sc .bool))] [] [] 2 [])),(.ret,(.mk [(4,(.sc .bool))] [] [] 2 []))]))]) 3 200 109 [zL (V 0),zI (V 1)] 2=some aCH:=by kernel_rfl
theorem atH (x0:List dI)(x1:Int):CT Try.prog sT 109 [eL dI.enc x0,eI x1] (eB (apu x0 x1)):=
 let r2:Bool×Bool×Bool:=afc x0 x1 (x0.length+1) false 0
 Gx oJ fE fF e109 aCI (by kernel_rfl) [eL dI.enc x0,eI x1,eI (mg r2.1),eB r2.2.1,eB r2.2.2] xn
  wn
  (lc2 (aq9 x0 x1 (x0.length+1) false 0) <|
  ln)
  (nO (fun r=>.p (.bool r)) rfl rfl (oQ rfl))
def R98 : kR:=
 let p0:Pc:=((qE zz9 (.li 0)),false)::[];let p1:Pc:=((qE (W 1 1) (.li 0)),true)::[];let p2:Pc:=((sE (W 1 0) aAa),true)::p1;let p3:Pc:=((qE zz9 (.li 0)),false)::p2;let p4:Pc:=((.bin .leq .jL (W 2 4) (.lf 4652218415073722368)),true)::p3;let p5:Pc:=((.bin .geq .jL (W 2 4) (.lf 0)),true)::p4;let p6:Pc:=((uN (W 2 3) (.li 3)),false)::p5;let p7:Pc:=((W 2 17),false)::p6;let p8:Pc:=((W 2 16),false)::p7;let p9:Pc:=((uN (.bin .and kU (W 2 2) (.li 12)) (.li 0)),false)::p8
 ⟨[((.or (qE zz9 (.li 0)) (.not (.and (sE (W 1 0) aAa) (qE (W 1 1) (.li 0))))),oO),((.or (.or (.or (.or (uN (.bin .and kU (W 2 2) (.li 12)) (.li 0)) (W 2 16)) (W 2 17)) (uN (W 2 3) (.li 3))) (.not (.and (.bin .geq .jL (W 2 4) (.lf 0)) (.bin .leq .jL (W 2 4) (.lf 4652218415073722368))))),oO),((.lb true),(zB (V 3)))],
 [(p0,(.row (V 0) (.li 0) (cV 1 dI.jY))),
 (p3,(.row (V 0) (.li 0) (cV 2 dI.jY))),
 (p9,(.num .i64 (W 2 4) (.ZJ (W 2 4)))),
 (p9,(.call 109 [(zL (V 0)),(zI (.ZJ (W 2 4)))] (zB (V 3))))],[]⟩
theorem e98 : pK Try.prog jI jJ Di (Df kA 98 [] []) 3 200 98 [zL (V 0)] 1=some R98:=by kernel_rfl
theorem atN (x0:List dI):CT Try.prog sT 98 [eL dI.enc x0] (eB (apK x0)):=
 let v1:dI:=x0.getD (0:Int).toNat default;let v2:dI:=x0.getD (0:Int).toNat default;let v3:Bool:=apu x0 (((FloatKind.f64.decode v2.dQ.Value.Num).toInt .zero).getD 0)
 Gx oJ fE fF e98 K_ (by kernel_rfl) [eL dI.enc x0,dI.av v1,dI.av v2,eB v3] xn
  (wR rfl <|
  wR rfl <|
  wX (fun h _=>auJ (h.at 4 rfl) (h.at 5 rfl)) <|
  wC (atH x0 (((FloatKind.f64.decode v2.dQ.Value.Num).toInt .zero).getD 0)) <|
  wn)
  ln
  (nO (fun r=>.p (.bool r)) rfl rfl (nO (fun r=>.p (.bool r)) rfl rfl (oQ rfl)))
def ayg : Lo:=
 let p0:Pc:=((qG (.slen (V 1)) (.li 4096)),false)::[];let p1:Pc:=((qL (V 3) zz9),true)::p0;let p2:Pc:=(aAv,false)::p1
 .mk [((qG (.slen (V 1)) (.li 4096)),false)] 2 2 [oO,zz4] [((.not (qL (V 3) zz9)),1,[(zB (V 2))]),((.or aAv (.and (sE (W 6 0) aAa) (qE (W 6 1) (.li 0)))),2,[oO]),((.lb true),0,[(zB (V 2)),awu])] [(p1,(.row (V 0) (V 3) (cV 4 dI.jY))),
 (p1,(.call 110 [awJ] aAx)),
 (p2,(.row (V 0) (V 3) (cV 6 dI.jY)))] [] [1,1] [(V 0)]
def ayh : LH:=.mk [awz] (mI zz9 (V 3)) [(zz9,1)] [] 0 [] []
def aoy (r:Bool×Bool×Bool):Nat×List AV:=rk2 r.1 [eB r.2.1] [eB r.2.2]
theorem aq_ (x0:List dI)(x1:List UInt8):∀(n:Nat) (u2:Bool) (u3:Int),Gs Try.prog sT ayg ayh [eL dI.enc x0,eS x1] n [eB u2,eI u3] (aoy (afj x0 x1 n u2 u3))
 |0,u2,u3=>l0|n+1,u2,u3=>
  let v4:dI:=x0.getD (u3:Int).toNat default;let v5:Int×Bool:=ahe v4.Key;let v6:dI:=x0.getD (u3:Int).toNat default
  lmk rfl [dI.av v4,qx v5,dI.av v6] xn (wR rfl <|
  wC (ar7 v4.Key) <|
  wR rfl <|
  wn) ln <|
   rc aoy rx<|rc aoy rx<|rl (rg (aq_ x0 x1 n _ _))
def R99 : kR:=
 ⟨[((qG (.slen (V 1)) (.li 4096)),oO),(awL,(zB (V 4))),((.lb true),avN)],
 [],[ayg]⟩
def H99 : LH:=.mk [] (.li 0) [] [] 0 [ayh] []
theorem e99 : pK Try.prog jI jJ Di (Df kA 99 [7,6,29,30,28,31,35,34,36,37,39,38,40,5,4] [(0,(.mk [0,1] (.mk [(4,(.sc .bool)),(5,(.sc kI))] [] [] 5 []) [(.normal,(.mk [(4,(.sc .bool))] [] [] 5 [])),(.ret,(.mk [(4,(.sc .bool))] [] [] 5 []))]))]) 3 200 99 [zL (V 0),zS (V 1)] 2=some R99:=by kernel_rfl
theorem atT (x0:List dI)(x1:List UInt8):CT Try.prog sT 99 [eL dI.enc x0,eS x1] (eB (apP x0 x1)):=
 let r2:Bool×Bool×Bool:=afj x0 x1 (x0.length+1) false 0
 Gx oJ fE fF e99 H99 (by kernel_rfl) [eL dI.enc x0,eS x1,eI (mg r2.1),eB r2.2.1,eB r2.2.2] xn
  wn
  (lc2 (aq_ x0 x1 (x0.length+1) false 0) <|
  ln)
  (nO (fun r=>.p (.bool r)) rfl rfl (nO (fun r=>.p (.bool r)) rfl rfl (oQ rfl)))
def R73 : kR:=
 let p0:Pc:=(aww,true)::[];let p1:Pc:=(aww,false)::[];let p2:Pc:=((.not (V 4)),true)::p1;let p3:Pc:=((.and (.not (V 4)) (.not (V 5))),false)::p1;let p4:Pc:=(axD,false)::p1;let p5:Pc:=((V 6),true)::p4;let p6:Pc:=((.and (.not (V 4)) (.not (V 5))),false)::p5;let p7:Pc:=(awK,true)::p6;let p8:Pc:=((.and awK (.not (V 7))),false)::p6;let p9:Pc:=((.or (.and awK (.not (V 7))) (.not (V 8))),false)::p6;let p10:Pc:=((V 9),true)::p6;let p11:Pc:=((V 8),true)::p10;let p12:Pc:=((.and awK (.not (V 7))),false)::p11;let p13:Pc:=((uE (W 2 0) (.li 1)),false)::p12;let p14:Pc:=(aya,true)::p13;let p15:Pc:=(zz8,true)::p14;let p16:Pc:=(aya,false)::p13;let p17:Pc:=((uE (W 2 0) (.li 3)),true)::p16;let p18:Pc:=(zz8,true)::p17
 ⟨[(aww,(zB (V 3))),((.or (.or (.and (.not (V 4)) (.not (V 5))) (.not (V 6))) axD),oO),((.or (.or (.and awK (.not (V 7))) (.not (V 8))) (.not (V 9))),oO),((uE (W 2 0) (.li 1)),(zB zz8)),(aya,(zB (.and zz8 (V 10)))),((uE (W 2 0) (.li 3)),(zB (.and zz8 (V 11)))),((uE (W 2 0) (.li 4)),(zB (.and (W 2 16) (W 2 17)))),((uE (W 2 0) (.li 5)),(zB (W 2 16))),((.lb true),oO)],
 [([],(.row (W 0 0) (V 1) (cV 2 dJ.jY))),
 (p0,(.call 92 aBg (zB (V 3)))),
 (p1,(.call 93 [(.agg (cW 2 7 dL.jY))] (zB (V 4)))),
 (p2,(.call 94 aBg (zB (V 5)))),
 (p3,(.call 93 [(.agg (cW 2 11 dL.jY))] (zB (V 6)))),
 (p7,(.call 95 [(.agg (cW 2 1 dL.jY))] (zB (V 7)))),
 (p8,(.call 96 [zz6,(.agg (cW 2 1 dL.jY))] (zB (V 8)))),
 (p9,(.call 97 [zz6,(zL (W 2 6))] (zB (V 9)))),
 (p15,(.call 98 [(zL (W 2 6))] (zB (V 10)))),
 (p18,(.call 99 [(zL (W 2 6)),(zS (W 2 15))] (zB (V 11))))],[]⟩
theorem e73 : pK Try.prog jI jJ Di (Df kA 73 [] []) 3 200 73 [.agg atq,zI (V 1)] 2=some R73:=by kernel_rfl
theorem asT (x0:dH)(x1:Int):CT Try.prog sT 73 [dH.av x0,eI x1] (eB (acw x0 x1)):=
 let v2:dJ:=x0.Objects.getD (x1:Int).toNat default;let v3:Bool:=aoa x0 v2 x1;let v4:Bool:=aiO v2.Target;let v5:Bool:=amO x0 v2 x1;let v6:Bool:=aiO v2.Handler;let v7:Bool:=wI v2.fA;let v8:Bool:=aa1 x0 v2.fA;let v9:Bool:=aq3 x0 v2.Props;let v10:Bool:=apK v2.Props;let v11:Bool:=apP v2.Props v2.Text
 Gx oJ fE fF e73 K_ (by kernel_rfl) [dH.av x0,eI x1,dJ.av v2,eB v3,eB v4,eB v5,eB v6,eB v7,eB v8,eB v9,eB v10,eB v11] xn
  (wR rfl <|
  wC (atz x0 v2 x1) <|
  wC (asb v2.Target) <|
  wC (asv x0 v2 x1) <|
  wC (asb v2.Handler) <|
  wC (ahz v2.fA) <|
  wC (akB x0 v2.fA) <|
  wC (atG x0 v2.Props) <|
  wC (atN v2.Props) <|
  wC (atT v2.Props v2.Text) <|
  wn)
  ln
  (nO (fun r=>.p (.bool r)) rfl rfl (nO (fun r=>.p (.bool r)) rfl rfl (nO (fun r=>.p (.bool r)) rfl rfl (nO (fun r=>.p (.bool r)) rfl rfl (nO (fun r=>.p (.bool r)) rfl rfl (nO (fun r=>.p (.bool r)) rfl rfl (nO (fun r=>.p (.bool r)) rfl rfl (nO (fun r=>.p (.bool r)) rfl rfl (oQ rfl)))))))))
def ayi : Lo:=
 let p0:Pc:=avV::[];let p1:Pc:=((qL (V 2) dF),true)::p0
 .mk [avV] 1 2 [oO,zz4] [((.not (qL (V 2) dF)),1,[(zB (V 1))]),(avO,2,[oO]),((.lb true),0,[(zB (V 1)),ax4])] [(p1,(.call 73 [zz6,(zI (V 2))] (zB (V 3))))] [] [1,1] []
def ayj : LH:=.mk [azN] (mI dF (V 2)) [(dF,1)] [] 0 [] []
def apQ (r:Bool×Bool×Bool):Nat×List AV:=rk2 r.1 [eB r.2.1] [eB r.2.2]
theorem arO (x0:dH):∀(n:Nat) (u1:Bool) (u2:Int),Gs Try.prog sT ayi ayj [dH.av x0] n [eB u1,eI u2] (apQ (ajB x0 n u1 u2))
 |0,u1,u2=>l0|n+1,u1,u2=>
  let v3:Bool:=acw x0 u2
  lmk rfl [eB v3] xn (wC (asT x0 u2)<|wn) ln <|
   rc apQ rx<|rc apQ rx<|rl (rg (arO x0 n _ _))
def ayk : Lo:=
 let p0:Pc:=avV::[];let p1:Pc:=(avx,true)::p0;let p2:Pc:=((qL (V 6) dF),true)::p1;let p3:Pc:=((qE (W 11 0) (.li 0)),true)::p2;let p4:Pc:=((uE (W 13 1) (.li 1)),false)::p3
 .mk [((qL (V 6) dF),true),(avx,true),avV] 8 3 [(zB (V 5)),(zI (V 6)),(zL (V 7))] [((.not (qE (W 11 0) (.li 0))),1,[(zB (V 8)),(zI (V 9)),(zL (V 10))]),((uE (W 13 1) (.li 1)),1,[(zB (V 8)),(zI (V 9)),(zL (V 12))]),((qE (W 15 0) azP),2,[oO,(zL (V 12))]),((.lb true),0,[(zB (V 8)),(zI (W 14 4)),(zL (V 12))])] [(p2,(.tm (qM (.li 0) (V 9)))),
 (p2,(.tm (qL (V 9) dF))),
 (p2,(.rd (false,1) (V 10) (V 9) 0 (zI (W 11 0)))),
 (p3,(.tm (qM (.li 0) (V 9)))),
 (p3,(.tm (qL (V 9) dF))),
 (p3,(.st (V 10) (V 9) 0 [(zI azP)] (V 12))),
 (p3,(.row (W 0 0) (V 9) (cV 13 dJ.jY))),
 (p4,(.row (W 0 0) (V 9) (cV 14 dJ.jY))),
 (p4,(.tm (qM (.li 0) (W 14 4)))),
 (p4,(.tm (qL (W 14 4) dF))),
 (p4,(.rd (false,1) (V 12) (W 14 4) 0 (zI (W 15 0))))] [] [3,2] []
def ayl : LH:=.mk [(qM (.li 0) (V 9)),(qL (V 9) dF),(qE (.rlen (V 10)) dF)] .nl [] [([((uN (W 13 1) (.li 1)),true)],(qM (.li 0) (W 14 4))),([((uN (W 13 1) (.li 1)),true),((qL (V 9) dF),true),((qM (.li 0) (V 9)),true)],(qL (W 14 4) dF)),([],(qE (.rlen (V 12)) (.rlen (V 10))))] 0 [] [[(qE (.rlen (V 10)) (.rlen (V 7)))],[]]
def an_ (r:Bool×Bool×Int×List Int×Bool×List Int):Nat×List AV:=rk2 r.1 [eB r.2.1,eI r.2.2.1,eL Bc r.2.2.2.1] [eB r.2.2.2.2.1,eL Bc r.2.2.2.2.2]
theorem arP (x0:dH)(r1:Bool×Bool×Bool)(v4:List Int)(u5:Bool)(u6:Int)(u7:List Int):∀(n:Nat) (u8:Bool) (u9:Int) (u10:List Int) (hP:Ze x0) (_:aeN x0 u6 n u8 u9 u10=true),Gs Try.prog sT ayk ayl [dH.av x0,eI (mg r1.1),eB r1.2.1,eB r1.2.2,eL Bc v4,eB u5,eI u6,eL Bc u7] n [eB u8,eI u9,eL Bc u10] (an_ (wU x0 u6 n u8 u9 u10))
 |0,u8,u9,u10,_,hE=>absurd (show false=true from hE) Bool.false_ne_true|n+1,u8,u9,u10,hP,hE=>
  let v11:Int:=u10.getD (u9:Int).toNat default;let v12:List Int:=u10.set (u9:Int).toNat (fK .i64 u6 1);let v13:dJ:=x0.Objects.getD (u9:Int).toNat default;let v14:dJ:=x0.Objects.getD (u9:Int).toNat default;let v15:Int:=v12.getD (v14.fA.Ref:Int).toNat default;have hE:(bif (!(dU v11 0)) then true
  else bif (dU v13.fA.Kind 1) then true
  else bif (dU v15 (fK .i64 u6 1)) then true
  else aeN x0 u6 n u8 v14.fA.Ref v12)=true:=hE
  lmk rfl [.agg (Bc v11),eL Bc v12,dJ.av v13,dJ.av v14,.agg (Bc v15)] (xp (fun h=>decide_eq_true (alf hP (aa2.1 (h.at 0 rfl))))<|xp (fun h=>decide_eq_true (aoP hP (aa2.1 (h.at 0 rfl)) (of_decide_eq_true (h.at 1 rfl)) (of_decide_eq_true (h.at 2 rfl))))<|xc (rQ.2 (awW))<|xn) (wT <|
  wT <|
  wRd rfl <|
  wT <|
  wT <|
  wSt (f:=Bc) (fK .i64 u6 1) rfl <|
  wR rfl <|
  wR rfl <|
  wT <|
  wT <|
  wRd rfl <|
  wn) ln <|
   rcf an_ (fun g0=>rx)<|fun g0=>rcf an_ (fun g1=>rx)<|fun g1=>rcf an_ (fun g2=>rx)<|fun g2=>rl (rg (arP x0 r1 v4 u5 u6 u7 n _ _ _ hP (ak6 g2 (ak6 g1 (ak6 g0 hE)))))
def axf : Lo:=
 let p0:Pc:=avV::[];let p1:Pc:=(avx,true)::p0;let p2:Pc:=((qL (V 6) dF),true)::p1;let p3:Pc:=((qE (V 8) (.li 0)),true)::p2;let p4:Pc:=((qE (W 16 0) azP),true)::p3;let p5:Pc:=((uE (W 18 1) (.li 1)),false)::p4
 .mk [((qE (V 8) (.li 0)),true),((qL (V 6) dF),true),(avx,true),avV] 14 2 [(zI (V 6)),(zL (V 11))] [((.not (qE (W 16 0) azP)),1,[(zI (V 14)),(zL (V 15))]),((uE (W 18 1) (.li 1)),1,[(zI (V 14)),(zL (V 17))]),((.lb true),0,[(zI (W 19 4)),(zL (V 17))])] [(p3,(.tm (qM (.li 0) (V 14)))),
 (p3,(.tm (qL (V 14) dF))),
 (p3,(.rd (false,1) (V 15) (V 14) 0 (zI (W 16 0)))),
 (p4,(.tm (qM (.li 0) (V 14)))),
 (p4,(.tm (qL (V 14) dF))),
 (p4,(.st (V 15) (V 14) 0 [(zI (.li (-1)))] (V 17))),
 (p4,(.row (W 0 0) (V 14) (cV 18 dJ.jY))),
 (p5,(.row (W 0 0) (V 14) (cV 19 dJ.jY)))] [] [2] []
def axg : LH:=.mk [(qM (.li 0) (V 14)),(qL (V 14) dF),(qE (.rlen (V 15)) (.rlen (V 11)))] .nl [] [([((uN (W 18 1) (.li 1)),true)],(qM (.li 0) (W 19 4))),([((uN (W 18 1) (.li 1)),true),((qL (V 14) dF),true),((qM (.li 0) (V 14)),true)],(qL (W 19 4) dF)),([],(qE (.rlen (V 17)) (.rlen (V 15))))] 0 [] [[(qE (.rlen (V 15)) (.rlen (V 11)))]]
def aoJ (r:Int×List Int):Nat×List AV:=(0,[eI r.1,eL Bc r.2])
theorem arj (x0:dH)(r1:Bool×Bool×Bool)(v4:List Int)(u5:Bool)(u6:Int)(u7:List Int)(r8:Bool×Bool×Int×List Int×Bool×List Int):∀(n:Nat) (u14:Int) (u15:List Int) (hP:Ze x0) (_:aej x0 u6 n u14 u15=true),Gs Try.prog sT axf axg [dH.av x0,eI (mg r1.1),eB r1.2.1,eB r1.2.2,eL Bc v4,eB u5,eI u6,eL Bc u7,eI (mg r8.1),eB r8.2.1,eI r8.2.2.1,eL Bc r8.2.2.2.1,eB r8.2.2.2.2.1,eL Bc r8.2.2.2.2.2] n [eI u14,eL Bc u15] (aoJ (ae8 x0 u6 n u14 u15))
 |0,u14,u15,_,hE=>absurd (show false=true from hE) Bool.false_ne_true|n+1,u14,u15,hP,hE=>
  let v16:Int:=u15.getD (u14:Int).toNat default;let v17:List Int:=u15.set (u14:Int).toNat (-1);let v18:dJ:=x0.Objects.getD (u14:Int).toNat default;let v19:dJ:=x0.Objects.getD (u14:Int).toNat default;have hE:(bif (!(dU v16 (fK .i64 u6 1))) then true
  else bif (dU v18.fA.Kind 1) then true
  else aej x0 u6 n v19.fA.Ref v17)=true:=hE
  lmk rfl [.agg (Bc v16),eL Bc v17,dJ.av v18,dJ.av v19] (xp (fun h=>decide_eq_true (alf hP (aa2.1 (h.at 0 rfl))))<|xp (fun h=>decide_eq_true (aoP hP (aa2.1 (h.at 0 rfl)) (of_decide_eq_true (h.at 1 rfl)) (of_decide_eq_true (h.at 2 rfl))))<|xc (rQ.2 (awW))<|xn) (wT <|
  wT <|
  wRd rfl <|
  wT <|
  wT <|
  wSt (f:=Bc) (-1) rfl <|
  wR rfl <|
  wR rfl <|
  wn) ln <|
   rcf aoJ (fun g0=>rx)<|fun g0=>rcf aoJ (fun g1=>rx)<|fun g1=>rl (rg (arj x0 r1 v4 u5 u6 u7 r8 n _ _ hP (ak6 g1 (ak6 g0 hE))))
def aym : Lo:=
 .mk [(avx,true),avV] 5 3 [(zB (V 2)),zz4,(zL (V 4))] [((.not (qL (V 6) dF)),1,[(zB (V 5)),(zL (V 7))]),((.not (qE (V 8) (.li 0))),2,[(zB (V 12)),(zL (V 13))]),((.lb true),0,[(zB (V 9)),(zI azP),(zL (V 15))])] [] [ayk,axf] [2,2] []
def ayn : LH:=.mk [(qM (V 1) (V 6)),(qE (.rlen (V 7)) (.rlen (V 4)))] (mI dF (V 6)) [(dF,1)] [] 1 [ayl,axg] []
def apX (r:Bool×Bool×List Int×Bool×List Int):Nat×List AV:=rk2 r.1 [eB r.2.1,eL Bc r.2.2.1] [eB r.2.2.2.1,eL Bc r.2.2.2.2]
theorem arX (x0:dH)(r1:Bool×Bool×Bool)(v4:List Int):∀(n:Nat) (u5:Bool) (u6:Int) (u7:List Int) (hP:Ze x0) (hB:x0.Objects.length<=4294967296) (k0:0<=u6) (k1:u7.length=x0.Objects.length),Gs Try.prog sT aym ayn [dH.av x0,eI (mg r1.1),eB r1.2.1,eB r1.2.2,eL Bc v4] n [eB u5,eI u6,eL Bc u7] (apX (afX x0 n u5 u6 u7))
 |0,u5,u6,u7,_,_,_,_=>l0|n+1,u5,u6,u7,hP,hB,k0,k1=>
  let r8:Bool×Bool×Int×List Int×Bool×List Int:=wU x0 u6 (x0.Objects.length+1) u5 u6 u7;let r14:Int×List Int:=ae8 x0 u6 (x0.Objects.length+1) u6 r8.2.2.2.1
  lmk rfl [eI (mg r8.1),eB r8.2.1,eI r8.2.2.1,eL Bc r8.2.2.2.1,eB r8.2.2.2.2.1,eL Bc r8.2.2.2.2.2,eI r14.1,eL Bc r14.2] xn wn (aA3 (fun h=>arP x0 r1 v4 u5 u6 u7 (x0.Objects.length+1) u5 u6 u7 hP (avz hP hB k0 (h.at 0 rfl) k1)) (hn:=Int.natCast_pos.2 (Nat.succ_pos _)) <|
  aB8 (fun h=>arj x0 r1 v4 u5 u6 u7 r8 (x0.Objects.length+1) u6 r8.2.2.2.1 hP (atw hP hB k0 (h.at 1 rfl) k1 (h.at 0 rfl))) (hn:=Int.natCast_pos.2 (Nat.succ_pos _)) <|
  ln) <|
   rcf apX (fun g0=>rx)<|fun g0=>rcf apX (fun g1=>rx)<|fun g1=>rl (rg (arX x0 r1 v4 n _ _ _ hP hB (aqy hB k0 g0) (axN hP hB k0 g0 k1 g1)))
def R54 : kR:=
 let p0:Pc:=avV::[];let p1:Pc:=(avx,true)::p0
 ⟨[((qG dF (.li 4096)),oO),((.not avx),(zB (V 3))),((.not (qE (V 5) (.li 0))),(zB (V 8))),((.lb true),avN)],
 [(p1,(.mk dF dF [zz4] (V 4)))],[ayi,aym]⟩
def H54 : LH:=.mk [] (.li 0) [] [] 0 [ayj,ayn] []
theorem e54 : pK Try.prog jI jJ Di (Df kA 54 [7,6,4,2] [(2,(.mk [1,3,5] (.mk [(2,(.sc .bool)),(6,(.sc kI))] [] [(10,1)] 13 []) [(.normal,(.mk [(2,(.sc .bool))] [] [(10,1)] 13 [])),(.ret,(.mk [(2,(.sc .bool))] [] [(10,1)] 13 []))])),(6,(.mk [1,2,3,5,6] (.mk [(7,(.sc kI))] [] [(10,1)] 20 []) [(.normal,(.mk [(7,(.sc kI))] [] [(10,1)] 20 []))])),(4,(.mk [1,3,5,6] (.mk [(2,(.sc .bool)),(7,(.sc kI))] [] [(10,1)] 18 []) [(.normal,(.mk [(2,(.sc .bool)),(7,(.sc kI))] [] [(10,1)] 18 [])),(.ret,(.mk [(2,(.sc .bool))] [] [(10,1)] 18 []))])),(0,(.mk [1,3] (.mk [(2,(.sc .bool)),(4,(.sc kI))] [] [] 9 []) [(.normal,(.mk [(2,(.sc .bool))] [] [] 9 [])),(.ret,(.mk [(2,(.sc .bool))] [] [] 9 []))]))]) 3 200 54 [.agg atq] 1=some R54:=by kernel_rfl
theorem ami (x0:dH):CT Try.prog sT 54 [dH.av x0] (eB (aeH x0)):=
 let r1:Bool×Bool×Bool:=ajB x0 (x0.Objects.length+1) false 0;let v4:List Int:=List.replicate ((jT dJ.enc x0.Objects):Int).toNat 0;let r5:Bool×Bool×List Int×Bool×List Int:=afX x0 (x0.Objects.length+1) r1.2.1 0 v4
 Gx oJ fE fF e54 H54 (by kernel_rfl) [dH.av x0,eI (mg r1.1),eB r1.2.1,eB r1.2.2,eL Bc v4,eI (mg r5.1),eB r5.2.1,eL Bc r5.2.2.1,eB r5.2.2.2.1,eL Bc r5.2.2.2.2] xn
  (wMk (f:=Bc) 0 rfl<|wn)
  (lc2 (arO x0 (x0.Objects.length+1) false 0) <|
  aA3 (fun h=>arX x0 r1 v4 (x0.Objects.length+1) r1.2.1 0 v4 (aw0 (abG (h.at 1 rfl)) (rQ.1 (h.at 0 rfl))) (abG (h.at 1 rfl)) (Int.le_refl _) axO) <|
  ln)
  (nO (fun r=>.p (.bool r)) rfl rfl (nO (fun r=>.p (.bool r)) rfl rfl (nO (fun r=>.p (.bool r)) rfl rfl (oQ rfl))))
def aCJ : kR:=
 ⟨[((.lb true),(.agg [(zL (W 1 0))]))],
 [],[aw5]⟩
theorem aCK : ahr Try.prog jI jJ Di (Df kA 25 [4] [(0,(.mk [1,2,3] (.mk [(4,(.sc kI))] [] [] 5 [(2,(.mk [] 4 18 []))]) [(.normal,(.mk [] [] [] 5 [(2,(.mk [] 4 18 []))]))]))]) 3 200 25 [.agg atq] 1 [0] 18=some aCJ:=by kernel_rfl
theorem ar8 (x0:dH):CTo Try.prog sT 25 [dH.av x0] (dH.av (al7 x0)) [0] 18:=
 let r1:dH:=aia x0 (x0.Objects.length+1) 0 (dH.mk [])
 mkO oJ fE fF aCK H25 (by kernel_rfl) [dH.av x0,dH.av r1] xn
  wn
  (lc1 (aoB x0 (x0.Objects.length+1) 0 (dH.mk [])) <|
  ln)
  (oQ rfl)
def R28 : kR:=
 let p0:Pc:=((V 2),true)::[];let p1:Pc:=((qH dF (.li 4096)),false)::p0
 ⟨[((.not (V 2)),(.gW [ax3,zz4,avQ])),((qH dF (.li 4096)),(.gW [ax3,zz4,(zI (.li 4))])),((.not (V 6)),(.gW [ax3,zz4,avQ])),((.lb true),(.gW [(.agg [(zL (V 5))]),(zI dF),zz4]))],
 [([],(.call 54 [zz6] (zB (V 2)))),
 (p1,(.PL 25 [zz6] (.agg [(zL (W 3 0))]) [0] 18 false)),
 (p1,(.call 26 [(.agg (cV 1 dJ.jY))] awM)),
 (p1,(.app 18 (W 3 0) [aCN] (V 5))),
 (p1,(.call 54 [(.agg [(zL (V 5))])] (zB (V 6))))],[]⟩
theorem e28 : pK Try.prog jI jJ (mdW [25] Di) (Df kA 28 [] []) 3 200 28 [.agg atq,.agg (cV 1 dJ.jY)] 2=some R28:=by kernel_rfl
theorem au3 (x0:dH)(x1:dJ):CT Try.prog sT 28 [dH.av x0,dJ.av x1] (lV (aq0 x0 x1)):=
 let v2:Bool:=aeH x0;let v3:dH:=al7 x0;let v4:dJ:=adp x1;let v5:List dJ:=v3.Objects++[v4];let v6:Bool:=aeH (dH.mk v5)
 Gx oJ fE fF e28 K_ (by kernel_rfl) [dH.av x0,dJ.av x1,eB v2,dH.av v3,dJ.av v4,eL dJ.enc v5,eB v6] xn
  (wC (ami x0) <|
  wO (ar8 x0) <|
  wC (alV x1) <|
  au5 (f:=dJ.enc) [v4] rfl <|
  wC (ami (dH.mk v5)) <|
  wn)
  ln
  (nO lV rfl rfl (nO lV rfl rfl (nO lV rfl rfl (oQ rfl))))
theorem au4 (x0:dH)(x1:dJ):PC Try.prog 28 [dH.av x0,dJ.av x1] (lV (aq0 x0 x1)):=(au3 x0 x1 trivial).1
def R30 : kR:=
 let p0:Pc:=((V 2),true)::[];let p1:Pc:=((qH (V 1) dF),false)::p0;let p2:Pc:=((qL (V 1) (.li 0)),false)::p1
 ⟨[((.not (V 2)),(.gW [aCO,avQ])),((.or (qL (V 1) (.li 0)) (qH (V 1) dF)),(.gW [aCO,(zI (.li 2))])),((.lb true),(.gW [awM,zz4]))],
 [([],(.call 54 [zz6] (zB (V 2)))),
 (p2,(.row (W 0 0) (V 1) (cV 3 dJ.jY))),
 (p2,(.call 26 [(.agg (cV 3 dJ.jY))] awM))],[]⟩
theorem e30 : pK Try.prog jI jJ Di (Df kA 30 [] []) 3 200 30 [.agg atq,zI (V 1)] 2=some R30:=by kernel_rfl
theorem avA (x0:dH)(x1:Int):CT Try.prog sT 30 [dH.av x0,eI x1] (alY (ar6 x0 x1)):=
 let v2:Bool:=aeH x0;let v3:dJ:=x0.Objects.getD (x1:Int).toNat default;let v4:dJ:=adp v3
 Gx oJ fE fF e30 K_ (by kernel_rfl) [dH.av x0,eI x1,eB v2,dJ.av v3,dJ.av v4] xn
  (wC (ami x0) <|
  wR rfl <|
  wC (alV v3) <|
  wn)
  ln
  (nO alY rfl rfl (nO alY rfl rfl (oQ rfl)))
theorem avD (x0:dH)(x1:Int):PC Try.prog 30 [dH.av x0,eI x1] (alY (ar6 x0 x1)):=(avA x0 x1 trivial).1
def R32 : kR:=
 let p0:Pc:=((V 3),true)::[];let p1:Pc:=((qH (V 1) dF),false)::p0;let p2:Pc:=((qL (V 1) (.li 0)),false)::p1;let p3:Pc:=((V 8),true)::p2
 ⟨[(avO,(.gW [ax3,avQ])),((.or (qL (V 1) (.li 0)) (qH (V 1) dF)),(.gW [ax3,(zI (.li 2))])),((.not (V 8)),(.gW [ax3,avQ])),((.lb true),(.gW [(.agg [(zL (V 9))]),zz4]))],
 [([],(.call 54 [zz6] (zB (V 3)))),
 (p2,(.PL 25 [zz6] (.agg [(zL (W 4 0))]) [0] 18 false)),
 (p2,(.call 26 [(.agg (cV 2 dJ.jY))] (.agg (cV 5 dJ.jY)))),
 (p2,(.tm (qM (.li 0) (V 1)))),
 (p2,(.tm (qL (V 1) (.rlen (W 4 0))))),
 (p2,(.st (W 4 0) (V 1) 0 [(zU (W 5 0)),(zU (W 5 1)),(zF (W 5 2)),(zS (W 5 3)),(zI (W 5 4)),(zB (W 5 5)),(zL (W 5 6)),(zU (W 5 7)),(zF (W 5 8)),(zS (W 5 9)),(zI (W 5 10)),(zU (W 5 11)),(zF (W 5 12)),(zS (W 5 13)),(zI (W 5 14)),(zS (W 5 15)),(zB (W 5 16)),(zB (W 5 17))] (V 6))),
 (p2,(.sub 18 (V 6) none (some (.rlen (W 4 0))) (V 7))),
 (p2,(.call 54 [(.agg [(zL (V 7))])] (zB (V 8)))),
 (p3,(.sub 18 (V 6) none (some (.rlen (W 4 0))) (V 9)))],[]⟩
theorem e32 : pK Try.prog jI jJ (mdW [25] Di) (Df kA 32 [] []) 3 200 32 [.agg atq,zI (V 1),.agg (cV 2 dJ.jY)] 3=some R32:=by kernel_rfl
theorem au7 (x0:dH)(x1:Int)(x2:dJ):CT Try.prog sT 32 [dH.av x0,eI x1,dJ.av x2] (ame (aq1 x0 x1 x2)):=
 let v3:Bool:=aeH x0;let v4:dH:=al7 x0;let v5:dJ:=adp x2;let v6:List dJ:=v4.Objects.set (x1:Int).toNat v5;let v7:List dJ:=(v6.drop (0)).take (((jT dJ.enc v4.Objects):Int).toNat-0);let v8:Bool:=aeH (dH.mk v7);let v9:List dJ:=(v6.drop (0)).take (((jT dJ.enc v4.Objects):Int).toNat-0)
 Gx oJ fE fF e32 K_ (by kernel_rfl) [dH.av x0,eI x1,dJ.av x2,eB v3,dH.av v4,dJ.av v5,eL dJ.enc v6,eL dJ.enc v7,eB v8,eL dJ.enc v9] xn
  (wC (ami x0) <|
  wO (ar8 x0) <|
  wC (alV x2) <|
  wT <|
  wT <|
  wSt (f:=dJ.enc) v5 rfl <|
  az0 rfl <|
  wC (ami (dH.mk v7)) <|
  az0 rfl <|
  wn)
  ln
  (nO ame rfl rfl (nO ame rfl rfl (nO ame rfl rfl (oQ rfl))))
theorem au9 (x0:dH)(x1:Int)(x2:dJ):PC Try.prog 32 [dH.av x0,eI x1,dJ.av x2] (ame (aq1 x0 x1 x2)):=(au7 x0 x1 x2 trivial).1
def R33 : kR:=
 ⟨[((.not (V 1)),avQ),((.lb true),zz4)],
 [([],(.call 54 [zz6] (zB (V 1))))],[]⟩
theorem e33 : pK Try.prog jI jJ Di (Df kA 33 [] []) 3 200 33 [.agg atq] 1=some R33:=by kernel_rfl
theorem atX (x0:dH):CT Try.prog sT 33 [dH.av x0] (eI (aq4 x0)):=
 let v1:Bool:=aeH x0
 Gx oJ fE fF e33 K_ (by kernel_rfl) [dH.av x0,eB v1] xn
  (wC (ami x0)<|wn)
  ln
  (nO (fun r=>.p (.int .i64 r)) rfl rfl (oQ rfl))
theorem atY (x0:dH):PC Try.prog 33 [dH.av x0] (eI (aq4 x0)):=(atX x0 trivial).1
def R55 : kR:=
 ⟨[((.lb true),(zB (.and aA7 (.or (.bin .eql .jL (W 0 1) (W 1 1)) (.and (.bin .neq .jL (W 0 1) (W 0 1)) (.bin .neq .jL (W 1 1) (W 1 1)))))))],
 [],[]⟩
theorem e55 : pK Try.prog jI jJ Di (Df kA 55 [] []) 3 200 55 [.agg ase,.agg awF] 2=some R55:=by kernel_rfl
theorem alX (x0:dL)(x1:dL):CT Try.prog sT 55 [dL.av x0,dL.av x1] (eB (aek x0 x1)):=
 Gx oJ fE fF e55 K_ (by kernel_rfl) [dL.av x0,dL.av x1] xn
  wn
  ln
  (oQ rfl)
def R56 : kR:=
 let p0:Pc:=(zz5,true)::[];let p1:Pc:=((.and zz5 (V 2)),true)::[];let p2:Pc:=((.and (.and zz5 (V 2)) (V 3)),true)::[]
 ⟨[((.lb true),(zB (.and (.and (.and zz5 (V 2)) (V 3)) (V 4))))],
 [(p0,(.call 55 [aAb,(.agg (cW 1 1 dL.jY))] (zB (V 2)))),
 (p1,(.call 55 [(.agg (cW 0 5 dL.jY)),(.agg (cW 1 5 dL.jY))] (zB (V 3)))),
 (p2,(.call 55 [(.agg (cW 0 9 dL.jY)),(.agg (cW 1 9 dL.jY))] (zB (V 4))))],[]⟩
theorem e56 : pK Try.prog jI jJ Di (Df kA 56 [] []) 3 200 56 [.agg zz7,.agg (cV 1 dN.jY)] 2=some R56:=by kernel_rfl
theorem asl (x0:dN)(x1:dN):CT Try.prog sT 56 [dN.av x0,dN.av x1] (eB (al6 x0 x1)):=
 let v2:Bool:=aek x0.Value x1.Value;let v3:Bool:=aek x0.Get x1.Get;let v4:Bool:=aek x0.Set x1.Set
 Gx oJ fE fF e56 K_ (by kernel_rfl) [dN.av x0,dN.av x1,eB v2,eB v3,eB v4] xn
  (wC (alX x0.Value x1.Value) <|
  wC (alX x0.Get x1.Get) <|
  wC (alX x0.Set x1.Set) <|
  wn)
  ln
  (oQ rfl)
def ayo : Lo:=
 let p0:Pc:=((qN (.rlen (W 0 6)) (.rlen (W 1 6))),false)::[];let p1:Pc:=((.bin .eql .bool (W 0 17) (W 1 17)),true)::p0;let p2:Pc:=((.bin .eql .bool (W 0 16) (W 1 16)),true)::p1;let p3:Pc:=((sN (W 0 15) (W 1 15)),false)::p2;let p4:Pc:=((V 4),true)::p3;let p5:Pc:=((V 3),true)::p4;let p6:Pc:=((.bin .eql .bool (W 0 5) (W 1 5)),true)::p5;let p7:Pc:=((V 2),true)::p6;let p8:Pc:=((uN (W 0 0) (W 1 0)),false)::p7;let p9:Pc:=((qL (V 6) (.rlen (W 0 6))),true)::p8;let p10:Pc:=((.not (.and (sE (W 7 0) (W 8 0)) (qE (W 7 1) (W 8 1)))),false)::p9
 .mk [((uN (W 0 0) (W 1 0)),false),((V 2),true),((.bin .eql .bool (W 0 5) (W 1 5)),true),((V 3),true),((V 4),true),((sN (W 0 15) (W 1 15)),false),((.bin .eql .bool (W 0 16) (W 1 16)),true),((.bin .eql .bool (W 0 17) (W 1 17)),true),((qN (.rlen (W 0 6)) (.rlen (W 1 6))),false)] 5 2 [oO,zz4] [((.not (qL (V 6) (.rlen (W 0 6)))),1,[(zB (V 5))]),((.or (.not (.and (sE (W 7 0) (W 8 0)) (qE (W 7 1) (W 8 1)))) (.not (V 11))),2,[oO]),((.lb true),0,[(zB (V 5)),(zI azP)])] [(p9,(.row (W 0 6) (V 6) (cV 7 dI.jY))),
 (p9,(.row (W 1 6) (V 6) (cV 8 dI.jY))),
 (p10,(.row (W 0 6) (V 6) (cV 9 dI.jY))),
 (p10,(.row (W 1 6) (V 6) (cV 10 dI.jY))),
 (p10,(.call 56 [(.agg (cW 9 2 dN.jY)),(.agg (cW 10 2 dN.jY))] (zB (V 11))))] [] [1,1] []
def azI : LH:=.mk [(qM (.li 0) (V 6))] (mI (.rlen (W 0 6)) (V 6)) [((.rlen (W 0 6)),1)] [] 3 [] []
def alU (r:Bool×Bool×Bool):Nat×List AV:=rk2 r.1 [eB r.2.1] [eB r.2.2]
theorem aoz (x0:dJ)(x1:dJ)(v2:Bool)(v3:Bool)(v4:Bool):∀(n:Nat) (u5:Bool) (u6:Int),Gs Try.prog sT ayo azI [dJ.av x0,dJ.av x1,eB v2,eB v3,eB v4] n [eB u5,eI u6] (alU (afB x0 x1 n u5 u6))
 |0,u5,u6=>l0|n+1,u5,u6=>
  let v7:dI:=x0.Props.getD (u6:Int).toNat default;let v8:dI:=x1.Props.getD (u6:Int).toNat default;let v9:dI:=x0.Props.getD (u6:Int).toNat default;let v10:dI:=x1.Props.getD (u6:Int).toNat default;let v11:Bool:=al6 v9.dQ v10.dQ
  lmk rfl [dI.av v7,dI.av v8,dI.av v9,dI.av v10,eB v11] xn (wR rfl <|
  wR rfl <|
  wR rfl <|
  wR rfl <|
  wC (asl v9.dQ v10.dQ) <|
  wn) ln <|
   rc alU rx<|rc alU rx<|rl (rg (aoz x0 x1 v2 v3 v4 n _ _))
def R35 : kR:=
 let p0:Pc:=((uN (W 0 0) (W 1 0)),false)::[];let p1:Pc:=(aA5,false)::[];let p2:Pc:=((.or aA5 avO),false)::[]
 ⟨[((.or (.or (.or (.or (.or (.or aA5 avO) (.not (V 4))) (sN (W 0 15) (W 1 15))) (.not (.bin .eql .bool (W 0 16) (W 1 16)))) (.not (.bin .eql .bool (W 0 17) (W 1 17)))) (qN (.rlen (W 0 6)) (.rlen (W 1 6)))),oO),((.not (qE (V 5) (.li 0))),(zB (V 7))),((.lb true),avN)],
 [(p0,(.call 55 [aAb,(.agg (cW 1 1 dL.jY))] (zB (V 2)))),
 (p1,(.call 55 [(.agg (cW 0 7 dL.jY)),awt] (zB (V 3)))),
 (p2,(.call 55 [(.agg (cW 0 11 dL.jY)),ax1] (zB (V 4))))],[ayo]⟩
def H35 : LH:=.mk [] (.li 0) [] [] 0 [azI] []
theorem e35 : pK Try.prog jI jJ Di (Df kA 35 [93,95,94,96,97,99,101,100,102,103,104,98,105,106,5,4] [(0,(.mk [2,3] (.mk [(4,(.sc .bool)),(5,(.sc kI))] [] [] 70 []) [(.normal,(.mk [(4,(.sc .bool))] [] [] 70 [])),(.ret,(.mk [(4,(.sc .bool))] [] [] 70 []))]))]) 3 200 35 [.agg (cV 0 dJ.jY),.agg (cV 1 dJ.jY)] 2=some R35:=by kernel_rfl
theorem aqm (x0:dJ)(x1:dJ):CT Try.prog sT 35 [dJ.av x0,dJ.av x1] (eB (agv x0 x1)):=
 let v2:Bool:=aek x0.fA x1.fA;let v3:Bool:=aek x0.Target x1.Target;let v4:Bool:=aek x0.Handler x1.Handler;let r5:Bool×Bool×Bool:=afB x0 x1 (x0.Props.length+1) false 0
 Gx oJ fE fF e35 H35 (by kernel_rfl) [dJ.av x0,dJ.av x1,eB v2,eB v3,eB v4,eI (mg r5.1),eB r5.2.1,eB r5.2.2] xn
  (wC (alX x0.fA x1.fA) <|
  wC (alX x0.Target x1.Target) <|
  wC (alX x0.Handler x1.Handler) <|
  wn)
  (lc2 (aoz x0 x1 v2 v3 v4 (x0.Props.length+1) false 0) <|
  ln)
  (nO (fun r=>.p (.bool r)) rfl rfl (nO (fun r=>.p (.bool r)) rfl rfl (oQ rfl)))
theorem aqY (x0:dJ)(x1:dJ):PC Try.prog 35 [dJ.av x0,dJ.av x1] (eB (agv x0 x1)):=(aqm x0 x1 trivial).1
def azJ : Lo:=
 let p0:Pc:=((qN dF (.rlen (W 1 0))),false)::[];let p1:Pc:=((qL (V 3) dF),true)::p0
 .mk [((qN dF (.rlen (W 1 0))),false)] 2 2 [oO,zz4] [((.not (qL (V 3) dF)),1,[(zB (V 2))]),((.not (V 6)),2,[oO]),((.lb true),0,[(zB (V 2)),awu])] [(p1,(.row (W 0 0) (V 3) (cV 4 dJ.jY))),
 (p1,(.row (W 1 0) (V 3) (cV 5 dJ.jY))),
 (p1,(.call 35 [awM,(.agg (cV 5 dJ.jY))] (zB (V 6))))] [] [1,1] []
def azK : LH:=.mk [awz] (mI dF (V 3)) [(dF,1)] [] 0 [] []
def aoK (r:Bool×Bool×Bool):Nat×List AV:=rk2 r.1 [eB r.2.1] [eB r.2.2]
theorem ark (x0:dH)(x1:dH):∀(n:Nat) (u2:Bool) (u3:Int),Gs Try.prog sT azJ azK [dH.av x0,dH.av x1] n [eB u2,eI u3] (aoK (alW x0 x1 n u2 u3))
 |0,u2,u3=>l0|n+1,u2,u3=>
  let v4:dJ:=x0.Objects.getD (u3:Int).toNat default;let v5:dJ:=x1.Objects.getD (u3:Int).toNat default;let v6:Bool:=agv v4 v5
  lmk rfl [dJ.av v4,dJ.av v5,eB v6] xn (wR rfl <|
  wR rfl <|
  wC (aqm v4 v5) <|
  wn) ln <|
   rc aoK rx<|rc aoK rx<|rl (rg (ark x0 x1 n _ _))
def R34 : kR:=
 ⟨[((qN dF (.rlen (W 1 0))),oO),(awL,(zB (V 4))),((.lb true),avN)],
 [],[azJ]⟩
def H34 : LH:=.mk [] (.li 0) [] [] 0 [azK] []
theorem e34 : pK Try.prog jI jJ Di (Df kA 34 [5,4] [(0,(.mk [2,3] (.mk [(4,(.sc .bool)),(5,(.sc kI))] [] [] 11 []) [(.normal,(.mk [(4,(.sc .bool))] [] [] 11 [])),(.ret,(.mk [(4,(.sc .bool))] [] [] 11 []))]))]) 3 200 34 [.agg atq,.agg (cV 1 dH.jY)] 2=some R34:=by kernel_rfl
theorem auK (x0:dH)(x1:dH):CT Try.prog sT 34 [dH.av x0,dH.av x1] (eB (arn x0 x1)):=
 let r2:Bool×Bool×Bool:=alW x0 x1 (x0.Objects.length+1) false 0
 Gx oJ fE fF e34 H34 (by kernel_rfl) [dH.av x0,dH.av x1,eI (mg r2.1),eB r2.2.1,eB r2.2.2] xn
  wn
  (lc2 (ark x0 x1 (x0.Objects.length+1) false 0) <|
  ln)
  (nO (fun r=>.p (.bool r)) rfl rfl (nO (fun r=>.p (.bool r)) rfl rfl (oQ rfl)))
theorem arb (x0:dH)(x1:dH):PC Try.prog 34 [dH.av x0,dH.av x1] (eB (arn x0 x1)):=(auK x0 x1 trivial).1
end Go.Fw
end
section
namespace Go.Fw
structure HWg (h:dH):Prop where
 wf:HWf h
 tg:∀o∈h.Objects,o.Target.ok/\o.Handler.ok
 pl:∀o∈h.Objects,o.Props.length<=4294967296
theorem hwg {h:dH}(w:h.wf):HWg h:=⟨hwf w,fun o ho=>⟨vok (w.Objects.2 o ho).Target,vok (w.Objects.2 o ho).Handler⟩,fun o ho=>bW (w.Objects.2 o ho).Props.1 (by decide)⟩
theorem HWg.at {h:dH}(w:HWg h){i:Nat}(hi:i<h.Objects.length):(h.Objects.getD i default).Target.ok/\(h.Objects.getD i default).Handler.ok/\(h.Objects.getD i default).Props.length<=4294967296:=by
 have:h.Objects.getD i default∈h.Objects:=by rw [aB,aW hi];exact List.getElem_mem hi
 exact ⟨(w.tg _ this).1,(w.tg _ this).2,w.pl _ this⟩
theorem axQ (o:dJ):(bif o.Makes then (8:Int) else (bif o.Calls then 7 else 6))=Eb o:=rfl
theorem asg {h:dH}{v:dL}(hv:v.ok):aa1 h v=dZ h v:=by
 unfold aa1 dZ;dsimp only;rw [FI hv,ar5];cases hm:kT v with
 |false=>rfl|true=>
  cases ho:dR v with
  |false=>rfl|true=>
   simp only [aK,cond_false,Bool.false_or,aq2,axQ];have h1:=hm;unfold kT at h1;dsimp only at h1;obtain ⟨-,h1⟩:=Ef h1;unfold dR at ho;simp only [ak,decide_eq_true_eq] at ho;have k3:dU v.Kind 3=false:=Cj.2 (by omega);have k2:dU v.Kind 2=false:=Cj.2 (by omega);have k4:dU v.Kind 4=false:=Cj.2 (by omega);rw [k3,k2,k4] at h1;simp only [cond_false,Bool.false_and,Bool.or_false,ak] at h1;obtain ⟨⟨n,s⟩,-⟩:=h1;unfold iU at n;rw [ak] at n;have n:=n.1;rw [akv] at n;have s':Dw [] v.Str=true:=(by unfold Dw at s ⊢;rw [decide_eq_true_eq] at s ⊢;exact s.symm);have r:dU v.Ref v.Ref=true:=rQ.2 rfl;rw [n,s',r];simp
theorem avE {v:dL}(hv:v.ok):oG v 1=ab7 v/\oG v 0=aiO v:=by
 unfold oG ab7 aiO;dsimp only;rw [FI hv];exact ⟨rfl,rfl⟩
theorem awx {h:dH}{o:dJ}(n:Int)(hp:o.fA.ok)(ht:o.Target.ok)(hh:o.Handler.ok):aoa h o n=sJ h o n:=by
 unfold aoa sJ;dsimp only;rw [(avE hp).1,(avE ht).1,(avE hh).1,asg ht,asg hh,ar5,ar5];have e3:jO h n ((2:Int).toNat+1) false 0 [o.Target,o.Handler]=bif ((!dR o.Target||!dZ h o.Target)||decide (o.Target.Ref>=n)) then (false,default,default,false,[o.Target,o.Handler]) else bif ((!dR o.Handler||!dZ h o.Handler)||decide (o.Handler.Ref>=n)) then (false,default,default,false,[o.Target,o.Handler]) else (true,false,[o.Target,o.Handler],default,default):=by
  show jO h n 3 false 0 [o.Target,o.Handler]=_;simp only [jO];have a0:fK .i64 0 1=1:=rfl;have a1:fK .i64 1 1=2:=rfl;rw [a0,a1];rfl
 rw [e3];have nt:∀{v:dL},ab7 v=true->dR v=false:=by
  intro v hv;unfold ab7 at hv;dsimp only at hv;rw [ak] at hv;have:=rQ.1 hv.1;unfold dR;rw [this];rfl
 cases ht':ab7 o.Target with
 |true=>
  cases hh':ab7 o.Handler with
  |true=>rfl|false=>rw [nt ht'];rfl
 |false=>
  cases hh':ab7 o.Handler with
  |true=>rw [nt hh'];simp only [Bool.false_or,cond_true,Bool.false_and,bg,Bool.true_or];cases (!dR o.Target||!dZ h o.Target||decide (o.Target.Ref>=n))<;>rfl
  |false=>
   simp only [Bool.or_self,Bool.and_self,cond_false];cases dR o.Target<;>cases dR o.Handler<;>cases dZ h o.Target<;>cases dZ h o.Handler<;>cases decide (o.Target.Ref>=n)<;>cases decide (o.Handler.Ref>=n)<;>rfl
theorem avF {h:dH}{o:dJ}(hd:∀p∈o.Props,p.dQ.ok):∀{n:Nat} {u:Bool} {i:Int},aiI h o.Props n u i=gG h o n u i
 |0,_,_=>rfl|n+1,u,i=>by
  simp only [aiI,gG];have:(o.Props.getD i.toNat default).dQ.ok:=by
   by_cases hi:i.toNat<o.Props.length
   .exact hd _ (aFW hi)
   .rw [aB,bK (by omega)];exact ⟨⟨by decide,by decide⟩,⟨⟨by decide,by decide⟩,by decide⟩,⟨⟨by decide,by decide⟩,by decide⟩,⟨⟨by decide,by decide⟩,by decide⟩⟩
  rw [asg this.2.1,asg this.2.2.1,asg this.2.2.2,avF hd]
theorem azL {h:dH}{o:dJ}:∀{n:Nat} {u:Bool} {i:Int},(gG h o n u i).1=false->(gG h o n u i).2.2=false
 |0,_,_,_=>rfl|n+1,u,i,hf=>by
  simp only [gG] at hf ⊢;cases h1:(!(decide ((i:Int)<(jT dI.enc o.Props)))) with
  |true=>rw [h1] at hf;cases hf
  |false=>
   rw [h1] at hf;simp only [cond_false] at hf ⊢;cases h2:(((!dZ h (o.Props.getD i.toNat default).dQ.Value)||(!dZ h (o.Props.getD i.toNat default).dQ.Get))||(!dZ h (o.Props.getD i.toNat default).dQ.Set)) with
   |true=>rfl|false=>rw [h2] at hf;simp only [cond_false] at hf ⊢;exact azL hf
theorem avG {x0:Nat}{l:List dI}{c:Int}(hc:((FloatKind.f64.decode x0).toInt .zero).getD 0=c)(hl:l.length<=4294967296):∀(n j:Nat) {u:Int} {b:Bool},j<=l.length->l.length-j<n->(jQ x0 l n u j).1=(afc l c n b j).1/\((afc l c n b j).1=false->0<=(jQ x0 l n u j).2.2/\(afc l c n b j).2.2=false)
 |0,j,_,_,_,h=>by omega
 |n+1,j,u,b,hj,hn=>by
  simp only [jQ,afc,jF,av8,hc];by_cases hlt:j<l.length
  .have e1:(!decide ((j:Int)<(l.length:Int)))=false:=(by rw [decide_eq_true (by omega)];rfl);rw [e1];simp only [cond_false];cases ((vF (l.getD (j:Int).toNat default).Key).2&&decide ((vF (l.getD (j:Int).toNat default).Key).1>=c)) with
   |true=>exact ⟨rfl,fun _=>⟨by simp only [cond_true];omega,rfl⟩⟩|false=>
    simp only [cond_false];rw [G_ (by omega) (by omega)];have e3:((j:Int)+1)=((j+1:Nat):Int):=(by omega);rw [e3];exact avG hc hl n (j+1) (by omega) (by omega)
  .have e1:(!decide ((j:Int)<(l.length:Int)))=true:=(by rw [decide_eq_false (by omega)];rfl);rw [e1];exact ⟨rfl,fun h=>Bool.noConfusion h⟩
theorem axh {x0:Nat}{l:List dI}(hl:l.length<=4294967296):apu l (((FloatKind.f64.decode x0).toInt .zero).getD 0)=!lX x0 l:=by
 unfold apu lX nP;dsimp only;have h:=avG (x0:=x0) rfl hl (l.length+1) 0 (u:=0) (b:=false) (dB _) (by omega);have e0:((0:Nat):Int)=0:=rfl;rw [e0] at h;rw [h.1];cases hb:(afc l (((FloatKind.f64.decode x0).toInt .zero).getD 0) (l.length+1) false 0).1 with
 |true=>rfl|false=>
  have e2:(!dU (mg false) 0)=true:=rfl;simp only [e2,cond_true];obtain ⟨a,b⟩:=h.2 hb;rw [b,decide_eq_true a];rfl
theorem avH {l:List dI}{s:List UInt8}(hl:l.length<=4294967296):∀(n j:Nat) {u:Int} {b:Bool},j<=l.length->l.length-j<n->(ku l s n u j).1=(afj l s n b j).1/\((afj l s n b j).1=false->0<=(ku l s n u j).2.2/\(afj l s n b j).2.2=false)
 |0,j,_,_,_,h=>by omega
 |n+1,j,u,b,hj,hn=>by
  simp only [ku,afj,jF,av8,UL];by_cases hlt:j<l.length
  .have e1:(!decide ((j:Int)<(l.length:Int)))=false:=(by rw [decide_eq_true (by omega)];rfl);rw [e1];simp only [cond_false];cases (((vF (l.getD (j:Int).toNat default).Key).2&&decide ((vF (l.getD (j:Int).toNat default).Key).1<(sLen s)))||(Dw (l.getD (j:Int).toNat default).Key.Str [108,101,110,103,116,104]&&dU (l.getD (j:Int).toNat default).Key.Sym 0)) with
   |true=>exact ⟨rfl,fun _=>⟨by simp only [cond_true];omega,rfl⟩⟩|false=>
    simp only [cond_false];rw [G_ (by omega) (by omega)];have e3:((j:Int)+1)=((j+1:Nat):Int):=(by omega);rw [e3];exact avH hl n (j+1) (by omega) (by omega)
  .have e1:(!decide ((j:Int)<(l.length:Int)))=true:=(by rw [decide_eq_false (by omega)];rfl);rw [e1];exact ⟨rfl,fun h=>Bool.noConfusion h⟩
theorem axi {l:List dI}{s:List UInt8}(hl:l.length<=4294967296):apP l s=Bl l s:=by
 unfold apP Bl nG pR;dsimp only;have h:=avH (s:=s) hl (l.length+1) 0 (u:=0) (b:=false) (dB _) (by omega);have e0:((0:Nat):Int)=0:=rfl;rw [e0] at h;rw [h.1];by_cases hs:sLen s<=4096
 .rw [decide_eq_true hs,decide_eq_false (show ¬sLen s > 4096 by omega)];simp only [cond_false,Bool.true_and];cases hb:(afj l s (l.length+1) false 0).1 with
  |true=>rfl|false=>
   have e2:(!dU (mg false) 0)=true:=rfl;simp only [e2,cond_true];obtain ⟨a,b⟩:=h.2 hb;rw [b,decide_eq_true a];rfl
 .rw [decide_eq_false hs,decide_eq_true (show sLen s > 4096 by omega)];rfl
theorem awy {d:dN}(h:gU d=true):jk (jl .u8 d.Has 12) 0=!jk (jl .u8 d.Has 3) 0:=by
 unfold gU at h;dsimp only at h;rw [ak,aY] at h;rcases h.2 with h|h<;>rw [rQ.1 h]<;>rfl
theorem axj {l:List dI}(hl:l.length<=4294967296)(hw:∀p∈l,gU p.dQ=true):apK l=Bj l:=by
 unfold apK Bj kE;dsimp only [UL];rw [axh hl];by_cases h0:0<l.length
 .have hm:l.getD (0:Int).toNat default∈l:=aFW h0;rw [awy (hw _ hm)]
 .have:dU (jT dI.enc l) 0=true:=by rw [jF];exact rQ.2 (by omega)
  rw [this];rfl
theorem awd {h:dH}(w:HWg h){i:Nat}(hi:i<h.Objects.length):acw h (i:Nat)=jH h (i:Nat):=by
 unfold acw jH;dsimp only [Int.toNat_natCast];obtain ⟨hd,hp⟩:=w.wf.at i;obtain ⟨ht,hh,hl⟩:=w.at hi;generalize h.Objects.getD i default=o at hd hp ht hh hl;rw [awx _ hp ht hh,(avE ht).2,(avE hh).2,asg hp];have e1:amO h o (i:Nat)=(((((dU o.Kind 5)&&dR o.Target)&&(decide ((o.Target.Ref:Int)<(i:Nat))))&&dZ h o.Target)&&(dU (h.Objects.getD o.Target.Ref.toNat default).Kind 6)):=by
  unfold amO;dsimp only;rw [asg ht,ar5]
 rw [e1,ar5];cases dU o.Kind 6 with
 |true=>rfl|false=>
  simp only [cond_false];cases (((!aiO o.Target)&&(!(((((dU o.Kind 5)&&dR o.Target)&&(decide ((o.Target.Ref:Int)<(i:Nat))))&&dZ h o.Target)&&(dU (h.Objects.getD o.Target.Ref.toNat default).Kind 6))))||(!aiO o.Handler))||((sNe o.Text [])&&(jk o.Kind 3)) with
  |true=>rfl|false=>
   simp only [cond_false];cases ((jk o.fA.Kind 1)&&(!dR o.fA))||(!dZ h o.fA) with
   |true=>rfl|false=>
    simp only [Bool.false_or];unfold aq3;dsimp only;rw [<- O6 _ hl hd,avF hd];cases hc:jk (jG o.Props) 0 with
    |true=>rfl|false=>
     simp only [cond_false];cases h12:(gG h o (o.Props.length+1) false 0).1 with
     |false=>
      have e2:(!dU (mg false) 0)=true:=rfl;simp only [e2,cond_true];rw [azL h12];rfl
     |true=>
      have e2:(!dU (mg true) 0)=false:=rfl;simp only [e2,cond_false,aK];rw [axi hl];have hw:∀p∈o.Props,gU p.dQ=true:=by
       have hc:=Ii.1 hc;rw [O6 _ hl hd,Jp _ hl] at hc;cases hb:decide ((o.Props.length:Int) > 1024) with
       |true=>rw [hb] at hc;cases hc
       |false=>rw [hb] at hc;exact atu hc
      rw [axj hl hw]
theorem ar_ {h:dH}(w:HWg h):aeH h=dU (lY h) 0:=by
 rw [Bool.eq_iff_iff,aw4,rQ,O9];constructor
 .rintro ⟨a,b,c⟩;have ho:∀i,i<h.Objects.length->jH h (i:Nat)=true:=fun i hi=>by rw [<- awd w hi];exact b i hi
  exact ⟨a,ho,ad7 (U3 ho) (by omega) c⟩
 .intro k;exact ⟨k.len,fun i hi=>by rw [awd w hi];exact k.obj i hi,k.anS⟩
end Go.Fw
end
section
namespace Go.Fw
variable [iT]
abbrev CK :=AV->AH->Nat->Prop
def CW (P:Program)(f:FuncId)(az:List AV)(ah:AH)(nx:Nat)(K:CK):Prop:=
 ∀base w E vs,dM base w E ah (fun b=>nx<=b)->Zg w E.fix->fG w E az vs->
  ∀(o:Oper) (a:Act),execOp a.eval o=callFunc f vs.toArray->∀(next:Act->World->Prop) (Q:Exit->Act->World->Prop),
   (∀v w' E' r dV nx',K r dV nx'->Step base w E w' E'->dM base w' E' dV (fun b=>nx'<=b)->Rep w' E' r v->next (a.put o.dst v) w')->o.wp P a w next Q
section
variable {P : Program} {fr:jB} {ah:AH} {nx:Nat} {Q:AQ}
theorem CW.mono {f:FuncId}{az:List AV}{K K':CK}(h:CW P f az ah nx K)(hk:∀r ah nx,K r ah nx->K' r ah nx):CW P f az ah nx K':=
 fun base w E vs hh hG hr o a he next Q hn=>h base w E vs hh hG hr o a he next Q fun v w' E' r dV nx' hK=>hn v w' E' r dV nx' (hk _ _ _ hK)
theorem abT {f:FuncId}{fn:Func}{c:Code}{args:List AV}{K:CK}(hf:P.funcs[f]?=some fn)(hb:fn.body=some c)(hname:fn.name≠ "runtime.NumGoroutine") (hn:args.length<=fn.ntmps)
  (h:AW P c (wE fn.ntmps args) ah nx (fun e fr dV nx'=>(e=.normal\/e=.ret)/\yM P fr dV fn.results.toList fun l=>K (one l) dV nx')):CW P f args ah nx K:=by
 intro base w E vs hh hG hrep o a he next Q hnext
 have iE:Le base w E (wE fn.ntmps args) ah nx {tmps:=vs.toArray++Array.replicate (fn.ntmps-vs.toArray.size) undef,defers:=[]}:=⟨hh,DX hG hrep hn,rfl⟩;have hcall:(callFunc f vs.toArray).run P w=.ok (.enter f vs.toArray) w:=by
  have e1:(fn.name == "runtime.NumGoroutine")=false:=by simpa using hname
  have e2:fn.body.isNone=false:=by rw [hb];rfl
  simp only [callFunc,Sem.run_bind,run_program,Result.andThen_ok,hf,e1,aP,if_false,e2,Sem.run_pure]
 unfold Oper.wp;rw [he,hcall];have ado:Calls P f vs.toArray w fun e w'=>∃r dV nx' v E',K r dV nx'/\e=.returned v/\Step base w E w' E'/\dM base w' E' dV (fun b=>nx'<=b)/\Rep w' E' r v:=by
  refine calls_of_wp hf hb (wp_mono (h base w E _ iE) fun e a' w' hp=>?_);obtain ⟨E',fr',dV,nx',⟨he',hres⟩,hs',hst⟩:=hp;obtain ⟨az,vs',hK,hrun,aer⟩:=og hs' hres;have hres':(results fn a'.tmps).run P w'=.ok (if h:vs'.toArray.size=1 then vs'.toArray[0] else .tuple vs'.toArray) w':=by
   have e:results fn a'.tmps=(do
     let vs <- fn.results.mapM (LQ a'.tmps)
     pure (if h:vs.size=1 then vs[0] else .tuple vs)):=by
    unfold results;congr 1
   rw [e,Array.mapM_eq_mapM_toList,Sem.run_bind,Sem.run_map,hrun];rfl
  have hv:=Qx aer;rcases he' with rfl|rfl
  .exact ⟨hs'.defers,_,hres',one az,dV,nx',_,E',hK,rfl,hst,hs'.heap,hv⟩
  .exact ⟨hs'.defers,_,hres',one az,dV,nx',_,E',hK,rfl,hst,hs'.heap,hv⟩
 refine ado.mono fun e w' hq=>?_;obtain ⟨r,dV,nx',v,E',hK,rfl,q1,q2,q3⟩:=hq;exact hnext v w' E' r dV nx' hK q1 q2 q3
def OW (P:Program)(ops:Array Oper)(i:Nat)(fr:jB)(ah:AH)(nx:Nat)(Q:AQ):Prop:=
 ∀base w E a,Le base w E fr ah nx a->∀QQ:Exit->Act->World->Prop,(∀a' w',y9 base w E Q .normal a' w'->QQ .normal a' w')->wpOps P ops QQ (List.range' i (ops.size-i)) a w
theorem as8 {id:Nat}{ops:Array Oper}(h:OW P ops 0 fr ah nx Q):AW P (.region id ops false) fr ah nx Q:=by
 intro base w E a hs;refine wp_region ?_;simpa [List.range_eq_range'] using h base w E a hs (y9 base w E Q) (fun _ _ h=>h)
theorem aqK {ops:Array Oper}{i:Nat}(hi:ops.size<=i)(h:Q .normal fr ah nx):OW P ops i fr ah nx Q:=by
 intro base w E a hs QQ hQ;rw [Nat.sub_eq_zero_of_le hi];exact hQ _ _ ⟨E,fr,ah,nx,h,hs,Step.refl _ _ _⟩
theorem alA {ops:Array Oper}{i:Nat}{o:Oper}{K:mP->Prop}(ho:ops[i]?=some o)(hK:∀r,K r->OW P ops (i+1) (lH fr o.dst r.v) (lZ ah r.wr) (nx+1) Q)
  (h:jc ops fr o fun wt=>VN wt (Qi P nx fr ah o.op K) (OW P ops (i+1) (lH fr o.dst (.p undef)) ah nx Q)):OW P ops i fr ah nx Q:=by
 intro base w E a hs QQ hQ;have hlt:=(bD.1 ho).1;rw [show ops.size-i=(ops.size-(i+1))+1 by omega,List.range'_succ,wpOps_cons];unfold wpOp;rw [ho];dsimp only;obtain ⟨wt,hk,hw⟩:=jU hs.fr h;cases wt with
 |true=>
  rw [uy,if_pos rfl] at hk;rw [if_pos hw];refine .inl (J9 hs.heap (dD _) hs.fr hk (fun r v w' E' hr hst hh' hv=>?_));exact hK r hr base w' E' (a.put o.dst v) ⟨hh'.weaken fun b hb=>⟨by omega,by omega⟩,(hs.fr.mono hst.ext).put o.dst hv,by rw [ayq];exact hs.defers⟩ QQ
   fun a' w'' hp=>hQ a' w'' (hp.mono hst fun _ _ _ h=>h)
 |false=>
  rw [uy,if_neg (by simp)] at hk;rw [if_neg (by rw [hw];simp)];exact hk base w E (a.put o.dst undef) ⟨hs.heap,hs.fr.put o.dst (.p rfl),by rw [ayq];exact hs.defers⟩ QQ hQ
theorem as9 {ops:Array Oper}{i:Nat}{o:Oper}(ho:ops[i]?=some o)
 (h:jc ops fr o fun wt=>VN wt (Qi P nx fr ah o.op fun r=>OW P ops (i+1) (lH fr o.dst r.v) (lZ ah r.wr) (nx+1) Q) (OW P ops (i+1) (lH fr o.dst (.p undef)) ah nx Q)):OW P ops i fr ah nx Q:=alA ho (fun _ h=>h) h
theorem an0 {ops:Array Oper}{i:Nat}{o:Oper}{f:FuncId}{args:Array Operand}{ts:Array TypeId}{az:List AV}(ho:ops[i]?=some o)(hg:o.guard=none)(hop:o.op=.call ⟨.value (.func f),args,ts⟩)
  (hev:Q9 fr args.toList=some az) (h:CW P f az ah nx fun r dV nx'=>OW P ops (i+1) (lH fr o.dst r) dV nx' Q):OW P ops i fr ah nx Q:=by
 intro base w E a hs QQ hQ;have hlt:=(bD.1 ho).1;rw [show ops.size-i=(ops.size-(i+1))+1 by omega,List.range'_succ,wpOps_cons];unfold wpOp;rw [ho];dsimp only;rw [if_pos (by unfold Region.wanted;rw [hg])];have rl:=pF hs.fr hev;refine .inl (h base w E _ hs.heap hs.fr.Gg rl o a ?_ _ _ fun v w' E' r dV nx' hK hst hh' hv=>?_)
 .have e:args.map a.eval=(args.toList.map a.eval).toArray:=by apply Array.ext';simp
  simp [execOp,hop,resolve,invoke,Deferred.ofValue,Act.eval,e]
 .exact hK base w' E' (a.put o.dst v) ⟨hh',(hs.fr.mono hst.ext).put o.dst hv,by rw [ayq];exact hs.defers⟩ QQ fun a' w'' hp=>hQ a' w'' (hp.mono hst fun _ _ _ h=>h)
end
end Go.Fw
end
section
namespace Go.Fw
variable [iT]
abbrev MT :=List (Nat×AV)
def JB : MT->Nat->Option AV
 |[],_=>none|x::r,t=>match Nat.beq x.1 t with|true=>some x.2|false=>JB r t
def NI (M:MT):Operand->Option AV
 | .tmp t=>JB M t| .const v=>ofV v| .func f=>some (.fn (.func f) [] [])| .global _=>none
def Y8 (M:MT):List Operand->Option (List AV)
 |[]=>some []|x::r=>match NI M x with
  |some a=>(match Y8 M r with|some l=>some (a::l)|none=>none)|none=>none
def an1 {α:Type}(M:MT):List (α×Operand)->Option (List (α×AV))
 |[]=>some []|x::r=>match NI M x.2 with
  |some a=>(match an1 M r with|some l=>some ((x.1,a)::l)|none=>none)|none=>none
def uQ (M:MT)(d:Option Tmp)(a:AV):MT:=match d with|some t=>(t,a)::M|none=>M
def vJ (N:Nat):Option Tmp->Bool
 |none=>true|some t=>Nat.blt t N
def gB (ops:Array Oper)(M:MT):Option (Nat×Bool)->Bool
 |none=>true|some (j,want)=>match (ops[j]?).bind (·.dst) with
  |some t=>(match JB M t with|some (.p (.bool b))=>b == want|_=>false)|none=>false
def gN (ops:Array Oper)(M:MT):Option (Nat×Bool)->Bool
 |none=>false|some (j,want)=>match (ops[j]?).bind (·.dst) with
  |some t=>(match JB M t with|some (.p (.bool b))=>!(b == want)|_=>false)|none=>false
structure FA (N:Nat)(M:MT)(fr:jB):Prop where
 len:fr.length=N
 get:∀t a,JB M t=some a->fV fr t=some a
def ML (M:MT):MT->Prop
 |[]=>True|x::r=>JB M x.1=some x.2/\ML M r
theorem ML.get {M:MT}:∀{M':MT} {t:Nat} {a:AV},ML M M'->JB M' t=some a->JB M t=some a
 |[],t,a,_,h=>by cases h
 |x::r,t,a,hl,h=>by
  simp only [JB] at h;split at h
  .rename_i hb;obtain rfl:=au hb;simp only [aj] at h;subst h;exact hl.1
  .exact ML.get hl.2 h
theorem FA.le {N:Nat}{M M':MT}{fr:jB}(h:FA N M fr)(hl:ML M M'):FA N M' fr:=⟨h.len,fun t a ht=>h.get t a (hl.get ht)⟩
theorem FA.put {N:Nat}{M:MT}{fr:jB}{d:Option Tmp}{a:AV}(h:FA N M fr)(hd:vJ N d=true):FA N (uQ M d a) (lH fr d a):=by
 cases d with
 |none=>exact h|some t=>
  have hlt:t<N:=by simpa [vJ] using hd
  refine ⟨by simp [lH,fB,h.len],fun j x hj=>?_⟩;simp only [uQ,JB] at hj;simp only [lH,lM,h.len];split at hj
  .rename_i hb;obtain rfl:=au hb;rw [if_pos ⟨rfl,hlt⟩];exact hj
  .rename_i hb;rw [if_neg (fun e=>by rw [e.1] at hb;simp at hb)];exact h.get j x hj
theorem kC {N:Nat}{M:MT}{fr:jB}(h:FA N M fr){x:Operand}{a:AV}(hx:NI M x=some a):ev fr x=some a:=by
 cases x with
 |tmp t=>exact h.get t a hx|const v=>exact hx|func f=>exact hx|global g=>cases hx
theorem FN {N:Nat}{M:MT}{fr:jB}(h:FA N M fr):∀{l:List Operand} {az:List AV},Y8 M l=some az->Q9 fr l=some az
 |[],az,e=>e|x::r,az,e=>by
  simp only [Y8] at e;split at e
  .rename_i a ha;split at e
   .rename_i l hl;simp only [aj] at e;subst e;simp [Q9,kC h ha,FN h hl]
   .cases e
  .cases e
theorem afQ {α:Type}{N:Nat}{M:MT}{fr:jB}(h:FA N M fr):∀{l:List (α×Operand)} {az:List (α×AV)},an1 M l=some az->Q8 fr l=some az
 |[],az,e=>e|x::r,az,e=>by
  simp only [an1] at e;split at e
  .rename_i a ha;split at e
   .rename_i l hl;simp only [aj] at e;subst e;obtain ⟨i,x⟩:=x;simp [Q8,kC h ha,afQ h hl]
   .cases e
  .cases e
abbrev MQ :=Exit->MT->AH->Nat->Prop
def lft (N:Nat)(Q:MQ):AQ:=fun e fr ah nx=>∃M,FA N M fr/\Q e M ah nx
def Qg (P:Program)(c:Code)(N:Nat)(M:MT)(ah:AH)(nx:Nat)(Q:MQ):Prop:=∀fr,FA N M fr->AW P c fr ah nx (lft N Q)
def Eo (P:Program)(ops:Array Oper)(i N:Nat)(M:MT)(ah:AH)(nx:Nat)(Q:MQ):Prop:=∀fr,FA N M fr->OW P ops i fr ah nx (lft N Q)
def alB (K:MT->AH->Nat->Prop)(Q:MQ):MQ
 | .normal,M,ah,nx=>K M ah nx|e,M,ah,nx=>Q e M ah nx
def MIn (id:Nat)(Q:MQ):MQ
 | .exit id',M,ah,nx=>(match Nat.beq id' id with|true=>Q .normal M ah nx|false=>Q (.exit id') M ah nx)|e,M,ah,nx=>Q e M ah nx
section
variable {P : Program} {N:Nat} {M:MT} {ah:AH} {nx:Nat} {Q:MQ}
theorem Pm {c:Code}(M':MT)(hl:ML M M')(h:Qg P c N M' ah nx Q):Qg P c N M ah nx Q:=fun fr hf=>h fr (hf.le hl)
theorem Qg.mono {c:Code}{Q':MQ}(h:Qg P c N M ah nx Q)(hq:∀e M ah nx,Q e M ah nx->Q' e M ah nx):Qg P c N M ah nx Q':=
 fun fr hf=>(h fr hf).mono fun e fr ah nx ⟨M,h1,h2⟩=>⟨M,h1,hq _ _ _ _ h2⟩
theorem iV {x y:Code}(h:Qg P x N M ah nx (alB (fun M ah nx=>Qg P y N M ah nx Q) Q)):Qg P (.seq x y) N M ah nx Q:=by
 intro fr hf;refine n_ ((h fr hf).mono fun e fr ah nx hq=>?_);obtain ⟨M',h1,h2⟩:=hq;cases e with
 |normal=>exact h2 fr h1|_=>exact ⟨M',h1,h2⟩
theorem Nz {x y:Code}(K:MT->AH->Nat->Prop)(h:Qg P x N M ah nx (alB K Q))(hk:∀M ah nx,K M ah nx->Qg P y N M ah nx Q):Qg P (.seq x y) N M ah nx Q:=
 iV (h.mono fun e M ah nx hq=>by cases e<;>first|exact hk _ _ _ hq|exact hq)
theorem IJ (h:Q .normal M ah nx):Qg P .skip N M ah nx Q:=fun fr hf=>LM ⟨M,hf,h⟩
theorem Vh {id:Nat}(h:Q (.exit id) M ah nx):Qg P (.exit id) N M ah nx Q:=fun fr hf=>aeF ⟨M,hf,h⟩
theorem NC (h:Q .ret M ah nx):Qg P .ret N M ah nx Q:=fun fr hf=>G8 ⟨M,hf,h⟩
theorem Ep {c:Operand}{x y:Code}{t:Bool}(hc:NI M c=some (.p (.bool t)))(h1:t=true->Qg P x N M ah nx Q)(h2:t=false->Qg P y N M ah nx Q):Qg P (.cond c x y) N M ah nx Q:=by
 intro fr hf;refine LP t (kC hf hc) ?_;cases t with
 |true=>exact h1 rfl fr hf|false=>exact h2 rfl fr hf
theorem Aj {id:Nat}{c:Code}(h:Qg P c N M ah nx (MIn id Q)):Qg P (.block id c) N M ah nx Q:=by
 intro fr hf;refine Sj ((h fr hf).mono fun e fr ah nx hq=>?_);obtain ⟨M',h1,h2⟩:=hq;cases e with
 |exit id'=>
  simp only [MIn] at h2;simp only [AIn];split at h2
  .rename_i hb;rw [if_pos (au hb)];exact ⟨M',h1,h2⟩
  .rename_i hb;rw [if_neg (fun e=>by rw [e] at hb;simp at hb)];exact ⟨M',h1,h2⟩
 |_=>exact ⟨M',h1,h2⟩
theorem Vj {c:Code}(I:Nat->MT->AH->Nat->Prop)(n0:Nat)(M0:MT)(hl:ML M M0)(h0:I n0 M0 ah nx)
  (round:∀n M ah nx,I n M ah nx->Qg P c N M ah nx (alB (fun M ah nx=>∃m,m<n/\∃M',ML M M'/\I m M' ah nx) Q)):Qg P (.loop c) N M ah nx Q:=by
 intro fr hf;refine aeG (fun n fr ah nx=>∃M,FA N M fr/\I n M ah nx) n0 fr (C_.refl fr) ⟨M0,hf.le hl,h0⟩ fun n fr ah nx hI K hK=>?_;obtain ⟨M1,h1,h2⟩:=hI;refine (round n M1 ah nx h2 fr h1).mono fun e fr ah nx hq=>?_;obtain ⟨M2,q1,q2⟩:=hq;cases e with
 |normal=>
  obtain ⟨m,hm,M3,hl3,h3⟩:=q2;exact hK _ _ _ ⟨m,hm,fr,C_.refl fr,M3,q1.le hl3,h3⟩
 |_=>exact ⟨M2,q1,q2⟩
theorem fH {id:Nat}{ops:Array Oper}(h:Eo P ops 0 N M ah nx Q):Qg P (.region id ops false) N M ah nx Q:=fun fr hf=>as8 (h fr hf)
variable {ops : Array Oper} {i:Nat} {d:Option Tmp} {ty:TypeId} {pos:String} {NJ:Array Edge} {g:Option (Nat×Bool)}
theorem iW (hi:Nat.ble ops.size i=true)(h:Q .normal M ah nx):Eo P ops i N M ah nx Q:=fun fr hf=>aqK (aC hi) ⟨M,hf,h⟩
theorem tX {op:Op}(ho:ops[i]?=some ⟨d,op,ty,pos,NJ,g⟩)(hg:gB ops M g=true)(hd:vJ N d=true)
  (h:∀fr,FA N M fr->Qi P nx fr ah op fun r=>Eo P ops (i+1) N (uQ M d r.v) (lZ ah r.wr) (nx+1) Q):Eo P ops i N M ah nx Q:=by
 intro fr hf;refine alA ho (K:=fun r=>Eo P ops (i+1) N (uQ M d r.v) (lZ ah r.wr) (nx+1) Q) (fun r hr=>hr _ (hf.put hd)) ?_;have key:=h fr hf;unfold jc;cases g with
 |none=>exact key|some jw=>
  obtain ⟨j,want⟩:=jw;simp only [gB] at hg;split at hg
  .rename_i t ht;split at hg
   .rename_i b hb;refine dG.2 ⟨t,ht,dG.2 ⟨_,hf.get _ _ hb,?_⟩⟩;show VN (b == want) _ _;rw [hg];exact key
   .cases hg
  .cases hg
theorem aec {op:Op}(ho:ops[i]?=some ⟨d,op,ty,pos,NJ,g⟩)(hg:gN ops M g=true)(hd:vJ N d=true)(h:Eo P ops (i+1) N (uQ M d (.p undef)) ah nx Q):Eo P ops i N M ah nx Q:=by
 intro fr hf;refine as9 ho ?_;unfold jc;cases g with
 |none=>cases hg
 |some jw=>
  obtain ⟨j,want⟩:=jw;simp only [gN] at hg;split at hg
  .rename_i t ht;split at hg
   .rename_i b hb;refine dG.2 ⟨t,ht,dG.2 ⟨_,hf.get _ _ hb,?_⟩⟩;show VN (b == want) _ _;rw [show (b == want)=false by simpa using hg];exact h _ (hf.put hd)
   .cases hg
  .cases hg
theorem nJ {x:Operand}{a:AV}(ho:ops[i]?=some ⟨d,.move x,ty,pos,NJ,g⟩)(hg:gB ops M g=true)(hd:vJ N d=true)(hx:NI M x=some a)(h:Eo P ops (i+1) N (uQ M d a) ah (nx+1) Q):Eo P ops i N M ah nx Q:=
 tX ho hg hd fun fr hf=>dG.2 ⟨a,kC hf hx,h⟩
theorem Dj {x:Operand}{a:AV}(ho:ops[i]?=some ⟨d,.assign x,ty,pos,NJ,g⟩)(hg:gB ops M g=true)(hd:vJ N d=true)(hx:NI M x=some a)(h:Eo P ops (i+1) N (uQ M d a) ah (nx+1) Q):Eo P ops i N M ah nx Q:=
 tX ho hg hd fun fr hf=>dG.2 ⟨a,kC hf hx,h⟩
theorem abU {c x y:Operand}{t:Bool}{a:AV}(ho:ops[i]?=some ⟨d,.pick c x y,ty,pos,NJ,g⟩)(hg:gB ops M g=true)(hd:vJ N d=true)(hc:NI M c=some (.p (.bool t)))
  (hx:NI M (match t with|true=>x|false=>y)=some a) (h:Eo P ops (i+1) N (uQ M d a) ah (nx+1) Q):Eo P ops i N M ah nx Q:=
 tX ho hg hd fun fr hf=>dG.2 ⟨_,kC hf hc,by
  show VN t _ _;cases t with
  |true=>exact dG.2 ⟨a,kC hf hx,h⟩|false=>exact dG.2 ⟨a,kC hf hx,h⟩⟩
theorem ay4 {t:Bool×Nat}{row:List AV}{off:Nat}{v:AV}{k:AV->Prop}(h:apart t row off fun x=>x=v)(hk:k v):apart t row off k:=by
 unfold apart at h ⊢;split
 .rename_i ht;rw [if_pos ht] at h;exact ⟨h.1,by rw [h.2];exact hk⟩
 .rename_i ht;rw [if_neg ht] at h;obtain ⟨a,h1,h2⟩:=dG.1 h;exact dG.2 ⟨a,h1,by rw [h2];exact hk⟩
theorem axS {t:TypeId}{x:Operand}{row:List AV}{off:Nat}{tt:Bool×Nat}{v:AV}(ho:ops[i]?=some ⟨d,.load t x,ty,pos,NJ,g⟩)(hg:gB ops M g=true)(hd:vJ N d=true)(hx:NI M x=some (.vp row off))
  (ht:xg P t=some tt) (hp:apart tt row off fun x=>x=v) (h:Eo P ops (i+1) N (uQ M d v) ah (nx+1) Q):Eo P ops i N M ah nx Q:=
 tX ho hg hd fun fr hf=>dG.2 ⟨_,kC hf hx,dG.2 ⟨tt,ht,ay4 hp h⟩⟩
theorem pG {t:TypeId}{x:Operand}{b sz j off:Nat}{rs:List (List AV)}{row:List AV}{tt:Bool×Nat}{v:AV}(ho:ops[i]?=some ⟨d,.load t x,ty,pos,NJ,g⟩)(hg:gB ops M g=true)(hd:vJ N d=true)(hx:NI M x=some (.op b sz j off))
  (ht:xg P t=some tt) (hb:ah b=some (.rows sz rs)) (hr:rs[j]?=some row) (hp:apart tt row off fun x=>x=v) (h:Eo P ops (i+1) N (uQ M d v) ah (nx+1) Q):Eo P ops i N M ah nx Q:=
 tX ho hg hd fun fr hf=>dG.2 ⟨_,kC hf hx,dG.2 ⟨tt,ht,by dsimp only;rw [hb];exact ⟨rfl,dG.2 ⟨row,hr,ay4 hp h⟩⟩⟩⟩
theorem IK {t:TypeId}{x y:Operand}{b sz j off:Nat}{rs:List (List AV)}{row:List AV}{tt:Bool×Nat}{v:AV}(ho:ops[i]?=some ⟨d,.store t x y,ty,pos,NJ,g⟩)(hg:gB ops M g=true)(hd:vJ N d=true)(hx:NI M x=some (.op b sz j off))(hy:NI M y=some v)
  (ht:xg P t=some tt) (hb:ah b=some (.rows sz rs)) (hv:v.BA=true) (hl:v.cells.length=tt.2) (hr:rs[j]?=some row) (hfit:off+tt.2<=row.length)
  (h:Eo P ops (i+1) N (uQ M d (.p undef)) (upd ah b (some (.rows sz (rs.set j (lay row off v.cells))))) (nx+1) Q):Eo P ops i N M ah nx Q:=
 tX ho hg hd fun fr hf=>dG.2 ⟨_,kC hf hx,dG.2 ⟨_,kC hf hy,dG.2 ⟨tt,ht,by dsimp only;rw [hb];exact ⟨rfl,hv,hl,dG.2 ⟨row,hr,hfit,h⟩⟩⟩⟩⟩
theorem yI {s:TypeId}{x:Operand}{k b sz j off:Nat}{f:Nat×Bool×Nat}(ho:ops[i]?=some ⟨d,.fieldAddr s x k,ty,pos,NJ,g⟩)(hg:gB ops M g=true)(hd:vJ N d=true)(hx:NI M x=some (.op b sz j off))
  (hf:JD P s k=some f) (h0:Nat.beq f.2.2 0=false) (h:Eo P ops (i+1) N (uQ M d (.op b sz j (off+f.1))) ah (nx+1) Q):Eo P ops i N M ah nx Q:=
 tX ho hg hd fun fr hfr=>dG.2 ⟨_,kC hfr hx,dG.2 ⟨f,hf,fun e=>by rw [e] at h0;simp at h0,h⟩⟩
theorem axT {t:TypeId}{x y:Operand}{rows:List (List AV)}{full:Bool}{kk:IntKind}{n:Int}{e:Nat×Nat}{row:List AV}(ho:ops[i]?=some ⟨d,.indexAddr t x y,ty,pos,NJ,g⟩)(hg:gB ops M g=true)(hd:vJ N d=true)
  (hx:NI M x=some (.sl rows full)) (hy:NI M y=some (.p (.int kk n))) (he:iP P t=some e) (h0:0<=n) (hr:rows[n.toNat]?=some row) (hl:row.length=e.1) (h:Eo P ops (i+1) N (uQ M d (.vp row 0)) ah (nx+1) Q):Eo P ops i N M ah nx Q:=
 tX ho hg hd fun fr hfr=>dG.2 ⟨_,kC hfr hx,dG.2 ⟨_,kC hfr hy,dG.2 ⟨e,he,h0,dG.2 ⟨row,hr,hl,h⟩⟩⟩⟩
theorem Js {t:TypeId}{x y:Operand}{b sz off len:Nat}{kk:IntKind}{n:Int}{e:Nat×Nat}(ho:ops[i]?=some ⟨d,.indexAddr t x y,ty,pos,NJ,g⟩)(hg:gB ops M g=true)(hd:vJ N d=true)
  (hx:NI M x=some (.os b sz off len)) (hy:NI M y=some (.p (.int kk n))) (he:iP P t=some e) (h0:0<=n) (hn:n.toNat<len) (hs:sz=e.1) (h:Eo P ops (i+1) N (uQ M d (.op b sz (off+n.toNat) 0)) ah (nx+1) Q):Eo P ops i N M ah nx Q:=
 tX ho hg hd fun fr hfr=>dG.2 ⟨_,kC hfr hx,dG.2 ⟨_,kC hfr hy,dG.2 ⟨e,he,h0,hn,hs,h⟩⟩⟩
theorem aib {x:Operand}{k:Nat}{vs:List AV}{v:AV}(ho:ops[i]?=some ⟨d,.extract x k,ty,pos,NJ,g⟩)(hg:gB ops M g=true)(hd:vJ N d=true)(hx:NI M x=some (.gW vs))(hv:vs[k]?=some v)
  (h:Eo P ops (i+1) N (uQ M d v) ah (nx+1) Q):Eo P ops i N M ah nx Q:=
 tX ho hg hd fun fr hfr=>dG.2 ⟨_,kC hfr hx,dG.2 ⟨v,hv,h⟩⟩
theorem FP {o:BinOp}{t ty2:TypeId}{x y:Operand}{a b v:AV}(ho:ops[i]?=some ⟨d,.binOp o t x y ty2,ty,pos,NJ,g⟩)(hg:gB ops M g=true)(hd:vJ N d=true)(hx:NI M x=some a)(hy:NI M y=some b)
  (hv:∀K:AV->Prop,K v->Gf P o t (isC x||isC y) a b K) (h:Eo P ops (i+1) N (uQ M d v) ah (nx+1) Q):Eo P ops i N M ah nx Q:=
 tX ho hg hd fun fr hfr=>dG.2 ⟨_,kC hfr hx,dG.2 ⟨_,kC hfr hy,.inl (hv _ h)⟩⟩
theorem QW {args:Array Operand}{ts:Array TypeId}{a v:AV}{t:TypeId}(ho:ops[i]?=some ⟨d,.call ⟨.builtin .len,args,ts⟩,ty,pos,NJ,g⟩)(hg:gB ops M g=true)(hd:vJ N d=true)(hx:Y8 M args.toList=some [a])(ht:ts[0]?=some t)
  (hv:∀K:mP->Prop,K (.val v)->Ll P ah t a K) (h:Eo P ops (i+1) N (uQ M d v) ah (nx+1) Q):Eo P ops i N M ah nx Q:=
 tX ho hg hd fun fr hfr=>dG.2 ⟨_,FN hfr hx,dG.2 ⟨t,ht,hv _ h⟩⟩
theorem alC {t e:TypeId}{rows:List (List AV)}{full:Bool}(hu:P.underlying t=some (.slice e)):∀K:mP->Prop,K (.val (.p (.int .i64 rows.length)))->Ll P ah t (.sl rows full) K:=fun K h=>by unfold Ll;rw [hu];exact h
theorem aed {t e:TypeId}{b sz off len:Nat}(hu:P.underlying t=some (.slice e)):∀K:mP->Prop,K (.val (.p (.int .i64 len)))->Ll P ah t (.os b sz off len) K:=fun K h=>by unfold Ll;rw [hu];exact h
theorem Y9 {t:TypeId}{parts:Array (Nat×Operand)}{ps:List (Nat×AV)}{z cs:List AV}{pl:Nat->Option (Nat×Nat)}(ho:ops[i]?=some ⟨d,.build t parts,ty,pos,NJ,g⟩)(hg:gB ops M g=true)(hd:vJ N d=true)(hx:an1 M parts.toList=some ps)
  (hz:ays P t=some z) (hp:ayC P t=some pl) (hf:FT pl z ps=some cs) (h:Eo P ops (i+1) N (uQ M d (.agg cs)) ah (nx+1) Q):Eo P ops i N M ah nx Q:=
 tX ho hg hd fun fr hfr=>dG.2 ⟨_,afQ hfr hx,dG.2 ⟨z,hz,dG.2 ⟨pl,hp,dG.2 ⟨cs,hf,h⟩⟩⟩⟩
theorem axU {t el:TypeId}{e:Nat×Nat}{len:Nat}{parts:Array (Nat×Operand)}{ps:List (Nat×AV)}{z cs:List AV}(ho:ops[i]?=some ⟨d,.buildSlice t len parts,ty,pos,NJ,g⟩)(hg:gB ops M g=true)(hd:vJ N d=true)(hx:an1 M parts.toList=some ps)
  (hu:P.underlying t=some (.slice el)) (he:iP P t=some e) (hz:ays P el=some z) (hl:z.length=e.1) (hb:len*e.1+len<=16777216) (hf:FT (fun k=>some (k*e.1,e.1)) (List.replicate len z).flatten ps=some cs)
  (h:Eo P ops (i+1) N (uQ M d (.os nx e.1 0 len)) (upd ah nx (some (.rows e.1 (ayz e.1 len cs)))) (nx+1) Q):Eo P ops i N M ah nx Q:=
 tX ho hg hd fun fr hfr=>dG.2 ⟨_,afQ hfr hx,by
  unfold iP at he;rw [hu] at he;dsimp only at he;cases hi:P.info? el with
  |none=>rw [hi] at he;cases he
  |some inf=>
   rw [hi] at he;simp only [Option.map_some,aj] at he;subst he;unfold jD;rw [hu];exact dG.2 ⟨inf,hi,dG.2 ⟨z,hz,hl,hb,dG.2 ⟨cs,hf,h⟩⟩⟩⟩
theorem QX {t:TypeId}{x:Operand}{v:AV}(ho:ops[i]?=some ⟨d,.box t x,ty,pos,NJ,g⟩)(hg:gB ops M g=true)(hd:vJ N d=true)(hx:NI M x=some v)(hb:v.BA=true)
  (h:Eo P ops (i+1) N (uQ M d (.op nx v.cells.length 0 0)) (upd ah nx (some (.rows v.cells.length [v.cells]))) (nx+1) Q):Eo P ops i N M ah nx Q:=
 tX ho hg hd fun fr hfr=>dG.2 ⟨_,kC hfr hx,hb,h⟩
theorem QY {t:TypeId}{z:List AV}(ho:ops[i]?=some ⟨d,.alloc t,ty,pos,NJ,g⟩)(hg:gB ops M g=true)(hd:vJ N d=true)(hz:ays P t=some z)(ha:azj P t=false)
  (h:Eo P ops (i+1) N (uQ M d (.op nx z.length 0 0)) (upd ah nx (some (.rows z.length [z]))) (nx+1) Q):Eo P ops i N M ah nx Q:=
 tX ho hg hd fun fr hfr=>.inl (dG.2 ⟨z,hz,by rw [ha];exact h⟩)
theorem axV {args:Array Operand}{ts:Array TypeId}{t t2:TypeId}{e:Nat×Nat}{b off len b2 len2:Nat}{rs ys:List (List AV)}{el:TypeId}{z:List AV}(ho:ops[i]?=some ⟨d,.call ⟨.builtin .append,args,ts⟩,ty,pos,NJ,g⟩)(hg:gB ops M g=true)(hd:vJ N d=true)
  (hx:Y8 M args.toList=some [.os b e.1 off len,.os b2 e.1 0 len2]) (ht:ts[0]?=some t) (ht2:ts[1]?=some t2) (he:iP P t=some e) (h1:e.2<=4096) (h2:e.1≠0) (hu2:P.underlying t2=some (.slice el)) (hu:P.underlying t=some (.slice el)) (hz:ays P el=some z) (hzl:z.length=e.1)
  (hb:ah b=some (.rows e.1 rs)) (hb2:ah b2=some (.rows e.1 ys)) (hl:off+len<=rs.length) (hl2:ys.length=len2) (hlen:len+len2<=4294967296)
  (h:Eo P ops (i+1) N (uQ M d (.os nx e.1 0 (len+len2))) (upd (upd ah b none) nx (some (.rows e.1 ((rs.drop off).take len++ys)))) (nx+1) Q):Eo P ops i N M ah nx Q:=
 tX ho hg hd fun fr hfr=>dG.2 ⟨_,FN hfr hx,dG.2 ⟨t,ht,dG.2 ⟨t2,ht2,.inl (dG.2 ⟨e,he,h1,h2,by rw [hu2];trivial,by rw [hu];simp [hz,hzl],by
  subst hl2;refine ⟨rfl,?_⟩;rw [hb2];refine ⟨rfl,by simp,?_⟩;dsimp only;refine ⟨rfl,?_⟩;rw [hb];refine ⟨rfl,hl,by simpa using hlen,?_⟩;simpa [lZ] using h⟩)⟩⟩⟩
theorem aee {f:FuncId}{args:Array Operand}{ts:Array TypeId}{az P9 Xh:List AV}{r:AV}(ho:ops[i]?=some ⟨d,.call ⟨.value (.func f),args,ts⟩,ty,pos,NJ,g⟩)(hg:gB ops M g=true)(hd:vJ N d=true)
  (hx:Y8 M args.toList=some az) (hf:lI (nR ah ayw) az=some P9) (hw:∀w E vs,fG w E P9 vs->fG w E Xh vs) (hp:PC P f Xh r) (hc:iO az=true\/r.flat=true) (h:Eo P ops (i+1) N (uQ M d r) ah (nx+1) Q):Eo P ops i N M ah nx Q:=
 tX ho hg hd fun fr hfr=>dG.2 ⟨_,FN hfr hx,dG.2 ⟨P9,hf,Xh,r,hw,hp,.inl ⟨hc.imp id .inl,h⟩⟩⟩
theorem Vk {f:FuncId}{args:Array Operand}{ts:Array TypeId}{az:List AV}(ho:ops[i]?=some ⟨d,.call ⟨.value (.func f),args,ts⟩,ty,pos,NJ,none⟩)(hd:vJ N d=true)
  (hx:Y8 M args.toList=some az) (h:CW P f az ah nx fun r dV nx'=>Eo P ops (i+1) N (uQ M d r) dV nx' Q):Eo P ops i N M ah nx Q:=
 fun fr hfr=>an0 ho rfl rfl (FN hfr hx) (h.mono fun r dV nx' hk=>hk _ (hfr.put hd))
theorem au_ {c:Code}{b sz:Nat}{l r:List AV}{n:Nat}(hb:ah b=some (.rows sz [l++.sl [] true::r]))(hbn:b<nx)
  (h:Qg P c N M (upd (upd ah nx (some (.rows n []))) b (some (.rows sz [l++.os nx n 0 0::r]))) (nx+1) Q):Qg P c N M ah nx Q:=by
 intro fr hf base w E a hs;obtain ⟨h1,h2⟩:=NQ hs.heap (id:=nx) (dD _) n;have hne:b≠nx:=by omega
 have hb2:upd ah nx (some (.rows n [])) b=some (.rows sz [l++.sl [] true::r]):=by rw [ayp hne];exact hb
 have hown:(E.set nx .empty).own nx≠.free:=by simp [Env.set]
 have hB:nN base w (E.set nx .empty) b (.rows sz [l++.os nx n 0 0::r]):=by
  rcases h2.blk b _ hb2 with ⟨-,q⟩|⟨c,o,arr,ty,q1,q2,q3,q4,q5,q6,q7,q8⟩
  .cases q
  .refine .inr ⟨c,o,arr,ty,q1,q2,q3,q4,by simpa using q5,fun i row hi=>?_,fun row hm x hx=>?_,fun i row j x hi hj=>?_⟩
   .cases i with
    |zero=>
     simp at hi;subst hi;have:=q6 0 _ rfl;simpa using this
    |succ i=>simp at hi
   .simp only [bT] at hm;subst hm;rcases aH.1 hx with hx|hx
    .exact q7 _ (bT.2 rfl) x (b_ _ hx)
    .rcases bC.1 hx with rfl|hx
     .rfl
     .exact q7 _ (bT.2 rfl) x (cO _ (aN _ hx))
   .cases i with
    |succ i=>simp at hi|zero=>
     simp at hi;subst hi;rcases Nat.lt_trichotomy j l.length with hlt|rfl|hgt
     .rw [bf hlt] at hj;exact q8 0 _ j x rfl (by rw [bf hlt];exact hj)
     .simp at hj;subst hj;obtain ⟨v,hv,hr⟩:=q8 0 _ l.length (.sl [] true) rfl (by simp);refine ⟨v,hv,?_⟩;cases hr with
      |slnil _ a=>exact .kM nx n 0 a hown|sl _ _ sz c o cap g hcap hfull=>
       have:=hfull rfl;subst this;exact .kM nx n 0 _ hown
     .rw [bI (by omega)] at hj;refine q8 0 _ j x rfl ?_;rw [bI (by omega)];obtain ⟨m,hm⟩:∃m,j-l.length=m+1:=⟨j-l.length-1,by omega⟩;rw [hm] at hj ⊢;simpa using hj
 have h3:=h2.J3 hb2 hB;refine wp_mono (h fr hf base w (E.set nx .empty) a ⟨h3.weaken fun b hb=>?_,hs.fr.mono h1.ext,hs.defers⟩) fun e a' w' hp=>hp.mono h1 fun _ _ _ h=>h;have hb':nx+1<=b:=hb;exact ⟨by omega,by omega⟩
def AL (args:List AV):MT->Prop
 |[]=>True|x::r=>args[x.1]?=some x.2/\AL args r
theorem AL.get {args:List AV}:∀{M:MT} {t:Nat} {a:AV},AL args M->JB M t=some a->args[t]?=some a
 |[],t,a,_,h=>by cases h
 |x::r,t,a,hl,h=>by
  simp only [JB] at h;split at h
  .rename_i hb;obtain rfl:=au hb;simp only [aj] at h;subst h;exact hl.1
  .exact AL.get hl.2 h
theorem abV {args:List AV}{n:Nat}{t:Nat}{a:AV}(hM:AL args M)(h:JB M t=some a):fV (args.map some++List.replicate n none) t=some a:=by
 have h0:=hM.get h;have key:∀(l:List AV) (t:Nat),l[t]?=some a->fV (l.map some++List.replicate n none) t=some a:=by
  intro l;induction l with
  |nil=>intro t h;simp at h|cons x l ih=>
   intro t h;cases t with
   |zero=>simp at h;subst h;rfl|succ t=>exact ih t (by simpa using h)
 exact key args t h0
theorem aqM {f:FuncId}{fn:Func}{c:Code}{args:List AV}{r:AV}{M:MT}{Q:MQ}(hf:P.funcs[f]?=some fn)(hb:fn.body=some c)(hname:fn.name≠ "runtime.NumGoroutine") (hn:args.length<=fn.ntmps)
  (hM:AL args M) (h:Qg P c fn.ntmps M (fun _=>none) 0 Q)
  (hq:∀e M fr ah nx,FA fn.ntmps M fr->Q e M ah nx->arw P fn r e fr ah nx):PC P f args r:=
 ZG hf hb hname hn ((h _ ⟨by simp [hn],fun t a ht=>abV hM ht⟩).mono fun e fr ah nx ⟨M',h1,h2⟩=>hq e M' fr ah nx h1 h2)
theorem aef {f:FuncId}{fn:Func}{c:Code}{args:List AV}{M:MT}{Q:MQ}{K:CK}{ah:AH}{nx:Nat}(hf:P.funcs[f]?=some fn)(hb:fn.body=some c)(hname:fn.name≠ "runtime.NumGoroutine") (hn:args.length<=fn.ntmps)
  (hM:AL args M) (h:Qg P c fn.ntmps M ah nx Q)
  (hq:∀e M fr ah nx,FA fn.ntmps M fr->Q e M ah nx->(e=.normal\/e=.ret)/\yM P fr ah fn.results.toList fun l=>K (one l) ah nx):CW P f args ah nx K:=
 abT hf hb hname hn ((h _ ⟨wF hn,fun t a ht=>abV hM ht⟩).mono fun e fr ah nx ⟨M',h1,h2⟩=>hq e M' fr ah nx h1 h2)
def XE (P:Program)(ops:Array Oper)(K:List Nat)(t_ i N:Nat)(M:MT)(ah:AH)(Q:MQ):Prop:=
 ∀fr fs,FA N M fr->(∀f∈fs,zl.wr f=[])->BD P ops (some K) t_ i (ops.toList.drop i) fr ah fs fun fr' dV=>lft N Q .normal fr' dV (t_+ops.size)
theorem alD {id:Nat}(hm:P.follows .mixedOrders=true)(K:List Nat)(hM:ayu ops.toList []=K)(he:uz ops=true)(hsl:vO ops K=true)(h:XE P ops K nx 0 N M ah Q):Qg P (.region id ops true) N M ah nx Q:=
 fun fr hf=>al9 hm K hM he hsl (h fr [] hf (fun f hf=>by cases hf))
variable {K : List Nat} {t_:Nat}
theorem an2 (hi:Nat.ble ops.size i=true)(h:Q .normal M ah (t_+ops.size)):XE P ops K t_ i N M ah Q:=by
 intro fr fs hf hfs;have:=aC hi;rw [List.drop_eq_nil_of_le (by simpa using this)];exact ⟨M,hf,h⟩
theorem alE {o:Oper}(ho:ops[i]?=some o):ops.toList.drop i=o::ops.toList.drop (i+1):=by
 obtain ⟨hlt,he⟩:=bD.1 ho;rw [List.drop_eq_getElem_cons (by simpa using hlt)];simp [he]
theorem IL {op:Op}{v:AV}{rd:List Nat}(ho:ops[i]?=some ⟨d,op,ty,pos,NJ,g⟩)(hg:gB ops M g=true)(hd:vJ N d=true)
  (h:∀fr,FA N M fr->∀K:mP->Prop,K ⟨v,[],rd⟩->Qi P (t_+i) fr ah op K) (hk:XE P ops K t_ (i+1) N (uQ M d v) ah Q):XE P ops K t_ i N M ah Q:=by
 intro fr fs hf hfs;rw [alE ho];unfold BD;have key:=h fr hf (fun r=>ayG (some K) fs i r.rd (r.wr.map (·.1))/\BD P ops (some K) t_ (i+1) (ops.toList.drop (i+1)) (lH fr d r.v) (lZ ah r.wr) (LD (some K) fs i r.rd (r.wr.map (·.1))) fun fr' dV=>lft N Q .normal fr' dV (t_+ops.size))
  ⟨fun f hf=>.inr ⟨fun b hb=>(by rw [hfs f hf] at hb;cases hb),fun b hb=>(by simp)⟩,hk _ _ (hf.put hd) (fun f hf=>by
   unfold LD at hf;dsimp only at hf;split at hf
   .exact hfs f hf
   .rcases bC.1 hf with rfl|hf
    .rfl
    .exact hfs f hf)⟩
 unfold jc;cases g with
 |none=>exact key|some jw=>
  obtain ⟨j,want⟩:=jw;simp only [gB] at hg;split at hg
  .rename_i t ht;split at hg
   .rename_i b hb;refine dG.2 ⟨t,ht,dG.2 ⟨_,hf.get _ _ hb,?_⟩⟩;show VN (b == want) _ _;rw [hg];exact key
   .cases hg
  .cases hg
theorem aeg {x:Operand}{a:AV}(ho:ops[i]?=some ⟨d,.move x,ty,pos,NJ,g⟩)(hg:gB ops M g=true)(hd:vJ N d=true)(hx:NI M x=some a)(h:XE P ops K t_ (i+1) N (uQ M d a) ah Q):XE P ops K t_ i N M ah Q:=
 IL ho hg hd (fun fr hf K hK=>dG.2 ⟨a,kC hf hx,hK⟩) h
theorem abW {c x y:Operand}{t:Bool}{a:AV}(ho:ops[i]?=some ⟨d,.pick c x y,ty,pos,NJ,g⟩)(hg:gB ops M g=true)(hd:vJ N d=true)(hc:NI M c=some (.p (.bool t)))
  (hx:NI M (match t with|true=>x|false=>y)=some a) (h:XE P ops K t_ (i+1) N (uQ M d a) ah Q):XE P ops K t_ i N M ah Q:=
 IL ho hg hd (fun fr hf K hK=>dG.2 ⟨_,kC hf hc,by
  show VN t _ _;cases t with
  |true=>exact dG.2 ⟨a,kC hf hx,hK⟩|false=>exact dG.2 ⟨a,kC hf hx,hK⟩⟩) h
theorem afR {o:BinOp}{t ty2:TypeId}{x y:Operand}{a b v:AV}(ho:ops[i]?=some ⟨d,.binOp o t x y ty2,ty,pos,NJ,g⟩)(hg:gB ops M g=true)(hd:vJ N d=true)(hx:NI M x=some a)(hy:NI M y=some b)
  (hv:∀K:AV->Prop,K v->Gf P o t (isC x||isC y) a b K) (h:XE P ops K t_ (i+1) N (uQ M d v) ah Q):XE P ops K t_ i N M ah Q:=
 IL ho hg hd (fun fr hf K hK=>dG.2 ⟨_,kC hf hx,dG.2 ⟨_,kC hf hy,.inl (hv _ hK)⟩⟩) h
theorem avS {o:UnOp}{t:TypeId}{x:Operand}{a v:AV}(ho:ops[i]?=some ⟨d,.unOp o t x,ty,pos,NJ,g⟩)(hg:gB ops M g=true)(hd:vJ N d=true)(hx:NI M x=some a)
  (hv:∀K:AV->Prop,K v->aUn o a K) (h:XE P ops K t_ (i+1) N (uQ M d v) ah Q):XE P ops K t_ i N M ah Q:=
 IL ho hg hd (fun fr hf K hK=>dG.2 ⟨_,kC hf hx,hv _ hK⟩) h
theorem ND {t:TypeId}{x:Operand}{b sz j off:Nat}{rs:List (List AV)}{row:List AV}{tt:Bool×Nat}{v:AV}(ho:ops[i]?=some ⟨d,.load t x,ty,pos,NJ,g⟩)(hg:gB ops M g=true)(hd:vJ N d=true)(hx:NI M x=some (.op b sz j off))
  (ht:xg P t=some tt) (hb:ah b=some (.rows sz rs)) (hr:rs[j]?=some row) (hp:apart tt row off fun x=>x=v) (h:XE P ops K t_ (i+1) N (uQ M d v) ah Q):XE P ops K t_ i N M ah Q:=
 IL (rd:=[b]) ho hg hd (fun fr hf K hK=>dG.2 ⟨_,kC hf hx,dG.2 ⟨tt,ht,by dsimp only;rw [hb];exact ⟨rfl,dG.2 ⟨row,hr,ay4 hp hK⟩⟩⟩⟩) h
theorem alF {f:FuncId}{args:Array Operand}{ts:Array TypeId}{az P9 Xh:List AV}{r:AV}(ho:ops[i]?=some ⟨d,.call ⟨.value (.func f),args,ts⟩,ty,pos,NJ,g⟩)(hg:gB ops M g=true)(hd:vJ N d=true)
  (hx:Y8 M args.toList=some az) (hf:lI (nR ah ayw) az=some P9) (hw:∀w E vs,fG w E P9 vs->fG w E Xh vs) (hp:PC P f Xh r) (hc:iO az=true\/r.flat=true) (h:XE P ops K t_ (i+1) N (uQ M d r) ah Q):XE P ops K t_ i N M ah Q:=
 IL ho hg hd (fun fr hfr K hK=>dG.2 ⟨_,FN hfr hx,dG.2 ⟨P9,hf,Xh,r,hw,hp,.inl ⟨hc.imp id .inl,hK⟩⟩⟩) h
theorem Qh {t el:TypeId}{e:Nat×Nat}(hu:P.underlying t=some (.slice el))(he:iP P t=some e):∃inf,P.info? el=some inf/\inf.size=e.1/\inf.bytes=e.2:=by
 unfold iP at he;rw [hu] at he;dsimp only at he;cases hi:P.info? el with
 |none=>rw [hi] at he;cases he
 |some inf=>
  rw [hi] at he;simp only [Option.map_some,aj] at he;subst he;exact ⟨inf,rfl,rfl,rfl⟩
theorem an5 {t el:TypeId}{x y:Operand}{k1 k2:IntKind}{l c:Int}{e:Nat×Nat}{z:List AV}(ho:ops[i]?=some ⟨d,.makeSlice t x y,ty,pos,NJ,g⟩)(hg:gB ops M g=true)(hd:vJ N d=true)(hx:NI M x=some (.p (.int k1 l)))(hy:NI M y=some (.p (.int k2 c)))
  (hu:P.underlying t=some (.slice el)) (he:iP P t=some e) (hz:ays P el=some z) (hzl:z.length=e.1) (h0:0<=l) (hlc:l<=c) (hc:c<=4294967296) (hb:e.2<=4096)
  (h:Eo P ops (i+1) N (uQ M d (.os nx e.1 0 l.toNat)) (upd ah nx (some (.rows e.1 (List.replicate l.toNat (z.map Ju))))) (nx+1) Q):Eo P ops i N M ah nx Q:=
 tX ho hg hd fun fr hfr=>dG.2 ⟨_,kC hfr hx,dG.2 ⟨_,kC hfr hy,by
  obtain ⟨inf,hi,h1,h2⟩:=Qh hu he;unfold qh;rw [hu];refine dG.2 ⟨inf,hi,dG.2 ⟨z,hz,by rw [h1];exact hzl,h0,hlc,hc,by rw [h2];exact hb,?_⟩⟩;rw [h1];exact h⟩⟩
theorem an6 {args:Array Operand}{ts:Array TypeId}{t:TypeId}{e:Nat×Nat}{b off len:Nat}{rs ys:List (List AV)}{f:Bool}(ho:ops[i]?=some ⟨d,.call ⟨.builtin .copy,args,ts⟩,ty,pos,NJ,g⟩)(hg:gB ops M g=true)(hd:vJ N d=true)
  (hx:Y8 M args.toList=some [.os b e.1 off len,.sl ys f]) (ht:ts[0]?=some t) (he:iP P t=some e) (h2:e.1≠0) (hy:jy e.1 ys) (hb:ah b=some (.rows e.1 rs)) (hl:off+len<=rs.length)
  (h:Eo P ops (i+1) N (uQ M d (.p (.int .i64 (min ys.length len:Nat)))) (upd ah b (some (.rows e.1 (rs.take off++ys.take len++rs.drop (off+min ys.length len))))) (nx+1) Q):Eo P ops i N M ah nx Q:=
 tX ho hg hd fun fr hfr=>dG.2 ⟨_,FN hfr hx,dG.2 ⟨t,ht,dG.2 ⟨e,he,h2,by
  refine ⟨hy,?_⟩;show e.1=e.1/\(match ah b with|some (.rows sz' rs)=>e.1=sz'/\off+len<=rs.length/\_|_=>False);rw [hb];exact ⟨rfl,rfl,hl,h⟩⟩⟩⟩
theorem alG {f:FuncId}{fn:Func}{t e:TypeId}{s:Nat×Nat}{z:List AV}(hfn:P.funcs[f]?=some fn)(hc:rU fn=some t)(hu:P.underlying t=some (.slice e))(he:iP P t=some s)(hz:ays P e=some z)(hzl:z.length=s.1)(hby:s.2<=4096)(hsz:s.1≠0)
  {rows:List (List AV)} {fl:Bool} (hr:jy s.1 rows) (hl:rows.length<=4294967296):CW P f [.sl rows fl] ah nx fun r dV nx'=>r=.os (nx+5) s.1 0 rows.length/\nx'=nx+7/\dV (nx+5)=some (.rows s.1 rows)/\∀b,b<nx->dV b=ah b:=by
 obtain ⟨inf,hi,h1,h2⟩:=Qh hu he;obtain ⟨c,hb,hg,hn,hres,hw⟩:=akg (nx:=nx) (ah:=ah) (rd:=[]) hfn hc hu hi hz (by rw [h1];exact hzl) (by rw [h2];exact hby) (by rw [h1];exact hsz) (ap5 (rows:=rows) (full:=fl)) (fun dV K _ hK=>⟨by rw [h1];exact hr,hK⟩) hl;refine abT hfn hb (by simpa [kN] using hg) (by rw [hn];simp) ?_;rw [hn];refine hw _ fun fr dV h3 h4=>⟨.inr rfl,?_⟩;rw [hres];refine dG.2 ⟨_,h3,?_⟩;rw [h1];refine ⟨rfl,rfl,?_,fun b hb=>?_⟩
 .rw [h4,if_pos rfl,h1]
 .rw [h4,if_neg (by omega),if_neg (by omega)]
end
end Go.Fw
end
section
namespace Go.Fw
open Go.Proofs
set_option maxRecDepth 100000
theorem abX : Try.prog.underlying 44=some (.slice 54):=by kernel_rfl
theorem apb : Try.prog.underlying 52=some (.slice 64):=by kernel_rfl
theorem Es : xg Try.prog 46=some (true,1):=by kernel_rfl
theorem Vl : xg Try.prog 44=some (false,1):=by kernel_rfl
theorem afS : xg Try.prog 52=some (false,1):=by kernel_rfl
theorem XF : xg Try.prog 54=some (true,18):=by kernel_rfl
theorem ata : xg Try.prog 64=some (true,18):=by kernel_rfl
theorem FQ : JD Try.prog 46 0=some (0,false,1):=by kernel_rfl
theorem QZ : JD Try.prog 54 3=some (6,false,1):=by kernel_rfl
theorem aqO : (iP Try.prog 44).map (fun e=>(e.1,Nat.ble e.2 4096))=some (18,true):=by kernel_rfl
theorem aqP : (iP Try.prog 52).map (fun e=>(e.1,Nat.ble e.2 4096))=some (18,true):=by kernel_rfl
theorem apc : ∃b,iP Try.prog 44=some (18,b)/\b<=4096:=by
 have h:=aqO;simp only [ay,aJ] at h;obtain ⟨⟨a,b⟩,h1,rfl,h2⟩:=h;exact ⟨b,h1,aC h2⟩
theorem apd : ∃b,iP Try.prog 52=some (18,b)/\b<=4096:=by
 have h:=aqP;simp only [ay,aJ] at h;obtain ⟨⟨a,b⟩,h1,rfl,h2⟩:=h;exact ⟨b,h1,aC h2⟩
def ahX : List AV:=[.p (.int .u8 0),.p (.float .f64 0),.str [],.p (.int .i64 0)]
def alH : List AV:=[.p (.int .u8 0)]++ahX++[.p (.bool false),.sl [] true]++ahX++ahX++[.str [],.p (.bool false),.p (.bool false)]
def alI : List AV:=[.str [],.p (.int .i64 0),.p (.int .u8 0)]++ahX++ahX++ahX++[.p (.bool false),.p (.bool false),.p (.bool false)]
theorem afT : ays Try.prog 46=some [.sl [] true]:=by kernel_rfl
theorem alJ : ays Try.prog 54=some alH:=by kernel_rfl
theorem ape : ays Try.prog 64=some alI:=by kernel_rfl
theorem alK : azj Try.prog 46=false:=by kernel_rfl
theorem atb : azj Try.prog 54=false:=by kernel_rfl
theorem aqQ : ∃pl,ayC Try.prog 46=some pl/\∀b n:Nat,FT pl [.sl [] true] [(0,.os b 18 0 n)]=some [.os b 18 0 n]:=⟨_,rfl,fun b n=>rfl⟩
theorem aqR : ∃pl,ayC Try.prog 64=some pl:=⟨_,rfl⟩
def uw : List AV:=.p (.int .u8 77)::alH.tail
theorem aqS : ∃pl,ayC Try.prog 54=some pl/\FT pl alH [(0,.p (.int .u8 77))]=some uw:=⟨_,rfl,rfl⟩
theorem alL {m:Nat}(h:m<4294967296):IntKind.wrap .i64 ((m:Int)+1)=((m+1:Nat):Int):=by
 have:=aow (i:=(m:Int)) (by omega) (by omega);unfold fK at this;rw [this];omega
def Qu (o:dJ)(id:Nat):List AV:=o.enc.set 6 (.os id 18 0 (o.Props.map dI.enc).length)
theorem azn (o:dJ)(hk:o.Props.length<=4294967296)(ah:AH)(nx:Nat):CW Try.prog 48 [o.av] ah nx (fun r dV nx'=>∃id,r=.agg (Qu o id)/\nx<=id/\id<nx'/\dV id=some (.rows 18 (o.Props.map dI.enc))/\∀b,b<nx->dV b=ah b):=by
 obtain ⟨b52,aqT,atc⟩:=apd;refine aef (M:=[(0,o.av)]) (Q:=fun e M dV nx'=>(e=.normal\/e=.ret)/\∃b2 id,JB M 2=some (.op b2 18 0 0)/\dV b2=some (.rows 18 [Qu o id])/\nx<=id/\id<nx'/\dV id=some (.rows 18 (o.Props.map dI.enc))/\∀b,b<nx->dV b=ah b)
  Try.func48 rfl (by decide) (aC rfl) ⟨rfl,trivial⟩ ?_ ?_
 .refine iV (fH ?_);refine QX rfl rfl rfl rfl rfl ?_;refine QY rfl rfl rfl alJ atb (iW rfl ?_);refine iV (fH ?_);refine yI rfl rfl rfl rfl QZ rfl ?_;refine pG rfl rfl rfl rfl afS (rs:=[o.enc]) (by rw [ayp (by omega)];exact gX rfl) rfl (v:=.sl (o.Props.map dI.enc) false) rfl ?_;refine Vk rfl rfl rfl ((alG (fl:=false) Try.func72 (t:=52) (e:=64) (by kernel_rfl) apb aqT ape rfl atc (Nat.succ_ne_zero 17) (dI.Lh _) (by simpa using hk)).mono fun r Vm n1 hr=>?_);obtain ⟨rfl,rfl,hb1,hold⟩:=hr;refine yI rfl rfl rfl rfl QZ rfl ?_;have hn:Vm nx=some (.rows 18 [o.enc]):=by rw [hold nx (by omega),ayp (by omega)];exact gX rfl
  have hn1:Vm (nx+1)=some (.rows 18 [alH]):=by rw [hold _ (by omega)];exact gX rfl
  refine IK rfl rfl rfl rfl rfl afS hn rfl rfl rfl (aC rfl) (iW rfl ?_);refine iV (fH ?_);refine pG rfl rfl rfl rfl XF (sz:=18) (rs:=[Qu o (nx+1+1+1+1+5)]) (row:=Qu o (nx+1+1+1+1+5)) (by rw [gX rfl];rfl) rfl (v:=.agg (Qu o (nx+1+1+1+1+5))) ⟨dD 18,rfl⟩ ?_;refine IK rfl rfl rfl rfl rfl XF (rs:=[alH]) (by rw [ayp (by omega)];exact hn1) rfl rfl rfl (dD 18) (iW rfl ?_);refine NC ⟨.inr rfl,nx+1,nx+1+1+1+1+5,rfl,gX rfl,by omega,by omega,?_,fun b hb=>?_⟩
  .rw [ayp (by omega),ayp (by omega)];exact hb1
  .rw [ayp (by omega),ayp (by omega),hold b (by omega),ayp (by omega),ayp (by omega)]
 .intro e M fr dV nx' hf hq;obtain ⟨he,b2,id,h2,hb2,h3,h4,h5,h6⟩:=hq;refine ⟨he,dG.2 ⟨_,hf.get _ _ h2,dG.2 ⟨_,XF,?_⟩⟩⟩;dsimp only;rw [hb2];exact ⟨rfl,dG.2 ⟨Qu o id,rfl,⟨dD 18,id,rfl,h3,h4,h5,h6⟩⟩⟩
def wS (e:dJ×Nat):List AV:=Qu e.1 e.2
structure JC (F:List (dJ×Nat))(R:List dJ)(b:Nat)(ah:AH)(n0 nx:Nat):Prop where
 out:ah b=some (.rows 18 (F.map wS++R.map dJ.enc))
 lo:n0<=b
 hi:b<nx
 blk:∀e∈F,ah e.2=some (.rows 18 (e.1.Props.map dI.enc))/\n0<=e.2/\e.2<nx/\e.2≠b
 nd:(F.map (·.2)).Nodup
theorem JC.frame {F:List (dJ×Nat)}{R:List dJ}{b n0 nx nx':Nat}{ah dV:AH}(h:JC F R b ah n0 nx)(hn:nx<=nx')(ha:∀j,n0<=j->j<nx->dV j=ah j):JC F R b dV n0 nx':=
 ⟨by rw [ha b h.lo h.hi];exact h.out,h.lo,bZ h.hi hn,fun e he=>⟨by rw [ha _ (h.blk e he).2.1 (h.blk e he).2.2.1];exact (h.blk e he).1,(h.blk e he).2.1,bZ (h.blk e he).2.2.1 hn,(h.blk e he).2.2.2⟩,h.nd⟩
theorem JC.keep {F:List (dJ×Nat)}{R:List dJ}{b n0 nx nx':Nat}{ah dV:AH}(h:JC F R b ah n0 nx)(hn:nx<=nx')(hb:dV b=ah b)(ha:∀e∈F,dV e.2=ah e.2):JC F R b dV n0 nx':=
 ⟨by rw [hb];exact h.out,h.lo,bZ h.hi hn,fun e he=>⟨by rw [ha e he];exact (h.blk e he).1,(h.blk e he).2.1,bZ (h.blk e he).2.2.1 hn,(h.blk e he).2.2.2⟩,h.nd⟩
theorem abY {α:Type}(A:List α)(x y:α)(B:List α):(A++x::B).set A.length y=A++y::B:=by
 induction A with
 |nil=>rfl|cons a A ih=>simp [ih]
theorem abZ {α:Type}(A:List α)(x:α)(B:List α):(A++x::B)[A.length]?=some x:=by simp
def tnM (n b2 b k:Nat):MT:=[(2,.op b2 1 0 0),(3,.os b 18 0 n),(14,.p (.int .i64 n)),(15,.p (.int .i64 k))]
def tnI (l:List dJ)(b2 b n0:Nat)(kP:AH):Nat->MT->AH->Nat->Prop:=fun c M ah nx=>
 ∃k F,c=l.length+1-k/\k<=l.length/\M=tnM l.length b2 b k/\JC F (l.drop k) b ah n0 nx/\F.map (·.1)=l.take k/\b2<b/\ah b2=some (.rows 1 [[.sl [] true]])/\∀j,j<n0->ah j=kP j
def tnK (h:dH)(kP:AH)(nx0:Nat):CK:=fun r ah nx=>∃F b,r=.agg [.os b 18 0 F.length]/\JC F [] b ah nx0 nx/\F.map (·.1)=h.Objects/\∀j,j<nx0->ah j=kP j
theorem ab1 {l:List dJ}(hb:Fe [AV.sl (l.map dJ.enc) false]):(∀o∈l,o.Props.length<=4294967296)/\l.length<=4294967296:=by
 obtain ⟨⟨h1,h2⟩,-⟩:=hb;refine ⟨fun o ho=>?_,by simpa using h1⟩;have h3:=WS h2 o.enc (aU.2 ⟨o,ho,rfl⟩);have h4:=Ud h3 (.sl (o.Props.map dI.enc) false) (by simp [dJ.enc]);have h5:(o.Props.map dI.enc).length<=4294967296:=h4.1;simpa using h5
theorem XG (h:dH)(hb:Fe [AV.sl (h.Objects.map dJ.enc) false])(ah:AH)(nx:Nat):CW Try.prog 22 [h.av] ah nx (tnK h ah nx):=by
 obtain ⟨b44,ab2,atd⟩:=apc;obtain ⟨hob,hlb⟩:=ab1 hb;obtain ⟨ax7,ate,atf⟩:=aqQ;obtain ⟨l⟩:=h;dsimp only at hob hlb hb;refine aef (M:=[(0,dH.av ⟨l⟩)]) (Q:=fun e M dV nx'=>(e=.normal\/e=.ret)/\∃b2 F b,JB M 2=some (.op b2 1 0 0)/\dV b2=some (.rows 1 [[.os b 18 0 F.length]])/\JC F [] b dV nx nx'/\F.map (·.1)=l/\∀j,j<nx->dV j=ah j)
  Try.func22 rfl (by decide) (aC rfl) ⟨rfl,trivial⟩ ?_ ?_
 .refine iV (fH ?_);refine QX rfl rfl rfl rfl rfl ?_;refine QY rfl rfl rfl afT alK (iW rfl ?_);refine iV (fH ?_);refine yI rfl rfl rfl rfl FQ rfl ?_;refine pG rfl rfl rfl rfl Vl (rs:=[[.sl (l.map dJ.enc) false]]) (by rw [ayp (by omega)];exact gX rfl) rfl (v:=.sl (l.map dJ.enc) false) rfl ?_;refine QW rfl rfl rfl rfl rfl (alC abX) ?_;refine an5 rfl rfl rfl rfl rfl abX ab2 alJ rfl (by omega) (Int.le_refl _) (by simp;omega) atd ?_;refine Dj rfl rfl rfl rfl (iW rfl ?_);refine iV (fH ?_);refine nJ rfl rfl rfl rfl (yI rfl rfl rfl rfl FQ rfl ?_);refine pG rfl rfl rfl rfl Vl (rs:=[[.sl (l.map dJ.enc) false]]) (by rw [ayp (by omega),ayp (by omega)];exact gX rfl) rfl (v:=.sl (l.map dJ.enc) false) rfl ?_;refine an6 rfl rfl rfl rfl rfl ab2 (Nat.succ_ne_zero 17) (dJ.Lh _) (gX rfl) (by simp) (iW rfl ?_);refine iV (iV (fH ?_));refine nJ rfl rfl rfl rfl (QW rfl rfl rfl rfl rfl (aed abX) (nJ rfl rfl rfl rfl (iW rfl ?_)))
  refine Aj (Vj (tnI l (nx+1) (nx+5) nx ah) (l.length+1) (tnM l.length (nx+1) (nx+5) 0) ⟨rfl,?_,?_,rfl,trivial⟩ ⟨0,[],rfl,dB _,rfl,⟨?_,by omega,by omega,(fun e he=>by cases he),List.nodup_nil⟩,rfl,by omega,?_,fun j hj=>?_⟩ fun c M Vm n1 hI=>?_)
  .show some (AV.os (nx+1+1+1+1+1) 18 0 (((l.map dJ.enc).length:Nat):Int).toNat)=_;simp
  .show some (AV.p (.int .i64 ((((l.map dJ.enc).length:Nat):Int).toNat:Nat)))=_;simp
  .rw [gX (by omega)];simp [List.take_of_length_le,List.drop_eq_nil_of_le]
  .rw [ayp (by omega),ayp (by omega)];exact gX rfl
  .rw [ayp (by omega),ayp (by omega),ayp (by omega),ayp (by omega)]
  .obtain ⟨k,F,hc,hk,rfl,hF,hFe,hlt,h2,hold⟩:=hI;refine iV (fH ?_);refine FP rfl rfl rfl rfl rfl (fun K h=>⟨rfl,h⟩) (iW rfl ?_);refine iV (Ep rfl (fun h=>IJ ?_) fun h=>Vh ?_)
   .have hk':k<l.length:=(by simpa using h);clear h;obtain ⟨o,ho⟩:∃o,l[k]?=some o:=⟨l[k],by simp [hk']⟩;have hdrop:l.drop k=o::l.drop (k+1):=by
     rw [List.drop_eq_getElem_cons hk'];rw [aW hk'] at ho;cases ho;rfl
    have htake:l.take (k+1)=l.take k++[o]:=(by rw [List.take_add_one,ho];rfl);have hFl:F.length=k:=by
     have:=congrArg List.length hFe;simpa [Nat.min_eq_left hk] using this
    have hout:=hF.out;rw [hdrop,aX] at hout;have hrow:(F.map wS++o.enc::(l.drop (k+1)).map dJ.enc)[0+(k:Int).toNat]?=some o.enc:=by
     have:=abZ (F.map wS) o.enc ((l.drop (k+1)).map dJ.enc);rw [dh,hFl] at this;simpa using this
    have hlo:=hF.lo;have hhi:=hF.hi;refine iV (Aj (iV (fH ?_)));refine nJ rfl rfl rfl rfl (Dj rfl rfl rfl rfl (iW rfl ?_));refine fH ?_;refine nJ rfl rfl rfl rfl (nJ rfl rfl rfl rfl (nJ rfl rfl rfl rfl (nJ rfl rfl rfl rfl ?_)));refine Js rfl rfl rfl rfl rfl ab2 (by omega) (by omega) rfl ?_;refine pG rfl rfl rfl rfl XF hout hrow (v:=o.av) ⟨dD 18,rfl⟩ ?_;refine Vk rfl rfl rfl ((azn o (hob o (aG ho)) _ _).mono fun r ah2 n2 hr=>?_);obtain ⟨id,rfl,g1,g2,g3,g4⟩:=hr;refine Js rfl rfl rfl rfl rfl ab2 (by omega) (by omega) rfl ?_;refine IK rfl rfl rfl rfl rfl XF (by rw [g4 _ (by omega)];exact hout) rfl rfl hrow (dD 18) (iW rfl ?_);refine fH ?_;refine FP rfl rfl rfl rfl rfl (fun K h=>⟨rfl,h⟩) (nJ rfl rfl rfl rfl (iW rfl ?_));have hset:(F.map wS++o.enc::(l.drop (k+1)).map dJ.enc).set (0+(k:Int).toNat) (lay o.enc 0 (AV.agg (Qu o id)).cells)=(F++[(o,id)]).map wS++(l.drop (k+1)).map dJ.enc:=by
     have e1:lay o.enc 0 (AV.agg (Qu o id)).cells=wS (o,id):=rfl;have:=abY (F.map wS) o.enc (wS (o,id)) ((l.drop (k+1)).map dJ.enc);rw [dh,hFl] at this;rw [e1,show 0+(k:Int).toNat=k by simp,this];simp
    refine ⟨l.length+1-(k+1),by omega,tnM l.length (nx+1) (nx+5) (k+1),⟨rfl,rfl,rfl,?_,trivial⟩,k+1,F++[(o,id)],rfl,by omega,rfl,⟨?_,by omega,by omega,fun e he=>?_,?_⟩,?_,by omega,?_,fun j hj=>?_⟩
    .show some (AV.p (.int .i64 (IntKind.wrap .i64 ((k:Int)+1))))=_;rw [alL (by omega)]
    .rw [gX rfl,hset]
    .rcases aH.1 he with he|he
     .have h1:=hF.blk e he;refine ⟨?_,h1.2.1,by omega,h1.2.2.2⟩;rw [ayp h1.2.2.2,g4 _ (by omega)];exact h1.1
     .obtain rfl:=bT.1 he;refine ⟨?_,by show nx<=id;omega,by show id<_;omega,by show id≠_;omega⟩;show upd _ _ _ id=_;rw [ayp (by omega)];exact g3
    .rw [List.map_append,List.nodup_append];refine ⟨hF.nd,by simp,fun a ha b hb=>?_⟩;simp at hb;subst hb;obtain ⟨e,he,rfl⟩:=aU.1 ha;have:=(hF.blk e he).2.2.1;omega
    .rw [htake,<- hFe];simp
    .rw [ayp (by omega),g4 _ (by omega)];exact h2
    .rw [ayp (by omega),g4 _ (by omega)];exact hold j hj
   .have hk2:k=l.length:=by
     have:¬k<l.length:=(by simpa using h);omega
    subst hk2;rw [List.take_length] at hFe;rw [List.drop_length] at hF;have hFl:l.length=F.length:=(by rw [<- hFe,dh]);have hlo:=hF.lo;have hhi:=hF.hi;refine iV (fH ?_);refine nJ rfl rfl rfl rfl ?_;refine Y9 rfl rfl rfl rfl afT ate (atf _ _) ?_;refine IK rfl rfl rfl rfl rfl Es h2 rfl rfl rfl (dD 1) (iW rfl ?_);refine NC ⟨.inr rfl,nx+1,F,nx+5,rfl,?_,hF.keep (by omega) (ayp (by omega)) (fun e he=>ayp fun hc=>?_),hFe,fun j hj=>?_⟩
    .rw [gX rfl,<- hFl];rfl
    .have:=(hF.blk e he).1;rw [hc,h2] at this;simp at this
    .rw [ayp (by omega)];exact hold j hj
 .intro e M fr dV nx' hf hq;obtain ⟨he,b2,F,b,h2,hb2,h3,h4,h5⟩:=hq;refine ⟨he,dG.2 ⟨_,hf.get _ _ h2,dG.2 ⟨_,Es,?_⟩⟩⟩;dsimp only;rw [hb2];exact ⟨rfl,dG.2 ⟨_,rfl,⟨dD 1,F,b,rfl,h3,h4,h5⟩⟩⟩
def spM (b1 k:Nat):MT:=[(1,.op b1 1 0 0),(2,.p (.int .i64 k))]
def aqU (b1 k m:Nat):MT:=(3,.p (.int .i64 m))::spM b1 k
def Oth (F:List (dJ×Nat))(b nx:Nat)(kP ah:AH):Prop:=∀j,j<nx->j≠b->(∀e∈F,j≠e.2)->ah j=kP j
def spI (F:List (dJ×Nat))(b b1 nx:Nat)(kP:AH):Nat->MT->AH->Nat->Prop:=fun c M ah nx'=>
 ∃k,c=F.length+1-k/\k<=F.length/\M=spM b1 k/\ah b1=some (.rows 1 [[.os b 18 0 F.length]])/\ah b=some (.rows 18 (List.replicate k uw++(F.drop k).map wS))/\
  (∀e∈F.drop k,ah e.2=some (.rows 18 (e.1.Props.map dI.enc)))/\Oth F b nx kP ah/\b1<nx'
def avt (F:List (dJ×Nat))(b b1 nx k:Nat)(e:dJ×Nat)(kP:AH):Nat->MT->AH->Nat->Prop:=fun c M ah nx'=>
 ∃m rs,c=e.1.Props.length+1-m/\m<=e.1.Props.length/\M=aqU b1 k m/\ah b1=some (.rows 1 [[.os b 18 0 F.length]])/\ah b=some (.rows 18 (List.replicate k uw++(F.drop k).map wS))/\
  ah e.2=some (.rows 18 rs)/\rs.length=e.1.Props.length/\jy 18 rs/\(∀e∈F.drop (k+1),ah e.2=some (.rows 18 (e.1.Props.map dI.enc)))/\Oth F b nx kP ah/\b1<nx'
theorem aeh {F:List (dJ×Nat)}{b n0 mF:Nat}{ah:AH}{nx:Nat}(hF:JC F [] b ah n0 mF)(hm:mF<=nx)(hp:∀e∈F,e.1.Props.length<=4294967296)(hl:F.length<=4294967296) :
  CW Try.prog 23 [.agg [.os b 18 0 F.length]] ah nx (fun r dV nx'=>dV b=some (.rows 18 (List.replicate F.length uw))/\Oth F b nx ah dV/\nx<=nx'):=by
 obtain ⟨b44,ab2,atd⟩:=apc;obtain ⟨b52,aqT,atc⟩:=apd;obtain ⟨ax9,atg,ath⟩:=aqS;obtain ⟨ax_,ati⟩:=aqR;have hhi:=hF.hi;generalize hah:ah=alM;rw [hah] at hF;refine aef (M:=[(0,.agg [.os b 18 0 F.length])]) (Q:=fun e M dV nx'=>(e=.normal\/e=.ret)/\dV b=some (.rows 18 (List.replicate F.length uw))/\Oth F b nx alM dV/\nx<=nx')
  Try.func23 rfl (by decide) (aC rfl) ⟨rfl,trivial⟩ ?_ (fun e M fr dV nx' hf hq=>⟨hq.1,hq.2⟩)
 refine iV (fH ?_);refine QX rfl rfl rfl rfl rfl (iW rfl ?_);refine iV (fH ?_);refine Dj rfl rfl rfl rfl (iW rfl ?_);refine Aj (Vj (spI F b nx nx alM) (F.length+1) (spM nx 0) ⟨rfl,rfl,trivial⟩ ⟨0,rfl,dB _,rfl,gX rfl,?_,fun e he=>?_,fun j hj _ _=>ayp (by omega),by omega⟩ fun c M Vm n1 hI=>?_)
 .rw [ayp (by omega)];simpa using hF.out
 .have:=hF.blk e (by simpa using he);rw [ayp (by omega)];exact this.1
 .obtain ⟨k,hc,hk,rfl,h1,hb,hblk,hoth,hb1⟩:=hI;refine iV (iV (fH ?_));refine nJ rfl rfl rfl rfl (yI rfl rfl rfl rfl FQ rfl ?_);refine pG rfl rfl rfl rfl Vl h1 rfl (v:=.os b 18 0 F.length) rfl ?_;refine QW rfl rfl rfl rfl rfl (aed abX) (FP rfl rfl rfl rfl rfl (fun K h=>⟨rfl,h⟩) (iW rfl ?_));refine Ep rfl (fun h=>IJ ?_) fun h=>Vh ?_
  .have hk':k<F.length:=(by simpa using h);clear h;obtain ⟨e,he⟩:∃e,F[k]?=some e:=⟨F[k],by simp [hk']⟩;have heF:=aG he;have hdrop:F.drop k=e::F.drop (k+1):=by
    rw [List.drop_eq_getElem_cons hk'];rw [aW hk'] at he;cases he;rfl
   have avv:=hp e heF;have hFe:=hF.blk e heF;rw [hdrop,aX] at hb;have hrow:(List.replicate k uw++wS e::(F.drop (k+1)).map wS)[0+(k:Int).toNat]?=some (wS e):=by
    have:=abZ (List.replicate k uw) (wS e) ((F.drop (k+1)).map wS);rw [List.length_replicate] at this;simpa using this
   have hdist:∀e'∈F.drop (k+1),e'.2≠e.2:=by
    intro e' he' hc';obtain ⟨i,hi⟩:=bF.1 he';rw [List.getElem?_drop] at hi;have q1:(F.map (·.2))[k]?=some e.2:=(by simp [he]);have q2:(F.map (·.2))[k+1+i]?=some e.2:=(by simp [hi,hc']);obtain ⟨l1,g1⟩:=aA.1 q1;obtain ⟨l2,g2⟩:=aA.1 q2;have:=(List.getElem_inj hF.nd).1 (g1.trans g2.symm);omega
   have hsub:∀e'∈F.drop (k+1),e'∈F:=fun e' he'=>List.mem_of_mem_drop he';refine Nz (fun M ah nx'=>ML M (spM nx k)/\ah nx=some (.rows 1 [[.os b 18 0 F.length]])/\ah b=some (.rows 18 (List.replicate (k+1) uw++(F.drop (k+1)).map wS))/\
    (∀e∈F.drop (k+1),ah e.2=some (.rows 18 (e.1.Props.map dI.enc)))/\Oth F b nx alM ah/\nx<nx') (Aj ?_) fun M ah nx' hK=>?_
   .refine Nz (fun M ah nx'=>ML M (spM nx k)/\ah nx=some (.rows 1 [[.os b 18 0 F.length]])/\ah b=some (.rows 18 (List.replicate k uw++wS e::(F.drop (k+1)).map wS))/\
     (∀e∈F.drop (k+1),ah e.2=some (.rows 18 (e.1.Props.map dI.enc)))/\Oth F b nx alM ah/\nx<nx') (iV (fH ?_)) fun M ah nx' hK=>?_
    .refine Dj rfl rfl rfl rfl (iW rfl ?_);refine Aj (Vj (avt F b nx nx k e alM) (e.1.Props.length+1) (aqU nx k 0) ⟨rfl,rfl,rfl,trivial⟩ ⟨0,e.1.Props.map dI.enc,rfl,dB _,rfl,h1,?_,hblk e (by rw [hdrop];exact aZ),by simp,dI.Lh _,fun e' he'=>hblk e' (by rw [hdrop];exact aN _ he'),hoth,by omega⟩ fun c M ah2 n2 hI=>?_)
     .rw [hdrop,aX];exact hb
     .obtain ⟨m,rs,hc,hm,rfl,h1,hb,hrs,hrl,atj,hblk,hoth,hb1⟩:=hI;rw [hdrop,aX] at hb;refine iV (iV (fH ?_));refine nJ rfl rfl rfl rfl (yI rfl rfl rfl rfl FQ rfl ?_);refine pG rfl rfl rfl rfl Vl h1 rfl (v:=.os b 18 0 F.length) rfl ?_;refine nJ rfl rfl rfl rfl (Js rfl rfl rfl rfl rfl ab2 (by omega) (by omega) rfl ?_);refine yI rfl rfl rfl rfl QZ rfl ?_;refine pG rfl rfl rfl rfl afS hb hrow (v:=.os e.2 18 0 (e.1.Props.map dI.enc).length) rfl ?_;refine QW rfl rfl rfl rfl rfl (aed apb) (FP rfl rfl rfl rfl rfl (fun K h=>⟨rfl,h⟩) (iW rfl ?_));refine Ep rfl (fun h=>IJ ?_) fun h=>Vh ?_
      .have hm':m<e.1.Props.length:=(by simpa using h);clear h;obtain ⟨row,hro⟩:∃row,rs[m]?=some row:=⟨rs[m]'(by omega),by simp [show m<rs.length by omega]⟩;have atl:=atj row (aG hro);refine iV (Aj (fH ?_));refine yI rfl rfl rfl rfl FQ rfl ?_;refine pG rfl rfl rfl rfl Vl h1 rfl (v:=.os b 18 0 F.length) rfl ?_;refine nJ rfl rfl rfl rfl (Js rfl rfl rfl rfl rfl ab2 (by omega) (by omega) rfl ?_);refine yI rfl rfl rfl rfl QZ rfl ?_;refine pG rfl rfl rfl rfl afS hb hrow (v:=.os e.2 18 0 (e.1.Props.map dI.enc).length) rfl ?_;refine nJ rfl rfl rfl rfl ?_;refine Y9 rfl rfl rfl rfl ape ati (cs:=alI) rfl ?_;refine Js rfl rfl rfl rfl rfl aqT (by omega) (by simpa using hm') rfl ?_;refine IK rfl rfl rfl rfl rfl ata hrs rfl rfl (row:=row) (by simpa using hro) (by show 0+18<=row.length;omega) (iW rfl ?_);refine fH ?_;refine nJ rfl rfl rfl rfl (FP rfl rfl rfl rfl rfl (fun K h=>⟨rfl,h⟩) (Dj rfl rfl rfl rfl (iW rfl ?_)))
       refine ⟨e.1.Props.length+1-(m+1),by omega,aqU nx k (m+1),⟨?_,rfl,rfl,trivial⟩,m+1,_,rfl,by omega,rfl,?_,?_,gX rfl,?_,?_,fun e' he'=>?_,fun j hj hjb hje=>?_,by omega⟩
       .show some (AV.p (.int .i64 (IntKind.wrap .i64 ((m:Int)+1))))=_;rw [alL (by omega)]
       .rw [ayp (by omega)];exact h1
       .rw [ayp hFe.2.2.2.symm,hdrop,aX];exact hb
       .simpa using hrl
       .intro r hr;rcases List.mem_or_eq_of_mem_set hr with hr|rfl
        .exact atj r hr
        .have:(lay row 0 (AV.agg alI).cells).length=row.length:=EJ (by show 0+18<=_;omega);rw [this];exact atl
       .rw [ayp (hdist e' he')];exact hblk e' he'
       .rw [ayp (hje e heF)];exact hoth j hj hjb hje
      .refine ⟨⟨rfl,rfl,trivial⟩,h1,hb,hblk,hoth,by omega⟩
    .obtain ⟨hM,w1,w2,w3,w4,w5⟩:=hK;refine Pm _ hM (fH ?_);refine yI rfl rfl rfl rfl FQ rfl ?_;refine pG rfl rfl rfl rfl Vl w1 rfl (v:=.os b 18 0 F.length) rfl ?_;refine nJ rfl rfl rfl rfl ?_;refine Y9 rfl rfl rfl rfl alJ atg ath ?_;refine Js rfl rfl rfl rfl rfl ab2 (by omega) (by omega) rfl ?_;refine IK rfl rfl rfl rfl rfl XF w2 rfl rfl hrow (dD 18) (iW rfl ?_);refine ⟨⟨rfl,rfl,trivial⟩,by rw [ayp (by omega)];exact w1,?_,fun e' he'=>?_,fun j hj hjb hje=>?_,by omega⟩
     .have:=abY (List.replicate k uw) (wS e) uw ((F.drop (k+1)).map wS);rw [List.length_replicate] at this;rw [gX rfl,show 0+(k:Int).toNat=k by simp,show lay (wS e) 0 (AV.agg uw).cells=uw from rfl,this,List.replicate_succ'];simp
     .rw [ayp (hF.blk e' (hsub e' he')).2.2.2];exact w3 e' he'
     .rw [ayp hjb];exact w4 j hj hjb hje
   .obtain ⟨hM,w1,w2,w3,w4,w5⟩:=hK;refine Pm _ hM (fH ?_);refine nJ rfl rfl rfl rfl (FP rfl rfl rfl rfl rfl (fun K h=>⟨rfl,h⟩) (Dj rfl rfl rfl rfl (iW rfl ?_)));refine ⟨F.length+1-(k+1),by omega,spM nx (k+1),⟨rfl,?_,trivial⟩,k+1,rfl,by omega,rfl,w1,w2,w3,w4,by omega⟩;show some (AV.p (.int .i64 (IntKind.wrap .i64 ((k:Int)+1))))=_;rw [alL (by omega)]
  .have hk2:k=F.length:=by
    have:¬k<F.length:=(by simpa using h);omega
   subst hk2;rw [List.drop_length] at hb;exact ⟨.inl rfl,by simpa using hb,hoth,by omega⟩
end Go.Fw
end
section
namespace Go.Fw
variable [iT]
theorem axk {P:Program}{o:Oper}{a:Act}{w:World}{K:Act->World->Prop}{Q Q':Exit->Act->World->Prop}(h:o.wp P a w K Q)(hq:∀c a w,Q (.panic c) a w->Q' (.panic c) a w)(ho:LetsOut Q->LetsOut Q'):o.wp P a w K Q':=by
 unfold Oper.wp at *;generalize (execOp a.eval o).run P w=r at *;cases r with
 |ok n w'=>
  cases n<;>simp only [Oper.upon] at h ⊢<;>
   first
    |exact h
    |exact Calls.mono h (fun e w'' he=>by cases e<;>first|exact he|exact hq _ _ _ he|exact ho he)
    |exact Rows.mono h (fun _ _ he=>he)
 |halt x w'=>cases x<;>simp only [Oper.upon] at h ⊢<;>first|exact h|exact hq _ _ _ h
section
variable {P : Program} {N:Nat} {M:MT} {ah:AH} {nx:Nat} {Q:MQ}
theorem awg {id:Nat}{ops:Array Oper}(hm:P.follows .mixedOrders=true)(hg:(ops.toList.all fun o=>o.guard.isNone)=true)(Du:uz ops=true)(S:(Nat->Bool)->MT->AH->Nat->Prop)
  (h0:S (fun _=>false) M ah nx)
  (step:∀L M ah nx j o,S L M ah nx->L j=false->ops[j]?=some o->(∀e∈o.after.toList,Region.binds .any e=true->L e.on=true)->Eo P #[o] 0 N M ah nx (fun e M' dV nx'=>e=.normal/\S (fun i=>L i||i == j) M' dV nx'))
  (fin:∀L M ah nx,S L M ah nx->(∀i,i<ops.size->L i=true)->Q .normal M ah nx):Qg P (.region id ops true) N M ah nx Q:=by
 intro fr hf base w E a hs;refine wp_region_any hm ?_;obtain ⟨d1,d2⟩:=Qw hs.heap (w.drawn+1);have main:∀(fuel:Nat) (listed:Array Bool) (L:Nat->Bool) (M:MT) (ah:AH) (nx:Nat) (E':Env) (fr:jB) (a':Act) (w':World),listed.size=ops.size->(∀i,i<ops.size->lN listed i=L i)->S L M ah nx->FA N M fr->
   Le base w' E' fr ah nx a'->Step base w E w' E'->(List.range ops.size).countP (fun i=>!lN listed i)<=fuel->wpAny P .any ops (y9 base w E (lft N Q)) fuel listed a' w':=by
  have done:∀(listed:Array Bool) (L:Nat->Bool) (M:MT) (ah:AH) (nx:Nat) (E':Env) (fr:jB) (a':Act) (w':World),listed.size=ops.size->(∀i,i<ops.size->lN listed i=L i)->S L M ah nx->FA N M fr->
    Le base w' E' fr ah nx a'->Step base w E w' E'->(∀i,i<ops.size->lN listed i=true)->y9 base w E (lft N Q) .normal a' w':=fun listed L M ah nx E' fr a' w' hsz hL hS hf hs' hst hall=>
   ⟨E',fr,ah,nx,⟨M,hf,fin L M ah nx hS fun i hi=>by rw [<- hL i hi];exact hall i hi⟩,hs',hst⟩
  intro fuel;induction fuel with
  |zero=>
   intro listed L M ah nx E' fr a' w' hsz hL hS hf hs' hst hc;have hall:∀i,i<ops.size->lN listed i=true:=fun i hi=>by
    have:=List.countP_eq_zero.1 (Nat.le_zero.1 hc) i (by simpa using hi);simpa using this
   refine ⟨?_,done listed L M ah nx E' fr a' w' hsz hL hS hf hs' hst hall⟩;cases hr:Region.ready .any ops listed with
   |nil=>rfl|cons x xs=>
    have hx:x∈Region.ready .any ops listed:=(by rw [hr];simp);obtain ⟨hun,o,ho,-⟩:=mem_ready.1 hx;have hxn:=(bD.1 ho).1;have:=hall x hxn;unfold lN at this;have hxl:x<listed.size:=(by rw [hsz];exact hxn);simp [Array.getD_eq_getD_getElem?,hxl] at this hun;rw [this] at hun;cases hun
  |succ fuel ih=>
   intro listed L M ah nx E' fr a' w' hsz hL hS hf hs' hst hc;refine ⟨fun hr=>?_,fun j hj=>?_⟩
   .refine done listed L M ah nx E' fr a' w' hsz hL hS hf hs' hst ?_;intro i;induction i using Nat.strongRecOn with
    |_ i ihi=>
     intro hi;cases hl:lN listed i with
     |true=>rfl|false=>
      have ho:ops[i]?=some ops[i]:=(by simp [hi]);have hil:i<listed.size:=(by rw [hsz];exact hi);have:i∈Region.ready .any ops listed:=mem_ready.2 ⟨by unfold lN at hl;simpa [Array.getD_eq_getD_getElem?,hil] using hl,ops[i],ho,fun e he hb=>by
       have hlt:=EL Du ho (by simpa using he) hb;exact ihi e.on hlt (by omega)⟩
      rw [hr] at this;cases this
   .obtain ⟨hun,o,ho,hall⟩:=mem_ready.1 hj;have hjn:j<ops.size:=(bD.1 ho).1;have hjl:j<listed.size:=(by rw [hsz];exact hjn);have hnl:lN listed j=false:=(by unfold lN;simpa [Array.getD_eq_getD_getElem?,hjl] using hun);have hgo:o.guard=none:=by
     rw [aF] at hg;have:=hg o (by rw [Array.mem_toList_iff];exact Array.mem_of_getElem? ho);simpa using this
    have st:=step L M ah nx j o hS (by rw [<- hL j hjn];exact hnl) ho (fun e he hb=>by
     have h1:=hall e (by simpa using he) hb;have h2:=EL Du ho he hb;rw [<- hL e.on (by omega)];exact h1) fr hf base w' E' a' hs'
     (fun e a3 w3=>match e with | .normal=>wpAny P .any ops (y9 base w E (lft N Q)) fuel (listed.setIfInBounds j true) a3 w3|e=>y9 base w E (lft N Q) e a3 w3) ?_
    .have e1:(List.range' 0 ((#[o]:Array Oper).size-0))=[0]:=rfl;rw [e1,wpOps_cons] at st;unfold wpOp at st ⊢;rw [ho];have e2:(#[o]:Array Oper)[0]?=some o:=rfl;rw [e2] at st;dsimp only at st ⊢;have hw:∀l,Region.wanted o l=true:=fun l=>by unfold Region.wanted;rw [hgo]
     rw [if_pos (hw _)] at st ⊢;rcases st with st|⟨s1,s2⟩
     .exact .inl (axk (Oper.wp_mono (fun a w h=>h) st) (fun _ _ _ h=>h) (fun h=>h))
     .exact .inr ⟨s1,s2⟩
    .rintro a2 w2 ⟨E2,fr2,ah2,nx2,⟨M2,hf2,-,hS2⟩,hs2,hst2⟩;show wpAny P .any ops (y9 base w E (lft N Q)) fuel (listed.setIfInBounds j true) a2 w2;refine ih _ _ _ _ _ _ _ _ _ (by simpa using hsz) (fun i hi=>?_) hS2 hf2 hs2 (hst.trans hst2) ?_
     .rw [BO hjl,hL i hi];by_cases e:i=j<;>simp [e]
     .have hcount:(List.range ops.size).countP (fun i=>!lN (listed.setIfInBounds j true) i)<(List.range ops.size).countP (fun i=>!lN listed i):=by
       have hsub:∀l:List Nat,l.Nodup->l.countP (fun i=>!lN (listed.setIfInBounds j true) i)+(if j∈l then 1 else 0)=l.countP (fun i=>!lN listed i):=by
        intro l;induction l with
        |nil=>intro _;simp|cons x l ihl=>
         intro hnd;obtain ⟨hx,hnd⟩:=List.nodup_cons.1 hnd;have:=ihl hnd;simp only [List.countP_cons,BO hjl];by_cases e:x=j
         .subst e;rw [if_neg hx] at this;have h':l.countP (fun i=>!(lN listed i||decide (i=x)))=l.countP (fun i=>!lN listed i):=by
           simp only [BO hjl] at this;simpa using this
          rw [h'];simp [hnl]
         .have ej:(j∈x::l)↔j∈l:=(by simp;intro h;exact absurd h.symm e);simp only [BO hjl] at this;have aiE:(lN listed x||decide (x=j))=lN listed x:=(by simp [e]);rw [aiE];by_cases hm:j∈l
          .rw [if_pos hm] at this;rw [if_pos (ej.2 hm)];omega
          .rw [if_neg hm] at this;rw [if_neg (fun h=>hm (ej.1 h))];omega
       have:=hsub (List.range ops.size) List.nodup_range;rw [if_pos (by simpa using hjn)] at this;omega
      omega
 exact main ops.size (Array.replicate ops.size false) (fun _=>false) M ah nx E fr a _ (by simp) (fun i hi=>by unfold lN;simp [Array.getD_eq_getD_getElem?,hi]) h0 hf ⟨d2,hs.fr.mono d1.ext,hs.defers⟩ d1
  (bW List.countP_le_length (by simp))
end
end Go.Fw
end
section
namespace Go.Fw
open Go.Proofs
set_option maxRecDepth 100000
theorem alN {ah:AH}{o:dJ}{id:Nat}(h:jE ah (.os id 18 0 (o.Props.map dI.enc).length)=some (.sl (o.Props.map dI.enc) false)):lI ah (Qu o id)=some o.enc:=by
 have e1:Qu o id=o.enc.take 6++(.os id 18 0 (o.Props.map dI.enc).length::o.enc.drop 7):=rfl;have hf:=dJ.fU o;have h1:lI ah (o.enc.take 6)=some (o.enc.take 6):=vU (Ad.2 fun x hx=>Ad.1 hf x (bJ hx));have h2:lI ah (o.enc.drop 7)=some (o.enc.drop 7):=vU (Ad.2 fun x hx=>Ad.1 hf x (List.mem_of_mem_drop hx));rw [e1,KI,h1];simp only [lI,h,h2,Option.bind_some,Option.map_some];rfl
theorem ab3 {ah:AH}:∀{F:List (dJ×Nat)},(∀e∈F,jE ah (.os e.2 18 0 (e.1.Props.map dI.enc).length)=some (.sl (e.1.Props.map dI.enc) false))->lK ah (F.map wS)=some ((F.map (·.1)).map dJ.enc)
 |[],_=>rfl|e::r,h=>by
  simp only [aX,lK,wS,alN (h e aZ),Option.bind_some];rw [ab3 fun e he=>h e (aN _ he)];rfl
theorem Y_ {e:dJ×Nat}{F:List (dJ×Nat)}(h:e∈F):fJ (F.map wS)=false:=by
 cases hc:fJ (F.map wS) with
 |false=>rfl|true=>
  have:=zA.1 (ug.1 hc (wS e) (aU.2 ⟨e,h,rfl⟩)) (.os e.2 18 0 (e.1.Props.map dI.enc).length) (by simp [wS,Qu,dJ.enc]);simp [AV.clean] at this
theorem alO {F:List (dJ×Nat)}{b n0 nx:Nat}{ah:AH}(h:JC F [] b ah n0 nx):jE (nR ah ayw) (.os b 18 0 F.length)=some (.sl ((F.map (·.1)).map dJ.enc) false):=by
 have hin:∀n,∀e∈F,jE (nR ah n) (.os e.2 18 0 (e.1.Props.map dI.enc).length)=some (.sl (e.1.Props.map dI.enc) false):=fun n e he=>by
  have hpc:fJ (e.1.Props.map dI.enc)=true:=gQ (Ui dI.fU);have h1:=IW (h.blk e he).1 hpc n;simp [jE,h1,hpc,List.take_of_length_le]
 have hr:=ab3 (hin 2);have hb:nR ah ayw b=some (.rows 18 ((F.map (·.1)).map dJ.enc)):=by
  show nR ah (2+1) b=_;have ho:=h.out;rw [List.map_nil,cu] at ho;simp only [nR,ho];cases hF:F with
  |nil=>rfl|cons e r=>
   rw [hF] at hr;rw [Y_ (e:=e) aZ];simp only [cond_false];have hr':lK (nR ah 2) ((e::r).map wS)=some (((e::r).map (·.1)).map dJ.enc):=hr;simp only [nR] at hr';rw [hr'];rfl
 have hc:fJ ((F.map (·.1)).map dJ.enc)=true:=gQ (Ui dJ.fU);show (match nR ah ayw b with|some (.rows sz' rs)=>if 18=sz'/\0+F.length<=rs.length/\fJ rs=true then some (AV.sl ((rs.drop 0).take F.length) false) else none|_=>none)=_;rw [hb];dsimp only;rw [if_pos ⟨rfl,by simp,hc⟩];simp [List.take_of_length_le]
theorem ab4 {ah:AH}(h:dH):lI ah [h.av]=some [h.av]:=vU (by simp only [fU,dH.fz];rfl)
theorem apg {ah:AH}(h:dH):jE ah h.av=some h.av:=acO (dH.fz h)
theorem ab5 {ah:AH}{a x b y:AV}(h:jE ah a=some x)(h2:jE ah b=some y):lI ah [.agg [a],b]=some [.agg [x],y]:=by
 have e:jE ah (.agg [a])=some (.agg [x]):=by
  show (lI ah [a]).map AV.agg=_;have:lI ah [a]=some [x]:=by simp only [lI,h,Option.bind_some,Option.map_some]
  rw [this];rfl
 simp only [lI,e,h2,Option.bind_some,Option.map_some]
end Go.Fw
end
section
namespace Go.Fw
open Go.Proofs
set_option maxRecDepth 100000
theorem awh : ∃pl,ayC Try.prog 46=some pl/\FT pl [.sl [] true] []=some [.sl [] true]:=⟨_,rfl,rfl⟩
theorem axW : ∃pl,ayC Try.prog 54=some pl/\FT pl alH []=some alH:=⟨_,rfl,rfl⟩
theorem avI {ah:AH}{a x:AV}(h:jE ah a=some x):lI ah [.agg [a]]=some [.agg [x]]:=by
 have e:jE ah (.agg [a])=some (.agg [x]):=by
  show (lI ah [a]).map AV.agg=_;have:lI ah [a]=some [x]:=by simp only [lI,h,Option.bind_some,Option.map_some]
  rw [this];rfl
 simp only [lI,e,Option.bind_some,Option.map_some]
theorem azM {M:MT}{t:Nat}{a:AV}(h:JB M t=some a):Y8 M [.tmp t]=some [a]:=by simp only [Y8,NI,h]
theorem aA9 {M:MT}{t u:Nat}{a b:AV}(h:JB M t=some a)(h2:JB M u=some b):Y8 M [.tmp t,.tmp u]=some [a,b]:=by simp only [Y8,NI,h,h2]
theorem aA_ {M:MT}{k t:Nat}{a:AV}(h:JB M t=some a):an1 M [(k,.tmp t)]=some [(k,a)]:=by simp only [an1,NI,h]
def nwT (o:dJ)(F:List (dJ×Nat))(b b9 n0 nx0:Nat)(kP:AH)(L3 L4 L5 L7:Bool)(M:MT)(ah:AH)(nx:Nat):Prop:=
 (L3=false/\L4=false/\L5=false/\L7=false/\∀j,j<nx0->ah j=kP j)\/
 (L3=true/\L4=false/\L5=false/\L7=false/\(∀j,j<nx0->ah j=kP j)/\∃id,JB M 28=some (.agg (Qu o id))/\ah id=some (.rows 18 (o.Props.map dI.enc))/\nx0<=id/\id<nx)\/
 (L3=true/\L4=true/\L5=false/\L7=false/\(∀j,j<nx0->ah j=kP j)/\∃id b4,JB M 29=some (.os b4 18 0 1)/\ah b4=some (.rows 18 [Qu o id])/\ah id=some (.rows 18 (o.Props.map dI.enc))/\nx0<=id/\id<nx/\nx0<=b4/\b4<nx)\/
 (L3=true/\L4=true/\L5=true/\L7=false/\(∀j,j<nx0->j≠b->ah j=kP j)/\∃id b',JB M 30=some (.os b' 18 0 (F.length+1))/\JC (F++[(o,id)]) [] b' ah n0 nx/\nx0<=b'/\nx0<=id)\/
 (L3=true/\L4=true/\L5=true/\L7=true/\(∀j,j<nx0->j≠b->j≠b9->ah j=kP j)/\∃id b',ah b9=some (.rows 1 [[.os b' 18 0 (F.length+1)]])/\JC (F++[(o,id)]) [] b' ah n0 nx)
theorem nwT.keep {o:dJ}{F:List (dJ×Nat)}{b b9 n0 nx0:Nat}{kP:AH}{L3 L4 L5 L7:Bool}{M M':MT}{ah:AH}{nx nx':Nat}(h:nwT o F b b9 n0 nx0 kP L3 L4 L5 L7 M ah nx)(h28:JB M' 28=JB M 28)(h29:JB M' 29=JB M 29)(h30:JB M' 30=JB M 30)(hn:nx<=nx') :
  nwT o F b b9 n0 nx0 kP L3 L4 L5 L7 M' ah nx':=by
 unfold nwT at h ⊢;rw [h28,h29,h30];rcases h with h|⟨a,b,c,d,e,id,f,g,i,j⟩|⟨a,b,c,d,e,id,b4,f,g,i,j,k,l,m⟩|⟨a,b,c,d,e,id,b',f,g,i⟩|⟨a,b,c,d,e,id,b',f,g⟩
 .exact .inl h
 .exact .inr (.inl ⟨a,b,c,d,e,id,f,g,i,by omega⟩)
 .exact .inr (.inr (.inl ⟨a,b,c,d,e,id,b4,f,g,i,j,by omega,l,by omega⟩))
 .exact .inr (.inr (.inr (.inl ⟨a,b,c,d,e,id,b',f,g.frame hn fun _ _ _=>rfl,i⟩)))
 .exact .inr (.inr (.inr (.inr ⟨a,b,c,d,e,id,b',f,g.frame hn fun _ _ _=>rfl⟩)))
def nwS (o:dJ)(F:List (dJ×Nat))(b b9 n0 nx0:Nat)(M0:MT)(kP:AH):(Nat->Bool)->MT->AH->Nat->Prop:=fun L M ah nx=>
 ML M M0/\(L 0=true->JB M 25=some (.op b9 1 0 0))/\(L 1=true->JB M 26=some (.os b 18 0 F.length))/\(L 2=true->JB M 27=some o.av)/\(L 6=true->JB M 31=some (.op b9 1 0 0))/\(L 5=true->L 1=true)/\nx0<=nx/\
 nwT o F b b9 n0 nx0 kP (L 3) (L 4) (L 5) (L 7) M ah nx
def nwM (b2 b3 b4 b8 b9:Nat)(n:Nat):MT:=[(2,.op b2 1 0 0),(3,.op b3 18 0 0),(4,.op b4 1 0 0),(8,.p (.int .i64 n)),(9,.op b9 1 0 0)]
def nwC (h:dH)(o:dJ):Int:=bif jk (lY h) 0 then lY h else bif dU h.Objects.length 4096 then 4 else lY ⟨h.Objects++[o]⟩
def nwK (h:dH)(o:dJ)(kP:AH)(nx0:Nat):CK:=fun r ah nx=>nx0<=nx/\(∀j,j<nx0->ah j=kP j)/\((nwC h o≠0/\r=.gW [.agg [.sl [] true],eI 0,eI (nwC h o)])\/
 (nwC h o=0/\∃F b,r=.gW [.agg [.os b 18 0 F.length],eI h.Objects.length,eI 0]/\JC F [] b ah nx0 nx/\F.map (·.1)=h.Objects++[o]))
def nwQ (h:dH)(o:dJ)(kP:AH)(nx0:Nat):MQ:=fun e M ah nx=>(e=.normal\/e=.ret)/\∃b4 v n c,JB M 4=some (.op b4 1 0 0)/\ah b4=some (.rows 1 [[v]])/\JB M 5=some (eI n)/\JB M 6=some (eI c)/\nx0<=nx/\(∀j,j<nx0->ah j=kP j)/\
 ((nwC h o≠0/\v=.sl [] true/\n=0/\c=nwC h o)\/(nwC h o=0/\∃F b,v=.os b 18 0 F.length/\n=h.Objects.length/\c=0/\JC F [] b ah nx0 nx/\F.map (·.1)=h.Objects++[o]))
theorem axl (h:dH)(o:dJ)(hb:Fe [AV.sl (h.Objects.map dJ.enc) false])(ho':o.Props.length<=4294967296)(ah:AH)(nx:Nat):CW Try.prog 27 [h.av,o.av] ah nx (nwK h o ah nx):=by
 obtain ⟨b44,ab2,atd⟩:=apc;obtain ⟨hob,hlb⟩:=ab1 hb;obtain ⟨ax7,ate,atf⟩:=awh;refine aef (M:=[(0,h.av),(1,o.av)]) (Q:=nwQ h o ah nx) Try.func27 rfl (by decide) (aC rfl) ⟨rfl,rfl,trivial⟩ ?_ ?_
 .refine iV (fH ?_);refine QX rfl rfl rfl rfl rfl (QX rfl rfl rfl rfl rfl ?_);refine QY rfl rfl rfl afT alK ?_;refine Dj rfl rfl rfl rfl (Dj rfl rfl rfl rfl (iW rfl ?_));have h2:∀{k1 k2:Option qO},upd (upd (upd ah nx (some (qO.rows 1 [h.enc]))) (nx+1) k1) (nx+1+1) k2 nx=some (qO.rows 1 [h.enc]):=by intro k1 k2;rw [ayp (by omega),ayp (by omega)];exact gX rfl
  have h3:∀{k:Option qO},upd (upd (upd ah nx (some (qO.rows 1 [h.enc]))) (nx+1) (some (qO.rows 18 [o.enc]))) (nx+1+1) k (nx+1)=some (qO.rows 18 [o.enc]):=by intro k;rw [ayp (by omega)];exact gX rfl
  refine iV (iV (fH ?_));refine pG rfl rfl rfl rfl Es h2 rfl (v:=h.av) ⟨dD 1,rfl⟩ ?_;refine aee rfl rfl rfl rfl (ab4 h) (fun _ _ _ h=>h) (VK h) (.inr rfl) ?_;refine Dj rfl rfl rfl rfl (iW rfl ?_);refine iV (fH ?_);refine nJ rfl rfl rfl rfl (FP rfl rfl rfl rfl rfl (fun K h=>⟨rfl,h⟩) (iW rfl ?_));refine Ep rfl (fun hc=>?_) fun hc=>IJ ?_
  .refine iV (fH ?_);refine Y9 rfl rfl rfl rfl afT ate atf (nJ rfl rfl rfl rfl ?_);refine IK rfl rfl rfl rfl rfl Es (gX rfl) rfl rfl rfl (dD 1) ?_;refine Dj rfl rfl rfl rfl (Dj rfl rfl rfl rfl (iW rfl ?_));have hC:nwC h o=lY h:=(by unfold nwC;rw [show jk (lY h) 0=true from hc];rfl);refine NC ⟨.inr rfl,nx+1+1,.sl [] true,0,lY h,rfl,gX rfl,rfl,rfl,by omega,fun j hj=>?_,.inl ⟨?_,rfl,rfl,hC.symm⟩⟩
   .rw [ayp (by omega),ayp (by omega),ayp (by omega),ayp (by omega)]
   .rw [hC];exact aa2.1 hc
  have hC0:lY h=0:=by simpa using hc
  clear hc;refine Pm [(2,.op nx 1 0 0),(3,.op (nx+1) 18 0 0),(4,.op (nx+1+1) 1 0 0)] ⟨rfl,rfl,rfl,trivial⟩ ?_;refine iV (fH ?_);refine yI rfl rfl rfl rfl FQ rfl ?_;refine pG rfl rfl rfl rfl Vl h2 rfl (v:=.sl (h.Objects.map dJ.enc) false) rfl ?_;refine QW rfl rfl rfl rfl rfl (alC abX) (Dj rfl rfl rfl rfl (iW rfl ?_));refine iV (iV (fH ?_));refine nJ rfl rfl rfl rfl (FP rfl rfl rfl rfl rfl (fun K h=>⟨rfl,h⟩) (iW rfl ?_));refine Ep rfl (fun hc=>?_) fun hc=>IJ ?_
  .have hn:h.Objects.length=4096:=by
    have:(((h.Objects.map dJ.enc).length:Nat):Int)=4096:=(by simpa using hc);rw [dh] at this;omega
   refine iV (fH ?_);refine Y9 rfl rfl rfl rfl afT ate atf ?_;refine IK rfl rfl rfl rfl rfl Es (gX rfl) rfl rfl rfl (dD 1) ?_;refine Dj rfl rfl rfl rfl (Dj rfl rfl rfl rfl (iW rfl ?_));have hC:nwC h o=4:=(by unfold nwC;rw [hC0,hn];rfl);refine NC ⟨.inr rfl,nx+1+1,.sl [] true,0,4,rfl,gX rfl,rfl,rfl,by omega,fun j hj=>?_,.inl ⟨?_,rfl,rfl,hC.symm⟩⟩
   .rw [ayp (by omega),ayp (by omega),ayp (by omega),ayp (by omega)]
   .rw [hC];decide
  have hn:h.Objects.length≠4096:=by
   intro e;rw [dh,e] at hc;simp at hc
  clear hc;have hC:nwC h o=lY ⟨h.Objects++[o]⟩:=by
   unfold nwC;rw [hC0,Cj.2 (show ((h.Objects.length:Nat):Int)≠4096 by omega)];rfl
  refine Nz (fun M dV nx'=>∃b9 F b,ML M (nwM nx (nx+1) (nx+1+1) 0 b9 h.Objects.length)/\(∀j,j<nx+3->dV j=upd (upd (upd ah nx (some (qO.rows 1 [h.enc]))) (nx+1) (some (qO.rows 18 [o.enc]))) (nx+1+1) (some (qO.rows 1 [[.sl [] true]])) j)/\
   JC F [] b dV (nx+3) b9/\F.map (·.1)=h.Objects/\dV b9=some (.rows 1 [[.os b 18 0 F.length]])/\b9<nx') (fH ?_) fun M dV nx' hK=>?_
  .refine pG rfl rfl rfl rfl Es h2 rfl (v:=h.av) ⟨dD 1,rfl⟩ ?_;refine Vk rfl rfl rfl ((XG h hb _ _).mono fun r Vm n1 hr=>?_);obtain ⟨F,b,rfl,hF,hFe,hold⟩:=hr;have g1:=hF.lo;have g2:=hF.hi;refine QY rfl rfl rfl afT alK ?_;refine IK rfl rfl rfl rfl rfl Es (gX rfl) rfl rfl rfl (dD 1) (iW rfl ?_);have hF':JC F [] b Vm (nx+3) n1:=⟨hF.out,by omega,hF.hi,fun e he=>⟨(hF.blk e he).1,by have:=(hF.blk e he).2.1;omega,(hF.blk e he).2.2⟩,hF.nd⟩;refine ⟨n1,F,b,⟨rfl,rfl,rfl,?_,rfl,trivial⟩,fun j hj=>?_,hF'.frame (dD _) fun j _ hj=>?_,hFe,gX rfl,by omega⟩
   .show some (AV.p (.int .i64 ((((h.Objects.map dJ.enc).length:Nat):Int))))=_;simp
   .rw [ayp (by omega),ayp (by omega)];exact hold j (by omega)
   .rw [ayp (by omega),ayp (by omega)]
  obtain ⟨b9,F,b,hM,hlo,hF,hFe,h9,hb9⟩:=hK;refine Pm _ hM ?_;clear hM;have g1:=hF.lo;have g2:=hF.hi;have hFl:F.length<=4096:=by
   have:=(O9.1 hC0).len;rw [<- hFe,dh] at this;exact this
  have hlo3:dV (nx+1)=some (qO.rows 18 [o.enc]):=(hlo _ (by omega)).trans h3;refine Nz (fun M ah2 nx2=>∃F2 b',ML M (nwM nx (nx+1) (nx+1+1) 0 b9 h.Objects.length)/\(∀j,j<nx+3->ah2 j=dV j)/\JC F2 [] b' ah2 (nx+3) nx2/\F2.map (·.1)=h.Objects++[o]/\ah2 b9=some (.rows 1 [[.os b' 18 0 F2.length]])/\b9<nx2)
   (awg oJ rfl (by kernel_rfl) (nwS o F b b9 (nx+3) nx' (nwM nx (nx+1) (nx+1+1) 0 b9 h.Objects.length) dV) ⟨⟨rfl,rfl,rfl,rfl,rfl,trivial⟩,(fun h=>by cases h),(fun h=>by cases h),(fun h=>by cases h),(fun h=>by cases h),(fun h=>by cases h),dD _,.inl ⟨rfl,rfl,rfl,rfl,fun _ _=>rfl⟩⟩ (fun L M ah2 nx2 j op hS hj ho hd=>?_) (fun L M ah2 nx2 hS hall=>?_)) fun M ah2 nx2 hK=>?_
  .obtain ⟨hM,s0,s1,s2,s6,s51,hn2,hT⟩:=hS;have hlow:∀j,j<nx+3->ah2 j=dV j:=by
    intro j hj;rcases hT with ⟨-,-,-,-,h⟩|⟨-,-,-,-,h,-⟩|⟨-,-,-,-,h,-⟩|⟨-,-,-,-,h,-⟩|⟨-,-,-,-,h,-⟩
    .exact h j (by omega)
    .exact h j (by omega)
    .exact h j (by omega)
    .exact h j (by omega) (by omega)
    .exact h j (by omega) (by omega) (by omega)
   match j,ho,hd,hj with
   |0,ho,hd,hj=>
    obtain rfl:=Option.some.inj ho;refine yI rfl rfl rfl hM.2.2.2.2.1 FQ rfl (iW rfl ⟨rfl,hM,fun _=>rfl,fun hl=>s1 (by simpa using hl),fun hl=>s2 (by simpa using hl),fun hl=>s6 (by simpa using hl),fun hl=>by simpa using s51 (by simpa using hl),by omega,?_⟩);have:=hT.keep (M':=uQ M (some 25) (.op b9 1 0 0)) (nx':=nx2+1) rfl rfl rfl (by omega);simpa using this
   |1,ho,hd,hj=>
    obtain rfl:=Option.some.inj ho;have e9:ah2 b9=some (.rows 1 [[.os b 18 0 F.length]]):=by
     rcases hT with ⟨-,-,-,-,h⟩|⟨-,-,-,-,h,-⟩|⟨-,-,-,-,h,-⟩|⟨-,-,h,-,-⟩|⟨-,-,h,-,-⟩
     .rw [h _ hb9];exact h9
     .rw [h _ hb9];exact h9
     .rw [h _ hb9];exact h9
     .rw [s51 h] at hj;cases hj
     .rw [s51 h] at hj;cases hj
    refine pG rfl rfl rfl (s0 (hd _ (.head _) rfl)) Vl e9 rfl (v:=.os b 18 0 F.length) rfl (iW rfl ⟨rfl,hM,fun hl=>s0 (by simpa using hl),fun _=>rfl,fun hl=>s2 (by simpa using hl),fun hl=>s6 (by simpa using hl),fun hl=>by simp,by omega,?_⟩);have:=hT.keep (M':=uQ M (some 26) (.os b 18 0 F.length)) (nx':=nx2+1) rfl rfl rfl (by omega);simpa using this
   |2,ho,hd,hj=>
    obtain rfl:=Option.some.inj ho;refine pG rfl rfl rfl hM.2.1 XF ((hlow _ (by omega)).trans hlo3) rfl (v:=o.av) ⟨dD 18,rfl⟩ (iW rfl ⟨rfl,hM,fun hl=>s0 (by simpa using hl),fun hl=>s1 (by simpa using hl),fun _=>rfl,fun hl=>s6 (by simpa using hl),fun hl=>by simpa using s51 (by simpa using hl),by omega,?_⟩);have:=hT.keep (M':=uQ M (some 27) o.av) (nx':=nx2+1) rfl rfl rfl (by omega);simpa using this
   |3,ho,hd,hj=>
    obtain rfl:=Option.some.inj ho;have h2:=s2 (hd _ (.head _) rfl);refine Vk rfl rfl (azM h2) ((azn o ho' ah2 nx2).mono fun r ah3 n3 hr=>?_);obtain ⟨id,rfl,q1,q2,q3,q4⟩:=hr;refine iW rfl ⟨rfl,hM,fun hl=>s0 (by simpa using hl),fun hl=>s1 (by simpa using hl),fun hl=>s2 (by simpa using hl),fun hl=>s6 (by simpa using hl),fun hl=>by simpa using s51 (by simpa using hl),by omega,?_⟩;rcases hT with ⟨a3,a4,a5,a7,hT⟩|⟨a3,-⟩|⟨a3,-⟩|⟨a3,-⟩|⟨a3,-⟩
    .have:nwT o F b b9 (nx+3) nx' dV true (L 4) (L 5) (L 7) (uQ M (some 28) (.agg (Qu o id))) ah3 n3:=.inr (.inl ⟨rfl,a4,a5,a7,fun j hj=>(q4 j (by omega)).trans (hT j hj),id,rfl,q3,by omega,q2⟩);simpa using this
    all_goals (rw [a3] at hj;cases hj)
   |4,ho,hd,hj=>
    obtain rfl:=Option.some.inj ho;have h3:=hd _ (.head _) rfl;rcases hT with ⟨a3,-⟩|⟨a3,a4,a5,a7,hT,id,q1,q2,q3,q4⟩|⟨-,a4,-⟩|⟨-,a4,-⟩|⟨-,a4,-⟩
    .rw [a3] at h3;cases h3
    .refine axU rfl rfl rfl (aA_ q1) abX ab2 alJ rfl (aC rfl) (cs:=Qu o id) rfl (iW rfl ⟨rfl,hM,fun hl=>s0 (by simpa using hl),fun hl=>s1 (by simpa using hl),fun hl=>s2 (by simpa using hl),fun hl=>s6 (by simpa using hl),fun hl=>by simpa using s51 (by simpa using hl),by omega,?_⟩);have ec:ayz 18 1 (Qu o id)=[Qu o id]:=rfl;rw [ec];have:nwT o F b b9 (nx+3) nx' dV (L 3) true (L 5) (L 7) (uQ M (some 29) (.os nx2 18 0 1)) (upd ah2 nx2 (some (.rows 18 [Qu o id]))) (nx2+1):=
      .inr (.inr (.inl ⟨a3,rfl,a5,a7,fun j hj=>by rw [ayp (by omega)];exact hT j hj,id,nx2,rfl,gX rfl,by rw [ayp (by omega)];exact q2,q3,by omega,hn2,by omega⟩))
     simpa using this
    all_goals (rw [a4] at hj;cases hj)
   |5,ho,hd,hj=>
    obtain rfl:=Option.some.inj ho;have h1:=hd _ (.head _) rfl;have h4:=hd _ (.tail _ (.head _)) rfl;rcases hT with ⟨-,a4,-⟩|⟨-,a4,-⟩|⟨a3,a4,a5,a7,hT,id,b4,q1,q2,q3,q4,q5,q6,q7⟩|⟨-,-,a5,-⟩|⟨-,-,a5,-⟩
    .rw [a4] at h4;cases h4
    .rw [a4] at h4;cases h4
    .refine axV rfl rfl rfl (aA9 (s1 h1) q1) rfl rfl ab2 atd (Nat.succ_ne_zero 17) abX abX alJ rfl ((hT b (by omega)).trans hF.out) q2 (by simp) rfl (by show F.length+1<=_;omega) (iW rfl ⟨rfl,hM,fun hl=>s0 (by simpa using hl),fun hl=>s1 (by simpa using hl),fun hl=>s2 (by simpa using hl),fun hl=>s6 (by simpa using hl),fun _=>by simp [h1],by omega,?_⟩);have hFb:=hF.blk;have:nwT o F b b9 (nx+3) nx' dV (L 3) (L 4) true (L 7) (uQ M (some 30) (.os nx2 18 0 (F.length+1))) (upd (upd ah2 b none) nx2 (some (.rows 18 (((F.map wS++[].map dJ.enc).drop 0).take F.length++[Qu o id])))) (nx2+1):=by
      refine .inr (.inr (.inr (.inl ⟨a3,a4,rfl,a7,fun j hj hjb=>by rw [ayp (by omega),ayp hjb];exact hT j hj,id,nx2,rfl,⟨?_,by omega,by omega,fun e he=>?_,?_⟩,hn2,q4⟩)))
      .rw [gX rfl];simp only [List.map_nil,cu,List.drop_zero,List.map_append];rw [List.take_of_length_le (by simp)];rfl
      .rcases aH.1 he with he|he
       .have h1:=hFb e he;refine ⟨?_,h1.2.1,by omega,by omega⟩;rw [ayp (by omega),ayp h1.2.2.2,hT _ (by omega)];exact h1.1
       .obtain rfl:=bT.1 he;refine ⟨?_,by show nx+3<=id;omega,by show id<_;omega,by show id≠_;omega⟩;show upd _ _ _ id=_;rw [ayp (by omega),ayp (by omega)];exact q3
      .rw [List.map_append,List.nodup_append];refine ⟨hF.nd,by simp,fun a ha b hb=>?_⟩;simp at hb;subst hb;obtain ⟨e,he,rfl⟩:=aU.1 ha;have:=(hFb e he).2.2.1;omega
     simpa using this
    all_goals (rw [a5] at hj;cases hj)
   |6,ho,hd,hj=>
    obtain rfl:=Option.some.inj ho;refine yI rfl rfl rfl hM.2.2.2.2.1 FQ rfl (iW rfl ⟨rfl,hM,fun hl=>s0 (by simpa using hl),fun hl=>s1 (by simpa using hl),fun hl=>s2 (by simpa using hl),fun _=>rfl,fun hl=>by simpa using s51 (by simpa using hl),by omega,?_⟩);have:=hT.keep (M':=uQ M (some 31) (.op b9 1 0 0)) (nx':=nx2+1) rfl rfl rfl (by omega);simpa using this
   |7,ho,hd,hj=>
    obtain rfl:=Option.some.inj ho;have h6:=hd _ (.head _) rfl;have h5:=hd _ (.tail _ (.head _)) rfl;rcases hT with ⟨-,-,a5,-⟩|⟨-,-,a5,-⟩|⟨-,-,a5,-⟩|⟨a3,a4,a5,a7,hT,id,b',q1,q2,q3,q4⟩|⟨-,-,-,a7,-⟩
    .rw [a5] at h5;cases h5
    .rw [a5] at h5;cases h5
    .rw [a5] at h5;cases h5
    .have e9:ah2 b9=some (.rows 1 [[.os b 18 0 F.length]]):=(hT _ hb9 (by omega)).trans h9;refine IK rfl rfl rfl (s6 h6) q1 Vl e9 rfl rfl rfl (aC rfl) (iW rfl ⟨rfl,hM,fun hl=>s0 (by simpa using hl),fun hl=>s1 (by simpa using hl),fun hl=>s2 (by simpa using hl),fun hl=>s6 (by simpa using hl),fun hl=>by simpa using s51 (by simpa using hl),by omega,?_⟩);have hFb:=hF.blk;have:nwT o F b b9 (nx+3) nx' dV (L 3) (L 4) (L 5) true M (upd ah2 b9 (some (.rows 1 [[.os b' 18 0 (F.length+1)]]))) (nx2+1):=by
      refine .inr (.inr (.inr (.inr ⟨a3,a4,a5,rfl,fun j hj hjb hj9=>by rw [ayp hj9];exact hT j hj hjb,id,b',gX rfl,q2.keep (by omega) (ayp (by omega)) fun e he=>ayp ?_⟩)));rcases aH.1 he with he|he
      .have:=(hFb e he).2.2.1;omega
      .obtain rfl:=bT.1 he;show id≠b9;omega
     have t2:nwT o F b b9 (nx+3) nx' dV (L 3||3 == 7) (L 4||4 == 7) (L 5||5 == 7) (L 7||7 == 7) M (upd ah2 b9 (some (.rows 1 [[.os b' 18 0 (F.length+1)]]))) (nx2+1):=(by simpa using this);exact t2
    .rw [a7] at hj;cases hj
   |n+8,ho,hd,hj=>cases ho
  .obtain ⟨hM,-,-,-,-,-,hn2,hT⟩:=hS;rcases hT with ⟨-,-,-,a7,-⟩|⟨-,-,-,a7,-⟩|⟨-,-,-,a7,-⟩|⟨-,-,-,a7,-⟩|⟨-,-,-,-,hT,id,b',q1,q2⟩
   .have:=hall 7 (by decide);rw [a7] at this;cases this
   .have:=hall 7 (by decide);rw [a7] at this;cases this
   .have:=hall 7 (by decide);rw [a7] at this;cases this
   .have:=hall 7 (by decide);rw [a7] at this;cases this
   .exact ⟨F++[(o,id)],b',hM,fun j hj=>hT j (by omega) (by omega) (by omega),q2,by rw [List.map_append,hFe];rfl,by rw [bG];exact q1,by omega⟩
  .obtain ⟨F2,b',hM,hlo2,hF2,aqX,h9,hb9⟩:=hK;refine Pm _ hM ?_;clear hM;have g3:=hF2.lo;have h4:ah2 (nx+1+1)=some (.rows 1 [[.sl [] true]]):=(by rw [hlo2 _ (by omega),hlo _ (by omega)];exact gX rfl);have axm:∀j,j<nx->ah2 j=ah j:=fun j hj=>by rw [hlo2 _ (by omega),hlo _ (by omega),ayp (by omega),ayp (by omega),ayp (by omega)]
   refine iV (iV (fH ?_));refine pG rfl rfl rfl rfl Es h9 rfl (v:=.agg [.os b' 18 0 F2.length]) ⟨dD 1,rfl⟩ ?_;have hfz:=alO hF2;rw [aqX] at hfz;refine aee rfl rfl rfl rfl (avI hfz) (fun _ _ _ h=>h) (VK ⟨h.Objects++[o]⟩) (.inr rfl) ?_;refine Dj rfl rfl rfl rfl (iW rfl ?_);refine iV (fH ?_);refine nJ rfl rfl rfl rfl (FP rfl rfl rfl rfl rfl (fun K h=>⟨rfl,h⟩) (iW rfl ?_));refine Ep rfl (fun hc=>?_) fun hc=>IJ ?_
   .refine iV (fH ?_);refine Y9 rfl rfl rfl rfl afT ate atf (nJ rfl rfl rfl rfl ?_);refine IK rfl rfl rfl rfl rfl Es h4 rfl rfl rfl (dD 1) ?_;refine Dj rfl rfl rfl rfl (Dj rfl rfl rfl rfl (iW rfl ?_));refine NC ⟨.inr rfl,nx+1+1,.sl [] true,0,lY ⟨h.Objects++[o]⟩,rfl,gX rfl,rfl,rfl,by omega,fun j hj=>?_,.inl ⟨?_,rfl,rfl,hC.symm⟩⟩
    .rw [ayp (by omega)];exact axm j hj
    .rw [hC];exact aa2.1 hc
   .have hC1:lY ⟨h.Objects++[o]⟩=0:=(by simpa using hc);refine iV (fH ?_);refine pG rfl rfl rfl rfl Es h9 rfl (v:=.agg [.os b' 18 0 F2.length]) ⟨dD 1,rfl⟩ ?_;refine nJ rfl rfl rfl rfl ?_;refine IK rfl rfl rfl rfl rfl Es h4 rfl rfl rfl (dD 1) ?_;refine Dj rfl rfl rfl rfl (Dj rfl rfl rfl rfl (iW rfl ?_));have hF3:JC F2 [] b' (upd ah2 (nx+1+1) (some (.rows 1 [[.os b' 18 0 F2.length]]))) nx (nx2+6):=by
     have hk:=hF2.frame (nx':=nx2+6) (by omega) (dV:=upd ah2 (nx+1+1) (some (.rows 1 [[.os b' 18 0 F2.length]]))) fun j hj _=>ayp (by omega);exact ⟨hk.out,by omega,hk.hi,fun e he=>⟨(hk.blk e he).1,by have:=(hk.blk e he).2.1;omega,(hk.blk e he).2.2⟩,hk.nd⟩
    refine NC ⟨.inr rfl,nx+1+1,.os b' 18 0 F2.length,h.Objects.length,0,rfl,gX rfl,rfl,rfl,by omega,fun j hj=>?_,.inr ⟨hC.trans hC1,F2,b',rfl,rfl,rfl,?_,aqX⟩⟩
    .rw [ayp (by omega)];exact axm j hj
    .exact hF3.frame (by omega) fun _ _ _=>rfl
 .intro e M fr dV nx' hf hq;obtain ⟨he,b4,v,n,c,h4,hb4,h5,h6,hnx,hlo,hq⟩:=hq;refine ⟨he,dG.2 ⟨_,hf.get _ _ h4,dG.2 ⟨_,Es,?_⟩⟩⟩;dsimp only;rw [hb4];refine ⟨rfl,dG.2 ⟨_,rfl,dD 1,?_⟩⟩;refine dG.2 ⟨_,hf.get _ _ h5,dG.2 ⟨_,hf.get _ _ h6,hnx,hlo,?_⟩⟩;rcases hq with ⟨q1,rfl,rfl,rfl⟩|⟨q1,F,b,rfl,rfl,rfl,q2,q3⟩
  .exact .inl ⟨q1,rfl⟩
  .exact .inr ⟨q1,F,b,rfl,q2,q3⟩
end Go.Fw
end
