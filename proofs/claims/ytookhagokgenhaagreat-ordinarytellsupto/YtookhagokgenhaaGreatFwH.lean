
import Derived.Test.YtookhagokgenhaaGreatFwG
import Derived.Test.YtookhagokgenhaaGreatFwF
import Derived.Test.YtookhagokgenhaaGreatRows
import Derived.Test.YtookhagokgenhaaGreatProg
import Derived.Test.YtookhagokgenhaaGreatFwE
set_option linter.unusedVariables false
set_option linter.unusedSimpArgs false
set_option linter.unusedSectionVars false
set_option linter.unnecessarySimpa false
section
namespace Go.Fw
set_option maxRecDepth 100000
set_option maxHeartbeats 4000000
open Go.Proofs
instance : Yo dL.enc:=⟨dL.iW⟩
instance {x : dL}:Fz (dL.av x):=⟨dL.fz x⟩
instance : Un dL.enc 4:=⟨dL.len⟩
instance : Yo dI.enc:=⟨dI.iW⟩
instance {x : dI}:Fz (dI.av x):=⟨dI.fz x⟩
instance : Un dI.enc 2:=⟨dI.len⟩
instance : Yo dN.enc:=⟨dN.iW⟩
instance {x : dN}:Fz (dN.av x):=⟨dN.fz x⟩
instance : Un dN.enc 16:=⟨dN.len⟩
instance : Yo dJ.enc:=⟨dJ.iW⟩
instance {x : dJ}:Fz (dJ.av x):=⟨dJ.fz x⟩
instance : Un dJ.enc 18:=⟨dJ.len⟩
instance : Yo dS.enc:=⟨dS.iW⟩
instance {x : dS}:Fz (dS.av x):=⟨dS.fz x⟩
instance : Un dS.enc 18:=⟨dS.len⟩
instance : Yo dK.enc:=⟨dK.iW⟩
instance {x : dK}:Fz (dK.av x):=⟨dK.fz x⟩
instance : Un dK.enc 1:=⟨dK.len⟩
instance : Yo yT.enc:=⟨yT.iW⟩
instance {x : yT}:Fz (yT.av x):=⟨yT.fz x⟩
instance : Un yT.enc 26:=⟨yT.len⟩
instance : Yo uq.enc:=⟨uq.iW⟩
instance {x : uq}:Fz (uq.av x):=⟨uq.fz x⟩
instance : Un uq.enc 32:=⟨uq.len⟩
instance : Yo qQ.enc:=⟨qQ.iW⟩
instance {x : qQ}:Fz (qQ.av x):=⟨qQ.fz x⟩
instance : Un qQ.enc 29:=⟨qQ.len⟩
instance : Yo uw.enc:=⟨uw.iW⟩
instance {x : uw}:Fz (uw.av x):=⟨uw.fz x⟩
instance : Un uw.enc 87:=⟨uw.len⟩
instance : Yo CW.enc:=⟨CW.iW⟩
instance {x : CW}:Fz (CW.av x):=⟨CW.fz x⟩
instance : Un CW.enc 23:=⟨CW.len⟩
instance : Yo nZ.enc:=⟨nZ.iW⟩
instance {x : nZ}:Fz (nZ.av x):=⟨nZ.fz x⟩
instance : Un nZ.enc 24:=⟨nZ.len⟩
instance {r : dN×Int}:Fz (CY r):=⟨(inferInstance:Xk [(dN.av r.1),(.p (.int .i64 r.2))]).h⟩
instance {r : Int×Bool}:Fz (iG r):=⟨(inferInstance:Xk [(.p (.int .i64 r.1)),(.p (.bool r.2))]).h⟩
instance {r : dS×Int}:Fz (pJ r):=⟨(inferInstance:Xk [(dS.av r.1),(.p (.int .i64 r.2))]).h⟩
instance {r : Bool×Int}:Fz (ny r):=⟨(inferInstance:Xk [(.p (.bool r.1)),(.p (.int .i64 r.2))]).h⟩
instance {r : dN×Bool×Int}:Fz (gu r):=⟨(inferInstance:Xk [(dN.av r.1),(.p (.bool r.2.1)),(.p (.int .i64 r.2.2))]).h⟩
instance {r : Int×Int}:Fz (lq r):=⟨(inferInstance:Xk [(.p (.int .i64 r.1)),(.p (.int .i64 r.2))]).h⟩
instance {r : List dI×Int}:Fz (kE r):=⟨(inferInstance:Xk [(.sl (List.map dI.enc r.1) false),(.p (.int .i64 r.2))]).h⟩
noncomputable def fG : qO:=xOr (aun 156 155 153) (agi Tryz.prog)
theorem dP : ∀σ:List AV,iW σ=true->o7 Tryz.prog σ fG:=auu (aqi wu yw E8) akk
noncomputable def fH : Gv:=aql (abz Tryz.prog aoH) (aql (auw Tryz.prog (ocT [(86,[0],18,true),(87,[0],18,true),(46,[0],18,false),(18,[0,0],18,false),(79,[],2,true),(81,[],2,true)])) (au0 [136,137] (auB Tryz.prog (wcT [(100000,[(0,18)]),(127,[(1,2)]),(145,[(1,2)]),(146,[(1,2)]),(157,[(1,2)]),(161,[(1,2)]),(116,[]),(60,[]),(63,[]),(132,[])]))))
theorem dQ : ∀σ:List AV,iW σ=true->oH Tryz.prog σ fH:=ah9 (agH axr) (ah9 aqm (aqZ aqs))
abbrev XH : Tm:=.conv .i64 (.bin .shr (.int .u64) (.conv .u64 (aI (V 1) (V 3))) (.li 1))
abbrev wz : Tm:=.rlen (V 0)
abbrev zz1 : SV:=.agg [(.fn 107 [] [(.op 3 1 (.li 0) 0)]),(.fn 144 [] [(.os 2 2 0 wz),(.c (.at 1 29))])]
abbrev tC : SV:=zI (.li 0)
abbrev rX : SV:=zB (.lb false)
abbrev zz2 : SV:=.agg [(zU (.li 0)),(zU (.li 0)),(zF (.lf 0)),(zS (.ls [])),tC,(zU (.li 0)),(zF (.lf 0)),(zS (.ls [])),tC,(zU (.li 0)),(zF (.lf 0)),(zS (.ls [])),tC,rX,rX,rX]
abbrev uF : Tm:=.rlen (W 0 0)
abbrev JV : SV:=.agg [(zL (W 0 0))]
abbrev Yu : Tm:=uE (W 0 0) (.li 2)
abbrev QD : Tm:=uE (W 0 0) (.li 3)
abbrev zz7 : Tm:=.and (uE (W 0 0) (W 0 0)) (.and (.or Yu (.or QD (.bin .eql .kC (W 0 1) (.lf 0)))) (.and (.ite Yu (sE (W 0 2) (.ls [])) (.ite QD (sE (W 0 2) (.ls [])) (.or (uE (W 0 0) (.li 4)) (sE (W 0 2) (.ls []))))) (.ite Yu (qE (W 0 3) (.li 0)) (.ite QD (qE (W 0 3) (.li 0)) (.ite (uE (W 0 0) (.li 4)) (qE (W 0 3) (.li 0)) (.or (.or (uE (W 0 0) (.li 5)) (.or (uE (W 0 0) (.li 6)) (.or (uE (W 0 0) (.li 7)) (uE (W 0 0) (.li 8))))) (qE (W 0 3) (.li 0))))))))
abbrev zz9 : Tm:=mI (aI XH (V 2)) (V 8)
abbrev aoI : Tm:=.and (.not (V 7)) (.not (.and (.and (.and (.and (uE (W 2 0) (.li 5)) (V 4)) (qL (W 2 10) (V 1))) (V 5)) (uE (W 6 0) (.li 6))))
abbrev aep : Tm:=.conv .i64 (.bin .shr (.int .u64) (.conv .u64 (aI (V 8) (V 9))) (.li 1))
abbrev arp : Tm:=.and (.and (.and (uE (W 0 0) (W 1 0)) (.bin .eql .bool (W 0 13) (W 1 13))) (.bin .eql .bool (W 0 14) (W 1 14))) (.bin .eql .bool (W 0 15) (W 1 15))
abbrev vC : List SV:=[(.os 2 2 0 wz)]
abbrev xI : List SV:=(cV 0 dN.kG)
abbrev Yv : Tm:=.and (.not (W 2 16)) (.not (W 2 17))
abbrev QE : List SV:=[(zS (W 4 0)),(zI (W 4 1))]
abbrev aoJ : Tm:=.conv .i64 (.bin .shr (.int .u64) (.conv .u64 (aI (V 4) (V 5))) (.li 1))
abbrev aoK : Tm:=.conv .i64 (.bin .shr (.int .u64) (.conv .u64 (aI (V 6) (V 7))) (.li 1))
abbrev NC : SV:=zI (aI (V 3) (.li 1))
abbrev Us : Tm:=qE (mI (V 2) (V 1)) (.li 1)
abbrev Cj : List SV:=(cV 0 dK.kG)
abbrev akT : Tm:=.conv .i32 (aI (.li 48) (.bin .rem kI (V 2) (.li 10)))
abbrev avn : Tm:=.and (.and (.and (.bin .eql .bool (W 5 0) (W 6 0)) (qE (W 5 1) (W 6 1))) (.bin .eql .bool (W 7 1) (W 8 1))) (qE (W 7 2) (W 8 2))
abbrev akU : Tm:=.and (sN (W 2 15) (.ls [])) (uN (W 2 0) (.li 3))
abbrev XI : Tm×Bool:=((qG uF (.li 4096)),false)
abbrev XJ : Tm:=.lf 4607182418800017408
abbrev XK : Tm:=qL (V 3) wz
abbrev QF : Tm×Bool:=(XK,true)
abbrev axt : SV:=.agg [(zU (.li 0)),(zU (.li 0)),(zF (.lf 0)),(zS (.ls [])),tC,rX,(.slc [] false),(zU (.li 0)),(zF (.lf 0)),(zS (.ls [])),tC,(zU (.li 0)),(zF (.lf 0)),(zS (.ls [])),tC,(zS (.ls [])),rX,rX]
abbrev Em : List SV:=(cV 0 dL.kG)
abbrev arq : Tm:=.or (uN (.bin .andNot kU (W 0 0) (.li 63)) (.li 0)) (.and (V 1) (V 2))
abbrev Hr : SV:=zB (.lb true)
abbrev O1 : Tm:=qE (V 1) (.li 0)
abbrev XL : Tm:=.slen (W 0 0)
abbrev akV : Tm:=.and (uN (W 2 1) (.li 1)) (.not (V 9))
abbrev XM : SV:=.agg (cV 1 dL.kG)
abbrev aer : List SV:=[(zS (W 12 0)),(zI (W 12 1))]
abbrev aes : Tm:=qE (mI (V 3) (V 2)) (.li 1)
abbrev akW : Tm:=.and (qL (V 1) (V 8)) (qL (V 8) XH)
abbrev aeu : Tm:=qG (.rlen (W 1 6)) (.li 0)
abbrev aev : List SV:=[(zS (W 6 0)),(zI (W 6 1))]
abbrev SN : Tm:=qN (V 2) (.li 0)
abbrev avo : Tm:=.or (.or (.or (.not (V 8)) (.not (V 9))) (qH (W 1 10) (V 2))) (qH (W 1 14) (V 2))
abbrev aew : List SV:=[(zS (W 7 0)),(zI (W 7 1))]
abbrev Ht : Tm:=.rlen (V 1)
abbrev akX : SV:=.fD [(zI (W 5 0)),(zB (W 5 1))]
abbrev akY : SV:=.agg [(zS (W 1 0)),(zI (W 1 1))]
abbrev Yw : Tm:=qE wz (.li 0)
abbrev avp : Tm:=.and (.and (uE (W 0 0) (W 1 0)) (sE (W 0 2) (W 1 2))) (qE (W 0 3) (W 1 3))
abbrev aex : Tm:=.not (qE (V 2) (.li 0))
abbrev axu : SV:=zB (.and (qL (W 1 3) uF) (.and (uE (W 5 0) (W 1 0)) (.and (.bin .eql .kC (W 5 1) (W 1 1)) (.and (sE (W 5 2) (W 1 2)) (qE (W 5 3) (W 1 3))))))
abbrev abS : SV:=.agg (cV 2 dL.kG)
abbrev Yx : Tm:=qG (W 0 1) (.li 0)
abbrev akZ : Tm:=.conv .i32 (aI (.li 48) (V 2))
abbrev ag_ : List SV:=[(zS (W 8 0)),(zI (W 8 1))]
abbrev aoL : Tm:=.and (qL (V 8) (V 2)) (qL (V 2) zz9)
abbrev ak0 : Tm:=.and (W 1 17) (.not (W 1 16))
abbrev ars : List SV:=[(zL (V 0)),(.fn 119 [] [(.vp [(zS (V 1))] 0)])]
abbrev aha : Tm×Bool:=((qN (V 1) (.li 0)),false)
abbrev aoM : Tm:=.ls [108,101,110,103,116,104]
abbrev ak1 : List SV:=[(zS (W 10 0)),(zI (W 10 1))]
abbrev aey : SV:=.agg (cV 4 dL.kG)
abbrev Yy : Tm:=qM (.li 0) (V 3)
abbrev ak2 : Tm:=.bin .neq .kC (V 0) (V 0)
abbrev ahb : SV:=.agg (cW 1 7 dL.kG)
abbrev avq : Tm:=.and (qG XL (.li 1)) (uE (.byte (W 0 0) (.li 0)) (.li 48))
abbrev axv : Tm:=.and Yu (.and (.bin .neq .kC (W 0 1) XJ) (.or (.bin .neq .kC (W 0 1) (.lf 0)) (.not (V 1))))
abbrev avr : Tm:=.and (.and (uE (W 1 0) (.li 5)) (V 3)) (qL (W 1 10) (V 2))
abbrev aru : Tm:=.and (W 5 1) (qL (W 5 0) (.slen (V 1)))
abbrev XO : List SV:=(cV 4 dJ.kG)
abbrev aez : Tm:=uE (W 2 0) (.li 6)
abbrev arv : Tm:=.and (uN (W 2 1) (.li 1)) (.not (V 7))
abbrev abT : Tm:=qM (.li 0) (V 2)
abbrev axw : Tm:=.and (qG (V 5) (V 1)) (.not (.or (qL (W 8 0) (W 10 0)) (.and (qE (W 8 0) (W 10 0)) (qL (W 8 1) (W 10 1)))))
abbrev arw : Tm:=.or (qL (V 1) (.li 0)) (qH (V 1) uF)
abbrev SS : Tm:=.rlen (V 2)
abbrev QG : Tm:=.not (V 3)
abbrev aeA : Tm:=qM (.li 0) (V 4)
abbrev aeB : Tm:=qL (V 0) (.li 0)
abbrev aeC : Tm:=mI (V 5) (.li 1)
abbrev arx : List SV:=[zz1,(zI XH),(zI zz9),(zI (V 3))]
abbrev ak3 : SV:=zI (aI (V 2) (.li 1))
abbrev arz : SV:=.fn 117 [] [(.op 21 1 (.li 0) 0)]
abbrev arA : SV:=.agg [(zS (W 2 0)),(zI (W 2 1))]
abbrev arB : Tm:=.and (qL XH zz9) (qL zz9 (V 3))
abbrev ak4 : Tm:=sN (W 1 15) (.ls [])
abbrev Yz : Tm:=mI wz (V 3)
abbrev aoN : SV:=.agg (cW 1 11 dL.kG)
abbrev ak5 : Tm:=.byte (W 0 0) (V 4)
abbrev axx : Tm:=.and (.bin .eql .kC (V 1) (V 0)) (.bin .leq .kC (V 2) (.lf 4845873199050653695))
abbrev avt : Tm:=.and (qG uF (.li 60)) (qM uF (.li 4096))
abbrev ahc : Tm:=qM (.li 0) (V 6)
abbrev ahd : Tm:=mI (V 9) (.li 1)
abbrev Ut : SV:=zI (.li 9)
abbrev Uu : Tm:=.not (V 4)
abbrev arC : Tm:=qE wz (.li 1)
abbrev arD : Tm:=qM (.li 0) wz
abbrev axy : Tm:=.or (qL (W 11 0) (W 13 0)) (.and (qE (W 11 0) (W 13 0)) (qL (W 11 1) (W 13 1)))
abbrev QH : List SV:=(cV 4 dS.kG)
abbrev aiR : Tm:=.bin .neq .kC (V 0) (.lf 0)
abbrev aiS : Tm:=.bin .gtr kU (W 0 0) (.li 8)
abbrev aak : Tm:=uE (W 0 0) (.li 0)
abbrev aal : Tm:=uE (W 2 0) (.li 2)
abbrev aiT : Tm:=.bin .eql .kC (V 0) (.lf 0)
abbrev asG : Tm:=.or (qL (W 9 0) (W 11 0)) (.and (qE (W 9 0) (W 11 0)) (qL (W 9 1) (W 11 1)))
abbrev NZ : Tm:=.rlen (V 8)
abbrev XP : Tm:=qG XL (.li 4)
abbrev aeD : SV:=zI (aI (V 4) (.li 1))
abbrev QI : Tm:=.rlen (V 10)
abbrev N7 : Tm:=.rlen (V 6)
abbrev aam : Tm:=qG wz (.li 1024)
abbrev asH : Tm:=.or (qL (W 7 0) (W 9 0)) (.and (qE (W 7 0) (W 9 0)) (qL (W 7 1) (W 9 1)))
abbrev aoO : List SV:=[JV,(.agg (cV 2 dS.kG)),(zI (V 1))]
abbrev aoP : List SV:=[zz1,(zI (V 1)),(zI (V 2)),(zI (V 3))]
def oU : Md:=mdT 5871356456951737715627160420826621365518021009141724136019110586212477782060648894380917167715692941303349248
def kA : List (List Nat):=[[],[],[],[],[],[],[],[],[],[],[],[],[],[],[],[],[],[],[],[],[],[],[],[],[],[],[],[],[],[],[],[],[],[],[],[],[],[],[],[],[],[],[],[],[],[],[],[],[],[],[],[],[],[],[],[],[],[],[],[],[0,1,2,6,7,8,9,14,15,16,17,18,30],[],[],[0,1,2,6,7,8,9,14,15,16,17,18,30],[],[],[],[],[],[],[],[],[],[],[],[],[],[],[],[],[],[],[],[],[],[],[],[],[],[],[],[],[],[],[],[],[],[],[],[],[],[],[],[],[],[],[],[0,1,2,5,6,7,8,9,30,31,32,33,34,35,36,37],[],[0,1,4,5],[],[],[],[],[],[],[0,1,4],[],[],[],[],[],[],[],[],[],[],[1,2,4,5,6,7,11,26,31,49],[],[],[],[],[0,1,4,5,7,8,9,16],[],[],[],[],[],[],[],[],[],[],[],[],[1,2,3,6,7,12,20,21,22,23,24,25,26],[1,2,3,4,8,9,10,11,12,13,14,15,16,17,18,19,20,21,22,26,31,42,50,62,67,79,86,106,117,131,142,143,144,145,155,156,157,158,168,169,170,171],[],[],[],[],[],[],[],[],[],[],[1,2,3,4,8,9,18,21],[],[],[],[1,2,3,4,8,11],[],[],[],[],[],[],[],[],[],[],[],[],[],[],[],[],[],[],[],[],[]]
def sT : Dc:=⟨[(65,⟨[(qM (.li 0) (V 1)),(qL (V 1) (.rlen (W 0 0)))],[],[]⟩),
 (150,⟨[(uN (V 1) (.li 0))],[],[]⟩),
 (77,⟨[],[(qM (.rlen (V 0)) (.li 4294967296))],[(qL (V 2) (.rlen (V 0)))]⟩),
 (80,⟨[],[(qM (.rlen (V 0)) (.li 4294967296))],[(.or (qN (V 1) (.li 0)) (qM (.rlen (V 0)) (.li 1024)))]⟩),
 (152,⟨[(qM (.li 0) (V 0)),(qM (V 0) (.li 1000000))],[],[]⟩),
 (130,⟨[(qM (.li 0) (V 0)),(qM (V 0) (.li 1000000))],[],[]⟩),
 (71,⟨[(qM (.li 0) (V 1)),(qL (V 1) (.rlen (W 0 0)))],[],[]⟩),
 (75,⟨[],[(qM (.rlen (V 0)) (.li 4294967296))],[(qL (V 2) (.rlen (V 0)))]⟩),
 (81,⟨[(qM (.rlen (V 0)) (.li 1048576))],[],[]⟩)],[(145,4,⟨[(qM (.li 0) (V 1)),(qM (.li 0) (V 2)),(qM (V 2) (.rlen (V 4))),(qM (V 1) (.rlen (V 4)))],[(qM (.rlen (V 4)) (.li 4294967296))],[(qE (.rlen (V 7)) (.rlen (V 4)))]⟩),
 (161,4,⟨[(qM (V 1) (mI (.rlen (V 5)) (V 3))),(qM (V 2) (mI (.rlen (V 5)) (V 3))),(qM (.li 0) (V 1)),(qM (.li 0) (V 2)),(qM (.li 0) (V 3)),(qM (V 1) (.rlen (V 5))),(qM (V 2) (.rlen (V 5))),(qM (V 3) (.rlen (V 5)))],[(qM (.rlen (V 5)) (.li 4294967296))],[(qE (.rlen (V 8)) (.rlen (V 5)))]⟩),
 (157,4,⟨[(qM (.li 0) (V 1)),(qL (V 1) (V 2)),(qL (V 2) (V 3)),(qM (V 3) (.rlen (V 5)))],[(qM (.rlen (V 5)) (.li 4294967296))],[(qE (.rlen (V 8)) (.rlen (V 5)))]⟩),
 (146,4,⟨[(qM (.li 0) (V 1)),(qL (V 1) (V 2)),(qL (V 2) (V 3)),(qM (V 3) (.li 4294967296)),(qM (V 3) (.rlen (V 5)))],[(qM (.rlen (V 5)) (.li 4294967296))],[(qE (.rlen (V 8)) (.rlen (V 5)))]⟩),
 (127,4,⟨[(qM (.li 0) (V 1)),(qM (V 1) (.rlen (V 3)))],[(qM (.rlen (V 3)) (.li 4294967296))],[(qE (.rlen (V 6)) (.rlen (V 3)))]⟩)]⟩
theorem asI (a b:Int):aeq Tryz.prog 10000 3 (.p (.int .i64 a)) (.p (.int .i64 b))=some (decide (a=b)):=by
 have h:yEq Tryz.prog 10000 3 (.sc (.int .i64) (.var 0 [])) (.sc (.int .i64) (.var 1 []))=some (.bin .eql (.int .i64) (.var 0 []) (.var 1 [])):=by kernel_rfl
 have h2:=Rl (P:=Tryz.prog) (ρ:=[.p (.int .i64 a),.p (.int .i64 b)]) h
 refine h2.trans ?_
 show some (a == b)=_
 rw [aD4]
theorem aoQ (a b:dI):aeq Tryz.prog 10000 29 (.agg a.enc) (.agg b.enc)=some (decide (a=b)):=by
 have h:yEq Tryz.prog 10000 29 (.agg (kQ 0 [] 0 dI.kG)) (.agg (kQ 1 [] 0 dI.kG))=some (.and (.bin .eql .str (.var 0 [0]) (.var 1 [0])) (.bin .eql (.int .i64) (.var 0 [1]) (.var 1 [1]))):=by kernel_rfl
 have h2:=Rl (P:=Tryz.prog) (ρ:=[a.av,b.av]) h
 refine h2.trans ?_
 congr 1
 show (zW a.Str b.Str&&dZ a.Sym b.Sym)=decide (a=b)
 cases a;cases b
 simp [zW,dZ,Nr,Bool.decide_and,aD4]
def axz : Lo:=
 let p0:Pc:=((qG uF (.li 5000)),false)::[]
 let p1:Pc:=(avt,false)::p0
 let p2:Pc:=((qL (V 2) uF),true)::p1
 let p3:Pc:=((qG (.rlen (W 3 6)) (.li 100)),true)::p2
 let p4:Pc:=((.and (qG (.rlen (W 3 6)) (.li 100)) (qL (.rlen (W 4 6)) (.li 1020))),false)::p2
 .mk [(avt,false),((qG uF (.li 5000)),false)] 1 2 [rX,tC] [((.not (qL (V 2) uF)),1,[(zB (V 1))]),((.or (.and (qG (.rlen (W 3 6)) (.li 100)) (qL (.rlen (W 4 6)) (.li 1020))) (qG (.rlen (W 5 6)) (.li 1100))),2,[Hr]),((.lb true),0,[(zB (V 1)),ak3])] [(p2,(.row (W 0 0) (V 2) (cV 3 dS.kG))),
 (p3,(.row (W 0 0) (V 2) QH)),
 (p4,(.row (W 0 0) (V 2) (cV 5 dS.kG)))] [] [1,1] []
def axA : LH:=.mk [abT] (mI uF (V 2)) [(uF,1)] [] 0 [] []
def zk (r:Bool×Bool×Bool):Nat×List AV:=Ny r.1 [eB r.2.1] [eB r.2.2]
theorem E_ (x0:dK):∀(n:Nat) (u1:Bool) (u2:Int),nU Tryz.prog sT axz axA [dK.av x0] n [eB u1,eI u2] (zk (yZ x0 n u1 u2))
 |0,u1,u2=>l0
 |n+1,u1,u2=>
  let v3:dS:=x0.Objects.getD (u2:Int).toNat default
  let v4:dS:=x0.Objects.getD (u2:Int).toNat default
  let v5:dS:=x0.Objects.getD (u2:Int).toNat default
  EU rfl [dS.av v3,dS.av v4,dS.av v5] xn (wR rfl <|
  wR rfl <|
  wR rfl <|
  wn) ln <|
   rc zk rx<|rc zk rx<|rl (rg (E_ x0 n _ _))
def R8 : iE:=
 ⟨[((.or avt (qG uF (.li 5000))),Hr),((.not O1),(zB (V 3))),((.lb true),rX)],
 [],[axz]⟩
def H8 : LH:=.mk [] (.li 0) [] [] 0 [axA] []
theorem e8 : jo Tryz.prog fG fH oU (oN kA 8 [36,38,37,39,40,41,42,43,46,48,47,49,50,51,52,53,3,2] [(0,(.mk [1] (.mk [(2,(.sc .bool)),(3,(.sc kI))] [] [] 19) [(.normal,(.mk [(2,(.sc .bool))] [] [] 19)),(.ret,(.mk [(2,(.sc .bool))] [] [] 19))]))]) 3 200 8 [.agg Cj] 1=some R8:=by kernel_rfl
theorem XQ (x0:dK):CT Tryz.prog sT 8 [dK.av x0] (eB (EX x0)):=
 let r1:Bool×Bool×Bool:=yZ x0 (x0.Objects.length+1) false 0
 qY jc dP dQ e8 H8 (by kernel_rfl) [dK.av x0,eI (ji r1.1),eB r1.2.1,eB r1.2.2] xn
  wn
  (Yp (E_ x0 (x0.Objects.length+1) false 0) <|
  ln)
  (gW (fun r=>.p (.bool r)) rfl rfl (gW (fun r=>.p (.bool r)) rfl rfl (iY rfl)))
def asJ : Lo:=
 let p0:Pc:=((qL (V 3) uF),true)::[]
 let p1:Pc:=((W 8 0),false)::p0
 let p2:Pc:=((W 9 1),false)::p1
 .mk [((qL (V 3) uF),true)] 5 3 [(zB (V 2)),(zI (V 3)),(.slc [] false)] [((.not (.not (W 8 0))),1,[(zB (V 5)),(zI (V 6)),(zL (V 7))]),((W 9 1),2,[Hr,(zL (V 7))]),((uE (W 11 1) (.li 1)),1,[(zB (V 5)),(zI (V 6)),(zL (V 10))]),((.lb true),0,[(zB (V 5)),(zI (W 11 4)),(zL (V 10))])] [(p0,(.tm ahc)),
 (p0,(.tm (qL (V 6) uF))),
 (p0,(.rd (false,1) (V 4) (V 6) 0 (zB (W 8 0)))),
 (p1,(.look 3 (.mk false 1 false 1) (V 7) (zI (V 6)) rX (W 9 0) (zB (W 9 1)))),
 (p2,(.put 3 (.mk false 1 false 1) (V 7) (zI (V 6)) Hr (V 10))),
 (p2,(.row (W 0 0) (V 6) (cV 11 dS.kG)))] [] [3,2] []
def asK : LH:=.mk [ahc,(qL (V 6) uF)] .nl [] [([((uN (W 11 1) (.li 1)),true)],(qM (.li 0) (W 11 4))),([((uN (W 11 1) (.li 1)),true),((qL (V 6) uF),true),(ahc,true)],(qL (W 11 4) uF))] 0 [] []
def vT (r:Bool×Bool×Int×List (Int×Bool)×Bool×List (Int×Bool)):Nat×List AV:=Ny r.1 [eB r.2.1,eI r.2.2.1,eL (BG kY rowB) r.2.2.2.1] [eB r.2.2.2.2.1,eL (BG kY rowB) r.2.2.2.2.2]
theorem Hu (x0:dK)(v1:List Bool)(u2:Bool)(u3:Int)(u4:List Bool):∀(n:Nat) (u5:Bool) (u6:Int) (u7:List (Int×Bool)) (hP:JH x0) (hB:x0.Objects.length<=4294967296) (_:kZ x0 u4 n u5 u6 u7=true),nU Tryz.prog sT asJ asK [dK.av x0,eL rowB v1,eB u2,eI u3,eL rowB u4] n [eB u5,eI u6,eL (BG kY rowB) u7] (vT (iP x0 u4 n u5 u6 u7))
 |0,u5,u6,u7,_,_,hE=>absurd (show false=true from hE) Bool.false_ne_true
 |n+1,u5,u6,u7,hP,hB,hE=>
  let v8:Bool:=u4.getD (u6:Int).toNat default
  let v9:Bool×Bool:=n_ false u6 u7
  let v10:List (Int×Bool):=og u6 true u7
  let v11:dS:=x0.Objects.getD (u6:Int).toNat default
  have hE:(bif (!(!v8)) then true
  else bif v9.2 then true
  else bif (dZ v11.eu.Kind 1) then true
  else kZ x0 u4 n u5 v11.eu.Ref v10)=true:=hE
  EU rfl [.agg (rowB v8),.agg (eB v9.1::rowB v9.2),eL (BG kY rowB) v10,dS.av v11] (xp (fun h=>decide_eq_true (ad_ hP (GL.1 (h.at 0 rfl))))<|xp (fun h=>decide_eq_true (aiL hP (GL.1 (h.at 0 rfl)) (of_decide_eq_true (h.at 1 rfl)) (of_decide_eq_true (h.at 2 rfl))))<|xn) (wT <|
  wT <|
  wRd rfl <|
  asn (f:=kY) (g:=rowB) asI u6 false rfl <|
  axg (f:=kY) (g:=rowB) asI u6 true rfl <|
  wR rfl <|
  wn) ln <|
   rcf vT (fun g0=>rx)<|fun g0=>rcf vT (fun g1=>rx)<|fun g1=>rcf vT (fun g2=>rx)<|fun g2=>rl (rg (Hu x0 v1 u2 u3 u4 n _ _ _ hP hB (EW g2 (EW g1 (EW g0 hE)))))
def asL : Lo:=
 let p0:Pc:=((qL (V 3) uF),true)::[]
 let p1:Pc:=((qE (V 5) (.li 0)),true)::p0
 .mk [] 2 3 [rX,tC,(zL (V 1))] [((.not (qL (V 3) uF)),1,[(zB (V 2)),(zL (V 4))]),((.not (qE (V 5) (.li 0))),2,[(zB (V 9)),(zL (V 4))]),((.lb true),0,[(zB (V 6)),NC,(zL (V 11))])] [(p1,(.mark (.mk false 1 false 1) (V 8) (V 4) uF (V 11)))] [asJ] [2,2] []
def asM : LH:=.mk [Yy,(qE (.rlen (V 4)) Ht)] (mI uF (V 3)) [(uF,1)] [] 1 [asK] []
def A8 (r:Bool×Bool×List Bool×Bool×List Bool):Nat×List AV:=Ny r.1 [eB r.2.1,eL rowB r.2.2.1] [eB r.2.2.2.1,eL rowB r.2.2.2.2]
theorem Hw (x0:dK)(v1:List Bool):∀(n:Nat) (u2:Bool) (u3:Int) (u4:List Bool) (hP:JH x0) (hB:x0.Objects.length<=4294967296) (k0:0<=u3),nU Tryz.prog sT asL asM [dK.av x0,eL rowB v1] n [eB u2,eI u3,eL rowB u4] (A8 (lN x0 n u2 u3 u4))
 |0,u2,u3,u4,_,_,_=>l0
 |n+1,u2,u3,u4,hP,hB,k0=>
  let r5:Bool×Bool×Int×List (Int×Bool)×Bool×List (Int×Bool):=iP x0 u4 (x0.Objects.length+3) u2 u3 []
  let v11:List Bool:=Qa r5.2.2.2.1 u4
  EU rfl [eI (ji r5.1),eB r5.2.1,eI r5.2.2.1,eL (BG kY rowB) r5.2.2.2.1,eB r5.2.2.2.2.1,eL (BG kY rowB) r5.2.2.2.2.2,eL rowB v11] xn (axf (u:=r5.2.2.2.1) (l:=u4) rfl rfl (by intro h;exact aec hP (fun e he=>absurd he List.not_mem_nil) k0 (of_decide_eq_true (h.at 1 rfl)))<|wn) (Yp (Hu x0 v1 u2 u3 u4 (x0.Objects.length+3) u2 u3 [] hP hB (SI hP)) (hn:=Int.natCast_pos.2 (Nat.succ_pos _)) <|
  ln) <|
   rcf A8 (fun g0=>rx)<|fun g0=>rcf A8 (fun g1=>rx)<|fun g1=>rl (rg (Hw x0 v1 n _ _ _ hP hB (aom hB k0 g0)))
def R66 : iE:=
 ⟨[(aex,(zB (V 5))),((.lb true),rX)],
 [([],(.mk uF uF [rX] (V 1)))],[asL]⟩
def H66 : LH:=.mk [] (.li 0) [] [] 0 [asM] []
theorem e66 : jo Tryz.prog fG fH oU (oN kA 66 [4,2,6,5,8,16] [(0,(.mk [1,3,15] (.mk [(2,(.sc .bool)),(16,(.sc kI))] [] [(5,1)] 11) [(.normal,(.mk [(2,(.sc .bool))] [] [(5,1)] 11)),(.ret,(.mk [(2,(.sc .bool))] [] [(5,1)] 11))])),(2,(.mk [1,3,4,5,15,16] (.mk [(2,(.sc .bool)),(6,(.sc kI))] [] [(14,(.map (.mk false 1 false 1)))] 18) [(.normal,(.mk [(2,(.sc .bool)),(6,(.sc kI))] [] [(14,(.map (.mk false 1 false 1)))] 18)),(.ret,(.mk [(2,(.sc .bool))] [] [(14,(.map (.mk false 1 false 1)))] 18))]))]) 3 200 66 [.agg Cj] 1=some R66:=by kernel_rfl
theorem YA (x0:dK)(hP:JH x0)(hB:x0.Objects.length<=4294967296):CT Tryz.prog sT 66 [dK.av x0] (eB (qW x0)):=
 let v1:List Bool:=List.replicate ((je dS.enc x0.Objects):Int).toNat false
 let r2:Bool×Bool×List Bool×Bool×List Bool:=lN x0 (x0.Objects.length+1) false 0 v1
 qY jc dP dQ e66 H66 (by kernel_rfl) [dK.av x0,eL rowB v1,eI (ji r2.1),eB r2.2.1,eL rowB r2.2.2.1,eB r2.2.2.2.1,eL rowB r2.2.2.2.2] xn
  (wMk (f:=rowB) false rfl<|wn)
  (Yp (Hw x0 v1 (x0.Objects.length+1) false 0 v1 hP hB (Int.le_refl _)) <|
  ln)
  (gW (fun r=>.p (.bool r)) rfl rfl (iY rfl))
def azu : iE:=
 ⟨[((.lb true),(zF (V 1)))],
 [([],(.call 153 [(zF (V 0))] (zF (V 1))))],[]⟩
theorem azv : jo Tryz.prog fG fH oU (oN kA 133 [] []) 3 200 133 [zF (V 0)] 1=some azu:=by kernel_rfl
theorem YB (x0:Nat)(h0:Cb x0):CT Tryz.prog sT 133 [eF x0] (eF (Ja x0)):=
 let v1:Nat:=jI x0
 qY jc dP dQ azv xC (by kernel_rfl) [eF x0,eF v1] xn
  (wCp (by intro h;exact ctP (E8 x0 h0))<|wn)
  ln
  (iY rfl)
def azw : iE:=
 ⟨[((.lb true),(zF (V 2)))],
 [([],(.call 156 [(zF (V 0))] (.sc (.int .u64) (V 1)))),
 ([],(.call 155 [(.sc (.int .u64) (.bin .andNot (.int .u64) (V 1) (.li 9223372036854775808)))] (zF (V 2))))],[]⟩
theorem azx : jo Tryz.prog fG fH oU (oN kA 134 [] []) 3 200 134 [zF (V 0)] 1=some azw:=by kernel_rfl
theorem aeE (x0:Nat):CT Tryz.prog sT 134 [eF x0] (eF (Qc x0)):=
 let v1:Int:=oM x0
 let v2:Nat:=qw (pV .u64 v1 9223372036854775808)
 qY jc dP dQ azx xC (by kernel_rfl) [eF x0,.p (.int .u64 v1),eF v2] xn
  (wC (ctP (wu x0)) <|
  wC (ctP (yw (pV .u64 v1 9223372036854775808))) <|
  wn)
  ln
  (iY rfl)
def azy : iE:=
 ⟨[((.lb true),(zB (qL (.conv .i64 (V 1)) (.li 0))))],
 [([],(.call 156 [(zF (V 0))] (.sc (.int .u64) (V 1))))],[]⟩
theorem azz : jo Tryz.prog fG fH oU (oN kA 135 [] []) 3 200 135 [zF (V 0)] 1=some azy:=by kernel_rfl
theorem Uw (x0:Nat):CT Tryz.prog sT 135 [eF x0] (eB (CZ x0)):=
 let v1:Int:=oM x0
 qY jc dP dQ azz xC (by kernel_rfl) [eF x0,.p (.int .u64 v1)] xn
  (wC (ctP (wu x0))<|wn)
  ln
  (iY rfl)
def azA : iE:=
 let p0:Pc:=(ak2,false)::[]
 let p1:Pc:=((.bin .eql .kC (V 1) (V 0)),true)::p0
 let p2:Pc:=(axx,true)::p0
 let p3:Pc:=(aiR,false)::p2
 ⟨[((.lb true),(zB (.or ak2 (.and axx (.or aiR QG)))))],
 [(p0,(.call 133 [(zF (V 0))] (zF (V 1)))),
 (p1,(.call 134 [(zF (V 0))] (zF (V 2)))),
 (p3,(.call 135 [(zF (V 0))] (zB (V 3))))],[]⟩
theorem e120 : jo Tryz.prog fG fH oU (oN kA 120 [] []) 3 200 120 [zF (V 0)] 1=some azA:=by kernel_rfl
theorem O3 (x0:Nat):CT Tryz.prog sT 120 [eF x0] (eB (wP x0)):=
 let v1:Nat:=Ja x0
 let v2:Nat:=Qc x0
 let v3:Bool:=CZ x0
 qY jc dP dQ e120 xC (by kernel_rfl) [eF x0,eF v1,eF v2,eB v3] xn
  (wCp (by intro h;exact YB x0 (awR (h.at 0 rfl))) <|
  wC (aeE x0) <|
  wC (Uw x0) <|
  wn)
  ln
  (iY rfl)
def R96 : iE:=
 let p0:Pc:=((qG (.slen (W 0 2)) (.li 4096)),false)::[]
 let p1:Pc:=((qL (W 0 3) (.li 0)),false)::p0
 let p2:Pc:=(aiS,false)::p1
 let p3:Pc:=(Yu,true)::p2
 let p4:Pc:=((.bin .neq .kC (W 0 1) XJ),true)::p3
 let p5:Pc:=((.bin .neq .kC (W 0 1) (.lf 0)),false)::p4
 let p6:Pc:=(Yu,false)::p2
 let p7:Pc:=(QD,true)::p6
 let p8:Pc:=(axv,false)::p2
 let p9:Pc:=((.and (.not Yu) (.and QD (.not (V 2)))),false)::p8
 let p10:Pc:=(zz7,true)::p9
 ⟨[((.or (.or aiS (qL (W 0 3) (.li 0))) (qG (.slen (W 0 2)) (.li 4096))),rX),(axv,rX),((.and (.not Yu) (.and QD (.not (V 2)))),rX),((.lb true),(zB (.and zz7 (V 3))))],
 [(p5,(.call 120 [(zF (W 0 1))] (zB (V 1)))),
 (p7,(.call 120 [(zF (W 0 1))] (zB (V 2)))),
 (p10,(.call 120 [(zF (.ite Yu (.lf 0) (.ite QD (.lf 0) (W 0 1))))] (zB (V 3))))],[]⟩
theorem e96 : jo Tryz.prog fG fH oU (oN kA 96 [] []) 3 200 96 [.agg Em] 1=some R96:=by kernel_rfl
theorem vU (x0:dL):CT Tryz.prog sT 96 [dL.av x0] (eB (iZ x0)):=
 let v1:Bool:=wP x0.Num
 let v2:Bool:=wP x0.Num
 let v3:Bool:=wP (bif (dZ x0.Kind 2) then 0 else (bif (dZ x0.Kind 3) then 0 else x0.Num))
 qY jc dP dQ e96 xC (by kernel_rfl) [dL.av x0,eB v1,eB v2,eB v3] xn
  (wC (O3 x0.Num) <|
  wC (O3 x0.Num) <|
  wC (O3 (bif (dZ x0.Kind 2) then 0 else (bif (dZ x0.Kind 3) then 0 else x0.Num))) <|
  wn)
  ln
  (gW (fun r=>.p (.bool r)) rfl rfl (gW (fun r=>.p (.bool r)) rfl rfl (gW (fun r=>.p (.bool r)) rfl rfl (iY rfl))))
def R92 : iE:=
 let p0:Pc:=((uE (W 0 0) (V 1)),true)::[]
 ⟨[((.lb true),(zB (.and (uE (W 0 0) (V 1)) (V 2))))],
 [(p0,(.call 96 [(.agg Em)] (zB (V 2))))],[]⟩
theorem e92 : jo Tryz.prog fG fH oU (oN kA 92 [] []) 3 200 92 [.agg Em,zU (V 1)] 2=some R92:=by kernel_rfl
theorem D9 (x0:dL)(x1:Int):CT Tryz.prog sT 92 [dL.av x0,eU x1] (eB (nR x0 x1)):=
 let v2:Bool:=iZ x0
 qY jc dP dQ e92 xC (by kernel_rfl) [dL.av x0,eU x1,eB v2] xn
  (wC (vU x0)<|wn)
  ln
  (iY rfl)
def R69 : iE:=
 ⟨[((.lb true),(zB (.and (.bin .geq kU (W 0 0) (.li 6)) (.bin .leq kU (W 0 0) (.li 8)))))],
 [],[]⟩
theorem e69 : jo Tryz.prog fG fH oU (oN kA 69 [] []) 3 200 69 [.agg Em] 1=some R69:=by kernel_rfl
theorem lZ (x0:dL):CT Tryz.prog sT 69 [dL.av x0] (eB (dM x0)):=
 qY jc dP dQ e69 xC (by kernel_rfl) [dL.av x0] xn
  wn
  ln
  (iY rfl)
def azB : iE:=
 ⟨[((W 0 17),(zU (.li 8))),((W 0 16),(zU (.li 7))),((.lb true),(zU (.li 6)))],
 [],[]⟩
theorem azC : jo Tryz.prog fG fH oU (oN kA 114 [] []) 3 200 114 [.agg (cV 0 dS.kG)] 1=some azB:=by kernel_rfl
theorem abU (x0:dS):CT Tryz.prog sT 114 [dS.av x0] (eU (AP x0)):=
 qY jc dP dQ azC xC (by kernel_rfl) [dS.av x0] xn
  wn
  ln
  (gW (fun r=>.p (.int .u8 r)) rfl rfl (gW (fun r=>.p (.int .u8 r)) rfl rfl (iY rfl)))
def R91 : iE:=
 let p0:Pc:=((V 2),true)::[]
 let p1:Pc:=(QG,false)::p0
 let p2:Pc:=((qL (W 1 3) uF),true)::p1
 ⟨[((.not (V 2)),rX),((.lb true),(zB (.or QG (.and (qL (W 1 3) uF) (uE (V 5) (W 1 0))))))],
 [([],(.call 96 [XM] (zB (V 2)))),
 (p0,(.call 69 [XM] (zB (V 3)))),
 (p2,(.row (W 0 0) (W 1 3) QH)),
 (p2,(.call 114 [(.agg QH)] (zU (V 5))))],[]⟩
def H91 : LH:=.mk [] (.li 0) [] [([((V 2),true)],(qM (.li 0) (W 1 3)))] 0 [] []
theorem e91 : jo Tryz.prog fG fH oU (oN kA 91 [] []) 3 200 91 [.agg Cj,.agg (cV 1 dL.kG)] 2=some R91:=by kernel_rfl
theorem A_ (x0:dK)(x1:dL):CT Tryz.prog sT 91 [dK.av x0,dL.av x1] (eB (eH x0 x1)):=
 let v2:Bool:=iZ x1
 let v3:Bool:=dM x1
 let v4:dS:=x0.Objects.getD (x1.Ref:Int).toNat default
 let v5:Int:=AP v4
 qY jc dP dQ e91 H91 (by kernel_rfl) [dK.av x0,dL.av x1,eB v2,eB v3,dS.av v4,eU v5] (xp (fun h=>decide_eq_true (Qx ( (h.at 0 rfl))))<|xn)
  (wC (vU x1) <|
  wC (lZ x1) <|
  wR rfl <|
  wC (abU v4) <|
  wn)
  ln
  (gW (fun r=>.p (.bool r)) rfl rfl (iY rfl))
def asN : Lo:=
 let p0:Pc:=(ak0,false)::[]
 let p1:Pc:=(ak4,false)::p0
 let p2:Pc:=((V 3),true)::p1
 let p3:Pc:=((W 1 5),false)::p2
 let p4:Pc:=(aeu,false)::p3
 let p5:Pc:=((.and (V 4) (V 5)),false)::p4
 let p6:Pc:=((qL (V 7) (.li 2)),true)::p5
 let p7:Pc:=((.not (V 10)),false)::p6
 .mk [((.and (V 4) (V 5)),false),(aeu,false),((W 1 5),false),((V 3),true),(ak4,false),(ak0,false)] 6 3 [rX,tC,(.slc [[(zU (W 1 7)),(zF (W 1 8)),(zS (W 1 9)),(zI (W 1 10))],[(zU (W 1 11)),(zF (W 1 12)),(zS (W 1 13)),(zI (W 1 14))]] false)] [((.not (qL (V 7) (.li 2))),1,[(zB (V 6)),(zL (V 8))]),((.or (.or (.not (V 10)) (.not (V 11))) (qH (W 9 3) (V 2))),2,[rX,(zL (V 8))]),((.lb true),0,[(zB (V 6)),(zI (aI (V 7) (.li 1))),(zL (V 8))])] [(p6,(.tm (qM (.li 0) (V 7)))),
 (p6,(.rd (true,4) (V 8) (V 7) 0 (.agg (cV 9 dL.kG)))),
 (p6,(.call 69 [(.agg (cV 9 dL.kG))] (zB (V 10)))),
 (p7,(.call 91 [JV,(.agg (cV 9 dL.kG))] (zB (V 11))))] [] [2,2] []
def asO : LH:=.mk [(qM (.rlen (W 1 6)) (V 7)),(qE NZ (.li 2))] (mI (.li 2) (V 7)) [((.li 2),1)] [] 3 [] []
def Ba (r:Bool×Bool×List dL×Bool×List dL):Nat×List AV:=Ny r.1 [eB r.2.1,eL dL.enc r.2.2.1] [eB r.2.2.2.1,eL dL.enc r.2.2.2.2]
theorem Hy (x0:dK)(x1:dS)(x2:Int)(v3:Bool)(v4:Bool)(v5:Bool):∀(n:Nat) (u6:Bool) (u7:Int) (u8:List dL),nU Tryz.prog sT asN asO [dK.av x0,dS.av x1,eI x2,eB v3,eB v4,eB v5] n [eB u6,eI u7,eL dL.enc u8] (Ba (jJ x0 x2 n u6 u7 u8))
 |0,u6,u7,u8=>l0
 |n+1,u6,u7,u8=>
  let v9:dL:=u8.getD (u7:Int).toNat default
  let v10:Bool:=dM v9
  let v11:Bool:=eH x0 v9
  EU rfl [dL.av v9,eB v10,eB v11] xn (wT <|
  wRd rfl <|
  wC (lZ v9) <|
  wC (A_ x0 v9) <|
  wn) ln <|
   rc Ba rx<|rc Ba rx<|rl (rg (Hy x0 x1 x2 v3 v4 v5 n _ _ _))
def R90 : iE:=
 let p0:Pc:=((.or aeu (W 1 5)),false)::[]
 let p1:Pc:=(ak0,false)::[]
 let p2:Pc:=(ak4,false)::p1
 let p3:Pc:=((V 3),true)::p2
 let p4:Pc:=((W 1 5),false)::p3
 let p5:Pc:=(aeu,false)::p4
 let p6:Pc:=((V 4),true)::p5
 let p7:Pc:=((.and (V 4) (V 5)),false)::p5
 let p8:Pc:=((qE (V 6) (.li 0)),true)::p7
 ⟨[((.or (.or (.or (.or aeu (W 1 5)) QG) ak4) ak0),rX),((.and (V 4) (V 5)),Hr),((.not (qE (V 6) (.li 0))),(zB (V 9))),((.lb true),(zB (.and (.bin .eql .bool (W 11 16) (W 1 16)) (.bin .eql .bool (W 11 17) (W 1 17)))))],
 [(p0,(.call 92 [(.agg (cW 1 1 dL.kG)),(zU (.li 1))] (zB (V 3)))),
 (p5,(.call 92 [ahb,(zU (.li 1))] (zB (V 4)))),
 (p6,(.call 92 [aoN,(zU (.li 1))] (zB (V 5)))),
 (p8,(.row (W 0 0) (W 1 10) (cV 11 dS.kG)))],[asN]⟩
def H90 : LH:=.mk [] (.li 0) [] [([((qE (V 6) (.li 0)),true)],(qM (.li 0) (W 1 10))),([((qE (V 6) (.li 0)),true)],(qL (W 1 10) uF))] 0 [asO] []
theorem e90 : jo Tryz.prog fG fH oU (oN kA 90 [61,60,62,63,66,68,67,69,52,6] [(0,(.mk [2,3,4,50,51] (.mk [(6,(.sc .bool)),(52,(.sc kI))] [] [(43,4)] 46) [(.normal,(.mk [(6,(.sc .bool))] [] [(43,4)] 46)),(.ret,(.mk [(6,(.sc .bool))] [] [(43,4)] 46))]))]) 3 200 90 [.agg Cj,.agg (cV 1 dS.kG),zI (V 2)] 3=some R90:=by kernel_rfl
theorem YC (x0:dK)(x1:dS)(x2:Int):CT Tryz.prog sT 90 [dK.av x0,dS.av x1,eI x2] (eB (pK x0 x1 x2)):=
 let v3:Bool:=nR x1.eu 1
 let v4:Bool:=nR x1.Target 1
 let v5:Bool:=nR x1.Handler 1
 let r6:Bool×Bool×List dL×Bool×List dL:=jJ x0 x2 ((2:Int).toNat+1) false 0 [x1.Target,x1.Handler]
 let v11:dS:=x0.Objects.getD (x1.Target.Ref:Int).toNat default
 qY jc dP dQ e90 H90 (by kernel_rfl) [dK.av x0,dS.av x1,eI x2,eB v3,eB v4,eB v5,eI (ji r6.1),eB r6.2.1,eL dL.enc r6.2.2.1,eB r6.2.2.2.1,eL dL.enc r6.2.2.2.2,dS.av v11] (xp (fun h=>decide_eq_true (aok (kP.1 (h.at 0 rfl))))<|xp (fun h=>decide_eq_true (aol (kP.1 (h.at 0 rfl))))<|xn)
  (wC (D9 x1.eu 1) <|
  wC (D9 x1.Target 1) <|
  wC (D9 x1.Handler 1) <|
  wR rfl <|
  wn)
  (Yp (Hy x0 x1 x2 v3 v4 v5 ((2:Int).toNat+1) false 0 [x1.Target,x1.Handler]) <|
  ln)
  (gW (fun r=>.p (.bool r)) rfl rfl (gW (fun r=>.p (.bool r)) rfl rfl (gW (fun r=>.p (.bool r)) rfl rfl (iY rfl))))
def R83 : iE:=
 ⟨[((.or (.or (qL (W 0 1) (.li 0)) (qG XL (.li 4096))) (.and Yx (sN (W 0 0) (.ls [])))),Ut),((.lb true),tC)],
 [],[]⟩
theorem e83 : jo Tryz.prog fG fH oU (oN kA 83 [] []) 3 200 83 [.agg (cV 0 dI.kG)] 1=some R83:=by kernel_rfl
theorem QJ (x0:dI):CT Tryz.prog sT 83 [dI.av x0] (eI (vM x0)):=
 qY jc dP dQ e83 xC (by kernel_rfl) [dI.av x0] xn
  wn
  ln
  (gW (fun r=>.p (.int .i64 r)) rfl rfl (iY rfl))
def R30 : iE:=
 ⟨[((.lb true),(zB (uN (.bin .and kU (W 0 0) (.li 3)) (.li 0))))],
 [],[]⟩
theorem e30 : jo Tryz.prog fG fH oU (oN kA 30 [] []) 3 200 30 [.agg xI] 1=some R30:=by kernel_rfl
theorem LU (x0:dN):CT Tryz.prog sT 30 [dN.av x0] (eB (lH x0)):=
 qY jc dP dQ e30 xC (by kernel_rfl) [dN.av x0] xn
  wn
  ln
  (iY rfl)
def R59 : iE:=
 ⟨[((.lb true),(zB (uN (.bin .and kU (W 0 0) (.li 12)) (.li 0))))],
 [],[]⟩
theorem e59 : jo Tryz.prog fG fH oU (oN kA 59 [] []) 3 200 59 [.agg xI] 1=some R59:=by kernel_rfl
theorem Hz (x0:dN):CT Tryz.prog sT 59 [dN.av x0] (eB (jA x0)):=
 qY jc dP dQ e59 xC (by kernel_rfl) [dN.av x0] xn
  wn
  ln
  (iY rfl)
def azD : iE:=
 ⟨[((.lb true),(zB (.or (uE (W 0 0) (.li 7)) (uE (W 0 0) (.li 8)))))],
 [],[]⟩
theorem azE : jo Tryz.prog fG fH oU (oN kA 131 [] []) 3 200 131 [.agg Em] 1=some azD:=by kernel_rfl
theorem XR (x0:dL):CT Tryz.prog sT 131 [dL.av x0] (eB (Lm x0)):=
 qY jc dP dQ azE xC (by kernel_rfl) [dL.av x0] xn
  wn
  ln
  (iY rfl)
def azF : iE:=
 let p0:Pc:=((V 1),true)::[]
 let p1:Pc:=(aak,false)::p0
 ⟨[((.lb true),(zB (.and (V 1) (.or aak (V 2)))))],
 [([],(.call 96 [(.agg Em)] (zB (V 1)))),
 (p1,(.call 131 [(.agg Em)] (zB (V 2))))],[]⟩
theorem azG : jo Tryz.prog fG fH oU (oN kA 112 [] []) 3 200 112 [.agg Em] 1=some azF:=by kernel_rfl
theorem LV (x0:dL):CT Tryz.prog sT 112 [dL.av x0] (eB (nH x0)):=
 let v1:Bool:=iZ x0
 let v2:Bool:=Lm x0
 qY jc dP dQ azG xC (by kernel_rfl) [dL.av x0,eB v1,eB v2] xn
  (wC (vU x0) <|
  wC (XR x0) <|
  wn)
  ln
  (iY rfl)
def R84 : iE:=
 let p0:Pc:=((uN (.bin .andNot kU (W 0 0) (.li 63)) (.li 0)),false)::[]
 let p1:Pc:=((V 1),true)::p0
 let p2:Pc:=(arq,false)::[]
 let p3:Pc:=((.or arq QG),false)::[]
 let p4:Pc:=((.or (.or arq QG) Uu),false)::[]
 ⟨[((.or (.or (.or arq QG) Uu) (.not (V 5))),(zI (.li 90))),((.or (.or (.and (uN (.bin .and kU (.com .u8 (W 0 0)) (.li 1)) (.li 0)) (.not (.and (uE (W 0 1) (.li 0)) (.and (.bin .eql .kC (W 0 2) (.lf 0)) (.and (sE (W 0 3) (.ls [])) (qE (W 0 4) (.li 0))))))) (.and (uN (.bin .and kU (.com .u8 (W 0 0)) (.li 4)) (.li 0)) (.not (.and (uE (W 0 5) (.li 0)) (.and (.bin .eql .kC (W 0 6) (.lf 0)) (.and (sE (W 0 7) (.ls [])) (qE (W 0 8) (.li 0)))))))) (.and (uN (.bin .and kU (.com .u8 (W 0 0)) (.li 8)) (.li 0)) (.not (.and (uE (W 0 9) (.li 0)) (.and (.bin .eql .kC (W 0 10) (.lf 0)) (.and (sE (W 0 11) (.ls [])) (qE (W 0 12) (.li 0)))))))),(zI (.li 90))),((.or (.or (.and (uN (.bin .and kU (.com .u8 (W 0 0)) (.li 2)) (.li 0)) (W 0 13)) (.and (uN (.bin .and kU (.com .u8 (W 0 0)) (.li 16)) (.li 0)) (W 0 14))) (.and (uN (.bin .and kU (.com .u8 (W 0 0)) (.li 32)) (.li 0)) (W 0 15))),(zI (.li 90))),((.lb true),tC)],
 [(p0,(.call 30 [(.agg xI)] (zB (V 1)))),
 (p1,(.call 59 [(.agg xI)] (zB (V 2)))),
 (p2,(.call 96 [(.agg (cW 0 1 dL.kG))] (zB (V 3)))),
 (p3,(.call 112 [(.agg (cW 0 5 dL.kG))] (zB (V 4)))),
 (p4,(.call 112 [(.agg (cW 0 9 dL.kG))] (zB (V 5))))],[]⟩
theorem e84 : jo Tryz.prog fG fH oU (oN kA 84 [] []) 3 200 84 [.agg xI] 1=some R84:=by kernel_rfl
theorem YD (x0:dN):CT Tryz.prog sT 84 [dN.av x0] (eI (uX x0)):=
 let v1:Bool:=lH x0
 let v2:Bool:=jA x0
 let v3:Bool:=iZ x0.Value
 let v4:Bool:=nH x0.Get
 let v5:Bool:=nH x0.Set
 qY jc dP dQ e84 xC (by kernel_rfl) [dN.av x0,eB v1,eB v2,eB v3,eB v4,eB v5] xn
  (wC (LU x0) <|
  wC (Hz x0) <|
  wC (vU x0.Value) <|
  wC (LV x0.Get) <|
  wC (LV x0.Set) <|
  wn)
  ln
  (gW (fun r=>.p (.int .i64 r)) rfl rfl (gW (fun r=>.p (.int .i64 r)) rfl rfl (gW (fun r=>.p (.int .i64 r)) rfl rfl (iY rfl))))
def R58 : iE:=
 ⟨[((.lb true),(.agg [(zU (.ite (V 1) (.bin .or kU (W 0 0) (.li 60)) (.bin .or kU (W 0 0) (.li 51)))),(zU (W 0 1)),(zF (W 0 2)),(zS (W 0 3)),(zI (W 0 4)),(zU (W 0 5)),(zF (W 0 6)),(zS (W 0 7)),(zI (W 0 8)),(zU (W 0 9)),(zF (W 0 10)),(zS (W 0 11)),(zI (W 0 12)),(zB (W 0 13)),(zB (W 0 14)),(zB (W 0 15))]))],
 [([],(.call 59 [(.agg xI)] (zB (V 1))))],[]⟩
theorem e58 : jo Tryz.prog fG fH oU (oN kA 58 [] []) 3 200 58 [.agg xI] 1=some R58:=by kernel_rfl
theorem YE (x0:dN):CT Tryz.prog sT 58 [dN.av x0] (dN.av (m_ x0)):=
 let v1:Bool:=jA x0
 qY jc dP dQ e58 xC (by kernel_rfl) [dN.av x0,eB v1] xn
  (wC (Hz x0)<|wn)
  ln
  (iY rfl)
def azH : iE:=
 let p0:Pc:=aha::[]
 ⟨[((qN (V 1) (.li 0)),(.fD [zz2,(zI (V 1))])),((.lb true),(.fD [(.agg (cV 2 dN.kG)),tC]))],
 [([],(.call 84 [(.agg xI)] (zI (V 1)))),
 (p0,(.call 58 [(.agg xI)] (.agg (cV 2 dN.kG))))],[]⟩
theorem azI : jo Tryz.prog fG fH oU (oN kA 124 [] []) 3 200 124 [.agg xI] 1=some azH:=by kernel_rfl
theorem SX (x0:dN):CT Tryz.prog sT 124 [dN.av x0] (CY (Bj x0)):=
 let v1:Int:=uX x0
 let v2:dN:=m_ x0
 qY jc dP dQ azI xC (by kernel_rfl) [dN.av x0,eI v1,dN.av v2] xn
  (wC (YD x0) <|
  wC (YE x0) <|
  wn)
  ln
  (gW CY rfl rfl (iY rfl))
def azJ : iE:=
 ⟨[((.lb true),(zB (.and (qE (W 1 1) (.li 0)) (uE (.var 1 [0,0]) (W 0 0)))))],
 [([],(.call 124 [(.agg xI)] (.fD [(.agg (kQ 1 [0] 0 dN.kG)),(zI (W 1 1))])))],[]⟩
theorem azK : jo Tryz.prog fG fH oU (oN kA 106 [] []) 3 200 106 [.agg xI] 1=some azJ:=by kernel_rfl
theorem XT (x0:dN):CT Tryz.prog sT 106 [dN.av x0] (eB (uY x0)):=
 let v1:dN×Int:=Bj x0
 qY jc dP dQ azK xC (by kernel_rfl) [dN.av x0,CY v1] xn
  (wC (SX x0)<|wn)
  ln
  (iY rfl)
def asP : Lo:=
 let p0:Pc:=(aam,false)::[]
 let p1:Pc:=((qL (V 2) wz),true)::p0
 let p2:Pc:=((qN (V 5) (.li 0)),false)::p1
 let p3:Pc:=((V 6),true)::p2
 let p4:Pc:=((qG (W 7 1) (.li 0)),false)::p3
 .mk [(aam,false)] 1 3 [tC,tC,(.slc [] false)] [((.not (qL (V 2) wz)),1,[(zI (V 1)),(zL (V 3))]),((qN (V 5) (.li 0)),2,[(zI (V 5)),(zL (V 3))]),((.not (V 6)),2,[(zI (.li 90)),(zL (V 3))]),((qG (W 7 1) (.li 0)),2,[(zI (.li 100)),(zL (V 3))]),((.lb true),0,[(zI (V 1)),ak3,(zL (V 8))])] [(p1,(.row (V 0) (V 2) XO)),
 (p1,(.call 83 [(.agg QE)] (zI (V 5)))),
 (p2,(.call 106 [(.agg (cW 4 2 dN.kG))] (zB (V 6)))),
 (p3,(.look 29 (.mk true 2 false 1) (V 3) (.agg QE) tC (W 7 0) (zI (W 7 1)))),
 (p4,(.put 29 (.mk true 2 false 1) (V 3) (.agg QE) ak3 (V 8)))] [] [2,2] [(V 0)]
def asQ : LH:=.mk [(qM (.li 0) (V 1)),(qM (V 1) (V 2))] (mI wz (V 2)) [(wz,1)] [] 0 [] []
def qB (r:Bool×Int×List (dI×Int)×Int×List (dI×Int)):Nat×List AV:=Ny r.1 [eI r.2.1,eL (BG dI.enc kY) r.2.2.1] [eI r.2.2.2.1,eL (BG dI.enc kY) r.2.2.2.2]
theorem Fa (x0:List dJ):∀(n:Nat) (u1:Int) (u2:Int) (u3:List (dI×Int)),nU Tryz.prog sT asP asQ [eL dJ.enc x0] n [eI u1,eI u2,eL (BG dI.enc kY) u3] (qB (o_ x0 n u1 u2 u3))
 |0,u1,u2,u3=>l0
 |n+1,u1,u2,u3=>
  let v4:dJ:=x0.getD (u2:Int).toNat default
  let v5:Int:=vM v4.Key
  let v6:Bool:=uY v4.dV
  let v7:Bool×Int:=n_ 0 v4.Key u3
  let v8:List (dI×Int):=og v4.Key (dY .i64 u2 1) u3
  EU rfl [dJ.av v4,eI v5,eB v6,.agg (eB v7.1::kY v7.2),eL (BG dI.enc kY) v8] xn (wR rfl <|
  wC (QJ v4.Key) <|
  wC (XT v4.dV) <|
  asn (f:=dI.enc) (g:=kY) aoQ v4.Key 0 rfl <|
  axg (f:=dI.enc) (g:=kY) aoQ v4.Key (dY .i64 u2 1) rfl <|
  wn) ln <|
   rc qB rx<|rc qB rx<|rc qB rx<|rc qB rx<|rl (rg (Fa x0 n _ _ _))
def R78 : iE:=
 ⟨[(aam,(zI (.li 4))),((.not O1),(zI (V 4))),((.lb true),tC)],
 [],[asP]⟩
def H78 : LH:=.mk [] (.li 0) [] [] 0 [asQ] []
theorem e78 : jo Tryz.prog fG fH oU (oN kA 78 [15,4,6,2] [(0,(.mk [3,13,14] (.mk [(2,(.sc kI)),(15,(.sc kI))] [] [(6,(.map (.mk true 2 false 1)))] 11) [(.normal,(.mk [(2,(.sc kI))] [] [(6,(.map (.mk true 2 false 1)))] 11)),(.ret,(.mk [(2,(.sc kI))] [] [(6,(.map (.mk true 2 false 1)))] 11))]))]) 3 200 78 [zL (V 0)] 1=some R78:=by kernel_rfl
theorem D_ (x0:List dJ):CT Tryz.prog sT 78 [eL dJ.enc x0] (eI (jF x0)):=
 let r1:Bool×Int×List (dI×Int)×Int×List (dI×Int):=o_ x0 (x0.length+1) 0 0 []
 qY jc dP dQ e78 H78 (by kernel_rfl) [eL dJ.enc x0,eI (ji r1.1),eI r1.2.1,eL (BG dI.enc kY) r1.2.2.1,eI r1.2.2.2.1,eL (BG dI.enc kY) r1.2.2.2.2] xn
  wn
  (Yp (Fa x0 (x0.length+1) 0 0 []) <|
  ln)
  (gW (fun r=>.p (.int .i64 r)) rfl rfl (gW (fun r=>.p (.int .i64 r)) rfl rfl (iY rfl)))
def azL : iE:=
 ⟨[((.lb true),(.agg [(zS (V 0)),tC]))],
 [],[]⟩
theorem e115 : jo Tryz.prog fG fH oU (oN kA 115 [] []) 3 200 115 [zS (V 0)] 1=some azL:=by kernel_rfl
theorem aan (x0:List UInt8):CT Tryz.prog sT 115 [eS x0] (dI.av (OY x0)):=
 qY jc dP dQ e115 xC (by kernel_rfl) [eS x0] xn
  wn
  ln
  (iY rfl)
def aoR : Lo:=
 let p0:Pc:=(avq,false)::[]
 let p1:Pc:=(XP,false)::p0
 let p2:Pc:=((sE (W 0 0) (.ls [])),false)::p1
 let p3:Pc:=(Yx,false)::p2
 let p4:Pc:=((qL (V 4) XL),true)::p3
 let p5:Pc:=((.bin .lss kU ak5 (.li 48)),false)::p4
 let p6:Pc:=((.bin .gtr kU ak5 (.li 57)),false)::p4
 let p7:Pc:=((.bin .lss kU ak5 (.li 48)),false)::p6
 .mk [(Yx,false),((sE (W 0 0) (.ls [])),false),(XP,false),(avq,false)] 1 4 [tC,rX,tC,tC] [((.not (qL (V 4) XL)),1,[(zI (V 1)),(zB (V 2)),(zI (V 3))]),((.or (.bin .lss kU ak5 (.li 48)) (.bin .gtr kU ak5 (.li 57))),2,[tC,rX]),((.lb true),0,[(zI (V 1)),(zB (V 2)),(zI (aI (.bin .mul kI (V 3) (.li 10)) (.conv .i64 (.bin .sub kU ak5 (.li 48))))),aeD])] [(p4,(.tm aeA)),
 (p5,(.tm aeA)),
 (p7,(.tm aeA))] [] [3,2] []
def aoS : LH:=.mk [aeA] (mI XL (V 4)) [(XL,1)] [] 1 [] []
def Cm (r:Bool×Int×Bool×Int×Int×Bool):Nat×List AV:=Ny r.1 [eI r.2.1,eB r.2.2.1,eI r.2.2.2.1] [eI r.2.2.2.2.1,eB r.2.2.2.2.2]
theorem JI (x0:dI):∀(n:Nat) (u1:Int) (u2:Bool) (u3:Int) (u4:Int),nU Tryz.prog sT aoR aoS [dI.av x0] n [eI u1,eB u2,eI u3,eI u4] (Cm (oh x0 n u1 u2 u3 u4))
 |0,u1,u2,u3,u4=>l0
 |n+1,u1,u2,u3,u4=>
  EU rfl [] xn (wT <|
  wT <|
  wT <|
  wn) ln <|
   rc Cm rx<|rc Cm rx<|rl (rg (JI x0 n _ _ _ _))
def azM : iE:=
 let p0:Pc:=((.or (.or Yx (sE (W 0 0) (.ls []))) XP),false)::[]
 let p1:Pc:=((qG XL (.li 1)),true)::p0
 ⟨[((.or (.or (.or Yx (sE (W 0 0) (.ls []))) XP) avq),(.fD [tC,rX])),((.not O1),(.fD [(zI (V 5)),(zB (V 6))])),((qH (V 4) (.li 1024)),(.fD [tC,rX])),((.lb true),(.fD [(zI (V 4)),Hr]))],
 [(p1,(.tm (qL (.li 0) XL)))],[aoR]⟩
def azN : LH:=.mk [] (.li 0) [] [] 0 [aoS] []
theorem e118 : jo Tryz.prog fG fH oU (oN kA 118 [44,46,45,47,48,35,5,4,2,3] [(0,(.mk [1,34] (.mk [(2,(.sc kI)),(3,(.sc .bool)),(4,(.sc kI)),(35,(.sc kI))] [] [] 34) [(.normal,(.mk [(2,(.sc kI)),(3,(.sc .bool)),(4,(.sc kI))] [] [] 34)),(.ret,(.mk [(2,(.sc kI)),(3,(.sc .bool))] [] [] 34))]))]) 3 200 118 [.agg (cV 0 dI.kG)] 1=some azM:=by kernel_rfl
theorem Jm (x0:dI):CT Tryz.prog sT 118 [dI.av x0] (iG (iI x0)):=
 let r1:Bool×Int×Bool×Int×Int×Bool:=oh x0 (((sLen x0.Str):Int).toNat+1) 0 false 0 0
 qY jc dP dQ e118 azN (by kernel_rfl) [dI.av x0,eI (ji r1.1),eI r1.2.1,eB r1.2.2.1,eI r1.2.2.2.1,eI r1.2.2.2.2.1,eB r1.2.2.2.2.2] xn
  (wT<|wn)
  (Yp (JI x0 (((sLen x0.Str):Int).toNat+1) 0 false 0 0) <|
  ln)
  (gW iG rfl rfl (gW iG rfl rfl (gW iG rfl rfl (iY rfl))))
def aao : Lo:=
 let p0:Pc:=((qL (V 3) Ht),true)::[]
 let p1:Pc:=((W 5 1),true)::p0
 .mk [] 2 2 [tC,tC] [((.not (qL (V 3) Ht)),1,[(zI (V 2))]),((.and (W 5 1) (qH (W 5 0) (.UJ (V 0)))),2,[(zI (V 3))]),((.lb true),0,[(zI (V 2)),NC])] [(p0,(.row (V 1) (V 3) XO)),
 (p0,(.call 118 [(.agg QE)] akX)),
 (p1,(.num .i64 (V 0) (.UJ (V 0))))] [] [1,1] [(V 1)]
def aap : LH:=.mk [Yy] (mI Ht (V 3)) [(Ht,1)] [] 0 [] []
def mM (r:Bool×Int×Int):Nat×List AV:=Ny r.1 [eI r.2.1] [eI r.2.2]
theorem qZ (x0:Nat)(x1:List dJ):∀(n:Nat) (u2:Int) (u3:Int) (h0:ag1 x0=true),nU Tryz.prog sT aao aap [eF x0,eL dJ.enc x1] n [eI u2,eI u3] (mM (iU x0 x1 n u2 u3))
 |0,u2,u3,_=>l0
 |n+1,u2,u3,h0=>
  let v4:dJ:=x1.getD (u3:Int).toNat default
  let v5:Int×Bool:=iI v4.Key
  EU rfl [dJ.av v4,iG v5] xn (wR rfl <|
  wC (Jm v4.Key) <|
  wX (fun _ _=>aoj h0) <|
  wn) ln <|
   rc mM rx<|rc mM rx<|rl (rg (qZ x0 x1 n _ _ h0))
def arE : iE:=
 ⟨[(aex,(.fD [(zI (V 4))])),((.lb true),(.fD [(zI (.li (-1)))]))],
 [],[aao]⟩
def arF : LH:=.mk [] (.li 0) [] [] 0 [aap] []
theorem arG : P_ Tryz.prog fG fH oU (oN kA 132 [8,5,4] [(0,(.mk [0,1,7] (.mk [(4,(.sc kI)),(8,(.sc kI))] [] [] 26) [(.normal,(.mk [(4,(.sc kI))] [] [] 26)),(.ret,(.mk [(4,(.sc kI))] [] [] 26))]))]) 3 200 132 [(zL (V 1)),arz] 2 [(21,(.rows 1 [[(zF (V 0))]]))] [] 22=some arE:=by kernel_rfl
theorem BU (x0:Nat)(x1:List dJ)(h0:ag1 x0=true):CTw Tryz.prog sT 132 [(.sl (List.map dJ.enc x1) false),(.fn (.func 117) [] [(.op 21 1 0 0)])] [(21,.rows 1 [[(.p (.float .f64 x0))]])] 22 (.p (.int .i64 (mO x0 x1))) [(21,.rows 1 [[(.p (.float .f64 x0))]])]:=
 let r2:Bool×Int×Int:=iU x0 x1 (x1.length+1) 0 0
 mkW (cs:=[]) jc dP dQ arG arF (by kernel_rfl) [eF x0,eL dJ.enc x1,eI (ji r2.1),eI r2.2.1,eI r2.2.2] xn
  wn
  (Yp (qZ x0 x1 (x1.length+1) 0 0 h0) <|
  ln)
  (gW (fun r=>.fD [(.p (.int .i64 r))]) rfl rfl (iY rfl))
def arH : iE:=
 ⟨[((.lb true),(.fD [(zB (qH (V 2) (.li 0)))]))],
 [([],(.qp 132 [(zL (V 1)),arz] [(21,(.rows 1 [[(zF (V 0))]]))] 22 (zI (V 2)) [(21,(.rows 1 [[(zF (V 0))]]))]))],[]⟩
theorem arI : P_ Tryz.prog fG fH oU (oN kA 116 [] []) 3 200 116 [(zL (V 1)),arz] 2 [(21,(.rows 1 [[(zF (V 0))]]))] [] 22=some arH:=by kernel_rfl
theorem zl (x0:Nat)(x1:List dJ)(h0:ag1 x0=true):CTw Tryz.prog sT 116 [(.sl (List.map dJ.enc x1) false),(.fn (.func 117) [] [(.op 21 1 0 0)])] [(21,.rows 1 [[(.p (.float .f64 x0))]])] 22 (.p (.bool (jU x0 x1))) [(21,.rows 1 [[(.p (.float .f64 x0))]])]:=
 let w2:Int:=mO x0 x1
 let r2:Int:=w2
 mkW (cs:=[]) jc dP dQ arI xC (by kernel_rfl) [eF x0,eL dJ.enc x1,eI r2] xn
  (wWp (by intro h;exact BU x0 x1 h0)<|wn)
  ln
  (iY rfl)
def R93 : iE:=
 let p0:Pc:=(Yw,false)::[]
 let p1:Pc:=((qE (W 1 1) (W 2 1)),true)::[]
 let p2:Pc:=((sE (W 1 0) (W 2 0)),true)::p1
 let p3:Pc:=(Yw,false)::p2
 let p4:Pc:=((.bin .leq .kC (W 3 4) (.lf 4652218415073722368)),true)::p3
 let p5:Pc:=((.bin .geq .kC (W 3 4) (.lf 0)),true)::p4
 let p6:Pc:=((uN (W 3 3) (.li 3)),false)::p5
 let p7:Pc:=((W 3 17),false)::p6
 let p8:Pc:=((W 3 16),false)::p7
 let p9:Pc:=((V 4),true)::p8
 ⟨[((.or Yw (.not (.and (sE (W 1 0) (W 2 0)) (qE (W 1 1) (W 2 1))))),rX),((.or (.or (.or (.or Uu (W 3 16)) (W 3 17)) (uN (W 3 3) (.li 3))) (.not (.and (.bin .geq .kC (W 3 4) (.lf 0)) (.bin .leq .kC (W 3 4) (.lf 4652218415073722368))))),rX),((.lb true),(zB (.not (V 5))))],
 [(p0,(.row (V 0) (.li 0) (cV 1 dJ.kG))),
 (p0,(.call 115 [(zS aoM)] arA)),
 (p3,(.row (V 0) (.li 0) (cV 3 dJ.kG))),
 (p3,(.call 30 [(.agg (cW 3 2 dN.kG))] (zB (V 4)))),
 (p9,(.qp 116 [(zL (V 0)),arz] [(21,(.rows 1 [[(zF (W 3 4))]]))] 22 (zB (V 5)) [(21,(.rows 1 [[(zF (W 3 4))]]))]))],[]⟩
theorem e93 : jo Tryz.prog fG fH oU (oN kA 93 [] []) 3 200 93 [zL (V 0)] 1=some R93:=by kernel_rfl
theorem YF (x0:List dJ):CT Tryz.prog sT 93 [eL dJ.enc x0] (eB (xE x0)):=
 let v1:dJ:=x0.getD (0:Int).toNat default
 let v2:dI:=OY [108,101,110,103,116,104]
 let v3:dJ:=x0.getD (0:Int).toNat default
 let v4:Bool:=lH v3.dV
 let w5:Bool:=jU v3.dV.Value.Num x0
 let r5:Bool:=w5
 qY jc dP dQ e93 xC (by kernel_rfl) [eL dJ.enc x0,dJ.av v1,dI.av v2,dJ.av v3,eB v4,eB r5] xn
  (wR rfl <|
  wC (aan [108,101,110,103,116,104]) <|
  wR rfl <|
  wC (LU v3.dV) <|
  wWp (by intro h;exact zl v3.dV.Value.Num x0 (arb (h.at 4 rfl) (h.at 5 rfl))) <|
  wn)
  ln
  (gW (fun r=>.p (.bool r)) rfl rfl (gW (fun r=>.p (.bool r)) rfl rfl (iY rfl)))
def aeF : Lo:=
 let p0:Pc:=QF::[]
 let p1:Pc:=(aru,false)::p0
 .mk [] 2 2 [tC,tC] [((.not XK),1,[(zI (V 2))]),((.or aru (.and (sE (W 4 0) (W 6 0)) (qE (W 4 1) (W 6 1)))),2,[(zI (V 3))]),((.lb true),0,[(zI (V 2)),NC])] [(p0,(.row (V 0) (V 3) XO)),
 (p0,(.call 118 [(.agg QE)] akX)),
 (p1,(.call 115 [(zS aoM)] (.agg aev)))] [] [1,1] [(V 0)]
def aeG : LH:=.mk [Yy] Yz [(wz,1)] [] 0 [] []
def nK (r:Bool×Int×Int):Nat×List AV:=Ny r.1 [eI r.2.1] [eI r.2.2]
theorem rY (x0:List dJ)(x1:List UInt8):∀(n:Nat) (u2:Int) (u3:Int),nU Tryz.prog sT aeF aeG [eL dJ.enc x0,eS x1] n [eI u2,eI u3] (nK (jh x0 x1 n u2 u3))
 |0,u2,u3=>l0
 |n+1,u2,u3=>
  let v4:dJ:=x0.getD (u3:Int).toNat default
  let v5:Int×Bool:=iI v4.Key
  let v6:dI:=OY [108,101,110,103,116,104]
  EU rfl [dJ.av v4,iG v5,dI.av v6] xn (wR rfl <|
  wC (Jm v4.Key) <|
  wC (aan [108,101,110,103,116,104]) <|
  wn) ln <|
   rc nK rx<|rc nK rx<|rl (rg (rY x0 x1 n _ _))
def avu : iE:=
 ⟨[(aex,(.fD [(zI (V 4))])),((.lb true),(.fD [(zI (.li (-1)))]))],
 [],[aeF]⟩
def avv : LH:=.mk [] (.li 0) [] [] 0 [aeG] []
theorem avw : P_ Tryz.prog fG fH oU (oN kA 132 [8,5,4] [(0,(.mk [0,1,7] (.mk [(4,(.sc kI)),(8,(.sc kI))] [] [] 4) [(.normal,(.mk [(4,(.sc kI))] [] [] 4)),(.ret,(.mk [(4,(.sc kI))] [] [] 4))]))]) 3 200 132 ars 2 [] [] 0=some avu:=by kernel_rfl
theorem Di (x0:List dJ)(x1:List UInt8):CTw Tryz.prog sT 132 [(.sl (List.map dJ.enc x0) false),(.fn (.func 119) [] [(.vp [(.str x1)] 0)])] [] 0 (.p (.int .i64 (nS x0 x1))) []:=
 let r2:Bool×Int×Int:=jh x0 x1 (x0.length+1) 0 0
 mkW (cs:=[]) jc dP dQ avw avv (by kernel_rfl) [eL dJ.enc x0,eS x1,eI (ji r2.1),eI r2.2.1,eI r2.2.2] xn
  wn
  (Yp (rY x0 x1 (x0.length+1) 0 0) <|
  ln)
  (gW (fun r=>.fD [(.p (.int .i64 r))]) rfl rfl (iY rfl))
def avx : iE:=
 ⟨[((.lb true),(.fD [(zB (qH (V 2) (.li 0)))]))],
 [([],(.qp 132 ars [] 0 (zI (V 2)) []))],[]⟩
theorem avy : P_ Tryz.prog fG fH oU (oN kA 116 [] []) 3 200 116 ars 2 [] [] 0=some avx:=by kernel_rfl
theorem Bc (x0:List dJ)(x1:List UInt8):CTw Tryz.prog sT 116 [(.sl (List.map dJ.enc x0) false),(.fn (.func 119) [] [(.vp [(.str x1)] 0)])] [] 0 (.p (.bool (lU x0 x1))) []:=
 let w2:Int:=nS x0 x1
 let r2:Int:=w2
 mkW (cs:=[]) jc dP dQ avy xC (by kernel_rfl) [eL dJ.enc x0,eS x1,eI r2] xn
  (wW (Di x0 x1)<|wn)
  ln
  (iY rfl)
def R94 : iE:=
 let p0:Pc:=((qM (.slen (V 1)) (.li 4096)),true)::[]
 ⟨[((.lb true),(zB (.and (qM (.slen (V 1)) (.li 4096)) (.not (V 2)))))],
 [(p0,(.call 116 ars (zB (V 2))))],[]⟩
theorem e94 : jo Tryz.prog fG fH oU (oN kA 94 [] []) 3 200 94 [zL (V 0),zS (V 1)] 2=some R94:=by kernel_rfl
theorem YG (x0:List dJ)(x1:List UInt8):CT Tryz.prog sT 94 [eL dJ.enc x0,eS x1] (eB (xG x0 x1)):=
 let w2:Bool:=lU x0 x1
 let r2:Bool:=w2
 qY jc dP dQ e94 xC (by kernel_rfl) [eL dJ.enc x0,eS x1,eB r2] xn
  (wC (ctW rfl (Bc x0 x1))<|wn)
  ln
  (iY rfl)
def aoT : Lo:=
 let p0:Pc:=(aez,false)::[]
 let p1:Pc:=(akU,false)::p0
 let p2:Pc:=((V 8),true)::p1
 let p3:Pc:=(aoI,false)::p2
 let p4:Pc:=((qN (V 11) (.li 0)),false)::p3
 let p5:Pc:=((V 10),true)::p4
 let p6:Pc:=(akV,false)::p5
 let p7:Pc:=((qL (V 13) (.rlen (W 2 6))),true)::p6
 let p8:Pc:=((.not (V 15)),false)::p7
 let p9:Pc:=((.or (.not (V 15)) (.not (V 16))),false)::p7
 .mk [(akV,false),((V 10),true),((qN (V 11) (.li 0)),false),(aoI,false),((V 8),true),(akU,false),(aez,false)] 12 2 [rX,tC] [((.not (qL (V 13) (.rlen (W 2 6)))),1,[(zB (V 12))]),((.or (.or (.not (V 15)) (.not (V 16))) (.not (V 17))),2,[rX]),((.lb true),0,[(zB (V 12)),(zI (aI (V 13) (.li 1)))])] [(p7,(.row (W 2 6) (V 13) (cV 14 dJ.kG))),
 (p7,(.call 91 [JV,(.agg (cW 14 3 dL.kG))] (zB (V 15)))),
 (p8,(.call 91 [JV,(.agg (cW 14 7 dL.kG))] (zB (V 16)))),
 (p9,(.call 91 [JV,(.agg (cW 14 11 dL.kG))] (zB (V 17))))] [] [1,1] [(W 2 6)]
def aoU : LH:=.mk [(qM (V 11) (V 13))] (mI (.rlen (W 2 6)) (V 13)) [((.rlen (W 2 6)),1)] [] 10 [] []
def xJ (r:Bool×Bool×Bool):Nat×List AV:=Ny r.1 [eB r.2.1] [eB r.2.2]
theorem Ea (x0:dK)(x1:Int)(v2:dS)(v3:Bool)(v4:Bool)(v5:Bool)(v6:dS)(v7:Bool)(v8:Bool)(v9:Bool)(v10:Bool)(v11:Int):∀(n:Nat) (u12:Bool) (u13:Int),nU Tryz.prog sT aoT aoU [dK.av x0,eI x1,dS.av v2,eB v3,eB v4,eB v5,dS.av v6,eB v7,eB v8,eB v9,eB v10,eI v11] n [eB u12,eI u13] (xJ (ig x0 v2 n u12 u13))
 |0,u12,u13=>l0
 |n+1,u12,u13=>
  let v14:dJ:=v2.Props.getD (u13:Int).toNat default
  let v15:Bool:=eH x0 v14.dV.Value
  let v16:Bool:=eH x0 v14.dV.Get
  let v17:Bool:=eH x0 v14.dV.Set
  EU rfl [dJ.av v14,eB v15,eB v16,eB v17] xn (wR rfl <|
  wC (A_ x0 v14.dV.Value) <|
  wC (A_ x0 v14.dV.Get) <|
  wC (A_ x0 v14.dV.Set) <|
  wn) ln <|
   rc xJ rx<|rc xJ rx<|rl (rg (Ea x0 x1 v2 v3 v4 v5 v6 v7 v8 v9 v10 v11 n _ _))
def R65 : iE:=
 let p0:Pc:=(aez,true)::[]
 let p1:Pc:=(aez,false)::[]
 let p2:Pc:=((uE (W 2 0) (.li 5)),true)::p1
 let p3:Pc:=((.and (.and (uE (W 2 0) (.li 5)) (V 4)) (qL (W 2 10) (V 1))),true)::p1
 let p4:Pc:=((.and (.and (.and (uE (W 2 0) (.li 5)) (V 4)) (qL (W 2 10) (V 1))) (V 5)),true)::p1
 let p5:Pc:=(aoI,false)::p1
 let p6:Pc:=(akU,false)::p1
 let p7:Pc:=((V 8),true)::p6
 let p8:Pc:=(aoI,false)::p7
 let p9:Pc:=((uN (W 2 1) (.li 1)),true)::p8
 let p10:Pc:=(akV,false)::p8
 let p11:Pc:=((.or akV (.not (V 10))),false)::p8
 let p12:Pc:=((qN (V 11) (.li 0)),false)::p8
 let p13:Pc:=((V 10),true)::p12
 let p14:Pc:=(akV,false)::p13
 let p15:Pc:=((qE (V 12) (.li 0)),true)::p14
 let p16:Pc:=((uE (W 2 0) (.li 1)),false)::p15
 let p17:Pc:=(aal,true)::p16
 let p18:Pc:=(Yv,true)::p17
 let p19:Pc:=(aal,false)::p16
 let p20:Pc:=((uE (W 2 0) (.li 3)),true)::p19
 let p21:Pc:=(Yv,true)::p20
 ⟨[(aez,(zB (V 3))),((.or (.or aoI (.not (V 8))) akU),rX),((.or (.or akV (.not (V 10))) (qN (V 11) (.li 0))),rX),((.not (qE (V 12) (.li 0))),(zB (V 14))),((uE (W 2 0) (.li 1)),(zB Yv)),(aal,(zB (.and Yv (V 15)))),((uE (W 2 0) (.li 3)),(zB (.and Yv (V 16)))),((uE (W 2 0) (.li 4)),(zB (.and (W 2 16) (W 2 17)))),((uE (W 2 0) (.li 5)),(zB (W 2 16))),((.lb true),rX)],
 [([],(.row (W 0 0) (V 1) (cV 2 dS.kG))),
 (p0,(.call 90 aoO (zB (V 3)))),
 (p2,(.call 69 [(.agg (cW 2 7 dL.kG))] (zB (V 4)))),
 (p3,(.call 91 [JV,(.agg (cW 2 7 dL.kG))] (zB (V 5)))),
 (p4,(.row (W 0 0) (W 2 10) (cV 6 dS.kG))),
 (p1,(.call 92 [(.agg (cW 2 7 dL.kG)),(zU (.li 0))] (zB (V 7)))),
 (p5,(.call 92 [(.agg (cW 2 11 dL.kG)),(zU (.li 0))] (zB (V 8)))),
 (p9,(.call 69 [(.agg (cW 2 1 dL.kG))] (zB (V 9)))),
 (p10,(.call 91 [JV,(.agg (cW 2 1 dL.kG))] (zB (V 10)))),
 (p11,(.call 78 [(zL (W 2 6))] (zI (V 11)))),
 (p18,(.call 93 [(zL (W 2 6))] (zB (V 15)))),
 (p21,(.call 94 [(zL (W 2 6)),(zS (W 2 15))] (zB (V 16))))],[aoT]⟩
def H65 : LH:=.mk [] (.li 0) [] [([((V 5),true)],(qM (.li 0) (W 2 10))),([((V 5),true),((V 4),true)],(qL (W 2 10) uF))] 0 [aoU] []
theorem e65 : jo Tryz.prog fG fH oU (oN kA 65 [115,116,117,114,118,119,123,124,125,122,126,127,103,4] [(0,(.mk [2,5,101,102] (.mk [(4,(.sc .bool)),(103,(.sc kI))] [] [] 96) [(.normal,(.mk [(4,(.sc .bool))] [] [] 96)),(.ret,(.mk [(4,(.sc .bool))] [] [] 96))]))]) 3 200 65 [.agg Cj,zI (V 1)] 2=some R65:=by kernel_rfl
theorem XU (x0:dK)(x1:Int):CT Tryz.prog sT 65 [dK.av x0,eI x1] (eB (jv x0 x1)):=
 let v2:dS:=x0.Objects.getD (x1:Int).toNat default
 let v3:Bool:=pK x0 v2 x1
 let v4:Bool:=dM v2.Target
 let v5:Bool:=eH x0 v2.Target
 let v6:dS:=x0.Objects.getD (v2.Target.Ref:Int).toNat default
 let v7:Bool:=nR v2.Target 0
 let v8:Bool:=nR v2.Handler 0
 let v9:Bool:=dM v2.eu
 let v10:Bool:=eH x0 v2.eu
 let v11:Int:=jF v2.Props
 let r12:Bool×Bool×Bool:=ig x0 v2 (v2.Props.length+1) false 0
 let v15:Bool:=xE v2.Props
 let v16:Bool:=xG v2.Props v2.Text
 qY jc dP dQ e65 H65 (by kernel_rfl) [dK.av x0,eI x1,dS.av v2,eB v3,eB v4,eB v5,dS.av v6,eB v7,eB v8,eB v9,eB v10,eI v11,eI (ji r12.1),eB r12.2.1,eB r12.2.2,eB v15,eB v16] (xp (fun h=>decide_eq_true (aiI ( (h.at 0 rfl))))<|xp (fun h=>decide_eq_true (aiJ ( (h.at 0 rfl)) ( (h.at 1 rfl))))<|xn)
  (wR rfl <|
  wC (YC x0 v2 x1) <|
  wC (lZ v2.Target) <|
  wC (A_ x0 v2.Target) <|
  wR rfl <|
  wC (D9 v2.Target 0) <|
  wC (D9 v2.Handler 0) <|
  wC (lZ v2.eu) <|
  wC (A_ x0 v2.eu) <|
  wC (D_ v2.Props) <|
  wC (YF v2.Props) <|
  wC (YG v2.Props v2.Text) <|
  wn)
  (Yp (Ea x0 x1 v2 v3 v4 v5 v6 v7 v8 v9 v10 v11 (v2.Props.length+1) false 0) <|
  ln)
  (gW (fun r=>.p (.bool r)) rfl rfl (gW (fun r=>.p (.bool r)) rfl rfl (gW (fun r=>.p (.bool r)) rfl rfl (gW (fun r=>.p (.bool r)) rfl rfl (gW (fun r=>.p (.bool r)) rfl rfl (gW (fun r=>.p (.bool r)) rfl rfl (gW (fun r=>.p (.bool r)) rfl rfl (gW (fun r=>.p (.bool r)) rfl rfl (gW (fun r=>.p (.bool r)) rfl rfl (iY rfl))))))))))
def asR : Lo:=
 let p0:Pc:=XI::[]
 let p1:Pc:=((qL (V 2) uF),true)::p0
 .mk [XI] 1 2 [tC,tC] [((.not (qL (V 2) uF)),1,[(zI (V 1))]),(QG,2,[Ut]),((.lb true),0,[(zI (V 1)),ak3])] [(p1,(.call 65 [JV,(zI (V 2))] (zB (V 3))))] [] [1,1] []
def asT : LH:=.mk [abT] (mI uF (V 2)) [(uF,1)] [] 0 [] []
def Bd (r:Bool×Int×Int):Nat×List AV:=Ny r.1 [eI r.2.1] [eI r.2.2]
theorem HY (x0:dK):∀(n:Nat) (u1:Int) (u2:Int),nU Tryz.prog sT asR asT [dK.av x0] n [eI u1,eI u2] (Bd (qX x0 n u1 u2))
 |0,u1,u2=>l0
 |n+1,u1,u2=>
  let v3:Bool:=jv x0 u2
  EU rfl [eB v3] xn (wC (XU x0 u2)<|wn) ln <|
   rc Bd rx<|rc Bd rx<|rl (rg (HY x0 n _ _))
def R25 : iE:=
 let p0:Pc:=XI::[]
 let p1:Pc:=(O1,true)::p0
 ⟨[((qG uF (.li 4096)),Ut),((.not O1),(zI (V 3))),((V 4),Ut),((.lb true),tC)],
 [(p1,(.call 66 [JV] (zB (V 4))))],[asR]⟩
def H25 : LH:=.mk [] (.li 0) [] [] 0 [asT] []
theorem e25 : jo Tryz.prog fG fH oU (oN kA 25 [3,11,2] [(0,(.mk [1,10] (.mk [(2,(.sc kI)),(11,(.sc kI))] [] [] 10) [(.normal,(.mk [(2,(.sc kI))] [] [] 10)),(.ret,(.mk [(2,(.sc kI))] [] [] 10))]))]) 3 200 25 [.agg Cj] 1=some R25:=by kernel_rfl
theorem YH (x0:dK):CT Tryz.prog sT 25 [dK.av x0] (eI (kR x0)):=
 let r1:Bool×Int×Int:=qX x0 (x0.Objects.length+1) 0 0
 let v4:Bool:=qW x0
 qY jc dP dQ e25 H25 (by kernel_rfl) [dK.av x0,eI (ji r1.1),eI r1.2.1,eI r1.2.2,eB v4] xn
  (wCp (by intro h;exact YA x0 (ard (LP (h.at 1 rfl)) (kP.1 (h.at 0 rfl))) (LP (h.at 1 rfl)))<|wn)
  (Yp (HY x0 (x0.Objects.length+1) 0 0) <|
  ln)
  (gW (fun r=>.p (.int .i64 r)) rfl rfl (gW (fun r=>.p (.int .i64 r)) rfl rfl (gW (fun r=>.p (.int .i64 r)) rfl rfl (iY rfl))))
def R67 : iE:=
 ⟨[((.lb true),(.agg (cV 0 dS.kG)))],
 [([],(.under [] (.TI 18 (W 0 6)))),
 ([],(.under [] (.len2 0 (W 0 6))))],[]⟩
theorem e67 : jo Tryz.prog fG fH oU (oN kA 67 [] []) 3 200 67 [.agg (cV 0 dS.kG)] 1=some R67:=by kernel_rfl
theorem aeH (x0:dS):CT Tryz.prog sT 67 [dS.av x0] (dS.av (Qm x0)):=
 qY jc dP dQ e67 xC (by kernel_rfl) [dS.av x0] xn
  (wU (axd (f:=dJ.enc) rfl wn) <|
  wU (asl wn) <|
  wn)
  ln
  (iY rfl)
def R26 : iE:=
 let p0:Pc:=(SN,false)::[]
 let p1:Pc:=((qH (V 1) uF),false)::p0
 let p2:Pc:=((qL (V 1) (.li 0)),false)::p1
 ⟨[(SN,(.fD [axt,(zI (V 2))])),(arw,(.fD [axt,(zI (.li 2))])),((.lb true),(.fD [(.agg QH),tC]))],
 [([],(.call 25 [JV] (zI (V 2)))),
 (p2,(.row (W 0 0) (V 1) (cV 3 dS.kG))),
 (p2,(.call 67 [(.agg (cV 3 dS.kG))] (.agg QH)))],[]⟩
theorem e26 : jo Tryz.prog fG fH oU (oN kA 26 [] []) 3 200 26 [.agg Cj,zI (V 1)] 2=some R26:=by kernel_rfl
theorem O4 (x0:dK)(x1:Int):CT Tryz.prog sT 26 [dK.av x0,eI x1] (pJ (Bo x0 x1)):=
 let v2:Int:=kR x0
 let v3:dS:=x0.Objects.getD (x1:Int).toNat default
 let v4:dS:=Qm v3
 qY jc dP dQ e26 xC (by kernel_rfl) [dK.av x0,eI x1,eI v2,dS.av v3,dS.av v4] xn
  (wC (YH x0) <|
  wR rfl <|
  wC (aeH v3) <|
  wn)
  ln
  (gW pJ rfl rfl (gW pJ rfl rfl (iY rfl)))
def R70 : iE:=
 let p0:Pc:=((V 2),false)::[]
 let p1:Pc:=((V 2),true)::[]
 let p2:Pc:=((qH (W 1 3) uF),false)::p1
 let p3:Pc:=((V 4),true)::p2
 ⟨[((.not (V 2)),(zB (V 3))),((.or Uu (qH (W 1 3) uF)),rX),((.lb true),(zB (.or (.or (.and (uE (W 1 0) (.li 8)) (W 5 17)) (.and (.and (uE (W 1 0) (.li 7)) (W 5 16)) (.not (W 5 17)))) (.and (.and (uE (W 1 0) (.li 6)) (.not (W 5 16))) (.not (W 5 17))))))],
 [([],(.call 69 [XM] (zB (V 2)))),
 (p0,(.call 96 [XM] (zB (V 3)))),
 (p1,(.call 96 [XM] (zB (V 4)))),
 (p3,(.row (W 0 0) (W 1 3) (cV 5 dS.kG)))],[]⟩
def H70 : LH:=.mk [] (.li 0) [] [([((V 4),true)],(qM (.li 0) (W 1 3)))] 0 [] []
theorem e70 : jo Tryz.prog fG fH oU (oN kA 70 [] []) 3 200 70 [.agg Cj,.agg (cV 1 dL.kG)] 2=some R70:=by kernel_rfl
theorem XV (x0:dK)(x1:dL):CT Tryz.prog sT 70 [dK.av x0,dL.av x1] (eB (kV x0 x1)):=
 let v2:Bool:=dM x1
 let v3:Bool:=iZ x1
 let v4:Bool:=iZ x1
 let v5:dS:=x0.Objects.getD (x1.Ref:Int).toNat default
 qY jc dP dQ e70 H70 (by kernel_rfl) [dK.av x0,dL.av x1,eB v2,eB v3,eB v4,dS.av v5] (xp (fun h=>decide_eq_true (Qx ( (h.at 0 rfl))))<|xn)
  (wC (lZ x1) <|
  wC (vU x1) <|
  wC (vU x1) <|
  wR rfl <|
  wn)
  ln
  (gW (fun r=>.p (.bool r)) rfl rfl (gW (fun r=>.p (.bool r)) rfl rfl (iY rfl)))
def R31 : iE:=
 let p0:Pc:=((uE (W 1 0) (.li 1)),false)::[]
 let p1:Pc:=((.or (uE (W 1 0) (.li 1)) (V 2)),true)::[]
 ⟨[((.lb true),(zB (.and (.or (uE (W 1 0) (.li 1)) (V 2)) (V 3))))],
 [(p0,(.call 69 [XM] (zB (V 2)))),
 (p1,(.call 70 [JV,XM] (zB (V 3))))],[]⟩
theorem e31 : jo Tryz.prog fG fH oU (oN kA 31 [] []) 3 200 31 [.agg Cj,.agg (cV 1 dL.kG)] 2=some R31:=by kernel_rfl
theorem QK (x0:dK)(x1:dL):CT Tryz.prog sT 31 [dK.av x0,dL.av x1] (eB (jV x0 x1)):=
 let v2:Bool:=dM x1
 let v3:Bool:=kV x0 x1
 qY jc dP dQ e31 xC (by kernel_rfl) [dK.av x0,dL.av x1,eB v2,eB v3] xn
  (wC (lZ x1) <|
  wC (XV x0 x1) <|
  wn)
  ln
  (iY rfl)
def asU : Lo:=
 let p0:Pc:=((V 5),true)::[]
 let p1:Pc:=((qE (W 4 3) (V 1)),false)::p0
 .mk [] 3 2 [rX,abS] [((.not (V 5)),1,[(zB (V 3)),aey]),((qE (W 4 3) (V 1)),2,[Hr,aey]),((uE (W 6 0) (.li 6)),2,[rX,aey]),((.lb true),0,[(zB (V 3)),(.agg (cW 6 1 dL.kG))])] [([],(.call 69 [aey] (zB (V 5)))),
 (p1,(.row (W 0 0) (W 4 3) (cV 6 dS.kG)))] [] [2,2] []
def asV : LH:=.mk [] .nl [] [([((V 5),true)],(qM (.li 0) (W 4 3))),([((V 5),true)],(qL (W 4 3) uF))] 0 [] []
def pY (r:Bool×Bool×dL×Bool×dL):Nat×List AV:=Ny r.1 [eB r.2.1,dL.av r.2.2.1] [eB r.2.2.2.1,dL.av r.2.2.2.2]
theorem zZ (x0:dK)(x1:Int)(x2:dL):∀(n:Nat) (u3:Bool) (u4:dL) (hC:kR x0=0) (h2:hIn x0 x2) (q0:hIn x0 u4) (_:jX x0 x1 n u3 u4=true),nU Tryz.prog sT asU asV [dK.av x0,eI x1,dL.av x2] n [eB u3,dL.av u4] (pY (jP x0 x1 n u3 u4))
 |0,u3,u4,_,_,_,hE=>absurd (show false=true from hE) Bool.false_ne_true
 |n+1,u3,u4,hC,h2,q0,hE=>
  let v5:Bool:=dM u4
  let v6:dS:=x0.Objects.getD (u4.Ref:Int).toNat default
  have hE:(bif (!v5) then true
  else bif (dZ u4.Ref x1) then true
  else bif (dZ v6.Kind 6) then true
  else jX x0 x1 n u3 v6.eu)=true:=hE
  EU rfl [eB v5,dS.av v6] (xp (fun h=>decide_eq_true (asz q0 ( (h.at 0 rfl))))<|xp (fun h=>decide_eq_true (aiH q0 ( (h.at 0 rfl))))<|xn) (wC (lZ u4) <|
  wR rfl <|
  wn) ln <|
   rcf pY (fun g0=>rx)<|fun g0=>rcf pY (fun g1=>rx)<|fun g1=>rcf pY (fun g2=>rx)<|fun g2=>rl (rg (zZ x0 x1 x2 n _ _ hC h2 (avc hC) (EW g2 (EW g1 (EW g0 hE)))))
def R32 : iE:=
 ⟨[((qE (V 3) (.li 0)),rX),((.lb true),(zB (V 6)))],
 [],[asU]⟩
def H32 : LH:=.mk [] (.li 0) [] [] 0 [asV] []
theorem e32 : jo Tryz.prog fG fH oU (oN kA 32 [6] [(0,(.mk [1,3,5] (.mk [(6,(.sc .bool))] [(1,[kU,.kC,.str,kI])] [] 3) [(.normal,(.mk [(6,(.sc .bool))] [(1,[kU,.kC,.str,kI])] [] 3)),(.ret,(.mk [(6,(.sc .bool))] [(1,[kU,.kC,.str,kI])] [] 3))]))]) 3 200 32 [.agg Cj,zI (V 1),.agg (cV 2 dL.kG)] 3=some R32:=by kernel_rfl
theorem O5 (x0:dK)(x1:Int)(x2:dL)(hC:kR x0=0)(h2:hIn x0 x2):CT Tryz.prog sT 32 [dK.av x0,eI x1,dL.av x2] (eB (jd x0 x1 x2)):=
 let r3:Bool×Bool×dL×Bool×dL:=jP x0 x1 (x0.Objects.length+1) false x2
 qY jc dP dQ e32 H32 (by kernel_rfl) [dK.av x0,eI x1,dL.av x2,eI (ji r3.1),eB r3.2.1,dL.av r3.2.2.1,eB r3.2.2.2.1,dL.av r3.2.2.2.2] xn
  wn
  (Yp (zZ x0 x1 x2 (x0.Objects.length+1) false x2 hC h2 h2 (XA hC h2)) (hn:=Int.natCast_pos.2 (Nat.succ_pos _)) <|
  ln)
  (gW (fun r=>.p (.bool r)) rfl rfl (iY rfl))
def R9 : iE:=
 let p0:Pc:=((qN (W 3 1) (.li 0)),false)::[]
 let p1:Pc:=((V 4),true)::p0
 ⟨[((qN (W 3 1) (.li 0)),(.fD [rX,(zI (W 3 1))])),(Uu,(.fD [rX,Ut])),((.lb true),(.fD [(zB (V 5)),tC]))],
 [([],(.call 26 [JV,(zI (V 1))] (.fD [(.agg (kQ 3 [0] 0 dS.kG)),(zI (W 3 1))]))),
 (p0,(.call 31 [JV,abS] (zB (V 4)))),
 (p1,(.call 32 [JV,(zI (V 1)),abS] (zB (V 5))))],[]⟩
theorem e9 : jo Tryz.prog fG fH oU (oN kA 9 [] []) 3 200 9 [.agg Cj,zI (V 1),.agg (cV 2 dL.kG)] 3=some R9:=by kernel_rfl
theorem QL (x0:dK)(x1:Int)(x2:dL):CT Tryz.prog sT 9 [dK.av x0,eI x1,dL.av x2] (ny (u_ x0 x1 x2)):=
 let v3:dS×Int:=Bo x0 x1
 let v4:Bool:=jV x0 x2
 let v5:Bool:=jd x0 x1 x2
 qY jc dP dQ e9 xC (by kernel_rfl) [dK.av x0,eI x1,dL.av x2,pJ v3,eB v4,eB v5] xn
  (wC (O4 x0 x1) <|
  wC (QK x0 x2) <|
  wCp (by intro h;exact O5 x0 x1 x2 (ave (h.at 1 rfl)) (aek (h.at 0 rfl))) <|
  wn)
  ln
  (gW ny rfl rfl (gW ny rfl rfl (iY rfl)))
def azP : iE:=
 let p0:Pc:=(aiT,true)::[]
 ⟨[((.lb true),(zB (.and aiT (.bin .gtr .kC (.bin .quo .kC XJ (V 0)) (.lf 0)))))],
 [(p0,(.fop .quo XJ (V 0)))],[]⟩
theorem azQ : jo Tryz.prog fG fH oU (oN kA 104 [] []) 3 200 104 [zF (V 0)] 1=some azP:=by kernel_rfl
theorem Ux (x0:Nat):CT Tryz.prog sT 104 [eF x0] (eB (jk x0)):=
 qY jc dP dQ azQ xC (by kernel_rfl) [eF x0] xn
  (wX (fun h _=>aqh (awQ (h.at 0 rfl)))<|wn)
  ln
  (iY rfl)
def azR : iE:=
 let p0:Pc:=((.bin .leq .kC (V 0) (.lf 4845873199050653695)),true)::[]
 let p1:Pc:=((.bin .geq .kC (V 0) (.lf 14069245235905429503)),true)::p0
 let p2:Pc:=((.bin .neq .kC (.toF (.UJ (V 0))) (V 0)),false)::p1
 let p3:Pc:=(aiT,true)::p2
 ⟨[((.not (.and (.bin .geq .kC (V 0) (.lf 14069245235905429503)) (.bin .leq .kC (V 0) (.lf 4845873199050653695)))),(.fD [tC,rX])),((.or (.bin .neq .kC (.toF (.UJ (V 0))) (V 0)) (.and aiT (.bin .lss .kC (.bin .quo .kC XJ (V 0)) (.lf 0)))),(.fD [tC,rX])),((.lb true),(.fD [(zI (.UJ (V 0))),Hr]))],
 [(p1,(.num .i64 (V 0) (.UJ (V 0)))),
 (p3,(.fop .quo XJ (V 0)))],[]⟩
theorem azS : jo Tryz.prog fG fH oU (oN kA 123 [] []) 3 200 123 [zF (V 0)] 1=some azR:=by kernel_rfl
theorem XW (x0:Nat):CT Tryz.prog sT 123 [eF x0] (iG (BI x0)):=
 qY jc dP dQ azS xC (by kernel_rfl) [eF x0] xn
  (wX (fun h _=>num1 (h.at 0 rfl) (h.at 1 rfl)) <|
  wX (fun h _=>aqh (awQ (h.at 0 rfl))) <|
  wn)
  ln
  (gW iG rfl rfl (gW iG rfl rfl (iY rfl)))
def azT : iE:=
 ⟨[((.lb true),(zB (.or (W 1 1) ak2)))],
 [([],(.call 123 [(zF (V 0))] (.fD [(zI (W 1 0)),(zB (W 1 1))])))],[]⟩
theorem azU : jo Tryz.prog fG fH oU (oN kA 105 [] []) 3 200 105 [zF (V 0)] 1=some azT:=by kernel_rfl
theorem abV (x0:Nat):CT Tryz.prog sT 105 [eF x0] (eB (Dx x0)):=
 let v1:Int×Bool:=BI x0
 qY jc dP dQ azU xC (by kernel_rfl) [eF x0,iG v1] xn
  (wC (XW x0)<|wn)
  ln
  (iY rfl)
def R72 : iE:=
 let p0:Pc:=(aiS,false)::[]
 let p1:Pc:=(QD,true)::p0
 ⟨[(aiS,rX),((.lb true),(zB (.and (.and (.ite QD (V 2) (.ite Yu (.or (V 1) (.bin .eql .kC (W 0 1) XJ)) (V 1))) (.or (sE (W 0 2) (.ls [])) (.and (uE (W 0 0) (.li 4)) (qM (.slen (W 0 2)) (.li 4096))))) (.or (qE (W 0 3) (.li 0)) (.and (.bin .geq kU (W 0 0) (.li 5)) (qG (W 0 3) (.li 0)))))))],
 [(p0,(.call 104 [(zF (W 0 1))] (zB (V 1)))),
 (p1,(.call 105 [(zF (W 0 1))] (zB (V 2))))],[]⟩
theorem e72 : jo Tryz.prog fG fH oU (oN kA 72 [] []) 3 200 72 [.agg Em] 1=some R72:=by kernel_rfl
theorem vV (x0:dL):CT Tryz.prog sT 72 [dL.av x0] (eB (iw x0)):=
 let v1:Bool:=jk x0.Num
 let v2:Bool:=Dx x0.Num
 qY jc dP dQ e72 xC (by kernel_rfl) [dL.av x0,eB v1,eB v2] xn
  (wC (Ux x0.Num) <|
  wC (abV x0.Num) <|
  wn)
  ln
  (gW (fun r=>.p (.bool r)) rfl rfl (iY rfl))
def azV : iE:=
 let p0:Pc:=((uE (W 0 0) (.li 1)),true)::[]
 ⟨[((.lb true),(zB (.and (uE (W 0 0) (.li 1)) (V 1))))],
 [(p0,(.call 72 [(.agg Em)] (zB (V 1))))],[]⟩
theorem azW : jo Tryz.prog fG fH oU (oN kA 121 [] []) 3 200 121 [.agg Em] 1=some azV:=by kernel_rfl
theorem wJ (x0:dL):CT Tryz.prog sT 121 [dL.av x0] (eB (jQ x0)):=
 let v1:Bool:=iw x0
 qY jc dP dQ azW xC (by kernel_rfl) [dL.av x0,eB v1] xn
  (wC (vV x0)<|wn)
  ln
  (iY rfl)
def R34 : iE:=
 ⟨[((.lb true),(zB (.or (.or (uE (W 0 0) (.li 6)) (uE (W 0 0) (.li 7))) (uE (W 0 0) (.li 8)))))],
 [],[]⟩
theorem e34 : jo Tryz.prog fG fH oU (oN kA 34 [] []) 3 200 34 [.agg Em] 1=some R34:=by kernel_rfl
theorem kW (x0:dL):CT Tryz.prog sT 34 [dL.av x0] (eB (eX x0)):=
 qY jc dP dQ e34 xC (by kernel_rfl) [dL.av x0] xn
  wn
  ln
  (iY rfl)
def R73 : iE:=
 ⟨[((.lb true),(.agg [(zU (.ite (W 0 17) (.li 8) (.ite (W 0 16) (.li 7) (.li 6)))),(zF (.lf 0)),(zS (.ls [])),(zI (V 1))]))],
 [],[]⟩
theorem e73 : jo Tryz.prog fG fH oU (oN kA 73 [] []) 3 200 73 [.agg (cV 0 dS.kG),zI (V 1)] 2=some R73:=by kernel_rfl
theorem LW (x0:dS)(x1:Int):CT Tryz.prog sT 73 [dS.av x0,eI x1] (dL.av (yj x0 x1)):=
 qY jc dP dQ e73 xC (by kernel_rfl) [dS.av x0,eI x1] xn
  wn
  ln
  (iY rfl)
def azX : iE:=
 let p0:Pc:=((V 2),true)::[]
 let p1:Pc:=((V 3),true)::p0
 let p2:Pc:=((qL (W 1 3) uF),true)::p1
 ⟨[((.not (V 2)),rX),(QG,Hr),((.lb true),axu)],
 [([],(.call 72 [XM] (zB (V 2)))),
 (p0,(.call 34 [XM] (zB (V 3)))),
 (p2,(.row (W 0 0) (W 1 3) QH)),
 (p2,(.call 73 [(.agg QH),(zI (W 1 3))] (.agg (cV 5 dL.kG))))],[]⟩
def azY : LH:=.mk [] (.li 0) [] [([((V 2),true)],(qM (.li 0) (W 1 3)))] 0 [] []
theorem e100 : jo Tryz.prog fG fH oU (oN kA 100 [] []) 3 200 100 [.agg Cj,.agg (cV 1 dL.kG)] 2=some azX:=by kernel_rfl
theorem tq (x0:dK)(x1:dL):CT Tryz.prog sT 100 [dK.av x0,dL.av x1] (eB (jE x0 x1)):=
 let v2:Bool:=iw x1
 let v3:Bool:=eX x1
 let v4:dS:=x0.Objects.getD (x1.Ref:Int).toNat default
 let v5:dL:=yj v4 x1.Ref
 qY jc dP dQ e100 azY (by kernel_rfl) [dK.av x0,dL.av x1,eB v2,eB v3,dS.av v4,dL.av v5] (xp (fun h=>decide_eq_true (QC ( (h.at 0 rfl))))<|xn)
  (wC (vV x1) <|
  wC (kW x1) <|
  wR rfl <|
  wC (LW v4 x1.Ref) <|
  wn)
  ln
  (gW (fun r=>.p (.bool r)) rfl rfl (gW (fun r=>.p (.bool r)) rfl rfl (iY rfl)))
def R97 : iE:=
 let p0:Pc:=((.or aeu (W 1 5)),false)::[]
 let p1:Pc:=(ak0,false)::[]
 let p2:Pc:=(ak4,false)::p1
 let p3:Pc:=((V 3),true)::p2
 let p4:Pc:=((W 1 5),false)::p3
 let p5:Pc:=(aeu,false)::p4
 let p6:Pc:=((V 4),false)::p5
 let p7:Pc:=((.or (V 4) (V 5)),true)::p5
 let p8:Pc:=((V 6),true)::p7
 let p9:Pc:=((V 5),false)::p5
 let p10:Pc:=((V 4),false)::p9
 let p11:Pc:=((.not (V 8)),false)::p10
 let p12:Pc:=(avo,false)::p10
 let p13:Pc:=((.or avo (.not (V 10))),false)::p10
 let p14:Pc:=((V 11),true)::p10
 let p15:Pc:=((V 10),true)::p14
 let p16:Pc:=((qH (W 1 14) (V 2)),false)::p15
 let p17:Pc:=((qH (W 1 10) (V 2)),false)::p16
 let p18:Pc:=((V 9),true)::p17
 let p19:Pc:=((V 8),true)::p18
 ⟨[((.or (.or (.or (.or aeu (W 1 5)) QG) ak4) ak0),rX),((.or (V 4) (V 5)),(zB (.and (V 6) (V 7)))),((.or (.or avo (.not (V 10))) (.not (V 11))),rX),((.lb true),(zB (.and (.bin .eql .bool (W 12 16) (W 1 16)) (.bin .eql .bool (W 12 17) (W 1 17)))))],
 [(p0,(.call 121 [(.agg (cW 1 1 dL.kG))] (zB (V 3)))),
 (p5,(.call 121 [ahb] (zB (V 4)))),
 (p6,(.call 121 [aoN] (zB (V 5)))),
 (p7,(.call 121 [ahb] (zB (V 6)))),
 (p8,(.call 121 [aoN] (zB (V 7)))),
 (p10,(.call 34 [ahb] (zB (V 8)))),
 (p11,(.call 34 [aoN] (zB (V 9)))),
 (p12,(.call 100 [JV,ahb] (zB (V 10)))),
 (p13,(.call 100 [JV,aoN] (zB (V 11)))),
 (p19,(.row (W 0 0) (W 1 10) (cV 12 dS.kG)))],[]⟩
def H97 : LH:=.mk [] (.li 0) [] [([((V 10),true)],(qM (.li 0) (W 1 10))),([((V 10),true),((V 8),true)],(qL (W 1 10) uF))] 0 [] []
theorem e97 : jo Tryz.prog fG fH oU (oN kA 97 [] []) 3 200 97 [.agg Cj,.agg (cV 1 dS.kG),zI (V 2)] 3=some R97:=by kernel_rfl
theorem XY (x0:dK)(x1:dS)(x2:Int):CT Tryz.prog sT 97 [dK.av x0,dS.av x1,eI x2] (eB (yu x0 x1 x2)):=
 let v3:Bool:=jQ x1.eu
 let v4:Bool:=jQ x1.Target
 let v5:Bool:=jQ x1.Handler
 let v6:Bool:=jQ x1.Target
 let v7:Bool:=jQ x1.Handler
 let v8:Bool:=eX x1.Target
 let v9:Bool:=eX x1.Handler
 let v10:Bool:=jE x0 x1.Target
 let v11:Bool:=jE x0 x1.Handler
 let v12:dS:=x0.Objects.getD (x1.Target.Ref:Int).toNat default
 qY jc dP dQ e97 H97 (by kernel_rfl) [dK.av x0,dS.av x1,eI x2,eB v3,eB v4,eB v5,eB v6,eB v7,eB v8,eB v9,eB v10,eB v11,dS.av v12] (xp (fun h=>decide_eq_true (aoA ( (h.at 0 rfl))))<|xp (fun h=>decide_eq_true (aoB ( (h.at 0 rfl)) ( (h.at 1 rfl))))<|xn)
  (wC (wJ x1.eu) <|
  wC (wJ x1.Target) <|
  wC (wJ x1.Handler) <|
  wC (wJ x1.Target) <|
  wC (wJ x1.Handler) <|
  wC (kW x1.Target) <|
  wC (kW x1.Handler) <|
  wC (tq x0 x1.Target) <|
  wC (tq x0 x1.Handler) <|
  wR rfl <|
  wn)
  ln
  (gW (fun r=>.p (.bool r)) rfl rfl (gW (fun r=>.p (.bool r)) rfl rfl (gW (fun r=>.p (.bool r)) rfl rfl (iY rfl))))
def R98 : iE:=
 let p0:Pc:=(aak,true)::[]
 ⟨[((.lb true),(zB (.and aak (V 1))))],
 [(p0,(.call 72 [(.agg Em)] (zB (V 1))))],[]⟩
theorem e98 : jo Tryz.prog fG fH oU (oN kA 98 [] []) 3 200 98 [.agg Em] 1=some R98:=by kernel_rfl
theorem N8 (x0:dL):CT Tryz.prog sT 98 [dL.av x0] (eB (sV x0)):=
 let v1:Bool:=iw x0
 qY jc dP dQ e98 xC (by kernel_rfl) [dL.av x0,eB v1] xn
  (wC (vV x0)<|wn)
  ln
  (iY rfl)
def R99 : iE:=
 let p0:Pc:=((uE (W 1 0) (.li 5)),true)::[]
 let p1:Pc:=(avr,true)::[]
 let p2:Pc:=((.and avr (V 4)),true)::[]
 ⟨[((.lb true),(zB (.and (.and avr (V 4)) (uE (W 5 0) (.li 6)))))],
 [(p0,(.call 34 [ahb] (zB (V 3)))),
 (p1,(.call 100 [JV,ahb] (zB (V 4)))),
 (p2,(.row (W 0 0) (W 1 10) (cV 5 dS.kG)))],[]⟩
def H99 : LH:=.mk [] (.li 0) [] [([((V 4),true)],(qM (.li 0) (W 1 10))),([((V 4),true),((V 3),true)],(qL (W 1 10) uF))] 0 [] []
theorem e99 : jo Tryz.prog fG fH oU (oN kA 99 [] []) 3 200 99 [.agg Cj,.agg (cV 1 dS.kG),zI (V 2)] 3=some R99:=by kernel_rfl
theorem SY (x0:dK)(x1:dS)(x2:Int):CT Tryz.prog sT 99 [dK.av x0,dS.av x1,eI x2] (eB (wI x0 x1 x2)):=
 let v3:Bool:=eX x1.Target
 let v4:Bool:=jE x0 x1.Target
 let v5:dS:=x0.Objects.getD (x1.Target.Ref:Int).toNat default
 qY jc dP dQ e99 H99 (by kernel_rfl) [dK.av x0,dS.av x1,eI x2,eB v3,eB v4,dS.av v5] (xp (fun h=>decide_eq_true (aoA ( (h.at 0 rfl))))<|xp (fun h=>decide_eq_true (aoB ( (h.at 0 rfl)) ( (h.at 1 rfl))))<|xn)
  (wC (kW x1.Target) <|
  wC (tq x0 x1.Target) <|
  wR rfl <|
  wn)
  ln
  (iY rfl)
def R38 : iE:=
 ⟨[((.or (.or (qL (W 0 1) (.li 0)) (qG XL (.li 4096))) (.and Yx (qG XL (.li 0)))),Ut),((.lb true),tC)],
 [],[]⟩
theorem e38 : jo Tryz.prog fG fH oU (oN kA 38 [] []) 3 200 38 [.agg (cV 0 dI.kG)] 1=some R38:=by kernel_rfl
theorem Eb (x0:dI):CT Tryz.prog sT 38 [dI.av x0] (eI (fP x0)):=
 qY jc dP dQ e38 xC (by kernel_rfl) [dI.av x0] xn
  wn
  ln
  (gW (fun r=>.p (.int .i64 r)) rfl rfl (iY rfl))
def azZ : iE:=
 ⟨[((.lb true),(zB (uE (.bin .rem kU (.bin .quo kU (W 0 0) (V 1)) (.li 2)) (.li 1))))],
 [([],(.tm (uN (V 1) (.li 0))))],[]⟩
theorem az0 : jo Tryz.prog fG fH oU (oN kA 150 [] []) 3 200 150 [.agg xI,zU (V 1)] 2=some azZ:=by kernel_rfl
theorem nD (x0:dN)(x1:Int):CT Tryz.prog sT 150 [dN.av x0,eU x1] (eB (fE x0 x1)):=
 qY jc dP dQ az0 xC (by kernel_rfl) [dN.av x0,eU x1] xn
  (wT<|wn)
  ln
  (iY rfl)
def az1 : iE:=
 let p0:Pc:=((V 1),false)::[]
 ⟨[((.lb true),(zB (.or (V 1) (V 2))))],
 [([],(.call 150 [(.agg xI),(zU (.li 1))] (zB (V 1)))),
 (p0,(.call 150 [(.agg xI),(zU (.li 2))] (zB (V 2))))],[]⟩
theorem az2 : jo Tryz.prog fG fH oU (oN kA 147 [] []) 3 200 147 [.agg xI] 1=some az1:=by kernel_rfl
theorem Uy (x0:dN):CT Tryz.prog sT 147 [dN.av x0] (eB (kD x0)):=
 let v1:Bool:=fE x0 1
 let v2:Bool:=fE x0 2
 qY jc dP dQ az2 xC (by kernel_rfl) [dN.av x0,eB v1,eB v2] xn
  (wC (nD x0 1) <|
  wC (nD x0 2) <|
  wn)
  ln
  (iY rfl)
def az3 : iE:=
 let p0:Pc:=((V 1),false)::[]
 ⟨[((.lb true),(zB (.or (V 1) (V 2))))],
 [([],(.call 150 [(.agg xI),(zU (.li 4))] (zB (V 1)))),
 (p0,(.call 150 [(.agg xI),(zU (.li 8))] (zB (V 2))))],[]⟩
theorem az4 : jo Tryz.prog fG fH oU (oN kA 148 [] []) 3 200 148 [.agg xI] 1=some az3:=by kernel_rfl
theorem QM (x0:dN):CT Tryz.prog sT 148 [dN.av x0] (eB (jf x0)):=
 let v1:Bool:=fE x0 4
 let v2:Bool:=fE x0 8
 qY jc dP dQ az4 xC (by kernel_rfl) [dN.av x0,eB v1,eB v2] xn
  (wC (nD x0 4) <|
  wC (nD x0 8) <|
  wn)
  ln
  (iY rfl)
def az5 : iE:=
 let p0:Pc:=((.bin .neq .kC (V 1) (V 1)),false)::[]
 let p1:Pc:=(ak2,false)::p0
 let p2:Pc:=((.bin .eql .kC (V 0) (V 1)),true)::p1
 let p3:Pc:=(aiR,false)::p2
 ⟨[((.or ak2 (.bin .neq .kC (V 1) (V 1))),(zB (.and ak2 (.bin .neq .kC (V 1) (V 1))))),((.lb true),(zB (.and (.bin .eql .kC (V 0) (V 1)) (.or aiR (.bin .eql .kC (.bin .quo .kC XJ (V 0)) (.bin .quo .kC XJ (V 1)))))))],
 [(p3,(.fop .quo XJ (V 0))),
 (p3,(.fop .quo XJ (V 1)))],[]⟩
theorem e162 : jo Tryz.prog fG fH oU (oN kA 162 [] []) 3 200 162 [zF (V 0),zF (V 1)] 2=some az5:=by kernel_rfl
theorem YI (x0:Nat)(x1:Nat):CT Tryz.prog sT 162 [eF x0,eF x1] (eB (D7 x0 x1)):=
 qY jc dP dQ e162 xC (by kernel_rfl) [eF x0,eF x1] xn
  (wX (fun h _=>aqh (awR (h.at 0 rfl))) <|
  wX (fun h _=>aqh (ayI (h.at 1 rfl))) <|
  wn)
  ln
  (gW (fun r=>.p (.bool r)) rfl rfl (iY rfl))
def az6 : iE:=
 let p0:Pc:=(avp,true)::[]
 ⟨[((.lb true),(zB (.and avp (V 2))))],
 [(p0,(.call 162 [(zF (W 0 1)),(zF (W 1 1))] (zB (V 2))))],[]⟩
theorem az7 : jo Tryz.prog fG fH oU (oN kA 158 [] []) 3 200 158 [.agg Em,.agg (cV 1 dL.kG)] 2=some az6:=by kernel_rfl
theorem XZ (x0:dL)(x1:dL):CT Tryz.prog sT 158 [dL.av x0,dL.av x1] (eB (BH x0 x1)):=
 let v2:Bool:=D7 x0.Num x1.Num
 qY jc dP dQ az7 xC (by kernel_rfl) [dL.av x0,dL.av x1,eB v2] xn
  (wC (YI x0.Num x1.Num)<|wn)
  ln
  (iY rfl)
def az8 : iE:=
 ⟨[((.lb true),(zB (V 1)))],
 [([],(.call 158 [(.agg Em),(.agg [(zU (.li 0)),(zF (.lf 0)),(zS (.ls [])),tC])] (zB (V 1))))],[]⟩
theorem az9 : jo Tryz.prog fG fH oU (oN kA 149 [] []) 3 200 149 [.agg Em] 1=some az8:=by kernel_rfl
theorem FY (x0:dL):CT Tryz.prog sT 149 [dL.av x0] (eB (iR x0)):=
 let v1:Bool:=BH x0 (dL.mk 0 0 [] 0)
 qY jc dP dQ az9 xC (by kernel_rfl) [dL.av x0,eB v1] xn
  (wC (XZ x0 (dL.mk 0 0 [] 0))<|wn)
  ln
  (iY rfl)
def az_ : iE:=
 ⟨[((.lb true),(zB (.or (uE (W 0 0) (.li 7)) (uE (W 0 0) (.li 8)))))],
 [],[]⟩
theorem aAa : jo Tryz.prog fG fH oU (oN kA 159 [] []) 3 200 159 [.agg Em] 1=some az_:=by kernel_rfl
theorem X3 (x0:dL):CT Tryz.prog sT 159 [dL.av x0] (eB (Lr x0)):=
 qY jc dP dQ aAa xC (by kernel_rfl) [dL.av x0] xn
  wn
  ln
  (iY rfl)
def aAb : iE:=
 let p0:Pc:=((V 1),true)::[]
 let p1:Pc:=(aak,false)::p0
 ⟨[((.lb true),(zB (.and (V 1) (.or aak (V 2)))))],
 [([],(.call 72 [(.agg Em)] (zB (V 1)))),
 (p1,(.call 159 [(.agg Em)] (zB (V 2))))],[]⟩
theorem aAc : jo Tryz.prog fG fH oU (oN kA 151 [] []) 3 200 151 [.agg Em] 1=some aAb:=by kernel_rfl
theorem JJ (x0:dL):CT Tryz.prog sT 151 [dL.av x0] (eB (iO x0)):=
 let v1:Bool:=iw x0
 let v2:Bool:=Lr x0
 qY jc dP dQ aAc xC (by kernel_rfl) [dL.av x0,eB v1,eB v2] xn
  (wC (vV x0) <|
  wC (X3 x0) <|
  wn)
  ln
  (iY rfl)
def aAd : iE:=
 let p0:Pc:=((.bin .gtr kU (W 0 0) (.li 63)),false)::[]
 let p1:Pc:=((V 1),true)::p0
 let p2:Pc:=((.and (V 1) (V 2)),false)::[]
 let p3:Pc:=((.bin .gtr kU (W 0 0) (.li 63)),false)::p2
 let p4:Pc:=((V 4),true)::p3
 let p5:Pc:=((V 7),true)::p3
 let p6:Pc:=((V 10),true)::p3
 let p7:Pc:=((.not (W 0 13)),false)::p3
 let p8:Pc:=((.or (.not (W 0 13)) (V 12)),true)::p3
 let p9:Pc:=((.not (W 0 14)),false)::p8
 let p10:Pc:=((.and (.or (.not (W 0 13)) (V 12)) (.or (.not (W 0 14)) (V 13))),true)::p3
 let p11:Pc:=((.not (W 0 15)),false)::p10
 ⟨[((.or (.bin .gtr kU (W 0 0) (.li 63)) (.and (V 1) (V 2))),(zI (.li 90))),((.or (.or (.or (.not (.ite (V 4) (V 5) (V 3))) (.not (.ite (V 7) (V 8) (V 6)))) (.not (.ite (V 10) (V 11) (V 9)))) (.not (.and (.and (.or (.not (W 0 13)) (V 12)) (.or (.not (W 0 14)) (V 13))) (.or (.not (W 0 15)) (V 14))))),(zI (.li 90))),((.lb true),tC)],
 [(p0,(.call 147 [(.agg xI)] (zB (V 1)))),
 (p1,(.call 148 [(.agg xI)] (zB (V 2)))),
 (p3,(.call 149 [(.agg (cW 0 1 dL.kG))] (zB (V 3)))),
 (p3,(.call 150 [(.agg xI),(zU (.li 1))] (zB (V 4)))),
 (p4,(.call 72 [(.agg (cW 0 1 dL.kG))] (zB (V 5)))),
 (p3,(.call 149 [(.agg (cW 0 5 dL.kG))] (zB (V 6)))),
 (p3,(.call 150 [(.agg xI),(zU (.li 4))] (zB (V 7)))),
 (p5,(.call 151 [(.agg (cW 0 5 dL.kG))] (zB (V 8)))),
 (p3,(.call 149 [(.agg (cW 0 9 dL.kG))] (zB (V 9)))),
 (p3,(.call 150 [(.agg xI),(zU (.li 8))] (zB (V 10)))),
 (p6,(.call 151 [(.agg (cW 0 9 dL.kG))] (zB (V 11)))),
 (p7,(.call 150 [(.agg xI),(zU (.li 2))] (zB (V 12)))),
 (p9,(.call 150 [(.agg xI),(zU (.li 16))] (zB (V 13)))),
 (p11,(.call 150 [(.agg xI),(zU (.li 32))] (zB (V 14))))],[]⟩
theorem e129 : jo Tryz.prog fG fH oU (oN kA 129 [] []) 3 200 129 [.agg xI] 1=some aAd:=by kernel_rfl
theorem X4 (x0:dN):CT Tryz.prog sT 129 [dN.av x0] (eI (jM x0)):=
 let v1:Bool:=kD x0
 let v2:Bool:=jf x0
 let v3:Bool:=iR x0.Value
 let v4:Bool:=fE x0 1
 let v5:Bool:=iw x0.Value
 let v6:Bool:=iR x0.Get
 let v7:Bool:=fE x0 4
 let v8:Bool:=iO x0.Get
 let v9:Bool:=iR x0.Set
 let v10:Bool:=fE x0 8
 let v11:Bool:=iO x0.Set
 let v12:Bool:=fE x0 2
 let v13:Bool:=fE x0 16
 let v14:Bool:=fE x0 32
 qY jc dP dQ e129 xC (by kernel_rfl) [dN.av x0,eB v1,eB v2,eB v3,eB v4,eB v5,eB v6,eB v7,eB v8,eB v9,eB v10,eB v11,eB v12,eB v13,eB v14] xn
  (wC (Uy x0) <|
  wC (QM x0) <|
  wC (FY x0.Value) <|
  wC (nD x0 1) <|
  wC (vV x0.Value) <|
  wC (FY x0.Get) <|
  wC (nD x0 4) <|
  wC (JJ x0.Get) <|
  wC (FY x0.Set) <|
  wC (nD x0 8) <|
  wC (JJ x0.Set) <|
  wC (nD x0 2) <|
  wC (nD x0 16) <|
  wC (nD x0 32) <|
  wn)
  ln
  (gW (fun r=>.p (.int .i64 r)) rfl rfl (gW (fun r=>.p (.int .i64 r)) rfl rfl (iY rfl)))
def aAe : iE:=
 ⟨[((.lb true),(zB (.and O1 (.or (uE (W 0 0) (.li 51)) (uE (W 0 0) (.li 60))))))],
 [([],(.call 129 [(.agg xI)] (zI (V 1))))],[]⟩
theorem aAf : jo Tryz.prog fG fH oU (oN kA 110 [] []) 3 200 110 [.agg xI] 1=some aAe:=by kernel_rfl
theorem S9 (x0:dN):CT Tryz.prog sT 110 [dN.av x0] (eB (fU x0)):=
 let v1:Int:=jM x0
 qY jc dP dQ aAf xC (by kernel_rfl) [dN.av x0,eI v1] xn
  (wC (X4 x0)<|wn)
  ln
  (iY rfl)
def asW : Lo:=
 let p0:Pc:=QF::[]
 .mk [] 2 2 [tC,tC] [((.not XK),1,[(zI (V 2))]),((.and (sE (W 4 0) (W 1 0)) (qE (W 4 1) (W 1 1))),2,[(zI (V 3))]),((.lb true),0,[(zI (V 2)),NC])] [(p0,(.row (V 0) (V 3) XO))] [] [1,1] [(V 0)]
def asX : LH:=.mk [Yy] Yz [(wz,1)] [] 0 [] [[],[(qL (V 2) wz)]]
def zn (r:Bool×Int×Int):Nat×List AV:=Ny r.1 [eI r.2.1] [eI r.2.2]
theorem Fe (x0:List dJ)(x1:dI):∀(n:Nat) (u2:Int) (u3:Int),nU Tryz.prog sT asW asX [eL dJ.enc x0,dI.av x1] n [eI u2,eI u3] (zn (nJ x0 x1 n u2 u3))
 |0,u2,u3=>l0
 |n+1,u2,u3=>
  let v4:dJ:=x0.getD (u3:Int).toNat default
  EU rfl [dJ.av v4] xn (wR rfl<|wn) ln <|
   rc zn rx<|rc zn rx<|rl (rg (Fe x0 x1 n _ _))
def R77 : iE:=
 ⟨[(aex,(zI (V 4))),((.lb true),(zI (.li (-1))))],
 [],[asW]⟩
def H77 : LH:=.mk [] (.li 0) [] [] 0 [asX] []
theorem e77 : jo Tryz.prog fG fH oU (oN kA 77 [5,4] [(0,(.mk [0,3] (.mk [(4,(.sc kI)),(5,(.sc kI))] [] [] 3) [(.normal,(.mk [(4,(.sc kI))] [] [] 3)),(.ret,(.mk [(4,(.sc kI))] [] [] 3))]))]) 3 200 77 [zL (V 0),.agg (cV 1 dI.kG)] 2=some R77:=by kernel_rfl
theorem LX (x0:List dJ)(x1:dI):CT Tryz.prog sT 77 [eL dJ.enc x0,dI.av x1] (eI (kS x0 x1)):=
 let r2:Bool×Int×Int:=nJ x0 x1 (x0.length+1) 0 0
 qY jc dP dQ e77 H77 (by kernel_rfl) [eL dJ.enc x0,dI.av x1,eI (ji r2.1),eI r2.2.1,eI r2.2.2] xn
  wn
  (Yp (Fe x0 x1 (x0.length+1) 0 0) <|
  ln)
  (gW (fun r=>.p (.int .i64 r)) rfl rfl (iY rfl))
def asY : Lo:=
 let p0:Pc:=(aam,false)::[]
 let p1:Pc:=((qL (V 2) wz),true)::p0
 let p2:Pc:=((qN (V 4) (.li 0)),false)::p1
 let p3:Pc:=((V 6),true)::p2
 .mk [(aam,false)] 1 2 [tC,tC] [((.not (qL (V 2) wz)),1,[(zI (V 1))]),((qN (V 4) (.li 0)),2,[Ut]),((.not (V 6)),2,[(zI (.li 90))]),((qH (V 9) (.li 0)),2,[(zI (.li 100))]),((.lb true),0,[(zI (V 1)),ak3])] [(p1,(.row (V 0) (V 2) (cV 3 dJ.kG))),
 (p1,(.call 38 [(.agg [(zS (W 3 0)),(zI (W 3 1))])] (zI (V 4)))),
 (p2,(.row (V 0) (V 2) (cV 5 dJ.kG))),
 (p2,(.call 110 [(.agg (cW 5 2 dN.kG))] (zB (V 6)))),
 (p3,(.sub 18 (V 0) (some (.li 0)) (some (V 2)) (V 7))),
 (p3,(.row (V 0) (V 2) (cV 8 dJ.kG))),
 (p3,(.call 77 [(zL (V 7)),(.agg ag_)] (zI (V 9))))] [] [1,1] [(V 0)]
def asZ : LH:=.mk [abT] (mI wz (V 2)) [(wz,1)] [] 0 [] []
def qC (r:Bool×Int×Int):Nat×List AV:=Ny r.1 [eI r.2.1] [eI r.2.2]
theorem Fg (x0:List dJ):∀(n:Nat) (u1:Int) (u2:Int),nU Tryz.prog sT asY asZ [eL dJ.enc x0] n [eI u1,eI u2] (qC (pq x0 n u1 u2))
 |0,u1,u2=>l0
 |n+1,u1,u2=>
  let v3:dJ:=x0.getD (u2:Int).toNat default
  let v4:Int:=fP v3.Key
  let v5:dJ:=x0.getD (u2:Int).toNat default
  let v6:Bool:=fU v5.dV
  let v7:List dJ:=(x0.drop ((0:Int).toNat)).take ((u2:Int).toNat-(0:Int).toNat)
  let v8:dJ:=x0.getD (u2:Int).toNat default
  let v9:Int:=kS v7 v8.Key
  EU rfl [dJ.av v3,eI v4,dJ.av v5,eB v6,eL dJ.enc v7,dJ.av v8,eI v9] xn (wR rfl <|
  wC (Eb v3.Key) <|
  wR rfl <|
  wC (S9 v5.dV) <|
  azn rfl <|
  wR rfl <|
  wC (LX v7 v8.Key) <|
  wn) ln <|
   rc qC rx<|rc qC rx<|rc qC rx<|rc qC rx<|rl (rg (Fg x0 n _ _))
def R80 : iE:=
 ⟨[(aam,(zI (.li 4))),((.not O1),(zI (V 3))),((.lb true),tC)],
 [],[asY]⟩
def H80 : LH:=.mk [] (.li 0) [] [] 0 [asZ] []
theorem e80 : jo Tryz.prog fG fH oU (oN kA 80 [3,2] [(0,(.mk [0] (.mk [(2,(.sc kI)),(3,(.sc kI))] [] [] 5) [(.normal,(.mk [(2,(.sc kI))] [] [] 5)),(.ret,(.mk [(2,(.sc kI))] [] [] 5))]))]) 3 200 80 [zL (V 0)] 1=some R80:=by kernel_rfl
theorem Ec (x0:List dJ):CT Tryz.prog sT 80 [eL dJ.enc x0] (eI (iJ x0)):=
 let r1:Bool×Int×Int:=pq x0 (x0.length+1) 0 0
 qY jc dP dQ e80 H80 (by kernel_rfl) [eL dJ.enc x0,eI (ji r1.1),eI r1.2.1,eI r1.2.2] xn
  wn
  (Yp (Fg x0 (x0.length+1) 0 0) <|
  ln)
  (gW (fun r=>.p (.int .i64 r)) rfl rfl (gW (fun r=>.p (.int .i64 r)) rfl rfl (iY rfl)))
def aoV : Lo:=
 let p0:Pc:=(SN,false)::[]
 let p1:Pc:=((qL (V 4) Ht),true)::p0
 let p2:Pc:=((.not (V 6)),false)::p1
 let p3:Pc:=((.or (.not (V 6)) (.not (V 7))),false)::p1
 .mk [(SN,false)] 3 2 [rX,tC] [((.not (qL (V 4) Ht)),1,[(zB (V 3))]),((.or (.or (.not (V 6)) (.not (V 7))) (.not (V 8))),2,[rX]),((.lb true),0,[(zB (V 3)),aeD])] [(p1,(.row (V 1) (V 4) (cV 5 dJ.kG))),
 (p1,(.call 100 [JV,(.agg (cW 5 3 dL.kG))] (zB (V 6)))),
 (p2,(.call 100 [JV,(.agg (cW 5 7 dL.kG))] (zB (V 7)))),
 (p3,(.call 100 [JV,(.agg (cW 5 11 dL.kG))] (zB (V 8))))] [] [1,1] [(V 1)]
def aoW : LH:=.mk [(qM (V 2) (V 4))] (mI Ht (V 4)) [(Ht,1)] [] 1 [] []
def zo (r:Bool×Bool×Bool):Nat×List AV:=Ny r.1 [eB r.2.1] [eB r.2.2]
theorem Fh (x0:dK)(x1:List dJ)(v2:Int):∀(n:Nat) (u3:Bool) (u4:Int),nU Tryz.prog sT aoV aoW [dK.av x0,eL dJ.enc x1,eI v2] n [eB u3,eI u4] (zo (rJ x0 x1 n u3 u4))
 |0,u3,u4=>l0
 |n+1,u3,u4=>
  let v5:dJ:=x1.getD (u4:Int).toNat default
  let v6:Bool:=jE x0 v5.dV.Value
  let v7:Bool:=jE x0 v5.dV.Get
  let v8:Bool:=jE x0 v5.dV.Set
  EU rfl [dJ.av v5,eB v6,eB v7,eB v8] xn (wR rfl <|
  wC (tq x0 v5.dV.Value) <|
  wC (tq x0 v5.dV.Get) <|
  wC (tq x0 v5.dV.Set) <|
  wn) ln <|
   rc zo rx<|rc zo rx<|rl (rg (Fh x0 x1 v2 n _ _))
def aAg : iE:=
 ⟨[(SN,rX),((.not (qE (V 3) (.li 0))),(zB (V 5))),((.lb true),Hr)],
 [([],(.call 80 [(zL (V 1))] (zI (V 2))))],[aoV]⟩
def aAh : LH:=.mk [] (.li 0) [] [] 0 [aoW] []
theorem aAi : jo Tryz.prog fG fH oU (oN kA 101 [28,29,27,30,31,35,36,34,37,38,5,4] [(0,(.mk [1,2] (.mk [(4,(.sc .bool)),(5,(.sc kI))] [] [] 6) [(.normal,(.mk [(4,(.sc .bool))] [] [] 6)),(.ret,(.mk [(4,(.sc .bool))] [] [] 6))]))]) 3 200 101 [.agg Cj,zL (V 1)] 2=some aAg:=by kernel_rfl
theorem X5 (x0:dK)(x1:List dJ):CT Tryz.prog sT 101 [dK.av x0,eL dJ.enc x1] (eB (E5 x0 x1)):=
 let v2:Int:=iJ x1
 let r3:Bool×Bool×Bool:=rJ x0 x1 (x1.length+1) false 0
 qY jc dP dQ aAi aAh (by kernel_rfl) [dK.av x0,eL dJ.enc x1,eI v2,eI (ji r3.1),eB r3.2.1,eB r3.2.2] xn
  (wC (Ec x1)<|wn)
  (Yp (Fh x0 x1 v2 (x1.length+1) false 0) <|
  ln)
  (gW (fun r=>.p (.bool r)) rfl rfl (gW (fun r=>.p (.bool r)) rfl rfl (iY rfl)))
def aoX : Lo:=
 let p0:Pc:=(aeB,false)::[]
 let p1:Pc:=((qH (V 2) (.li 10)),true)::p0
 .mk [(aeB,false)] 2 2 [(zI (V 0)),(zS (.ls []))] [((.not (qH (V 2) (.li 10))),1,[(zI (V 2)),(zS (V 3))]),((.lb true),0,[(zI (.bin .quo kI (V 2) (.li 10))),(zS (.bin .add .str (.Ef (.ls DN) akT (aI akT (.li 1))) (V 3)))])] [(p1,(.tm (qM (.li 0) akT))),
 (p1,(.tm (qL akT (.li 128)))),
 (p1,(.cat (.Ef (.ls DN) akT (aI akT (.li 1))) (V 3)))] [] [2] []
def aoY : LH:=.mk [abT,(qM (.slen (V 3)) (.bin .mul kI (.li 128) (mI (.li 1000000) (V 2)))),(qM (V 2) (V 0))] (V 2) [((V 0),1)] [] 2 [] [[(qM (.slen (V 3)) (.li 128000000)),abT,(qL (V 2) (.li 10))]]
def H6 (r:Int×List UInt8):Nat×List AV:=(0,[eI r.1,eS r.2])
theorem H7 (x0:Int)(v1:List UInt8):∀(n:Nat) (u2:Int) (u3:List UInt8),nU Tryz.prog sT aoX aoY [eI x0,eS v1] n [eI u2,eS u3] (H6 (Bl n u2 u3))
 |0,u2,u3=>l0
 |n+1,u2,u3=>
  EU rfl [] xn (wT <|
  wT <|
  aq0 <|
  wn) ln <|
   rc H6 rx<|rl (rg (H7 x0 v1 n _ _))
def aAj : iE:=
 let p0:Pc:=(aeB,true)::[]
 let p1:Pc:=(aeB,false)::[]
 ⟨[(aeB,(zS (.bin .add .str (.ls [45]) (V 1)))),((.lb true),(zS (.bin .add .str (.Ef (.ls DN) akZ (aI akZ (.li 1))) (V 3))))],
 [(p0,(.call 152 [(zI (.neg kI (V 0)))] (zS (V 1)))),
 (p0,(.cat (.ls [45]) (V 1))),
 (p1,(.tm (qM (.li 0) akZ))),
 (p1,(.tm (qL akZ (.li 128)))),
 (p1,(.cat (.Ef (.ls DN) akZ (aI akZ (.li 1))) (V 3)))],[aoX]⟩
def aAk : LH:=.mk [] (.li 0) [] [] 0 [aoY] []
theorem e152 : jo Tryz.prog fG fH oU (oN kA 152 [3,0] [(0,(.mk [2] (.mk [(0,(.sc kI)),(3,(.sc .str))] [] [] 4) [(.normal,(.mk [(0,(.sc kI)),(3,(.sc .str))] [] [] 4))]))]) 3 200 152 [zI (V 0)] 1=some aAj:=by kernel_rfl
theorem YJ (x0:Int):CT Tryz.prog sT 152 [eI x0] (eS (OV x0)):=
 fun hp=>
 let v1:List UInt8:=default
 let r2:Int×List UInt8:=Bl (x0.toNat+1) x0 []
 (qY jc dP dQ e152 aAk (by kernel_rfl) [eI x0,eS v1,eI r2.1,eS r2.2] xn
  (wX (fun h=>absurd (of_decide_eq_true hp.1) (Int.not_le.2 (of_decide_eq_true (h.at 0 rfl)))) <|
  aq0 <|
  wT <|
  wT <|
  aq0 <|
  wn)
  (Z7 (H7 x0 v1 (x0.toNat+1) x0 []) <|
  ln)
  (gW (fun r=>.str r) rfl rfl (iY rfl))) hp
def aAl : iE:=
 let p0:Pc:=((qL (.neg kI (V 0)) (.li 0)),true)::[]
 let p1:Pc:=(aeB,true)::p0
 let p2:Pc:=((.and aeB (qL (.neg kI (V 0)) (.li 0))),false)::[]
 ⟨[((.and aeB (qL (.neg kI (V 0)) (.li 0))),(zS (.bin .add .str (V 1) (V 2)))),((.lb true),(zS (V 3)))],
 [(p1,(.call 130 [(zI (.bin .quo kI (V 0) (.li 10)))] (zS (V 1)))),
 (p1,(.call 130 [(zI (.neg kI (.bin .rem kI (V 0) (.li 10))))] (zS (V 2)))),
 (p1,(.cat (V 1) (V 2))),
 (p2,(.call 152 [(zI (V 0))] (zS (V 3))))],[]⟩
theorem aAm : jo Tryz.prog fG fH oU (oN kA 130 [] []) 3 200 130 [zI (V 0)] 1=some aAl:=by kernel_rfl
theorem YK (x0:Int):CT Tryz.prog sT 130 [eI x0] (eS (qR x0)):=
 fun hp=>
 let v1:List UInt8:=default
 let v2:List UInt8:=default
 let v3:List UInt8:=OV x0
 (qY jc dP dQ aAm xC (by kernel_rfl) [eI x0,eS v1,eS v2,eS v3] xn
  (wX (fun h=>absurd (of_decide_eq_true hp.1) (Int.not_le.2 (of_decide_eq_true (h.at 0 rfl)))) <|
  wX (fun h=>absurd (of_decide_eq_true hp.1) (Int.not_le.2 (of_decide_eq_true (h.at 0 rfl)))) <|
  aq0 <|
  wC (YJ x0) <|
  wn)
  ln
  (gW (fun r=>.str r) rfl rfl (iY rfl))) hp
def aoZ : Lo:=
 let p0:Pc:=(XP,false)::[]
 let p1:Pc:=(Yx,false)::p0
 let p2:Pc:=((qL (V 3) (.li 1024)),true)::p1
 .mk [(Yx,false),(XP,false)] 1 3 [tC,rX,tC] [((.not (qL (V 3) (.li 1024))),1,[(zI (V 1)),(zB (V 2))]),((sE (V 4) (W 0 0)),2,[(zI (V 3)),Hr]),((.lb true),0,[(zI (V 1)),(zB (V 2)),NC])] [(p2,(.call 130 [(zI (V 3))] (zS (V 4))))] [] [2,2] []
def ao0 : LH:=.mk [Yy] (mI (.li 1024) (V 3)) [((.li 1024),1)] [] 0 [] []
def zq (r:Bool×Int×Bool×Int×Bool):Nat×List AV:=Ny r.1 [eI r.2.1,eB r.2.2.1] [eI r.2.2.2.1,eB r.2.2.2.2]
theorem Fj (x0:dI):∀(n:Nat) (u1:Int) (u2:Bool) (u3:Int),nU Tryz.prog sT aoZ ao0 [dI.av x0] n [eI u1,eB u2,eI u3] (zq (rF x0 n u1 u2 u3))
 |0,u1,u2,u3=>l0
 |n+1,u1,u2,u3=>
  let v4:List UInt8:=qR u3
  EU rfl [eS v4] xn (wC (YK u3)<|wn) ln <|
   rc zq rx<|rc zq rx<|rl (rg (Fj x0 n _ _ _))
def aAn : iE:=
 ⟨[((.or Yx XP),(.fD [tC,rX])),((.not O1),(.fD [(zI (V 4)),(zB (V 5))])),((.lb true),(.fD [tC,rX]))],
 [],[aoZ]⟩
def aAo : LH:=.mk [] (.li 0) [] [] 0 [ao0] []
theorem aAp : jo Tryz.prog fG fH oU (oN kA 111 [4,2,3] [(0,(.mk [1] (.mk [(2,(.sc kI)),(3,(.sc .bool)),(4,(.sc kI))] [] [] 13) [(.normal,(.mk [(2,(.sc kI)),(3,(.sc .bool))] [] [] 13)),(.ret,(.mk [(2,(.sc kI)),(3,(.sc .bool))] [] [] 13))]))]) 3 200 111 [.agg (cV 0 dI.kG)] 1=some aAn:=by kernel_rfl
theorem zu (x0:dI):CT Tryz.prog sT 111 [dI.av x0] (iG (lI x0)):=
 let r1:Bool×Int×Bool×Int×Bool:=rF x0 ((1024:Int).toNat+1) 0 false 0
 qY jc dP dQ aAp aAo (by kernel_rfl) [dI.av x0,eI (ji r1.1),eI r1.2.1,eB r1.2.2.1,eI r1.2.2.2.1,eB r1.2.2.2.2] xn
  wn
  (Yp (Fj x0 ((1024:Int).toNat+1) 0 false 0) <|
  ln)
  (gW iG rfl rfl (gW iG rfl rfl (iY rfl)))
def ao1 : Lo:=
 let p0:Pc:=QF::[]
 .mk [] 2 2 [rX,tC] [((.not XK),1,[(zB (V 2))]),((.and (W 5 1) (qH (W 5 0) (V 1))),2,[rX]),((.lb true),0,[(zB (V 2)),NC])] [(p0,(.row (V 0) (V 3) XO)),
 (p0,(.call 111 [(.agg QE)] akX))] [] [1,1] [(V 0)]
def ao2 : LH:=.mk [Yy] Yz [(wz,1)] [] 0 [] []
def zx (r:Bool×Bool×Bool):Nat×List AV:=Ny r.1 [eB r.2.1] [eB r.2.2]
theorem Fp (x0:List dJ)(x1:Int):∀(n:Nat) (u2:Bool) (u3:Int),nU Tryz.prog sT ao1 ao2 [eL dJ.enc x0,eI x1] n [eB u2,eI u3] (zx (lW x0 x1 n u2 u3))
 |0,u2,u3=>l0
 |n+1,u2,u3=>
  let v4:dJ:=x0.getD (u3:Int).toNat default
  let v5:Int×Bool:=lI v4.Key
  EU rfl [dJ.av v4,iG v5] xn (wR rfl <|
  wC (zu v4.Key) <|
  wn) ln <|
   rc zx rx<|rc zx rx<|rl (rg (Fp x0 x1 n _ _))
def aAq : iE:=
 ⟨[(aex,(zB (V 4))),((.lb true),Hr)],
 [],[ao1]⟩
def aAr : LH:=.mk [] (.li 0) [] [] 0 [ao2] []
theorem aAt : jo Tryz.prog fG fH oU (oN kA 122 [7,6,26,25,27,5,4] [(0,(.mk [0,1] (.mk [(4,(.sc .bool)),(5,(.sc kI))] [] [] 2) [(.normal,(.mk [(4,(.sc .bool))] [] [] 2)),(.ret,(.mk [(4,(.sc .bool))] [] [] 2))]))]) 3 200 122 [zL (V 0),zI (V 1)] 2=some aAq:=by kernel_rfl
theorem X6 (x0:List dJ)(x1:Int):CT Tryz.prog sT 122 [eL dJ.enc x0,eI x1] (eB (BO x0 x1)):=
 let r2:Bool×Bool×Bool:=lW x0 x1 (x0.length+1) false 0
 qY jc dP dQ aAt aAr (by kernel_rfl) [eL dJ.enc x0,eI x1,eI (ji r2.1),eB r2.2.1,eB r2.2.2] xn
  wn
  (Yp (Fp x0 x1 (x0.length+1) false 0) <|
  ln)
  (gW (fun r=>.p (.bool r)) rfl rfl (iY rfl))
def aAu : iE:=
 let p0:Pc:=(Yw,false)::[]
 let p1:Pc:=((qE (W 1 1) (.li 0)),true)::[]
 let p2:Pc:=((sE (W 1 0) aoM),true)::p1
 let p3:Pc:=(Yw,false)::p2
 let p4:Pc:=((.bin .leq .kC (W 2 4) (.lf 4652218415073722368)),true)::p3
 let p5:Pc:=((.bin .geq .kC (W 2 4) (.lf 0)),true)::p4
 let p6:Pc:=((uN (W 2 3) (.li 3)),false)::p5
 let p7:Pc:=((W 2 17),false)::p6
 let p8:Pc:=((W 2 16),false)::p7
 let p9:Pc:=((uN (.bin .and kU (W 2 2) (.li 12)) (.li 0)),false)::p8
 ⟨[((.or Yw (.not (.and (sE (W 1 0) aoM) (qE (W 1 1) (.li 0))))),rX),((.or (.or (.or (.or (uN (.bin .and kU (W 2 2) (.li 12)) (.li 0)) (W 2 16)) (W 2 17)) (uN (W 2 3) (.li 3))) (.not (.and (.bin .geq .kC (W 2 4) (.lf 0)) (.bin .leq .kC (W 2 4) (.lf 4652218415073722368))))),rX),((.lb true),(zB (V 3)))],
 [(p0,(.row (V 0) (.li 0) (cV 1 dJ.kG))),
 (p3,(.row (V 0) (.li 0) (cV 2 dJ.kG))),
 (p9,(.num .i64 (W 2 4) (.UJ (W 2 4)))),
 (p9,(.call 122 [(zL (V 0)),(zI (.UJ (W 2 4)))] (zB (V 3))))],[]⟩
theorem aAv : jo Tryz.prog fG fH oU (oN kA 102 [] []) 3 200 102 [zL (V 0)] 1=some aAu:=by kernel_rfl
theorem X7 (x0:List dJ):CT Tryz.prog sT 102 [eL dJ.enc x0] (eB (BP x0)):=
 let v1:dJ:=x0.getD (0:Int).toNat default
 let v2:dJ:=x0.getD (0:Int).toNat default
 let v3:Bool:=BO x0 (((FloatKind.f64.decode v2.dV.Value.Num).toInt .zero).getD 0)
 qY jc dP dQ aAv xC (by kernel_rfl) [eL dJ.enc x0,dJ.av v1,dJ.av v2,eB v3] xn
  (wR rfl <|
  wR rfl <|
  wX (fun h _=>awS (h.at 4 rfl) (h.at 5 rfl)) <|
  wC (X6 x0 (((FloatKind.f64.decode v2.dV.Value.Num).toInt .zero).getD 0)) <|
  wn)
  ln
  (gW (fun r=>.p (.bool r)) rfl rfl (gW (fun r=>.p (.bool r)) rfl rfl (iY rfl)))
def ao3 : Lo:=
 let p0:Pc:=((qG (.slen (V 1)) (.li 4096)),false)::[]
 let p1:Pc:=QF::p0
 let p2:Pc:=(aru,false)::p1
 .mk [((qG (.slen (V 1)) (.li 4096)),false)] 2 2 [rX,tC] [((.not XK),1,[(zB (V 2))]),((.or aru (.and (sE (W 6 0) aoM) (qE (W 6 1) (.li 0)))),2,[rX]),((.lb true),0,[(zB (V 2)),NC])] [(p1,(.row (V 0) (V 3) XO)),
 (p1,(.call 111 [(.agg QE)] akX)),
 (p2,(.row (V 0) (V 3) (cV 6 dJ.kG)))] [] [1,1] [(V 0)]
def ao4 : LH:=.mk [Yy] Yz [(wz,1)] [] 0 [] []
def zy (r:Bool×Bool×Bool):Nat×List AV:=Ny r.1 [eB r.2.1] [eB r.2.2]
theorem Fq (x0:List dJ)(x1:List UInt8):∀(n:Nat) (u2:Bool) (u3:Int),nU Tryz.prog sT ao3 ao4 [eL dJ.enc x0,eS x1] n [eB u2,eI u3] (zy (lY x0 x1 n u2 u3))
 |0,u2,u3=>l0
 |n+1,u2,u3=>
  let v4:dJ:=x0.getD (u3:Int).toNat default
  let v5:Int×Bool:=lI v4.Key
  let v6:dJ:=x0.getD (u3:Int).toNat default
  EU rfl [dJ.av v4,iG v5,dJ.av v6] xn (wR rfl <|
  wC (zu v4.Key) <|
  wR rfl <|
  wn) ln <|
   rc zy rx<|rc zy rx<|rl (rg (Fq x0 x1 n _ _))
def aAw : iE:=
 ⟨[((qG (.slen (V 1)) (.li 4096)),rX),(aex,(zB (V 4))),((.lb true),Hr)],
 [],[ao3]⟩
def aAx : LH:=.mk [] (.li 0) [] [] 0 [ao4] []
theorem aAy : jo Tryz.prog fG fH oU (oN kA 103 [7,6,29,30,28,31,35,34,36,37,39,38,40,5,4] [(0,(.mk [0,1] (.mk [(4,(.sc .bool)),(5,(.sc kI))] [] [] 5) [(.normal,(.mk [(4,(.sc .bool))] [] [] 5)),(.ret,(.mk [(4,(.sc .bool))] [] [] 5))]))]) 3 200 103 [zL (V 0),zS (V 1)] 2=some aAw:=by kernel_rfl
theorem X8 (x0:List dJ)(x1:List UInt8):CT Tryz.prog sT 103 [eL dJ.enc x0,eS x1] (eB (BQ x0 x1)):=
 let r2:Bool×Bool×Bool:=lY x0 x1 (x0.length+1) false 0
 qY jc dP dQ aAy aAx (by kernel_rfl) [eL dJ.enc x0,eS x1,eI (ji r2.1),eB r2.2.1,eB r2.2.2] xn
  wn
  (Yp (Fq x0 x1 (x0.length+1) false 0) <|
  ln)
  (gW (fun r=>.p (.bool r)) rfl rfl (gW (fun r=>.p (.bool r)) rfl rfl (iY rfl)))
def R71 : iE:=
 let p0:Pc:=(aez,true)::[]
 let p1:Pc:=(aez,false)::[]
 let p2:Pc:=(Uu,true)::p1
 let p3:Pc:=((.and Uu (.not (V 5))),false)::p1
 let p4:Pc:=(akU,false)::p1
 let p5:Pc:=((V 6),true)::p4
 let p6:Pc:=((.and Uu (.not (V 5))),false)::p5
 let p7:Pc:=((uN (W 2 1) (.li 1)),true)::p6
 let p8:Pc:=(arv,false)::p6
 let p9:Pc:=((.or arv (.not (V 8))),false)::p6
 let p10:Pc:=((V 9),true)::p6
 let p11:Pc:=((V 8),true)::p10
 let p12:Pc:=(arv,false)::p11
 let p13:Pc:=((uE (W 2 0) (.li 1)),false)::p12
 let p14:Pc:=(aal,true)::p13
 let p15:Pc:=(Yv,true)::p14
 let p16:Pc:=(aal,false)::p13
 let p17:Pc:=((uE (W 2 0) (.li 3)),true)::p16
 let p18:Pc:=(Yv,true)::p17
 ⟨[(aez,(zB (V 3))),((.or (.or (.and Uu (.not (V 5))) (.not (V 6))) akU),rX),((.or (.or arv (.not (V 8))) (.not (V 9))),rX),((uE (W 2 0) (.li 1)),(zB Yv)),(aal,(zB (.and Yv (V 10)))),((uE (W 2 0) (.li 3)),(zB (.and Yv (V 11)))),((uE (W 2 0) (.li 4)),(zB (.and (W 2 16) (W 2 17)))),((uE (W 2 0) (.li 5)),(zB (W 2 16))),((.lb true),rX)],
 [([],(.row (W 0 0) (V 1) (cV 2 dS.kG))),
 (p0,(.call 97 aoO (zB (V 3)))),
 (p1,(.call 98 [(.agg (cW 2 7 dL.kG))] (zB (V 4)))),
 (p2,(.call 99 aoO (zB (V 5)))),
 (p3,(.call 98 [(.agg (cW 2 11 dL.kG))] (zB (V 6)))),
 (p7,(.call 34 [(.agg (cW 2 1 dL.kG))] (zB (V 7)))),
 (p8,(.call 100 [JV,(.agg (cW 2 1 dL.kG))] (zB (V 8)))),
 (p9,(.call 101 [JV,(zL (W 2 6))] (zB (V 9)))),
 (p15,(.call 102 [(zL (W 2 6))] (zB (V 10)))),
 (p18,(.call 103 [(zL (W 2 6)),(zS (W 2 15))] (zB (V 11))))],[]⟩
theorem e71 : jo Tryz.prog fG fH oU (oN kA 71 [] []) 3 200 71 [.agg Cj,zI (V 1)] 2=some R71:=by kernel_rfl
theorem Uz (x0:dK)(x1:Int):CT Tryz.prog sT 71 [dK.av x0,eI x1] (eB (kF x0 x1)):=
 let v2:dS:=x0.Objects.getD (x1:Int).toNat default
 let v3:Bool:=yu x0 v2 x1
 let v4:Bool:=sV v2.Target
 let v5:Bool:=wI x0 v2 x1
 let v6:Bool:=sV v2.Handler
 let v7:Bool:=eX v2.eu
 let v8:Bool:=jE x0 v2.eu
 let v9:Bool:=E5 x0 v2.Props
 let v10:Bool:=BP v2.Props
 let v11:Bool:=BQ v2.Props v2.Text
 qY jc dP dQ e71 xC (by kernel_rfl) [dK.av x0,eI x1,dS.av v2,eB v3,eB v4,eB v5,eB v6,eB v7,eB v8,eB v9,eB v10,eB v11] xn
  (wR rfl <|
  wC (XY x0 v2 x1) <|
  wC (N8 v2.Target) <|
  wC (SY x0 v2 x1) <|
  wC (N8 v2.Handler) <|
  wC (kW v2.eu) <|
  wC (tq x0 v2.eu) <|
  wC (X5 x0 v2.Props) <|
  wC (X7 v2.Props) <|
  wC (X8 v2.Props v2.Text) <|
  wn)
  ln
  (gW (fun r=>.p (.bool r)) rfl rfl (gW (fun r=>.p (.bool r)) rfl rfl (gW (fun r=>.p (.bool r)) rfl rfl (gW (fun r=>.p (.bool r)) rfl rfl (gW (fun r=>.p (.bool r)) rfl rfl (gW (fun r=>.p (.bool r)) rfl rfl (gW (fun r=>.p (.bool r)) rfl rfl (gW (fun r=>.p (.bool r)) rfl rfl (iY rfl)))))))))
def as3 : Lo:=
 let p0:Pc:=XI::[]
 let p1:Pc:=((qL (V 2) uF),true)::p0
 .mk [XI] 1 2 [rX,tC] [((.not (qL (V 2) uF)),1,[(zB (V 1))]),(QG,2,[rX]),((.lb true),0,[(zB (V 1)),ak3])] [(p1,(.call 71 [JV,(zI (V 2))] (zB (V 3))))] [] [1,1] []
def as4 : LH:=.mk [abT] (mI uF (V 2)) [(uF,1)] [] 0 [] []
def CB (r:Bool×Bool×Bool):Nat×List AV:=Ny r.1 [eB r.2.1] [eB r.2.2]
theorem JK (x0:dK):∀(n:Nat) (u1:Bool) (u2:Int),nU Tryz.prog sT as3 as4 [dK.av x0] n [eB u1,eI u2] (CB (sW x0 n u1 u2))
 |0,u1,u2=>l0
 |n+1,u1,u2=>
  let v3:Bool:=kF x0 u2
  EU rfl [eB v3] xn (wC (Uz x0 u2)<|wn) ln <|
   rc CB rx<|rc CB rx<|rl (rg (JK x0 n _ _))
def as5 : Lo:=
 let p0:Pc:=XI::[]
 let p1:Pc:=(O1,true)::p0
 let p2:Pc:=((qL (V 6) uF),true)::p1
 let p3:Pc:=((qE (W 11 0) (.li 0)),true)::p2
 let p4:Pc:=((uE (W 13 1) (.li 1)),false)::p3
 .mk [((qL (V 6) uF),true),(O1,true),XI] 8 3 [(zB (V 5)),(zI (V 6)),(zL (V 7))] [((.not (qE (W 11 0) (.li 0))),1,[(zB (V 8)),(zI (V 9)),(zL (V 10))]),((uE (W 13 1) (.li 1)),1,[(zB (V 8)),(zI (V 9)),(zL (V 12))]),((qE (W 15 0) (aI (V 6) (.li 1))),2,[rX,(zL (V 12))]),((.lb true),0,[(zB (V 8)),(zI (W 14 4)),(zL (V 12))])] [(p2,(.tm (qM (.li 0) (V 9)))),
 (p2,(.tm (qL (V 9) uF))),
 (p2,(.rd (false,1) (V 10) (V 9) 0 (zI (W 11 0)))),
 (p3,(.tm (qM (.li 0) (V 9)))),
 (p3,(.tm (qL (V 9) uF))),
 (p3,(.st (V 10) (V 9) 0 [(zI (aI (V 6) (.li 1)))] (V 12))),
 (p3,(.row (W 0 0) (V 9) (cV 13 dS.kG))),
 (p4,(.row (W 0 0) (V 9) (cV 14 dS.kG))),
 (p4,(.tm (qM (.li 0) (W 14 4)))),
 (p4,(.tm (qL (W 14 4) uF))),
 (p4,(.rd (false,1) (V 12) (W 14 4) 0 (zI (W 15 0))))] [] [3,2] []
def as6 : LH:=.mk [(qM (.li 0) (V 9)),(qL (V 9) uF),(qE QI uF)] .nl [] [([((uN (W 13 1) (.li 1)),true)],(qM (.li 0) (W 14 4))),([((uN (W 13 1) (.li 1)),true),((qL (V 9) uF),true),((qM (.li 0) (V 9)),true)],(qL (W 14 4) uF)),([],(qE (.rlen (V 12)) QI))] 0 [] [[(qE QI (.rlen (V 7)))],[]]
def wY (r:Bool×Bool×Int×List Int×Bool×List Int):Nat×List AV:=Ny r.1 [eB r.2.1,eI r.2.2.1,eL kY r.2.2.2.1] [eB r.2.2.2.2.1,eL kY r.2.2.2.2.2]
theorem JL (x0:dK)(r1:Bool×Bool×Bool)(v4:List Int)(u5:Bool)(u6:Int)(u7:List Int):∀(n:Nat) (u8:Bool) (u9:Int) (u10:List Int) (hP:JH x0) (_:lQ x0 u6 n u8 u9 u10=true),nU Tryz.prog sT as5 as6 [dK.av x0,eI (ji r1.1),eB r1.2.1,eB r1.2.2,eL kY v4,eB u5,eI u6,eL kY u7] n [eB u8,eI u9,eL kY u10] (wY (gK x0 u6 n u8 u9 u10))
 |0,u8,u9,u10,_,hE=>absurd (show false=true from hE) Bool.false_ne_true
 |n+1,u8,u9,u10,hP,hE=>
  let v11:Int:=u10.getD (u9:Int).toNat default
  let v12:List Int:=u10.set (u9:Int).toNat (dY .i64 u6 1)
  let v13:dS:=x0.Objects.getD (u9:Int).toNat default
  let v14:dS:=x0.Objects.getD (u9:Int).toNat default
  let v15:Int:=v12.getD (v14.eu.Ref:Int).toNat default
  have hE:(bif (!(dZ v11 0)) then true
  else bif (dZ v13.eu.Kind 1) then true
  else bif (dZ v15 (dY .i64 u6 1)) then true
  else lQ x0 u6 n u8 v14.eu.Ref v12)=true:=hE
  EU rfl [.agg (kY v11),eL kY v12,dS.av v13,dS.av v14,.agg (kY v15)] (xp (fun h=>decide_eq_true (ad_ hP (GL.1 (h.at 0 rfl))))<|xp (fun h=>decide_eq_true (aiL hP (GL.1 (h.at 0 rfl)) (of_decide_eq_true (h.at 1 rfl)) (of_decide_eq_true (h.at 2 rfl))))<|xc (kP.2 (aoi))<|xn) (wT <|
  wT <|
  wRd rfl <|
  wT <|
  wT <|
  wSt (f:=kY) (dY .i64 u6 1) rfl <|
  wR rfl <|
  wR rfl <|
  wT <|
  wT <|
  wRd rfl <|
  wn) ln <|
   rcf wY (fun g0=>rx)<|fun g0=>rcf wY (fun g1=>rx)<|fun g1=>rcf wY (fun g2=>rx)<|fun g2=>rl (rg (JL x0 r1 v4 u5 u6 u7 n _ _ _ hP (EW g2 (EW g1 (EW g0 hE)))))
def ao5 : Lo:=
 let p0:Pc:=XI::[]
 let p1:Pc:=(O1,true)::p0
 let p2:Pc:=((qL (V 6) uF),true)::p1
 let p3:Pc:=((qE (V 8) (.li 0)),true)::p2
 let p4:Pc:=((qE (W 16 0) (aI (V 6) (.li 1))),true)::p3
 let p5:Pc:=((uE (W 18 1) (.li 1)),false)::p4
 .mk [((qE (V 8) (.li 0)),true),((qL (V 6) uF),true),(O1,true),XI] 14 2 [(zI (V 6)),(zL (V 11))] [((.not (qE (W 16 0) (aI (V 6) (.li 1)))),1,[(zI (V 14)),(zL (V 15))]),((uE (W 18 1) (.li 1)),1,[(zI (V 14)),(zL (V 17))]),((.lb true),0,[(zI (W 19 4)),(zL (V 17))])] [(p3,(.tm (qM (.li 0) (V 14)))),
 (p3,(.tm (qL (V 14) uF))),
 (p3,(.rd (false,1) (V 15) (V 14) 0 (zI (W 16 0)))),
 (p4,(.tm (qM (.li 0) (V 14)))),
 (p4,(.tm (qL (V 14) uF))),
 (p4,(.st (V 15) (V 14) 0 [(zI (.li (-1)))] (V 17))),
 (p4,(.row (W 0 0) (V 14) (cV 18 dS.kG))),
 (p5,(.row (W 0 0) (V 14) (cV 19 dS.kG)))] [] [2] []
def ao6 : LH:=.mk [(qM (.li 0) (V 14)),(qL (V 14) uF),(qE (.rlen (V 15)) (.rlen (V 11)))] .nl [] [([((uN (W 18 1) (.li 1)),true)],(qM (.li 0) (W 19 4))),([((uN (W 18 1) (.li 1)),true),((qL (V 14) uF),true),((qM (.li 0) (V 14)),true)],(qL (W 19 4) uF)),([],(qE (.rlen (V 17)) (.rlen (V 15))))] 0 [] [[(qE (.rlen (V 15)) (.rlen (V 11)))]]
def Bf (r:Int×List Int):Nat×List AV:=(0,[eI r.1,eL kY r.2])
theorem H9 (x0:dK)(r1:Bool×Bool×Bool)(v4:List Int)(u5:Bool)(u6:Int)(u7:List Int)(r8:Bool×Bool×Int×List Int×Bool×List Int):∀(n:Nat) (u14:Int) (u15:List Int) (hP:JH x0) (_:lg x0 u6 n u14 u15=true),nU Tryz.prog sT ao5 ao6 [dK.av x0,eI (ji r1.1),eB r1.2.1,eB r1.2.2,eL kY v4,eB u5,eI u6,eL kY u7,eI (ji r8.1),eB r8.2.1,eI r8.2.2.1,eL kY r8.2.2.2.1,eB r8.2.2.2.2.1,eL kY r8.2.2.2.2.2] n [eI u14,eL kY u15] (Bf (lS x0 u6 n u14 u15))
 |0,u14,u15,_,hE=>absurd (show false=true from hE) Bool.false_ne_true
 |n+1,u14,u15,hP,hE=>
  let v16:Int:=u15.getD (u14:Int).toNat default
  let v17:List Int:=u15.set (u14:Int).toNat (-1)
  let v18:dS:=x0.Objects.getD (u14:Int).toNat default
  let v19:dS:=x0.Objects.getD (u14:Int).toNat default
  have hE:(bif (!(dZ v16 (dY .i64 u6 1))) then true
  else bif (dZ v18.eu.Kind 1) then true
  else lg x0 u6 n v19.eu.Ref v17)=true:=hE
  EU rfl [.agg (kY v16),eL kY v17,dS.av v18,dS.av v19] (xp (fun h=>decide_eq_true (ad_ hP (GL.1 (h.at 0 rfl))))<|xp (fun h=>decide_eq_true (aiL hP (GL.1 (h.at 0 rfl)) (of_decide_eq_true (h.at 1 rfl)) (of_decide_eq_true (h.at 2 rfl))))<|xc (kP.2 (aoi))<|xn) (wT <|
  wT <|
  wRd rfl <|
  wT <|
  wT <|
  wSt (f:=kY) (-1) rfl <|
  wR rfl <|
  wR rfl <|
  wn) ln <|
   rcf Bf (fun g0=>rx)<|fun g0=>rcf Bf (fun g1=>rx)<|fun g1=>rl (rg (H9 x0 r1 v4 u5 u6 u7 r8 n _ _ hP (EW g1 (EW g0 hE))))
def as7 : Lo:=
 .mk [(O1,true),XI] 5 3 [(zB (V 2)),tC,(zL (V 4))] [((.not (qL (V 6) uF)),1,[(zB (V 5)),(zL (V 7))]),((.not (qE (V 8) (.li 0))),2,[(zB (V 12)),(zL (V 13))]),((.lb true),0,[(zB (V 9)),(zI (aI (V 6) (.li 1))),(zL (V 15))])] [] [as5,ao5] [2,2] []
def as8 : LH:=.mk [(qM (V 1) (V 6)),(qE (.rlen (V 7)) (.rlen (V 4)))] (mI uF (V 6)) [(uF,1)] [] 1 [as6,ao6] []
def CG (r:Bool×Bool×List Int×Bool×List Int):Nat×List AV:=Ny r.1 [eB r.2.1,eL kY r.2.2.1] [eB r.2.2.2.1,eL kY r.2.2.2.2]
theorem JM (x0:dK)(r1:Bool×Bool×Bool)(v4:List Int):∀(n:Nat) (u5:Bool) (u6:Int) (u7:List Int) (hP:JH x0) (hB:x0.Objects.length<=4294967296) (k0:0<=u6) (k1:u7.length=x0.Objects.length),nU Tryz.prog sT as7 as8 [dK.av x0,eI (ji r1.1),eB r1.2.1,eB r1.2.2,eL kY v4] n [eB u5,eI u6,eL kY u7] (CG (nC x0 n u5 u6 u7))
 |0,u5,u6,u7,_,_,_,_=>l0
 |n+1,u5,u6,u7,hP,hB,k0,k1=>
  let r8:Bool×Bool×Int×List Int×Bool×List Int:=gK x0 u6 (x0.Objects.length+1) u5 u6 u7
  let r14:Int×List Int:=lS x0 u6 (x0.Objects.length+1) u6 r8.2.2.2.1
  EU rfl [eI (ji r8.1),eB r8.2.1,eI r8.2.2.1,eL kY r8.2.2.2.1,eB r8.2.2.2.2.1,eL kY r8.2.2.2.2.2,eI r14.1,eL kY r14.2] xn wn (axp (fun h=>JL x0 r1 v4 u5 u6 u7 (x0.Objects.length+1) u5 u6 u7 hP (aen hP hB k0 (h.at 0 rfl) k1)) (hn:=Int.natCast_pos.2 (Nat.succ_pos _)) <|
  azt (fun h=>H9 x0 r1 v4 u5 u6 u7 r8 (x0.Objects.length+1) u6 r8.2.2.2.1 hP (XF hP hB k0 (h.at 1 rfl) k1 (h.at 0 rfl))) (hn:=Int.natCast_pos.2 (Nat.succ_pos _)) <|
  ln) <|
   rcf CG (fun g0=>rx)<|fun g0=>rcf CG (fun g1=>rx)<|fun g1=>rl (rg (JM x0 r1 v4 n _ _ _ hP hB (aom hB k0 g0) (ark hP hB k0 g0 k1 g1)))
def R33 : iE:=
 let p0:Pc:=XI::[]
 let p1:Pc:=(O1,true)::p0
 ⟨[((qG uF (.li 4096)),rX),((.not O1),(zB (V 3))),((.not (qE (V 5) (.li 0))),(zB (V 8))),((.lb true),Hr)],
 [(p1,(.mk uF uF [tC] (V 4)))],[as3,as7]⟩
def H33 : LH:=.mk [] (.li 0) [] [] 0 [as4,as8] []
theorem e33 : jo Tryz.prog fG fH oU (oN kA 33 [7,6,4,2] [(2,(.mk [1,3,5] (.mk [(2,(.sc .bool)),(6,(.sc kI))] [] [(10,1)] 13) [(.normal,(.mk [(2,(.sc .bool))] [] [(10,1)] 13)),(.ret,(.mk [(2,(.sc .bool))] [] [(10,1)] 13))])),(6,(.mk [1,2,3,5,6] (.mk [(7,(.sc kI))] [] [(10,1)] 20) [(.normal,(.mk [(7,(.sc kI))] [] [(10,1)] 20))])),(4,(.mk [1,3,5,6] (.mk [(2,(.sc .bool)),(7,(.sc kI))] [] [(10,1)] 18) [(.normal,(.mk [(2,(.sc .bool)),(7,(.sc kI))] [] [(10,1)] 18)),(.ret,(.mk [(2,(.sc .bool))] [] [(10,1)] 18))])),(0,(.mk [1,3] (.mk [(2,(.sc .bool)),(4,(.sc kI))] [] [] 9) [(.normal,(.mk [(2,(.sc .bool))] [] [] 9)),(.ret,(.mk [(2,(.sc .bool))] [] [] 9))]))]) 3 200 33 [.agg Cj] 1=some R33:=by kernel_rfl
theorem Jo (x0:dK):CT Tryz.prog sT 33 [dK.av x0] (eB (oP x0)):=
 let r1:Bool×Bool×Bool:=sW x0 (x0.Objects.length+1) false 0
 let v4:List Int:=List.replicate ((je dS.enc x0.Objects):Int).toNat 0
 let r5:Bool×Bool×List Int×Bool×List Int:=nC x0 (x0.Objects.length+1) r1.2.1 0 v4
 qY jc dP dQ e33 H33 (by kernel_rfl) [dK.av x0,eI (ji r1.1),eB r1.2.1,eB r1.2.2,eL kY v4,eI (ji r5.1),eB r5.2.1,eL kY r5.2.2.1,eB r5.2.2.2.1,eL kY r5.2.2.2.2] xn
  (wMk (f:=kY) 0 rfl<|wn)
  (Yp (JK x0 (x0.Objects.length+1) false 0) <|
  axp (fun h=>JM x0 r1 v4 (x0.Objects.length+1) r1.2.1 0 v4 (aoC (LP (h.at 1 rfl)) (kP.1 (h.at 0 rfl))) (LP (h.at 1 rfl)) (Int.le_refl _) arl) <|
  ln)
  (gW (fun r=>.p (.bool r)) rfl rfl (gW (fun r=>.p (.bool r)) rfl rfl (gW (fun r=>.p (.bool r)) rfl rfl (iY rfl))))
def R35 : iE:=
 let p0:Pc:=((V 2),true)::[]
 let p1:Pc:=((V 3),true)::p0
 let p2:Pc:=((qL (W 1 3) uF),true)::p1
 ⟨[((.not (V 2)),rX),(QG,Hr),((.lb true),axu)],
 [([],(.call 72 [XM] (zB (V 2)))),
 (p0,(.call 34 [XM] (zB (V 3)))),
 (p2,(.row (W 0 0) (W 1 3) QH)),
 (p2,(.call 73 [(.agg QH),(zI (W 1 3))] (.agg (cV 5 dL.kG))))],[]⟩
def H35 : LH:=.mk [] (.li 0) [] [([((V 2),true)],(qM (.li 0) (W 1 3)))] 0 [] []
theorem e35 : jo Tryz.prog fG fH oU (oN kA 35 [] []) 3 200 35 [.agg Cj,.agg (cV 1 dL.kG)] 2=some R35:=by kernel_rfl
theorem aeI (x0:dK)(x1:dL):CT Tryz.prog sT 35 [dK.av x0,dL.av x1] (eB (Ho x0 x1)):=
 let v2:Bool:=iw x1
 let v3:Bool:=eX x1
 let v4:dS:=x0.Objects.getD (x1.Ref:Int).toNat default
 let v5:dL:=yj v4 x1.Ref
 qY jc dP dQ e35 H35 (by kernel_rfl) [dK.av x0,dL.av x1,eB v2,eB v3,dS.av v4,dL.av v5] (xp (fun h=>decide_eq_true (QC ( (h.at 0 rfl))))<|xn)
  (wC (vV x1) <|
  wC (kW x1) <|
  wR rfl <|
  wC (LW v4 x1.Ref) <|
  wn)
  ln
  (gW (fun r=>.p (.bool r)) rfl rfl (gW (fun r=>.p (.bool r)) rfl rfl (iY rfl)))
def as9 : Lo:=
 let p0:Pc:=((V 5),true)::[]
 let p1:Pc:=((qE (W 4 3) (V 1)),false)::p0
 let p2:Pc:=((uE (W 6 0) (.li 6)),false)::p1
 .mk [] 3 2 [rX,abS] [((.not (V 5)),1,[(zB (V 3)),aey]),((qE (W 4 3) (V 1)),2,[Hr,aey]),((uE (W 6 0) (.li 6)),2,[rX,aey]),((.lb true),0,[(zB (V 3)),(.agg (cW 7 1 dL.kG))])] [([],(.call 34 [aey] (zB (V 5)))),
 (p1,(.row (W 0 0) (W 4 3) (cV 6 dS.kG))),
 (p2,(.row (W 0 0) (W 4 3) (cV 7 dS.kG)))] [] [2,2] []
def ata : LH:=.mk [] .nl [] [([((V 5),true)],(qM (.li 0) (W 4 3))),([((V 5),true)],(qL (W 4 3) uF))] 0 [] []
def tu (r:Bool×Bool×dL×Bool×dL):Nat×List AV:=Ny r.1 [eB r.2.1,dL.av r.2.2.1] [eB r.2.2.2.1,dL.av r.2.2.2.2]
theorem Ed (x0:dK)(x1:Int)(x2:dL):∀(n:Nat) (u3:Bool) (u4:dL) (hP:JH x0) (hA:LQ x0) (h2:hIn x0 x2) (q0:hIn x0 u4) (_:oQ x0 x1 n u3 u4=true),nU Tryz.prog sT as9 ata [dK.av x0,eI x1,dL.av x2] n [eB u3,dL.av u4] (tu (qj x0 x1 n u3 u4))
 |0,u3,u4,_,_,_,_,hE=>absurd (show false=true from hE) Bool.false_ne_true
 |n+1,u3,u4,hP,hA,h2,q0,hE=>
  let v5:Bool:=eX u4
  let v6:dS:=x0.Objects.getD (u4.Ref:Int).toNat default
  let v7:dS:=x0.Objects.getD (u4.Ref:Int).toNat default
  have hE:(bif (!v5) then true
  else bif (dZ u4.Ref x1) then true
  else bif (dZ v6.Kind 6) then true
  else oQ x0 x1 n u3 v7.eu)=true:=hE
  EU rfl [eB v5,dS.av v6,dS.av v7] (xp (fun h=>decide_eq_true (avk q0 ( (h.at 0 rfl))))<|xp (fun h=>decide_eq_true (avl q0 ( (h.at 0 rfl))))<|xn) (wC (kW u4) <|
  wR rfl <|
  wR rfl <|
  wn) ln <|
   rcf tu (fun g0=>rx)<|fun g0=>rcf tu (fun g1=>rx)<|fun g1=>rcf tu (fun g2=>rx)<|fun g2=>rl (rg (Ed x0 x1 x2 n _ _ hP hA h2 (avj hP) (EW g2 (EW g1 (EW g0 hE)))))
def R36 : iE:=
 ⟨[((qE (V 3) (.li 0)),rX),((.lb true),(zB (V 6)))],
 [],[as9]⟩
def H36 : LH:=.mk [] (.li 0) [] [] 0 [ata] []
theorem e36 : jo Tryz.prog fG fH oU (oN kA 36 [6] [(0,(.mk [1,3,5] (.mk [(6,(.sc .bool))] [(1,[kU,.kC,.str,kI])] [] 3) [(.normal,(.mk [(6,(.sc .bool))] [(1,[kU,.kC,.str,kI])] [] 3)),(.ret,(.mk [(6,(.sc .bool))] [(1,[kU,.kC,.str,kI])] [] 3))]))]) 3 200 36 [.agg Cj,zI (V 1),.agg (cV 2 dL.kG)] 3=some R36:=by kernel_rfl
theorem UA (x0:dK)(x1:Int)(x2:dL)(hP:JH x0)(hA:LQ x0)(h2:hIn x0 x2):CT Tryz.prog sT 36 [dK.av x0,eI x1,dL.av x2] (eB (zi x0 x1 x2)):=
 let r3:Bool×Bool×dL×Bool×dL:=qj x0 x1 (x0.Objects.length+1) false x2
 qY jc dP dQ e36 H36 (by kernel_rfl) [dK.av x0,eI x1,dL.av x2,eI (ji r3.1),eB r3.2.1,dL.av r3.2.2.1,eB r3.2.2.2.1,dL.av r3.2.2.2.2] xn
  wn
  (Yp (Ed x0 x1 x2 (x0.Objects.length+1) false x2 hP hA h2 h2 (aeo hP hA h2)) (hn:=Int.natCast_pos.2 (Nat.succ_pos _)) <|
  ln)
  (gW (fun r=>.p (.bool r)) rfl rfl (iY rfl))
def R10 : iE:=
 let p0:Pc:=((V 3),true)::[]
 let p1:Pc:=((qH (V 1) uF),false)::p0
 let p2:Pc:=((qL (V 1) (.li 0)),false)::p1
 let p3:Pc:=((uN (W 2 0) (.li 1)),true)::p2
 let p4:Pc:=((.and (uN (W 2 0) (.li 1)) Uu),false)::p2
 let p5:Pc:=((V 5),true)::p2
 let p6:Pc:=((.and (uN (W 2 0) (.li 1)) Uu),false)::p5
 ⟨[(QG,(.fD [rX,Ut])),(arw,(.fD [rX,(zI (.li 2))])),((.or (.and (uN (W 2 0) (.li 1)) Uu) (.not (V 5))),(.fD [rX,Ut])),((.lb true),(.fD [(zB (V 6)),tC]))],
 [([],(.call 33 [JV] (zB (V 3)))),
 (p3,(.call 34 [abS] (zB (V 4)))),
 (p4,(.call 35 [JV,abS] (zB (V 5)))),
 (p6,(.call 36 [JV,(zI (V 1)),abS] (zB (V 6))))],[]⟩
theorem e10 : jo Tryz.prog fG fH oU (oN kA 10 [] []) 3 200 10 [.agg Cj,zI (V 1),.agg (cV 2 dL.kG)] 3=some R10:=by kernel_rfl
theorem X9 (x0:dK)(x1:Int)(x2:dL):CT Tryz.prog sT 10 [dK.av x0,eI x1,dL.av x2] (ny (BR x0 x1 x2)):=
 let v3:Bool:=oP x0
 let v4:Bool:=eX x2
 let v5:Bool:=Ho x0 x2
 let v6:Bool:=zi x0 x1 x2
 qY jc dP dQ e10 xC (by kernel_rfl) [dK.av x0,eI x1,dL.av x2,eB v3,eB v4,eB v5,eB v6] xn
  (wC (Jo x0) <|
  wC (kW x2) <|
  wC (aeI x0 x2) <|
  wCp (by intro h;exact UA x0 x1 x2 (aoG (h.at 4 rfl)) (akS (h.at 4 rfl)) (arj (h.at 1 rfl))) <|
  wn)
  ln
  (gW ny rfl rfl (gW ny rfl rfl (gW ny rfl rfl (iY rfl))))
def R74 : iE:=
 let p0:Pc:=(SN,false)::[]
 ⟨[(SN,(zI (V 2))),((.lb true),(zI (V 3)))],
 [([],(.call 78 [(zL (V 0))] (zI (V 2)))),
 (p0,(.call 83 [akY] (zI (V 3))))],[]⟩
theorem e74 : jo Tryz.prog fG fH oU (oN kA 74 [] []) 3 200 74 [zL (V 0),.agg (cV 1 dI.kG)] 2=some R74:=by kernel_rfl
theorem X_ (x0:List dJ)(x1:dI):CT Tryz.prog sT 74 [eL dJ.enc x0,dI.av x1] (eI (qx x0 x1)):=
 let v2:Int:=jF x0
 let v3:Int:=vM x1
 qY jc dP dQ e74 xC (by kernel_rfl) [eL dJ.enc x0,dI.av x1,eI v2,eI v3] xn
  (wC (D_ x0) <|
  wC (QJ x1) <|
  wn)
  ln
  (gW (fun r=>.p (.int .i64 r)) rfl rfl (iY rfl))
def atb : Lo:=
 let p0:Pc:=QF::[]
 .mk [] 2 2 [tC,tC] [((.not XK),1,[(zI (V 2))]),((.and (sE (W 4 0) (W 1 0)) (qE (W 4 1) (W 1 1))),2,[(zI (V 3))]),((.lb true),0,[(zI (V 2)),NC])] [(p0,(.row (V 0) (V 3) XO))] [] [1,1] [(V 0)]
def atc : LH:=.mk [Yy] Yz [(wz,1)] [] 0 [] [[],[(qL (V 2) wz)]]
def Ee (r:Bool×Int×Int):Nat×List AV:=Ny r.1 [eI r.2.1] [eI r.2.2]
theorem LY (x0:List dJ)(x1:dI):∀(n:Nat) (u2:Int) (u3:Int),nU Tryz.prog sT atb atc [eL dJ.enc x0,dI.av x1] n [eI u2,eI u3] (Ee (xZ x0 x1 n u2 u3))
 |0,u2,u3=>l0
 |n+1,u2,u3=>
  let v4:dJ:=x0.getD (u3:Int).toNat default
  EU rfl [dJ.av v4] xn (wR rfl<|wn) ln <|
   rc Ee rx<|rc Ee rx<|rl (rg (LY x0 x1 n _ _))
def R75 : iE:=
 ⟨[(aex,(zI (V 4))),((.lb true),(zI (.li (-1))))],
 [],[atb]⟩
def H75 : LH:=.mk [] (.li 0) [] [] 0 [atc] []
theorem e75 : jo Tryz.prog fG fH oU (oN kA 75 [8,5,4] [(0,(.mk [0,3,7] (.mk [(4,(.sc kI)),(8,(.sc kI))] [] [] 5) [(.normal,(.mk [(4,(.sc kI))] [] [] 5)),(.ret,(.mk [(4,(.sc kI))] [] [] 5))]))]) 3 200 75 [zL (V 0),.agg (cV 1 dI.kG)] 2=some R75:=by kernel_rfl
theorem aeJ (x0:List dJ)(x1:dI):CT Tryz.prog sT 75 [eL dJ.enc x0,dI.av x1] (eI (yX x0 x1)):=
 let r2:Bool×Int×Int:=xZ x0 x1 (x0.length+1) 0 0
 qY jc dP dQ e75 H75 (by kernel_rfl) [eL dJ.enc x0,dI.av x1,eI (ji r2.1),eI r2.2.1,eI r2.2.2] xn
  wn
  (Yp (LY x0 x1 (x0.length+1) 0 0) <|
  ln)
  (gW (fun r=>.p (.int .i64 r)) rfl rfl (iY rfl))
def R37 : iE:=
 let p0:Pc:=(SN,false)::[]
 let p1:Pc:=((qH (V 3) (.li 0)),true)::p0
 ⟨[(SN,(.fD [zz2,rX,(zI (V 2))])),((qH (V 3) (.li 0)),(.fD [(.agg (cW 4 2 dN.kG)),Hr,tC])),((.lb true),(.fD [zz2,rX,tC]))],
 [([],(.call 74 [(zL (V 0)),akY] (zI (V 2)))),
 (p0,(.call 75 [(zL (V 0)),akY] (zI (V 3)))),
 (p1,(.row (V 0) (V 3) XO))],[]⟩
theorem e37 : jo Tryz.prog fG fH oU (oN kA 37 [] []) 3 200 37 [zL (V 0),.agg (cV 1 dI.kG)] 2=some R37:=by kernel_rfl
theorem YL (x0:List dJ)(x1:dI):CT Tryz.prog sT 37 [eL dJ.enc x0,dI.av x1] (gu (kK x0 x1)):=
 let v2:Int:=qx x0 x1
 let v3:Int:=yX x0 x1
 let v4:dJ:=x0.getD (v3:Int).toNat default
 qY jc dP dQ e37 xC (by kernel_rfl) [eL dJ.enc x0,dI.av x1,eI v2,eI v3,dJ.av v4] xn
  (wC (X_ x0 x1) <|
  wC (aeJ x0 x1) <|
  wR rfl <|
  wn)
  ln
  (gW gu rfl rfl (gW gu rfl rfl (iY rfl)))
def R11 : iE:=
 let p0:Pc:=((qN (W 3 1) (.li 0)),false)::[]
 ⟨[((qN (W 3 1) (.li 0)),(.fD [zz2,rX,(zI (W 3 1))])),((.lb true),(.fD [(.agg (kQ 4 [0] 0 dN.kG)),(zB (W 4 1)),(zI (W 4 2))]))],
 [([],(.call 26 [JV,(zI (V 1))] (.fD [(.agg (kQ 3 [0] 0 dS.kG)),(zI (W 3 1))]))),
 (p0,(.call 37 [(zL (.var 3 [0,6])),arA] (.fD [(.agg (kQ 4 [0] 0 dN.kG)),(zB (W 4 1)),(zI (W 4 2))])))],[]⟩
theorem e11 : jo Tryz.prog fG fH oU (oN kA 11 [] []) 3 200 11 [.agg Cj,zI (V 1),.agg (cV 2 dI.kG)] 3=some R11:=by kernel_rfl
theorem UC (x0:dK)(x1:Int)(x2:dI):CT Tryz.prog sT 11 [dK.av x0,eI x1,dI.av x2] (gu (y7 x0 x1 x2)):=
 let v3:dS×Int:=Bo x0 x1
 let v4:dN×Bool×Int:=kK v3.1.Props x2
 qY jc dP dQ e11 xC (by kernel_rfl) [dK.av x0,eI x1,dI.av x2,pJ v3,gu v4] xn
  (wC (O4 x0 x1) <|
  wC (YL v3.1.Props x2) <|
  wn)
  ln
  (gW gu rfl rfl (iY rfl))
def R76 : iE:=
 let p0:Pc:=(SN,false)::[]
 ⟨[(SN,(zI (V 2))),((.lb true),(zI (V 3)))],
 [([],(.call 80 [(zL (V 0))] (zI (V 2)))),
 (p0,(.call 38 [akY] (zI (V 3))))],[]⟩
theorem e76 : jo Tryz.prog fG fH oU (oN kA 76 [] []) 3 200 76 [zL (V 0),.agg (cV 1 dI.kG)] 2=some R76:=by kernel_rfl
theorem Ya (x0:List dJ)(x1:dI):CT Tryz.prog sT 76 [eL dJ.enc x0,dI.av x1] (eI (kT x0 x1)):=
 let v2:Int:=iJ x0
 let v3:Int:=fP x1
 qY jc dP dQ e76 xC (by kernel_rfl) [eL dJ.enc x0,dI.av x1,eI v2,eI v3] xn
  (wC (Ec x0) <|
  wC (Eb x1) <|
  wn)
  ln
  (gW (fun r=>.p (.int .i64 r)) rfl rfl (iY rfl))
def R39 : iE:=
 let p0:Pc:=(SN,false)::[]
 let p1:Pc:=((qL (V 3) (.li 0)),false)::p0
 ⟨[(SN,(.fD [zz2,rX,(zI (V 2))])),((qL (V 3) (.li 0)),(.fD [zz2,rX,tC])),((.lb true),(.fD [(.agg (cW 4 2 dN.kG)),Hr,tC]))],
 [([],(.call 76 [(zL (V 0)),akY] (zI (V 2)))),
 (p0,(.call 77 [(zL (V 0)),akY] (zI (V 3)))),
 (p1,(.row (V 0) (V 3) XO))],[]⟩
theorem e39 : jo Tryz.prog fG fH oU (oN kA 39 [] []) 3 200 39 [zL (V 0),.agg (cV 1 dI.kG)] 2=some R39:=by kernel_rfl
theorem YM (x0:List dJ)(x1:dI):CT Tryz.prog sT 39 [eL dJ.enc x0,dI.av x1] (gu (xA x0 x1)):=
 let v2:Int:=kT x0 x1
 let v3:Int:=kS x0 x1
 let v4:dJ:=x0.getD (v3:Int).toNat default
 qY jc dP dQ e39 xC (by kernel_rfl) [eL dJ.enc x0,dI.av x1,eI v2,eI v3,dJ.av v4] xn
  (wC (Ya x0 x1) <|
  wC (LX x0 x1) <|
  wR rfl <|
  wn)
  ln
  (gW gu rfl rfl (gW gu rfl rfl (iY rfl)))
def R12 : iE:=
 let p0:Pc:=((V 3),true)::[]
 let p1:Pc:=((qH (V 1) uF),false)::p0
 let p2:Pc:=((qL (V 1) (.li 0)),false)::p1
 let p3:Pc:=((qN (V 4) (.li 0)),false)::p2
 ⟨[(QG,(.fD [zz2,rX,Ut])),(arw,(.fD [zz2,rX,(zI (.li 2))])),((qN (V 4) (.li 0)),(.fD [zz2,rX,Ut])),((.lb true),(.fD [(.agg (kQ 6 [0] 0 dN.kG)),(zB (W 6 1)),tC]))],
 [([],(.call 33 [JV] (zB (V 3)))),
 (p2,(.call 38 [arA] (zI (V 4)))),
 (p3,(.row (W 0 0) (V 1) (cV 5 dS.kG))),
 (p3,(.call 39 [(zL (W 5 6)),arA] (.fD [(.agg (kQ 6 [0] 0 dN.kG)),(zB (W 6 1)),(zI (W 6 2))])))],[]⟩
theorem e12 : jo Tryz.prog fG fH oU (oN kA 12 [] []) 3 200 12 [.agg Cj,zI (V 1),.agg (cV 2 dI.kG)] 3=some R12:=by kernel_rfl
theorem abW (x0:dK)(x1:Int)(x2:dI):CT Tryz.prog sT 12 [dK.av x0,eI x1,dI.av x2] (gu (Hq x0 x1 x2)):=
 let v3:Bool:=oP x0
 let v4:Int:=fP x2
 let v5:dS:=x0.Objects.getD (x1:Int).toNat default
 let v6:dN×Bool×Int:=xA v5.Props x2
 qY jc dP dQ e12 xC (by kernel_rfl) [dK.av x0,eI x1,dI.av x2,eB v3,eI v4,dS.av v5,gu v6] xn
  (wC (Jo x0) <|
  wC (Eb x2) <|
  wR rfl <|
  wC (YM v5.Props x2) <|
  wn)
  ln
  (gW gu rfl rfl (gW gu rfl rfl (gW gu rfl rfl (iY rfl))))
def aAz : iE:=
 ⟨[((W 1 1),(.fD [tC,(zI (W 1 0))])),(Yx,(.fD [(zI (.li 2)),tC])),((.lb true),(.fD [(zI (.li 1)),tC]))],
 [([],(.call 118 [(.agg [(zS (W 0 0)),(zI (W 0 1))])] (.fD [(zI (W 1 0)),(zB (W 1 1))])))],[]⟩
theorem e108 : jo Tryz.prog fG fH oU (oN kA 108 [] []) 3 200 108 [.agg (cV 0 dI.kG)] 1=some aAz:=by kernel_rfl
theorem qF (x0:dI):CT Tryz.prog sT 108 [dI.av x0] (lq (dW x0)):=
 let v1:Int×Bool:=iI x0
 qY jc dP dQ e108 xC (by kernel_rfl) [dI.av x0,iG v1] xn
  (wC (Jm x0)<|wn)
  ln
  (gW lq rfl rfl (gW lq rfl rfl (iY rfl)))
def aeK : Lo:=
 let p0:Pc:=((qL (V 3) (V 2)),true)::[]
 let p1:Pc:=((qG (V 5) (V 1)),true)::p0
 let p2:Pc:=(axw,false)::p0
 let p3:Pc:=((qG (V 5) (V 1)),true)::p2
 .mk [((qL (V 3) (V 2)),true)] 5 2 [(zI (V 3)),(zL (V 4))] [(axw,1,[(zI (V 5)),(zL (V 6))]),((.not (qG (V 5) (V 1))),1,[(zI (V 5)),(zL (V 6))]),((.lb true),0,[(zI aeC),(zL (V 14))])] [(p1,(.tm (qM (.li 0) (V 5)))),
 (p1,(.tm (qL (V 5) wz))),
 (p1,(.rd (true,2) (V 6) (V 5) 0 (.agg aew))),
 (p1,(.call 108 [(.agg aew)] (.fD [(zI (W 8 0)),(zI (W 8 1))]))),
 (p1,(.tm (qM (.li 0) aeC))),
 (p1,(.tm (qL aeC wz))),
 (p1,(.rd (true,2) (V 6) aeC 0 (.agg [(zS (W 9 0)),(zI (W 9 1))]))),
 (p1,(.call 108 [(.agg [(zS (W 9 0)),(zI (W 9 1))])] (.fD [(zI (W 10 0)),(zI (W 10 1))]))),
 (p3,(.tm (qM (.li 0) (V 5)))),
 (p3,(.tm (qL (V 5) N7))),
 (p3,(.tm (qM (.li 0) aeC))),
 (p3,(.tm (qL aeC N7))),
 (p3,(.row (V 6) (V 5) [(zS (W 11 0)),(zI (W 11 1))])),
 (p3,(.row (V 6) aeC aer)),
 (p3,(.st (V 6) (V 5) 0 aer (V 13))),
 (p3,(.st (V 13) aeC 0 [(zS (W 11 0)),(zI (W 11 1))] (V 14))),
 (p3,(.tm (qE wz N7)))] [] [2] []
def aeL : LH:=.mk [(qM (V 5) (V 3)),(qE N7 (.rlen (V 4)))] (mI (V 5) (V 1)) [((V 3),1),((V 1),(-1))] [] 0 [] [[(qE N7 (.rlen (V 4)))]]
def lF (r:Int×List dI):Nat×List AV:=(0,[eI r.1,eL dI.enc r.2])
theorem pO (x0:List dI)(x1:Int)(x2:Int)(u3:Int)(u4:List dI):∀(n:Nat) (u5:Int) (u6:List dI),nU Tryz.prog sT aeK aeL [eL dI.enc x0,eI x1,eI x2,eI u3,eL dI.enc u4] n [eI u5,eL dI.enc u6] (lF (gI x1 n u5 u6))
 |0,u5,u6=>l0
 |n+1,u5,u6=>
  let v7:dI:=u6.getD (u5:Int).toNat default
  let v8:Int×Int:=dW v7
  let v9:dI:=u6.getD ((iq .i64 u5 1):Int).toNat default
  let v10:Int×Int:=dW v9
  let v11:dI:=u6.getD (u5:Int).toNat default
  let v12:dI:=u6.getD ((iq .i64 u5 1):Int).toNat default
  let v13:List dI:=u6.set (u5:Int).toNat v12
  let v14:List dI:=v13.set ((iq .i64 u5 1):Int).toNat v11
  EU rfl [dI.av v7,lq v8,dI.av v9,lq v10,dI.av v11,dI.av v12,eL dI.enc v13,eL dI.enc v14] xn (wT <|
  wT <|
  wRd rfl <|
  wC (qF v7) <|
  wT <|
  wT <|
  wRd rfl <|
  wC (qF v9) <|
  wT <|
  wT <|
  wT <|
  wT <|
  wR rfl <|
  wR rfl <|
  wSt (f:=dI.enc) v12 rfl <|
  wSt (f:=dI.enc) v11 rfl <|
  wT <|
  wn) ln <|
   rc lF rx<|rc lF rx<|rl (rg (pO x0 x1 x2 u3 u4 n _ _))
def aeM : Lo:=
 .mk [] 3 2 [(zI (aI (V 1) (.li 1))),(zL (V 0))] [((.not (qL (V 3) (V 2))),1,[(zL (V 4))]),((.lb true),0,[NC,(zL (V 6))])] [] [aeK] [1] []
def aeN : LH:=.mk [(qM (aI (V 1) (.li 1)) (V 3)),(qE (.rlen (V 4)) wz)] (mI (V 2) (V 3)) [((V 2),1)] [] 0 [aeL] [[(qE (.rlen (V 3)) wz)]]
def pR (r:List dI):Nat×List AV:=(0,[eL dI.enc r])
theorem pU (x0:List dI)(x1:Int)(x2:Int):∀(n:Nat) (u3:Int) (u4:List dI),nU Tryz.prog sT aeM aeN [eL dI.enc x0,eI x1,eI x2] n [eI u3,eL dI.enc u4] (pR (fM x1 x2 n u3 u4))
 |0,u3,u4=>l0
 |n+1,u3,u4=>
  let r5:Int×List dI:=gI x1 ((u3-x1).toNat+1) u3 u4
  EU rfl [eI r5.1,eL dI.enc r5.2] xn wn (Z7 (pO x0 x1 x2 u3 u4 ((u3-x1).toNat+1) u3 u4) (hn:=(show ((1)*(u3)+((-1)*(x1)+(0)):Int)<_ by first|omega|(simp only [aEt];omega))) <|
  ln) <|
   rc pR rx<|rl (rg (pU x0 x1 x2 n _ _))
def avE : iE:=
 ⟨[((.lb true),(.fD [(.fD []),(zL (V 3))]))],
 [],[aeM]⟩
def avF : LH:=.mk [] (.li 0) [] [] 0 [aeN] []
theorem avG : P_ Tryz.prog fG fH oU (oN kA 145 [7,6,25,21,22,24,23,20] [(0,(.mk [1,2,3] (.mk [(6,(.sc kI))] [] [(2,2)] 8) [(.normal,(.mk [] [] [(2,2)] 8))])),(2,(.mk [1,2,3,6] (.mk [(7,(.sc kI))] [] [(2,2)] 13) [(.normal,(.mk [(7,(.sc kI))] [] [(2,2)] 13))]))]) 3 200 145 [zz1,(zI (V 1)),(zI (V 2))] 3 [(3,(.rows 1 [vC])),(2,(.fK 2 (V 0)))] [(2,2)] 4=some avE:=by kernel_rfl
theorem qI (x0:List dI)(x1:Int)(x2:Int){L:Nat}(hL:L=(List.map dI.enc x0).length):CTw Tryz.prog sT 145 [(.agg [(.fn (.func 107) [] [(.op 3 1 0 0)]),(.fn (.func 144) [] [(.os 2 2 0 L),(.p (Cv.val (.at 1 29)))])]),(.p (.int .i64 x1)),(.p (.int .i64 x2))] [(3,.rows 1 [[(.os 2 2 0 L)]]),(2,.rows 2 (List.map dI.enc x0))] 4 (.fD []) [(3,.rows 1 [[(.os 2 2 0 L)]]),(2,.rows 2 (List.map dI.enc (gJ x0 x1 x2)))]:=by subst hL;exact (
 let r3:List dI:=fM x1 x2 ((x2:Int).toNat+1) (dY .i64 x1 1) x0
 mkW (cs:=[eL dI.enc (gJ x0 x1 x2)]) jc dP dQ avG avF (by kernel_rfl) [eL dI.enc x0,eI x1,eI x2,eL dI.enc r3] xn
  wn
  (Z7 (pU x0 x1 x2 ((x2:Int).toNat+1) (dY .i64 x1 1) x0) <|
  ln)
  (iY rfl))
def aeO : Lo:=
 let p0:Pc:=((qL (V 4) (V 3)),true)::[]
 .mk [] 4 2 [tC,(zL (V 0))] [((.not (qL (V 4) (V 3))),1,[(zL (V 5))]),((.lb true),0,[aeD,(zL (V 9))])] [(p0,(.tm (qM (.li 0) (aI (V 1) (V 4))))),
 (p0,(.tm (qL (aI (V 1) (V 4)) (.rlen (V 5))))),
 (p0,(.tm (qM (.li 0) (aI (V 2) (V 4))))),
 (p0,(.tm (qL (aI (V 2) (V 4)) (.rlen (V 5))))),
 (p0,(.row (V 5) (aI (V 1) (V 4)) aev)),
 (p0,(.row (V 5) (aI (V 2) (V 4)) aew)),
 (p0,(.st (V 5) (aI (V 1) (V 4)) 0 aew (V 8))),
 (p0,(.st (V 8) (aI (V 2) (V 4)) 0 aev (V 9))),
 (p0,(.tm (qE wz (.rlen (V 5)))))] [] [1] []
def aeP : LH:=.mk [(qE (.rlen (V 5)) wz),aeA] (mI (V 3) (V 4)) [((V 3),1)] [] 0 [] [[(qE (.rlen (V 4)) wz)]]
def rM (r:List dI):Nat×List AV:=(0,[eL dI.enc r])
theorem rO (x0:List dI)(x1:Int)(x2:Int)(x3:Int):∀(n:Nat) (u4:Int) (u5:List dI),nU Tryz.prog sT aeO aeP [eL dI.enc x0,eI x1,eI x2,eI x3] n [eI u4,eL dI.enc u5] (rM (iC x1 x2 x3 n u4 u5))
 |0,u4,u5=>l0
 |n+1,u4,u5=>
  let v6:dI:=u5.getD ((dY .i64 x1 u4):Int).toNat default
  let v7:dI:=u5.getD ((dY .i64 x2 u4):Int).toNat default
  let v8:List dI:=u5.set ((dY .i64 x1 u4):Int).toNat v7
  let v9:List dI:=v8.set ((dY .i64 x2 u4):Int).toNat v6
  EU rfl [dI.av v6,dI.av v7,eL dI.enc v8,eL dI.enc v9] xn (wT <|
  wT <|
  wT <|
  wT <|
  wR rfl <|
  wR rfl <|
  wSt (f:=dI.enc) v7 rfl <|
  wSt (f:=dI.enc) v6 rfl <|
  wT <|
  wn) ln <|
   rc rM rx<|rl (rg (rO x0 x1 x2 x3 n _ _))
def avH : iE:=
 ⟨[((.lb true),(.fD [(.fD []),(zL (V 4))]))],
 [],[aeO]⟩
def avI : LH:=.mk [] (.li 0) [] [] 0 [aeP] []
theorem avJ : P_ Tryz.prog fG fH oU (oN kA 161 [8] [(0,(.mk [1,2,3,4] (.mk [(8,(.sc kI))] [] [(2,2)] 6) [(.normal,(.mk [] [] [(2,2)] 6))]))]) 3 200 161 aoP 4 [(3,(.rows 1 [vC])),(2,(.fK 2 (V 0)))] [(2,2)] 4=some avH:=by kernel_rfl
theorem nV (x0:List dI)(x1:Int)(x2:Int)(x3:Int){L:Nat}(hL:L=(List.map dI.enc x0).length):CTw Tryz.prog sT 161 [(.agg [(.fn (.func 107) [] [(.op 3 1 0 0)]),(.fn (.func 144) [] [(.os 2 2 0 L),(.p (Cv.val (.at 1 29)))])]),(.p (.int .i64 x1)),(.p (.int .i64 x2)),(.p (.int .i64 x3))] [(3,.rows 1 [[(.os 2 2 0 L)]]),(2,.rows 2 (List.map dI.enc x0))] 4 (.fD []) [(3,.rows 1 [[(.os 2 2 0 L)]]),(2,.rows 2 (List.map dI.enc (fC x0 x1 x2 x3)))]:=by subst hL;exact (
 let r4:List dI:=iC x1 x2 x3 ((x3:Int).toNat+1) 0 x0
 mkW (cs:=[eL dI.enc (fC x0 x1 x2 x3)]) jc dP dQ avJ avI (by kernel_rfl) [eL dI.enc x0,eI x1,eI x2,eI x3,eL dI.enc r4] xn
  wn
  (Z7 (rO x0 x1 x2 x3 ((x3:Int).toNat+1) 0 x0) <|
  ln)
  (iY rfl))
def aeQ : Lo:=
 let p0:Pc:=((qN (V 4) (V 5)),true)::[]
 let p1:Pc:=((qG (V 4) (V 5)),true)::p0
 let p2:Pc:=((qG (V 4) (V 5)),false)::p0
 .mk [] 4 3 [(zI (mI (V 2) (V 1))),(zI (mI (V 3) (V 2))),(zL (V 0))] [((.not (qN (V 4) (V 5))),1,[(zI (V 4)),(zL (V 6))]),((qG (V 4) (V 5)),0,[(zI (mI (V 4) (V 5))),(zI (V 5)),(zL (V 7))]),((.lb true),0,[(zI (V 4)),(zI (mI (V 5) (V 4))),(zL (V 9))])] [(p1,(.qp 161 [zz1,(zI (mI (V 2) (V 4))),(zI (V 2)),(zI (V 5))] [(3,(.rows 1 [vC])),(2,(.fK 2 (V 6)))] 4 (.fD []) [(3,(.rows 1 [vC])),(2,(.fK 2 (V 7)))])),
 (p2,(.qp 161 [zz1,(zI (mI (V 2) (V 4))),(zI (mI (aI (V 2) (V 5)) (V 4))),(zI (V 4))] [(3,(.rows 1 [vC])),(2,(.fK 2 (V 6)))] 4 (.fD []) [(3,(.rows 1 [vC])),(2,(.fK 2 (V 9)))]))] [] [2] []
def aeR : LH:=.mk [(qL (.li 0) (V 4)),(qL (.li 0) (V 5)),(qM (V 4) (mI (V 2) (V 1))),(qM (V 5) (mI (V 3) (V 2))),(qE N7 wz)] (aI (V 4) (V 5)) [((V 3),1),((V 1),(-1))] [] 0 [] [[aeA,(qM (V 4) (mI (V 2) (V 1))),(qM (V 4) (mI (V 3) (V 2))),(qE (.rlen (V 5)) wz)]]
def ou (r:Int×List dI):Nat×List AV:=(0,[eI r.1,eL dI.enc r.2])
theorem oz (x0:List dI)(x1:Int)(x2:Int)(x3:Int):∀(n:Nat) (u4:Int) (u5:Int) (u6:List dI),nU Tryz.prog sT aeQ aeR [eL dI.enc x0,eI x1,eI x2,eI x3] n [eI u4,eI u5,eL dI.enc u6] (ou (gU x2 n u4 u5 u6))
 |0,u4,u5,u6=>l0
 |n+1,u4,u5,u6=>
  let w7:List dI:=fC u6 (iq .i64 x2 u4) x2 u5
  let v7:List dI:=w7
  let w9:List dI:=fC u6 (iq .i64 x2 u4) (iq .i64 (dY .i64 x2 u5) u4) u4
  let v9:List dI:=w9
  EU rfl [eL dI.enc v7,eP,eL dI.enc v9,eP] xn (wWL (fun hL=>nV u6 (iq .i64 x2 u4) x2 u5 hL) <|
  wWL (fun hL=>nV u6 (iq .i64 x2 u4) (iq .i64 (dY .i64 x2 u5) u4) u4 hL) <|
  wn) ln <|
   rc ou rx<|rc ou (rg (oz x0 x1 x2 x3 n _ _ _))<|rl (rg (oz x0 x1 x2 x3 n _ _ _))
def avK : iE:=
 ⟨[((.lb true),(.fD [(.fD []),(zL (V 6))]))],
 [([],(.qp 161 [zz1,(zI (mI (V 2) (V 4))),(zI (V 2)),(zI (V 4))] [(3,(.rows 1 [vC])),(2,(.fK 2 (V 5)))] 4 (.fD []) [(3,(.rows 1 [vC])),(2,(.fK 2 (V 6)))]))],[aeQ]⟩
def avL : LH:=.mk [] (.li 0) [] [] 0 [aeR] []
theorem avM : P_ Tryz.prog fG fH oU (oN kA 157 [1,2,3,4,8,9,18,21] [(0,(.mk [2,4] (.mk [(8,(.sc kI)),(9,(.sc kI))] [] [(2,2)] 13) [(.normal,(.mk [(8,(.sc kI))] [] [(2,2)] 13))]))]) 3 200 157 aoP 4 [(3,(.rows 1 [vC])),(2,(.fK 2 (V 0)))] [(2,2)] 4=some avK:=by kernel_rfl
theorem En (x0:List dI)(x1:Int)(x2:Int)(x3:Int){L:Nat}(hL:L=(List.map dI.enc x0).length):CTw Tryz.prog sT 157 [(.agg [(.fn (.func 107) [] [(.op 3 1 0 0)]),(.fn (.func 144) [] [(.os 2 2 0 L),(.p (Cv.val (.at 1 29)))])]),(.p (.int .i64 x1)),(.p (.int .i64 x2)),(.p (.int .i64 x3))] [(3,.rows 1 [[(.os 2 2 0 L)]]),(2,.rows 2 (List.map dI.enc x0))] 4 (.fD []) [(3,.rows 1 [[(.os 2 2 0 L)]]),(2,.rows 2 (List.map dI.enc (jl x0 x1 x2 x3)))]:=by subst hL;exact (
 let r4:Int×List dI:=gU x2 ((x3-x1).toNat+1) (iq .i64 x2 x1) (iq .i64 x3 x2) x0
 let w6:List dI:=fC r4.2 (iq .i64 x2 r4.1) x2 r4.1
 let v6:List dI:=w6
 mkW (cs:=[eL dI.enc (jl x0 x1 x2 x3)]) jc dP dQ avM avL (by kernel_rfl) [eL dI.enc x0,eI x1,eI x2,eI x3,eI r4.1,eL dI.enc r4.2,eL dI.enc v6,eP] xn
  (wWL (fun hL=>nV r4.2 (iq .i64 x2 r4.1) x2 r4.1 hL)<|wn)
  (Z7 (oz x0 x1 x2 x3 ((x3-x1).toNat+1) (iq .i64 x2 x1) (iq .i64 x3 x2) x0) (hn:=(show ((1)*(x3)+((-1)*(x1)+(0)):Int)<_ by first|omega|(simp only [aEt];omega))) <|
  ln)
  (iY rfl))
def aeS : Lo:=
 let p0:Pc:=(Us,true)::[]
 let p1:Pc:=((qL (V 4) (V 5)),true)::p0
 .mk [(Us,true)] 4 2 [(zI (V 2)),(zI (V 3))] [((.not (qL (V 4) (V 5))),1,[(zI (V 4))]),((.lb true),0,[(zI (.ite asH (aI aoJ (.li 1)) (V 4))),(zI (.ite asH (V 5) aoJ))])] [(p1,(.tm (qM (.li 0) aoJ))),
 (p1,(.tm (qL aoJ wz))),
 (p1,(.rd (true,2) (V 0) aoJ 0 (.agg aev))),
 (p1,(.call 108 [(.agg aev)] (.fD [(zI (W 7 0)),(zI (W 7 1))]))),
 (p1,(.tm (qM (.li 0) (V 1)))),
 (p1,(.tm (qL (V 1) wz))),
 (p1,(.rd (true,2) (V 0) (V 1) 0 (.agg ag_))),
 (p1,(.call 108 [(.agg ag_)] (.fD [(zI (W 9 0)),(zI (W 9 1))])))] [] [1] []
def aeT : LH:=.mk [(qM (V 2) (V 4)),(qM (V 4) (V 5)),(qM (V 5) (V 3)),aeA] (mI (V 5) (V 4)) [((V 3),1),((V 2),(-1))] [] 0 [] [[(qM (V 2) (V 4)),(qM (V 4) (V 3))]]
def rZ (r:Int):Nat×List AV:=(0,[eI r])
theorem r_ (x0:List dI)(x1:Int)(x2:Int)(x3:Int):∀(n:Nat) (u4:Int) (u5:Int),nU Tryz.prog sT aeS aeT [eL dI.enc x0,eI x1,eI x2,eI x3] n [eI u4,eI u5] (rZ (gX x0 x1 n u4 u5))
 |0,u4,u5=>l0
 |n+1,u4,u5=>
  let v6:dI:=x0.getD ((IntKind.wrap .i64 (jm .u64 (IntKind.wrap .u64 (dY .i64 u4 u5)) 1)):Int).toNat default
  let v7:Int×Int:=dW v6
  let v8:dI:=x0.getD (x1:Int).toNat default
  let v9:Int×Int:=dW v8
  EU rfl [dI.av v6,lq v7,dI.av v8,lq v9] xn (wT <|
  wT <|
  wRd rfl <|
  wC (qF v6) <|
  wT <|
  wT <|
  wRd rfl <|
  wC (qF v8) <|
  wn) ln <|
   rc rZ rx<|rl (rg (r_ x0 x1 x2 x3 n _ _))
def aeU : Lo:=
 let p0:Pc:=(Us,true)::[]
 let p1:Pc:=((qL (V 5) (mI (V 4) (.li 1))),true)::p0
 .mk [(Us,true)] 5 2 [(zI (V 1)),(zL (V 0))] [((.not (qL (V 5) (mI (V 4) (.li 1)))),1,[(zL (V 6))]),((.lb true),0,[(zI (aI (V 5) (.li 1))),(zL (V 10))])] [(p1,(.tm (qM (.li 0) (V 5)))),
 (p1,(.tm (qL (V 5) N7))),
 (p1,(.tm (qM (.li 0) (aI (V 5) (.li 1))))),
 (p1,(.tm (qL (aI (V 5) (.li 1)) N7))),
 (p1,(.row (V 6) (V 5) aew)),
 (p1,(.row (V 6) (aI (V 5) (.li 1)) ag_)),
 (p1,(.st (V 6) (V 5) 0 ag_ (V 9))),
 (p1,(.st (V 9) (aI (V 5) (.li 1)) 0 aew (V 10))),
 (p1,(.tm (qE wz N7)))] [] [1] []
def aeV : LH:=.mk [(qM (V 1) (V 5)),(qE N7 wz)] (mI (mI (V 4) (.li 1)) (V 5)) [((mI (V 4) (.li 1)),1)] [] 0 [] [[(qE (.rlen (V 5)) wz)]]
def su (r:List dI):Nat×List AV:=(0,[eL dI.enc r])
theorem sD (x0:List dI)(x1:Int)(x2:Int)(x3:Int)(r4:Int):∀(n:Nat) (u5:Int) (u6:List dI),nU Tryz.prog sT aeU aeV [eL dI.enc x0,eI x1,eI x2,eI x3,eI r4] n [eI u5,eL dI.enc u6] (su (gY r4 n u5 u6))
 |0,u5,u6=>l0
 |n+1,u5,u6=>
  let v7:dI:=u6.getD (u5:Int).toNat default
  let v8:dI:=u6.getD ((dY .i64 u5 1):Int).toNat default
  let v9:List dI:=u6.set (u5:Int).toNat v8
  let v10:List dI:=v9.set ((dY .i64 u5 1):Int).toNat v7
  EU rfl [dI.av v7,dI.av v8,eL dI.enc v9,eL dI.enc v10] xn (wT <|
  wT <|
  wT <|
  wT <|
  wR rfl <|
  wR rfl <|
  wSt (f:=dI.enc) v8 rfl <|
  wSt (f:=dI.enc) v7 rfl <|
  wT <|
  wn) ln <|
   rc su rx<|rl (rg (sD x0 x1 x2 x3 r4 n _ _))
def aeW : Lo:=
 let p0:Pc:=(Us,false)::[]
 let p1:Pc:=(aes,true)::p0
 let p2:Pc:=((qL (V 6) (V 7)),true)::p1
 .mk [(aes,true),(Us,false)] 6 2 [(zI (V 1)),(zI (V 2))] [((.not (qL (V 6) (V 7))),1,[(zI (V 6))]),((.lb true),0,[(zI (.ite asG (V 6) (aI aoK (.li 1)))),(zI (.ite asG aoK (V 7)))])] [(p2,(.tm abT)),
 (p2,(.tm (qL (V 2) wz))),
 (p2,(.rd (true,2) (V 0) (V 2) 0 (.agg ag_))),
 (p2,(.call 108 [(.agg ag_)] (.fD [(zI (W 9 0)),(zI (W 9 1))]))),
 (p2,(.tm (qM (.li 0) aoK))),
 (p2,(.tm (qL aoK wz))),
 (p2,(.rd (true,2) (V 0) aoK 0 (.agg ak1))),
 (p2,(.call 108 [(.agg ak1)] (.fD [(zI (W 11 0)),(zI (W 11 1))])))] [] [1] []
def aeX : LH:=.mk [(qM (V 1) (V 6)),(qM (V 7) (V 2)),(qM (V 6) (V 2))] (mI (V 7) (V 6)) [((V 2),1),((V 1),(-1))] [] 0 [] [[(qM (V 6) (V 2)),(qM (V 1) (V 6))]]
def sF (r:Int):Nat×List AV:=(0,[eI r])
theorem sG (x0:List dI)(x1:Int)(x2:Int)(x3:Int)(r4:Int)(r5:List dI):∀(n:Nat) (u6:Int) (u7:Int),nU Tryz.prog sT aeW aeX [eL dI.enc x0,eI x1,eI x2,eI x3,eI r4,eL dI.enc r5] n [eI u6,eI u7] (sF (iK x0 x2 n u6 u7))
 |0,u6,u7=>l0
 |n+1,u6,u7=>
  let v8:dI:=x0.getD (x2:Int).toNat default
  let v9:Int×Int:=dW v8
  let v10:dI:=x0.getD ((IntKind.wrap .i64 (jm .u64 (IntKind.wrap .u64 (dY .i64 u6 u7)) 1)):Int).toNat default
  let v11:Int×Int:=dW v10
  EU rfl [dI.av v8,lq v9,dI.av v10,lq v11] xn (wT <|
  wT <|
  wRd rfl <|
  wC (qF v8) <|
  wT <|
  wT <|
  wRd rfl <|
  wC (qF v10) <|
  wn) ln <|
   rc sF rx<|rl (rg (sG x0 x1 x2 x3 r4 r5 n _ _))
def aeY : Lo:=
 let p0:Pc:=(Us,false)::[]
 let p1:Pc:=(aes,true)::p0
 let p2:Pc:=((qG (V 7) (V 6)),true)::p1
 .mk [(aes,true),(Us,false)] 7 2 [(zI (V 2)),(zL (V 0))] [((.not (qG (V 7) (V 6))),1,[(zL (V 8))]),((.lb true),0,[(zI (mI (V 7) (.li 1))),(zL (V 12))])] [(p2,(.tm (qM (.li 0) (V 7)))),
 (p2,(.tm (qL (V 7) NZ))),
 (p2,(.tm (qM (.li 0) (mI (V 7) (.li 1))))),
 (p2,(.tm (qL (mI (V 7) (.li 1)) NZ))),
 (p2,(.row (V 8) (V 7) [(zS (W 9 0)),(zI (W 9 1))])),
 (p2,(.row (V 8) (mI (V 7) (.li 1)) ak1)),
 (p2,(.st (V 8) (V 7) 0 ak1 (V 11))),
 (p2,(.st (V 11) (mI (V 7) (.li 1)) 0 [(zS (W 9 0)),(zI (W 9 1))] (V 12))),
 (p2,(.tm (qE wz NZ)))] [] [1] []
def aeZ : LH:=.mk [(qM (V 7) (V 2)),(qE NZ wz)] (mI (V 7) (V 6)) [((V 2),1),((V 1),(-1))] [] 0 [] [[(qE (.rlen (V 7)) wz)]]
def sH (r:List dI):Nat×List AV:=(0,[eL dI.enc r])
theorem sJ (x0:List dI)(x1:Int)(x2:Int)(x3:Int)(r4:Int)(r5:List dI)(r6:Int):∀(n:Nat) (u7:Int) (u8:List dI),nU Tryz.prog sT aeY aeZ [eL dI.enc x0,eI x1,eI x2,eI x3,eI r4,eL dI.enc r5,eI r6] n [eI u7,eL dI.enc u8] (sH (gZ r6 n u7 u8))
 |0,u7,u8=>l0
 |n+1,u7,u8=>
  let v9:dI:=u8.getD (u7:Int).toNat default
  let v10:dI:=u8.getD ((iq .i64 u7 1):Int).toNat default
  let v11:List dI:=u8.set (u7:Int).toNat v10
  let v12:List dI:=v11.set ((iq .i64 u7 1):Int).toNat v9
  EU rfl [dI.av v9,dI.av v10,eL dI.enc v11,eL dI.enc v12] xn (wT <|
  wT <|
  wT <|
  wT <|
  wR rfl <|
  wR rfl <|
  wSt (f:=dI.enc) v10 rfl <|
  wSt (f:=dI.enc) v9 rfl <|
  wT <|
  wn) ln <|
   rc sH rx<|rl (rg (sJ x0 x1 x2 x3 r4 r5 r6 n _ _))
def ae0 : Lo:=
 let p0:Pc:=(Us,false)::[]
 let p1:Pc:=(aes,false)::p0
 let p2:Pc:=((qL (V 8) (V 9)),true)::p1
 .mk [(aes,false),(Us,false)] 8 2 [(zI (.ite (qG (V 2) XH) (mI (aI XH (V 2)) (V 3)) (V 1))),(zI (.ite (qG (V 2) XH) XH (V 2)))] [((.not (qL (V 8) (V 9))),1,[(zI (V 8))]),((.lb true),0,[(zI (.ite axy (V 8) (aI aep (.li 1)))),(zI (.ite axy aep (V 9)))])] [(p2,(.tm (qM (.li 0) (mI (mI (aI XH (V 2)) (.li 1)) aep)))),
 (p2,(.tm (qL (mI (mI (aI XH (V 2)) (.li 1)) aep) wz))),
 (p2,(.rd (true,2) (V 0) (mI (mI (aI XH (V 2)) (.li 1)) aep) 0 (.agg ak1))),
 (p2,(.call 108 [(.agg ak1)] (.fD [(zI (W 11 0)),(zI (W 11 1))]))),
 (p2,(.tm (qM (.li 0) aep))),
 (p2,(.tm (qL aep wz))),
 (p2,(.rd (true,2) (V 0) aep 0 (.agg aer))),
 (p2,(.call 108 [(.agg aer)] (.fD [(zI (W 13 0)),(zI (W 13 1))])))] [] [1] []
def ae1 : LH:=.mk [(qM (V 1) (V 8)),(qM (V 9) (V 2)),(qM (V 9) XH),(qM (mI (aI XH (V 2)) (V 3)) (V 8))] (mI (V 9) (V 8)) [((V 3),1),((V 1),(-1))] [] 0 [] [[(qM (.ite (qG (V 2) XH) (mI (aI XH (V 2)) (V 3)) (V 1)) (V 8))]]
def sK (r:Int):Nat×List AV:=(0,[eI r])
theorem sO (x0:List dI)(x1:Int)(x2:Int)(x3:Int)(r4:Int)(r5:List dI)(r6:Int)(r7:List dI):∀(n:Nat) (u8:Int) (u9:Int),nU Tryz.prog sT ae0 ae1 [eL dI.enc x0,eI x1,eI x2,eI x3,eI r4,eL dI.enc r5,eI r6,eL dI.enc r7] n [eI u8,eI u9] (sK (jg x0 x1 x2 x3 n u8 u9))
 |0,u8,u9=>l0
 |n+1,u8,u9=>
  let v10:dI:=x0.getD ((iq .i64 (iq .i64 (dY .i64 (IntKind.wrap .i64 (jm .u64 (IntKind.wrap .u64 (dY .i64 x1 x3)) 1)) x2) 1) (IntKind.wrap .i64 (jm .u64 (IntKind.wrap .u64 (dY .i64 u8 u9)) 1))):Int).toNat default
  let v11:Int×Int:=dW v10
  let v12:dI:=x0.getD ((IntKind.wrap .i64 (jm .u64 (IntKind.wrap .u64 (dY .i64 u8 u9)) 1)):Int).toNat default
  let v13:Int×Int:=dW v12
  EU rfl [dI.av v10,lq v11,dI.av v12,lq v13] xn (wT <|
  wT <|
  wRd rfl <|
  wC (qF v10) <|
  wT <|
  wT <|
  wRd rfl <|
  wC (qF v12) <|
  wn) ln <|
   rc sK rx<|rl (rg (sO x0 x1 x2 x3 r4 r5 r6 r7 n _ _))
def avN : iE:=
 let p0:Pc:=(Us,false)::[]
 let p1:Pc:=(aes,false)::p0
 let p2:Pc:=((qL (V 2) zz9),true)::p1
 let p3:Pc:=((qL (V 8) (V 2)),true)::p2
 let p4:Pc:=((qL (V 8) XH),true)::p3
 let p5:Pc:=((qL (V 1) (V 8)),true)::p4
 let p6:Pc:=((qL zz9 (V 3)),true)::p5
 let p7:Pc:=((qL XH zz9),true)::p6
 let p8:Pc:=(akW,false)::p3
 let p9:Pc:=((qL zz9 (V 3)),true)::p8
 let p10:Pc:=((qL XH zz9),true)::p9
 let p11:Pc:=(aoL,false)::p1
 let p12:Pc:=((qL (V 8) XH),true)::p11
 let p13:Pc:=((qL (V 1) (V 8)),true)::p12
 let p14:Pc:=((qL zz9 (V 3)),true)::p13
 let p15:Pc:=((qL XH zz9),true)::p14
 let p16:Pc:=(akW,false)::p11
 let p17:Pc:=((qL zz9 (V 3)),true)::p16
 let p18:Pc:=((qL XH zz9),true)::p17
 ⟨[(Us,(.fD [(.fD []),(zL (V 5))])),(aes,(.fD [(.fD []),(zL (V 7))])),((.and aoL (.and akW arB)),(.fD [(.fD []),(zL (V 13))])),((.and aoL akW),(.fD [(.fD []),(zL (V 11))])),((.and aoL arB),(.fD [(.fD []),(zL (V 15))])),(aoL,(.fD [(.fD []),(zL (V 9))])),((.and akW arB),(.fD [(.fD []),(zL (V 19))])),(akW,(.fD [(.fD []),(zL (V 17))])),(arB,(.fD [(.fD []),(zL (V 21))])),((.lb true),(.fD [(.fD []),(zL (V 0))]))],
 [(p3,(.qp 157 [zz1,(zI (V 8)),(zI (V 2)),(zI zz9)] [(3,(.rows 1 [vC])),(2,(.fK 2 (V 0)))] 4 (.fD []) [(3,(.rows 1 [vC])),(2,(.fK 2 (V 9)))])),
 (p5,(.qp 146 [zz1,(zI (V 1)),(zI (V 8)),(zI XH)] [(3,(.rows 1 [vC])),(2,(.fK 2 (V 9)))] 4 (.fD []) [(3,(.rows 1 [vC])),(2,(.fK 2 (V 11)))])),
 (p7,(.qp 146 arx [(3,(.rows 1 [vC])),(2,(.fK 2 (V 11)))] 4 (.fD []) [(3,(.rows 1 [vC])),(2,(.fK 2 (V 13)))])),
 (p10,(.qp 146 arx [(3,(.rows 1 [vC])),(2,(.fK 2 (V 9)))] 4 (.fD []) [(3,(.rows 1 [vC])),(2,(.fK 2 (V 15)))])),
 (p13,(.qp 146 [zz1,(zI (V 1)),(zI (V 8)),(zI XH)] [(3,(.rows 1 [vC])),(2,(.fK 2 (V 0)))] 4 (.fD []) [(3,(.rows 1 [vC])),(2,(.fK 2 (V 17)))])),
 (p15,(.qp 146 arx [(3,(.rows 1 [vC])),(2,(.fK 2 (V 17)))] 4 (.fD []) [(3,(.rows 1 [vC])),(2,(.fK 2 (V 19)))])),
 (p18,(.qp 146 arx [(3,(.rows 1 [vC])),(2,(.fK 2 (V 0)))] 4 (.fD []) [(3,(.rows 1 [vC])),(2,(.fK 2 (V 21)))]))],[aeS,aeU,aeW,aeY,ae0]⟩
def avO : LH:=.mk [] (.li 0) [] [] 0 [aeT,aeV,aeX,aeZ,ae1] []
theorem avP : P_ Tryz.prog fG fH oU (oN kA 146 [1,2,3,4,8,9,10,11,12,13,14,15,16,17,18,19,20,21,22,26,31,42,50,62,67,79,86,106,117,131,142,143,144,145,155,156,157,158,168,169,170,171] [(8,(.mk [1,2,3,4,16,17,20] (.mk [(18,(.sc kI)),(19,(.sc kI))] [] [] 38) [(.normal,(.mk [(18,(.sc kI))] [] [] 38))])),(6,(.mk [4,12] (.mk [(15,(.sc kI))] [] [(2,2)] 19) [(.normal,(.mk [] [] [(2,2)] 19))])),(4,(.mk [2,4] (.mk [(12,(.sc kI)),(13,(.sc kI))] [] [] 17) [(.normal,(.mk [(12,(.sc kI))] [] [] 17))])),(2,(.mk [4,8] (.mk [(11,(.sc kI))] [] [(2,2)] 15) [(.normal,(.mk [] [] [(2,2)] 15))])),(0,(.mk [1,4] (.mk [(8,(.sc kI)),(9,(.sc kI))] [] [] 13) [(.normal,(.mk [(8,(.sc kI))] [] [] 13))]))]) 3 200 146 aoP 4 [(3,(.rows 1 [vC])),(2,(.fK 2 (V 0)))] [(2,2)] 4=some avN:=by kernel_rfl
theorem iD : ∀(n:Nat) (x0:List dI) (x1:Int) (x2:Int) (x3:Int) {L:Nat},(x3-x1).toNat<n->L=(List.map dI.enc x0).length->CTw Tryz.prog sT 146 [(.agg [(.fn (.func 107) [] [(.op 3 1 0 0)]),(.fn (.func 144) [] [(.os 2 2 0 L),(.p (Cv.val (.at 1 29)))])]),(.p (.int .i64 x1)),(.p (.int .i64 x2)),(.p (.int .i64 x3))] [(3,.rows 1 [[(.os 2 2 0 L)]]),(2,.rows 2 (List.map dI.enc x0))] 4 (.fD []) [(3,.rows 1 [[(.os 2 2 0 L)]]),(2,.rows 2 (List.map dI.enc (dR n x0 x1 x2 x3)))]
 |0,x0,x1,x2,x3,L,hm,_=>absurd hm (Nat.not_lt_zero _)
 |n+1,x0,x1,x2,x3,L,hm,hL=>by subst hL;exact (fun hp=>(fun hd=>
 let r4:Int:=gX x0 x1 ((x3-x2).toNat+1) x2 x3
 let r5:List dI:=gY r4 (((iq .i64 r4 1):Int).toNat+1) x1 x0
 let r6:Int:=iK x0 x2 ((x2-x1).toNat+1) x1 x2
 let r7:List dI:=gZ r6 ((x2-x1).toNat+1) x2 x0
 let r8:Int:=jg x0 x1 x2 x3 ((x3-x1).toNat+1) (bif (decide ((x2:Int) > (IntKind.wrap .i64 (jm .u64 (IntKind.wrap .u64 (dY .i64 x1 x3)) 1)))) then (iq .i64 (dY .i64 (IntKind.wrap .i64 (jm .u64 (IntKind.wrap .u64 (dY .i64 x1 x3)) 1)) x2) x3) else x1) (bif (decide ((x2:Int) > (IntKind.wrap .i64 (jm .u64 (IntKind.wrap .u64 (dY .i64 x1 x3)) 1)))) then (IntKind.wrap .i64 (jm .u64 (IntKind.wrap .u64 (dY .i64 x1 x3)) 1)) else x2)
 let w9:List dI:=jl x0 r8 x2 (iq .i64 (dY .i64 (IntKind.wrap .i64 (jm .u64 (IntKind.wrap .u64 (dY .i64 x1 x3)) 1)) x2) r8)
 let v9:List dI:=w9
 let w11:List dI:=dR n v9 x1 r8 (IntKind.wrap .i64 (jm .u64 (IntKind.wrap .u64 (dY .i64 x1 x3)) 1))
 let v11:List dI:=w11
 let w13:List dI:=dR n v11 (IntKind.wrap .i64 (jm .u64 (IntKind.wrap .u64 (dY .i64 x1 x3)) 1)) (iq .i64 (dY .i64 (IntKind.wrap .i64 (jm .u64 (IntKind.wrap .u64 (dY .i64 x1 x3)) 1)) x2) r8) x3
 let v13:List dI:=w13
 let w15:List dI:=dR n v9 (IntKind.wrap .i64 (jm .u64 (IntKind.wrap .u64 (dY .i64 x1 x3)) 1)) (iq .i64 (dY .i64 (IntKind.wrap .i64 (jm .u64 (IntKind.wrap .u64 (dY .i64 x1 x3)) 1)) x2) r8) x3
 let v15:List dI:=w15
 let w17:List dI:=dR n x0 x1 r8 (IntKind.wrap .i64 (jm .u64 (IntKind.wrap .u64 (dY .i64 x1 x3)) 1))
 let v17:List dI:=w17
 let w19:List dI:=dR n v17 (IntKind.wrap .i64 (jm .u64 (IntKind.wrap .u64 (dY .i64 x1 x3)) 1)) (iq .i64 (dY .i64 (IntKind.wrap .i64 (jm .u64 (IntKind.wrap .u64 (dY .i64 x1 x3)) 1)) x2) r8) x3
 let v19:List dI:=w19
 let w21:List dI:=dR n x0 (IntKind.wrap .i64 (jm .u64 (IntKind.wrap .u64 (dY .i64 x1 x3)) 1)) (iq .i64 (dY .i64 (IntKind.wrap .i64 (jm .u64 (IntKind.wrap .u64 (dY .i64 x1 x3)) 1)) x2) r8) x3
 let v21:List dI:=w21
 (mkW (cs:=[eL dI.enc (dR (n+1) x0 x1 x2 x3)]) jc dP dQ avP avO (by kernel_rfl) [eL dI.enc x0,eI x1,eI x2,eI x3,eI r4,eL dI.enc r5,eI r6,eL dI.enc r7,eI r8,eL dI.enc v9,eP,eL dI.enc v11,eP,eL dI.enc v13,eP,eL dI.enc v15,eP,eL dI.enc v17,eP,eL dI.enc v19,eP,eL dI.enc v21,eP] xn
  (wWL (fun hL=>En x0 r8 x2 (iq .i64 (dY .i64 (IntKind.wrap .i64 (jm .u64 (IntKind.wrap .u64 (dY .i64 x1 x3)) 1)) x2) r8) hL) <|
  wWL (fun hL=>iD n v9 x1 r8 (IntKind.wrap .i64 (jm .u64 (IntKind.wrap .u64 (dY .i64 x1 x3)) 1)) hd.1 hL) <|
  wWL (fun hL=>iD n v11 (IntKind.wrap .i64 (jm .u64 (IntKind.wrap .u64 (dY .i64 x1 x3)) 1)) (iq .i64 (dY .i64 (IntKind.wrap .i64 (jm .u64 (IntKind.wrap .u64 (dY .i64 x1 x3)) 1)) x2) r8) x3 hd.2 hL) <|
  wWL (fun hL=>iD n v9 (IntKind.wrap .i64 (jm .u64 (IntKind.wrap .u64 (dY .i64 x1 x3)) 1)) (iq .i64 (dY .i64 (IntKind.wrap .i64 (jm .u64 (IntKind.wrap .u64 (dY .i64 x1 x3)) 1)) x2) r8) x3 hd.2 hL) <|
  wWL (fun hL=>iD n x0 x1 r8 (IntKind.wrap .i64 (jm .u64 (IntKind.wrap .u64 (dY .i64 x1 x3)) 1)) hd.1 hL) <|
  wWL (fun hL=>iD n v17 (IntKind.wrap .i64 (jm .u64 (IntKind.wrap .u64 (dY .i64 x1 x3)) 1)) (iq .i64 (dY .i64 (IntKind.wrap .i64 (jm .u64 (IntKind.wrap .u64 (dY .i64 x1 x3)) 1)) x2) r8) x3 hd.2 hL) <|
  wWL (fun hL=>iD n x0 (IntKind.wrap .i64 (jm .u64 (IntKind.wrap .u64 (dY .i64 x1 x3)) 1)) (iq .i64 (dY .i64 (IntKind.wrap .i64 (jm .u64 (IntKind.wrap .u64 (dY .i64 x1 x3)) 1)) x2) r8) x3 hd.2 hL) <|
  wn)
  (Z7 (r_ x0 x1 x2 x3 ((x3-x2).toNat+1) x2 x3) (hn:=(show ((1)*(x3)+((-1)*(x2)+(0)):Int)<_ by first|omega|(simp only [aEt];omega))) <|
  Z7 (sD x0 x1 x2 x3 r4 (((iq .i64 r4 1):Int).toNat+1) x1 x0) <|
  Z7 (sG x0 x1 x2 x3 r4 r5 ((x2-x1).toNat+1) x1 x2) (hn:=(show ((1)*(x2)+((-1)*(x1)+(0)):Int)<_ by first|omega|(simp only [aEt];omega))) <|
  Z7 (sJ x0 x1 x2 x3 r4 r5 r6 ((x2-x1).toNat+1) x2 x0) (hn:=(show ((1)*(x2)+((-1)*(x1)+(0)):Int)<_ by first|omega|(simp only [aEt];omega))) <|
  Z7 (sO x0 x1 x2 x3 r4 r5 r6 r7 ((x3-x1).toNat+1) (bif (decide ((x2:Int) > (IntKind.wrap .i64 (jm .u64 (IntKind.wrap .u64 (dY .i64 x1 x3)) 1)))) then (iq .i64 (dY .i64 (IntKind.wrap .i64 (jm .u64 (IntKind.wrap .u64 (dY .i64 x1 x3)) 1)) x2) x3) else x1) (bif (decide ((x2:Int) > (IntKind.wrap .i64 (jm .u64 (IntKind.wrap .u64 (dY .i64 x1 x3)) 1)))) then (IntKind.wrap .i64 (jm .u64 (IntKind.wrap .u64 (dY .i64 x1 x3)) 1)) else x2)) (hn:=(show ((1)*(x3)+((-1)*(x1)+(0)):Int)<_ by first|omega|(simp only [aEt];omega))) <|
  ln)
  (gW (fun r=>.fD [.fD [],.sl (List.map dI.enc r) false]) rfl rfl (gW (fun r=>.fD [.fD [],.sl (List.map dI.enc r) false]) rfl rfl (gW (fun r=>.fD [.fD [],.sl (List.map dI.enc r) false]) rfl rfl (gW (fun r=>.fD [.fD [],.sl (List.map dI.enc r) false]) rfl rfl (gW (fun r=>.fD [.fD [],.sl (List.map dI.enc r) false]) rfl rfl (gW (fun r=>.fD [.fD [],.sl (List.map dI.enc r) false]) rfl rfl (gW (fun r=>.fD [.fD [],.sl (List.map dI.enc r) false]) rfl rfl (gW (fun r=>.fD [.fD [],.sl (List.map dI.enc r) false]) rfl rfl (gW (fun r=>.fD [.fD [],.sl (List.map dI.enc r) false]) rfl rfl (iY rfl))))))))))) hp) (au7 (of_decide_eq_true hp.1) (of_decide_eq_true hp.2.1) (of_decide_eq_true hp.2.2.1) (of_decide_eq_true hp.2.2.2.1) hm))
def ae2 : Lo:=
 let p0:Pc:=((qM (V 3) (V 1)),true)::[]
 .mk [] 2 3 [tC,(zI (.li 20)),(zL (V 0))] [((.not (qM (V 3) (V 1))),1,[(zI (V 2)),(zI (V 3)),(zL (V 4))]),((.lb true),0,[(zI (V 3)),(zI (aI (V 3) (.li 20))),(zL (V 5))])] [(p0,(.qp 145 [zz1,(zI (V 2)),(zI (V 3))] [(3,(.rows 1 [vC])),(2,(.fK 2 (V 4)))] 4 (.fD []) [(3,(.rows 1 [vC])),(2,(.fK 2 (V 5)))]))] [] [3] []
def ae3 : LH:=.mk [abT,(qE (V 3) (aI (V 2) (.li 20))),(qE (.rlen (V 4)) wz),(qM (V 2) (V 1))] (mI (V 1) (V 2)) [((V 1),1),((.li 20),1)] [] 0 [] [[abT,(qM (V 2) (.rlen (V 4))),(qE (.rlen (V 4)) wz)]]
def uz (r:Int×Int×List dI):Nat×List AV:=(0,[eI r.1,eI r.2.1,eL dI.enc r.2.2])
theorem uD (x0:List dI)(x1:Int):∀(n:Nat) (u2:Int) (u3:Int) (u4:List dI),nU Tryz.prog sT ae2 ae3 [eL dI.enc x0,eI x1] n [eI u2,eI u3,eL dI.enc u4] (uz (gV x1 n u2 u3 u4))
 |0,u2,u3,u4=>l0
 |n+1,u2,u3,u4=>
  let w5:List dI:=gJ u4 u2 u3
  let v5:List dI:=w5
  EU rfl [eL dI.enc v5,eP] xn (wWL (fun hL=>qI u4 u2 u3 hL)<|wn) ln <|
   rc uz rx<|rl (rg (uD x0 x1 n _ _ _))
def aaq : Lo:=
 let p0:Pc:=((qL (V 7) (V 1)),true)::[]
 let p1:Pc:=((qM (V 12) (V 1)),true)::p0
 .mk [((qL (V 7) (V 1)),true)] 11 3 [tC,(zI (.bin .mul kI (.li 2) (V 7))),(zL (V 10))] [((.not (qM (V 12) (V 1))),1,[(zI (V 11)),(zI (V 12)),(zL (V 13))]),((.lb true),0,[(zI (V 12)),(zI (aI (V 12) (.bin .mul kI (.li 2) (V 7)))),(zL (V 14))])] [(p1,(.qp 146 [zz1,(zI (V 11)),(zI (aI (V 11) (V 7))),(zI (V 12))] [(3,(.rows 1 [vC])),(2,(.fK 2 (V 13)))] 4 (.fD []) [(3,(.rows 1 [vC])),(2,(.fK 2 (V 14)))]))] [] [3] []
def aar : LH:=.mk [(qM (.li 0) (V 11)),(qE (V 12) (aI (V 11) (.bin .mul kI (.li 2) (V 7)))),(qM (V 11) (.rlen (V 13))),(qE (.rlen (V 13)) QI)] (mI (V 1) (V 11)) [((V 1),1),((V 7),2)] [] 0 [] [[(qM (.li 0) (V 11)),(qM (V 11) (.rlen (V 13))),(qE (.rlen (V 13)) QI)]]
def tV (r:Int×Int×List dI):Nat×List AV:=(0,[eI r.1,eI r.2.1,eL dI.enc r.2.2])
theorem tX (x0:List dI)(x1:Int)(r2:Int×Int×List dI)(v5:List dI)(u7:Int)(u8:Int)(u9:Int)(u10:List dI):∀(n:Nat) (u11:Int) (u12:Int) (u13:List dI),nU Tryz.prog sT aaq aar [eL dI.enc x0,eI x1,eI r2.1,eI r2.2.1,eL dI.enc r2.2.2,eL dI.enc v5,eP,eI u7,eI u8,eI u9,eL dI.enc u10] n [eI u11,eI u12,eL dI.enc u13] (tV (fF x1 u7 n u11 u12 u13))
 |0,u11,u12,u13=>l0
 |n+1,u11,u12,u13=>
  let w14:List dI:=dR ((u12-u11).toNat+1) u13 u11 (dY .i64 u11 u7) u12
  let v14:List dI:=w14
  EU rfl [eL dI.enc v14,eP] xn (wWL (fun hL=>iD ((u12-u11).toNat+1) u13 u11 (dY .i64 u11 u7) u12 (Nat.lt_succ_self _) hL)<|wn) ln <|
   rc tV rx<|rl (rg (tX x0 x1 r2 v5 u7 u8 u9 u10 n _ _ _))
def ae4 : Lo:=
 let p0:Pc:=((qL (V 7) (V 1)),true)::[]
 let p1:Pc:=((qL (aI (V 11) (V 7)) (V 1)),true)::p0
 .mk [] 7 4 [(zI (.li 20)),(zI (V 2)),(zI (V 3)),(zL (V 5))] [((.not (qL (V 7) (V 1))),1,[(zL (V 10))]),((qL (aI (V 11) (V 7)) (V 1)),0,[(zI (.bin .mul kI (V 7) (.li 2))),(zI (V 11)),(zI (V 12)),(zL (V 14))]),((.lb true),0,[(zI (.bin .mul kI (V 7) (.li 2))),(zI (V 11)),(zI (V 12)),(zL (V 13))])] [(p1,(.qp 146 [zz1,(zI (V 11)),(zI (aI (V 11) (V 7))),(zI (V 1))] [(3,(.rows 1 [vC])),(2,(.fK 2 (V 13)))] 4 (.fD []) [(3,(.rows 1 [vC])),(2,(.fK 2 (V 14)))]))] [aaq] [1] []
def ae5 : LH:=.mk [(qM (.li 20) (V 7)),(qE QI wz)] (mI (V 1) (V 7)) [((V 1),1)] [] 1 [aar] [[(qE (.rlen (V 7)) (.rlen (V 5)))]]
def oC (r:List dI):Nat×List AV:=(0,[eL dI.enc r])
theorem oD (x0:List dI)(x1:Int)(r2:Int×Int×List dI)(v5:List dI):∀(n:Nat) (u7:Int) (u8:Int) (u9:Int) (u10:List dI),nU Tryz.prog sT ae4 ae5 [eL dI.enc x0,eI x1,eI r2.1,eI r2.2.1,eL dI.enc r2.2.2,eL dI.enc v5,eP] n [eI u7,eI u8,eI u9,eL dI.enc u10] (oC (iH x1 n u7 u8 u9 u10))
 |0,u7,u8,u9,u10=>l0
 |n+1,u7,u8,u9,u10=>
  let r11:Int×Int×List dI:=fF x1 u7 ((x1+2*u7).toNat+1) 0 (Rf .i64 2 u7) u10
  let w14:List dI:=dR ((x1-r11.1).toNat+1) r11.2.2 r11.1 (dY .i64 r11.1 u7) x1
  let v14:List dI:=w14
  EU rfl [eI r11.1,eI r11.2.1,eL dI.enc r11.2.2,eL dI.enc v14,eP] xn (wWL (fun hL=>iD ((x1-r11.1).toNat+1) r11.2.2 r11.1 (dY .i64 r11.1 u7) x1 (Nat.lt_succ_self _) hL)<|wn) (Z7 (tX x0 x1 r2 v5 u7 u8 u9 u10 ((x1+2*u7).toNat+1) 0 (Rf .i64 2 u7) u10) (hn:=(show ((1)*(x1)+((2)*(u7)+(0)):Int)<_ by first|omega|(simp only [aEt];omega))) <|
  ln) <|
   rc oC rx<|rc oC (rg (oD x0 x1 r2 v5 n _ _ _ _))<|rl (rg (oD x0 x1 r2 v5 n _ _ _ _))
def avQ : iE:=
 ⟨[((.lb true),(.fD [(.fD []),(zL (V 7))]))],
 [([],(.qp 145 [zz1,(zI (V 2)),(zI (V 1))] [(3,(.rows 1 [vC])),(2,(.fK 2 (V 4)))] 4 (.fD []) [(3,(.rows 1 [vC])),(2,(.fK 2 (V 5)))]))],[ae2,ae4]⟩
def avR : LH:=.mk [] (.li 0) [] [] 0 [ae3,ae5] []
theorem avS : P_ Tryz.prog fG fH oU (oN kA 127 [1,2,4,5,6,7,11,26,31,49] [(2,(.mk [1,2] (.mk [(4,(.sc kI)),(5,(.sc kI)),(6,(.sc kI))] [] [(2,2)] 12) [(.normal,(.mk [] [] [(2,2)] 12))])),(4,(.mk [1,2,4] (.mk [(5,(.sc kI)),(6,(.sc kI))] [] [(2,2)] 19) [(.normal,(.mk [(5,(.sc kI)),(6,(.sc kI))] [] [(2,2)] 19))])),(0,(.mk [1,2,4] (.mk [(5,(.sc kI)),(6,(.sc kI))] [] [(2,2)] 9) [(.normal,(.mk [(5,(.sc kI)),(6,(.sc kI))] [] [(2,2)] 9))]))]) 3 200 127 [zz1,(zI (V 1))] 2 [(3,(.rows 1 [vC])),(2,(.fK 2 (V 0)))] [(2,2)] 4=some avQ:=by kernel_rfl
theorem Eo (x0:List dI)(x1:Int){L:Nat}(hL:L=(List.map dI.enc x0).length):CTw Tryz.prog sT 127 [(.agg [(.fn (.func 107) [] [(.op 3 1 0 0)]),(.fn (.func 144) [] [(.os 2 2 0 L),(.p (Cv.val (.at 1 29)))])]),(.p (.int .i64 x1))] [(3,.rows 1 [[(.os 2 2 0 L)]]),(2,.rows 2 (List.map dI.enc x0))] 4 (.fD []) [(3,.rows 1 [[(.os 2 2 0 L)]]),(2,.rows 2 (List.map dI.enc (fA x0 x1)))]:=by subst hL;exact (
 let r2:Int×Int×List dI:=gV x1 (x1.toNat+21) 0 20 x0
 let w5:List dI:=gJ r2.2.2 r2.1 x1
 let v5:List dI:=w5
 let r7:List dI:=iH x1 (x1.toNat+1) 20 r2.1 r2.2.1 v5
 mkW (cs:=[eL dI.enc (fA x0 x1)]) jc dP dQ avS avR (by kernel_rfl) [eL dI.enc x0,eI x1,eI r2.1,eI r2.2.1,eL dI.enc r2.2.2,eL dI.enc v5,eP,eL dI.enc r7] xn
  (wWL (fun hL=>qI r2.2.2 r2.1 x1 hL)<|wn)
  (Z7 (uD x0 x1 (x1.toNat+21) 0 20 x0) (hn:=(show ((1)*(x1)+((1)*(20)+(0)):Int)<_ by first|omega|(simp only [aEt];omega))) <|
  Z7 (oD x0 x1 r2 v5 (x1.toNat+1) 20 r2.1 r2.2.1 v5) <|
  ln)
  (iY rfl))
def aAA : iE:=
 let p0:Pc:=(Yw,true)::[]
 let p1:Pc:=(Yw,false)::[]
 let p2:Pc:=(arC,true)::p1
 let p3:Pc:=(arC,false)::p1
 let p4:Pc:=(arC,false)::[]
 let p5:Pc:=(Yw,false)::p4
 ⟨[((.or Yw arC),(zL (V 0))),((.lb true),(zL (V 1)))],
 [([],(.TI 2 (V 0))),
 ([],(.len2 0 (V 0))),
 ([],(.tm arD)),
 (p0,(.tm arD)),
 (p2,(.tm arD)),
 (p3,(.tm arD)),
 (p3,(.qp 127 [zz1,(zI wz)] [(3,(.rows 1 [vC])),(2,(.fK 2 (V 0)))] 4 (.fD []) [(3,(.rows 1 [vC])),(2,(.fK 2 (V 1)))])),
 (p5,(.tm (qE wz Ht)))],[]⟩
theorem aAB : agm Tryz.prog fG fH oU (oN kA 79 [] []) 3 200 79 [zL (V 0)] 1 [] 2=some aAA:=by kernel_rfl
theorem UD (x0:List dI):CTo Tryz.prog sT 79 [eL dI.enc x0] (eL dI.enc (Lu x0)) [] 2:=
 let w1:List dI:=fA x0 (je dI.enc x0)
 let v1:List dI:=w1
 let v3:List dI:=(v1.drop (0)).take (((je dI.enc x0):Int).toNat-0)
 mkO jc dP dQ aAB xC (by kernel_rfl) [eL dI.enc x0,eL dI.enc v1,eP,eL dI.enc v3] xn
  (axd (f:=dI.enc) rfl <|
  asl <|
  wT <|
  wT <|
  wT <|
  wT <|
  wWL (fun hL=>Eo x0 (je dI.enc x0) hL) <|
  wT <|
  wn)
  ln
  (gW (fun r=>.sl (List.map dI.enc r) false) rfl rfl (iY rfl))
theorem YN (x0:List dI):CTo Tryz.prog sT 79 [eL dI.enc x0] (eL dI.enc (uf x0)) [] 2:=
 au1 (fun hb=>
 have hb0:x0.length<=4294967296:=by have:=hb.1.1;simpa using this
 congrArg (eL dI.enc) (Xm x0 hb0)) (UD x0)
def atd : Lo:=
 let p0:Pc:=aha::[]
 let p1:Pc:=QF::p0
 .mk [aha] 2 2 [(zL .nl),tC] [((.not XK),1,[(zL (V 2))]),((.lb true),0,[(zL (V 5)),NC])] [(p1,(.row (V 0) (V 3) XO)),
 (p1,(.app 2 (V 2) [QE] (V 5)))] [] [1] [(V 0)]
def ate : LH:=.mk [(qE SS (V 3))] Yz [(wz,1)] [] 1 [] []
def H_ (r:List dI):Nat×List AV:=(0,[eL dI.enc r])
theorem Ia (x0:List dJ)(v1:Int):∀(n:Nat) (u2:List dI) (u3:Int),nU Tryz.prog sT atd ate [eL dJ.enc x0,eI v1] n [eL dI.enc u2,eI u3] (H_ (ug x0 n u2 u3))
 |0,u2,u3=>l0
 |n+1,u2,u3=>
  let v4:dJ:=x0.getD (u3:Int).toNat default
  let v5:List dI:=u2++[v4.Key]
  EU rfl [dJ.av v4,eL dI.enc v5] xn (wR rfl <|
  akz (f:=dI.enc) [v4.Key] rfl <|
  wn) ln <|
   rc H_ rx<|rl (rg (Ia x0 v1 n _ _))
def R40 : iE:=
 let p0:Pc:=aha::[]
 ⟨[((qN (V 1) (.li 0)),(.fD [(.slc [] false),(zI (V 1))])),((.lb true),(.fD [(zL (V 3)),tC]))],
 [([],(.call 78 [(zL (V 0))] (zI (V 1)))),
 (p0,(.Px 79 [(zL (V 2))] (zL (V 3)) [] 2 true))],[atd]⟩
def H40 : LH:=.mk [] (.li 0) [] [] 0 [ate] []
theorem e40 : jo Tryz.prog fG fH (mdW [79] oU) (oN kA 40 [5,15] [(0,(.mk [2,3,13,14] (.mk [(5,(.os 11 2)),(15,(.sc kI))] [] [] 12) [(.normal,(.mk [(5,(.os 11 2))] [] [] 12))]))]) 3 200 40 [zL (V 0)] 1=some R40:=by kernel_rfl
theorem YO (x0:List dJ):CT Tryz.prog sT 40 [eL dJ.enc x0] (kE (xB x0)):=
 let v1:Int:=jF x0
 let r2:List dI:=ug x0 (x0.length+1) [] 0
 let v3:List dI:=uf r2
 qY jc dP dQ e40 H40 (by kernel_rfl) [eL dJ.enc x0,eI v1,eL dI.enc r2,eL dI.enc v3] xn
  (wC (D_ x0) <|
  wOf (YN r2) rfl <|
  wn)
  (Z7 (Ia x0 v1 (x0.length+1) [] 0) <|
  ln)
  (gW kE rfl rfl (iY rfl))
def R13 : iE:=
 let p0:Pc:=((qN (W 2 1) (.li 0)),false)::[]
 ⟨[((qN (W 2 1) (.li 0)),(.fD [(.slc [] false),(zI (W 2 1))])),((.lb true),(.fD [(zL (W 3 0)),(zI (W 3 1))]))],
 [([],(.call 26 [JV,(zI (V 1))] (.fD [(.agg (kQ 2 [0] 0 dS.kG)),(zI (W 2 1))]))),
 (p0,(.call 40 [(zL (.var 2 [0,6]))] (.fD [(zL (W 3 0)),(zI (W 3 1))])))],[]⟩
theorem e13 : jo Tryz.prog fG fH oU (oN kA 13 [] []) 3 200 13 [.agg Cj,zI (V 1)] 2=some R13:=by kernel_rfl
theorem S_ (x0:dK)(x1:Int):CT Tryz.prog sT 13 [dK.av x0,eI x1] (kE (wH x0 x1)):=
 let v2:dS×Int:=Bo x0 x1
 let v3:List dI×Int:=xB v2.1.Props
 qY jc dP dQ e13 xC (by kernel_rfl) [dK.av x0,eI x1,pJ v2,kE v3] xn
  (wC (O4 x0 x1) <|
  wC (YO v2.1.Props) <|
  wn)
  ln
  (gW kE rfl rfl (iY rfl))
def atf : Lo:=
 let p0:Pc:=QF::[]
 let p1:Pc:=((W 5 1),true)::p0
 let p2:Pc:=((qG (V 6) (.li 0)),true)::p1
 .mk [((W 5 1),true),QF] 6 1 [(zI Ht)] [((.not (.and (qG (V 6) (.li 0)) (qG (W 7 0) (W 5 0)))),1,[(zI (V 6))]),((.lb true),0,[(zI (mI (V 6) (.li 1)))])] [(p2,(.tm (qM (.li 0) (mI (V 6) (.li 1))))),
 (p2,(.tm (qL (mI (V 6) (.li 1)) SS))),
 (p2,(.rd (false,1) (V 2) (mI (V 6) (.li 1)) 0 (zI (W 7 0))))] [] [1] [(V 0),(V 1),(V 2)]
def atg : LH:=.mk [ahc,(qM (V 6) SS)] (V 6) [(Ht,1)] [] 2 [] [[ahc,(qM (V 6) SS)]]
def Fv (r:Int):Nat×List AV:=(0,[eI r])
theorem FB (x0:List dI)(u1:List dI)(u2:List Int)(u3:Int)(v4:dI)(v5:Int×Bool):∀(n:Nat) (u6:Int),nU Tryz.prog sT atf atg [eL dI.enc x0,eL dI.enc u1,eL kY u2,eI u3,dI.av v4,iG v5] n [eI u6] (Fv (rG u2 v5 n u6))
 |0,u6=>l0
 |n+1,u6=>
  let v7:Int:=u2.getD ((iq .i64 u6 1):Int).toNat default
  EU rfl [.agg (kY v7)] xn (wT <|
  wT <|
  wRd rfl <|
  wn) ln <|
   rc Fv rx<|rl (rg (FB x0 u1 u2 u3 v4 v5 n _))
def ath : Lo:=
 let p0:Pc:=QF::[]
 let p1:Pc:=((W 5 1),true)::p0
 let p2:Pc:=((qG (V 9) (V 6)),true)::p1
 .mk [((W 5 1),true),QF] 9 3 [(zI (mI (.rlen (V 7)) (.li 1))),(zL (V 7)),(zL (V 8))] [((.not (qG (V 9) (V 6))),1,[(zI (V 9)),(zL (V 10)),(zL (V 11))]),((.lb true),0,[(zI ahd),(zL (V 13)),(zL (V 15))])] [(p2,(.tm (qM (.li 0) ahd))),
 (p2,(.tm (qL ahd (.rlen (V 7))))),
 (p2,(.rd (true,2) (V 10) ahd 0 (.agg aer))),
 (p2,(.tm (qM (.li 0) (V 9)))),
 (p2,(.tm (qL (V 9) (.rlen (V 7))))),
 (p2,(.st (V 10) (V 9) 0 aer (V 13))),
 (p2,(.tm (qM (.li 0) ahd))),
 (p2,(.tm (qL ahd NZ))),
 (p2,(.rd (false,1) (V 11) ahd 0 (zI (W 14 0)))),
 (p2,(.tm (qM (.li 0) (V 9)))),
 (p2,(.tm (qL (V 9) NZ))),
 (p2,(.st (V 11) (V 9) 0 [(zI (W 14 0))] (V 15)))] [] [3] [(V 0),(V 7),(V 8)]
def ati : LH:=.mk [(qM (V 9) Ht),(qE QI (aI Ht (.li 1))),(qE (.rlen (V 11)) (aI SS (.li 1)))] (V 9) [(Ht,1)] [] 4 [] [[(qE QI NZ),(qE QI (.rlen (V 11)))]]
def FD (r:Int×List dI×List Int):Nat×List AV:=(0,[eI r.1,eL dI.enc r.2.1,eL kY r.2.2])
theorem FH (x0:List dI)(u1:List dI)(u2:List Int)(u3:Int)(v4:dI)(v5:Int×Bool)(r6:Int)(v7:List dI)(v8:List Int):∀(n:Nat) (u9:Int) (u10:List dI) (u11:List Int),nU Tryz.prog sT ath ati [eL dI.enc x0,eL dI.enc u1,eL kY u2,eI u3,dI.av v4,iG v5,eI r6,eL dI.enc v7,eL kY v8] n [eI u9,eL dI.enc u10,eL kY u11] (FD (pz r6 n u9 u10 u11))
 |0,u9,u10,u11=>l0
 |n+1,u9,u10,u11=>
  let v12:dI:=u10.getD ((iq .i64 u9 1):Int).toNat default
  let v13:List dI:=u10.set (u9:Int).toNat v12
  let v14:Int:=u11.getD ((iq .i64 u9 1):Int).toNat default
  let v15:List Int:=u11.set (u9:Int).toNat v14
  EU rfl [dI.av v12,eL dI.enc v13,.agg (kY v14),eL kY v15] xn (wT <|
  wT <|
  wRd rfl <|
  wT <|
  wT <|
  wSt (f:=dI.enc) v12 rfl <|
  wT <|
  wT <|
  wRd rfl <|
  wT <|
  wT <|
  wSt (f:=kY) v14 rfl <|
  wn) ln <|
   rc FD rx<|rl (rg (FH x0 u1 u2 u3 v4 v5 r6 v7 v8 n _ _ _))
def atj : Lo:=
 let p0:Pc:=QF::[]
 let p1:Pc:=((W 5 1),true)::p0
 .mk [] 1 3 [(zL .nl),(zL .nl),tC] [((.not XK),1,[(zL (V 1))]),((.not (W 5 1)),0,[(zL (V 1)),(zL (V 2)),NC]),((.lb true),0,[(zL (V 13)),(zL (V 14)),NC])] [(p0,(.row (V 0) (V 3) QE)),
 (p0,(.call 111 [(.agg QE)] akX)),
 (p1,(.app 2 (V 1) [[(zS (.ls [])),tC]] (V 7))),
 (p1,(.app 1 (V 2) [[tC]] (V 8))),
 (p1,(.row (V 0) (V 3) aer)),
 (p1,(.tm ahc)),
 (p1,(.tm (qL (V 6) (.rlen (V 7))))),
 (p1,(.st (V 10) (V 6) 0 aer (V 13))),
 (p1,(.tm ahc)),
 (p1,(.tm (qL (V 6) NZ))),
 (p1,(.st (V 11) (V 6) 0 [(zI (W 5 0))] (V 14))),
 (p1,(.tm (qE (.rlen (V 7)) (.rlen (V 13))))),
 (p1,(.tm (qE NZ (.rlen (V 14)))))] [atf,ath] [1] [(V 0)]
def atl : LH:=.mk [(qE Ht SS),(qM SS (V 3)),(qM SS wz)] Yz [(wz,1)] [] 0 [atg,ati] [[(qM Ht wz)]]
def zA (r:List dI):Nat×List AV:=(0,[eL dI.enc r])
theorem zC (x0:List dI):∀(n:Nat) (u1:List dI) (u2:List Int) (u3:Int),nU Tryz.prog sT atj atl [eL dI.enc x0] n [eL dI.enc u1,eL kY u2,eI u3] (zA (pF x0 n u1 u2 u3))
 |0,u1,u2,u3=>l0
 |n+1,u1,u2,u3=>
  let v4:dI:=x0.getD (u3:Int).toNat default
  let v5:Int×Bool:=lI v4
  let r6:Int:=rG u2 v5 (u1.length+1) (je dI.enc u1)
  let v7:List dI:=u1++[(dI.mk [] 0)]
  let v8:List Int:=u2++[0]
  let r9:Int×List dI×List Int:=pz r6 (u1.length+1) (iq .i64 (je dI.enc v7) 1) v7 v8
  let v12:dI:=x0.getD (u3:Int).toNat default
  let v13:List dI:=r9.2.1.set (r6:Int).toNat v12
  let v14:List Int:=r9.2.2.set (r6:Int).toNat v5.1
  EU rfl [dI.av v4,iG v5,eI r6,eL dI.enc v7,eL kY v8,eI r9.1,eL dI.enc r9.2.1,eL kY r9.2.2,dI.av v12,eL dI.enc v13,eL kY v14] xn (wR rfl <|
  wC (zu v4) <|
  akz (f:=dI.enc) [(dI.mk [] 0)] rfl <|
  akz (f:=kY) [0] rfl <|
  wR rfl <|
  wT <|
  wT <|
  wSt (f:=dI.enc) v12 rfl <|
  wT <|
  wT <|
  wSt (f:=kY) v5.1 rfl <|
  wT <|
  wT <|
  wn) (Z7 (FB x0 u1 u2 u3 v4 v5 (u1.length+1) (je dI.enc u1)) <|
  Z7 (FH x0 u1 u2 u3 v4 v5 r6 v7 v8 (u1.length+1) (iq .i64 (je dI.enc v7) 1) v7 v8) <|
  ln) <|
   rc zA rx<|rc zA (rg (zC x0 n _ _ _))<|rl (rg (zC x0 n _ _ _))
def atm : Lo:=
 let p0:Pc:=QF::[]
 let p1:Pc:=((.not (W 5 1)),true)::p0
 let p2:Pc:=((qM (W 6 1) (.li 0)),true)::p0
 let p3:Pc:=((W 5 1),false)::p2
 .mk [] 2 2 [(zL (V 1)),tC] [((.not XK),1,[(zL (V 2))]),((.and (.not (W 5 1)) (qM (W 6 1) (.li 0))),0,[(zL (V 8)),NC]),((.lb true),0,[(zL (V 2)),NC])] [(p0,(.row (V 0) (V 3) QE)),
 (p0,(.call 111 [(.agg QE)] akX)),
 (p1,(.row (V 0) (V 3) aev)),
 (p3,(.row (V 0) (V 3) aew)),
 (p3,(.app 2 (V 2) [aew] (V 8)))] [] [1] [(V 0)]
def atn : LH:=.mk [(qM SS (aI (.li 1048577) (V 3))),Yy,(qM (V 3) wz)] Yz [(wz,1)] [] 0 [] [[(qM SS (.li 2097154))]]
def zD (r:List dI):Nat×List AV:=(0,[eL dI.enc r])
theorem zG (x0:List dI)(r1:List dI):∀(n:Nat) (u2:List dI) (u3:Int),nU Tryz.prog sT atm atn [eL dI.enc x0,eL dI.enc r1] n [eL dI.enc u2,eI u3] (zD (pG x0 n u2 u3))
 |0,u2,u3=>l0
 |n+1,u2,u3=>
  let v4:dI:=x0.getD (u3:Int).toNat default
  let v5:Int×Bool:=lI v4
  let v6:dI:=x0.getD (u3:Int).toNat default
  let v7:dI:=x0.getD (u3:Int).toNat default
  let v8:List dI:=u2++[v7]
  EU rfl [dI.av v4,iG v5,dI.av v6,dI.av v7,eL dI.enc v8] xn (wR rfl <|
  wC (zu v4) <|
  wR rfl <|
  wR rfl <|
  akz (f:=dI.enc) [v7] rfl <|
  wn) ln <|
   rc zD rx<|rc zD (rg (zG x0 r1 n _ _))<|rl (rg (zG x0 r1 n _ _))
def ato : Lo:=
 let p0:Pc:=((qL (V 4) wz),true)::[]
 let p1:Pc:=((qG (W 5 1) (.li 0)),true)::p0
 .mk [] 3 2 [(zL (V 2)),tC] [((.not (qL (V 4) wz)),1,[(zL (V 3))]),((qG (W 5 1) (.li 0)),0,[(zL (V 7)),aeD]),((.lb true),0,[(zL (V 3)),aeD])] [(p0,(.row (V 0) (V 4) [(zS (W 5 0)),(zI (W 5 1))])),
 (p1,(.row (V 0) (V 4) aev)),
 (p1,(.app 2 (V 3) [aev] (V 7)))] [] [1] [(V 0)]
def atp : LH:=.mk [(qM (.rlen (V 3)) (aI (.li 2097154) (V 4))),aeA] (mI wz (V 4)) [(wz,1)] [] 0 [] []
def zH (r:List dI):Nat×List AV:=(0,[eL dI.enc r])
theorem zJ (x0:List dI)(r1:List dI)(r2:List dI):∀(n:Nat) (u3:List dI) (u4:Int),nU Tryz.prog sT ato atp [eL dI.enc x0,eL dI.enc r1,eL dI.enc r2] n [eL dI.enc u3,eI u4] (zH (pI x0 n u3 u4))
 |0,u3,u4=>l0
 |n+1,u3,u4=>
  let v5:dI:=x0.getD (u4:Int).toNat default
  let v6:dI:=x0.getD (u4:Int).toNat default
  let v7:List dI:=u3++[v6]
  EU rfl [dI.av v5,dI.av v6,eL dI.enc v7] xn (wR rfl <|
  wR rfl <|
  akz (f:=dI.enc) [v6] rfl <|
  wn) ln <|
   rc zH rx<|rc zH (rg (zJ x0 r1 r2 n _ _))<|rl (rg (zJ x0 r1 r2 n _ _))
def H81 : LH:=.mk [] (.li 0) [] [] 0 [atl,atn,atp] []
def aAC : iE:=
 ⟨[((.lb true),(zL (V 3)))],
 [],[atj,atm,ato]⟩
theorem aAD : agm Tryz.prog fG fH oU (oN kA 81 [13,12,105,104,106,107,108,109,10,7,36,37,35,38,40,39,41,6,3,4,9,8,5] [(8,(.mk [0,2] (.mk [(3,(.os 9 2)),(13,(.sc kI))] [] [] 10) [(.normal,(.mk [(3,(.os 9 2))] [] [] 10))])),(6,(.mk [0,2] (.mk [(3,(.os 7 2)),(10,(.sc kI))] [] [] 8) [(.normal,(.mk [(3,(.os 7 2))] [] [] 8))])),(0,(.mk [0,2] (.mk [(3,(.os 4 2)),(4,(.os 5 1)),(5,(.sc kI))] [] [] 6) [(.normal,(.mk [(3,(.os 4 2))] [] [] 6))])),(4,(.mk [0,2,3,4,5,6,7,8] (.mk [(9,(.sc kI))] [] [(28,2),(32,1)] 38) [(.normal,(.mk [(9,(.sc kI))] [] [(28,2),(32,1)] 38))])),(2,(.mk [0,2,3,4,5,6,7] (.mk [(8,(.sc kI))] [] [] 25) [(.normal,(.mk [(8,(.sc kI))] [] [] 25))]))]) 3 200 81 [zL (V 0)] 1 [] 2=some aAC:=by kernel_rfl
theorem UE (x0:List dI):CTo Tryz.prog sT 81 [eL dI.enc x0] (eL dI.enc (qy x0)) [] 2:=
 let r1:List dI:=pF x0 (x0.length+1) [] [] 0
 let r2:List dI:=pG x0 (x0.length+1) r1 0
 let r3:List dI:=pI x0 (x0.length+1) r2 0
 mkO jc dP dQ aAD H81 (by kernel_rfl) [eL dI.enc x0,eL dI.enc r1,eL dI.enc r2,eL dI.enc r3] xn
  wn
  (Z7 (zC x0 (x0.length+1) [] [] 0) <|
  Z7 (zG x0 r1 (x0.length+1) r1 0) <|
  Z7 (zJ x0 r1 r2 (x0.length+1) r2 0) <|
  ln)
  (iY rfl)
def atq : Lo:=
 let p0:Pc:=aha::[]
 let p1:Pc:=QF::p0
 .mk [aha] 2 2 [(zL .nl),tC] [((.not XK),1,[(zL (V 2))]),((.lb true),0,[(zL (V 5)),NC])] [(p1,(.row (V 0) (V 3) XO)),
 (p1,(.app 2 (V 2) [QE] (V 5)))] [] [1] [(V 0)]
def atr : LH:=.mk [(qE SS (V 3)),(qM SS wz)] Yz [(wz,1)] [] 1 [] [[(qE SS wz)]]
def Ib (r:List dI):Nat×List AV:=(0,[eL dI.enc r])
theorem Ic (x0:List dJ)(v1:Int):∀(n:Nat) (u2:List dI) (u3:Int),nU Tryz.prog sT atq atr [eL dJ.enc x0,eI v1] n [eL dI.enc u2,eI u3] (Ib (qU x0 n u2 u3))
 |0,u2,u3=>l0
 |n+1,u2,u3=>
  let v4:dJ:=x0.getD (u3:Int).toNat default
  let v5:List dI:=u2++[v4.Key]
  EU rfl [dJ.av v4,eL dI.enc v5] xn (wR rfl <|
  akz (f:=dI.enc) [v4.Key] rfl <|
  wn) ln <|
   rc Ib rx<|rl (rg (Ic x0 v1 n _ _))
def R41 : iE:=
 let p0:Pc:=aha::[]
 ⟨[((qN (V 1) (.li 0)),(.fD [(.slc [] false),(zI (V 1))])),((.lb true),(.fD [(zL (V 3)),tC]))],
 [([],(.call 80 [(zL (V 0))] (zI (V 1)))),
 (p0,(.Px 81 [(zL (V 2))] (zL (V 3)) [] 2 true))],[atq]⟩
def H41 : LH:=.mk [] (.li 0) [] [] 0 [atr] []
theorem e41 : jo Tryz.prog fG fH (mdW [81] oU) (oN kA 41 [5,6] [(0,(.mk [0,2,3] (.mk [(5,(.os 9 2)),(6,(.sc kI))] [] [] 10) [(.normal,(.mk [(5,(.os 9 2))] [] [] 10))]))]) 3 200 41 [zL (V 0)] 1=some R41:=by kernel_rfl
theorem YP (x0:List dJ):CT Tryz.prog sT 41 [eL dJ.enc x0] (kE (uZ x0)):=
 let v1:Int:=iJ x0
 let r2:List dI:=qU x0 (x0.length+1) [] 0
 let v3:List dI:=qy r2
 qY jc dP dQ e41 H41 (by kernel_rfl) [eL dJ.enc x0,eI v1,eL dI.enc r2,eL dI.enc v3] xn
  (wC (Ec x0) <|
  wOf (UE r2) rfl <|
  wn)
  (Z7 (Ic x0 v1 (x0.length+1) [] 0) <|
  ln)
  (gW kE rfl rfl (iY rfl))
def R14 : iE:=
 let p0:Pc:=((V 2),true)::[]
 let p1:Pc:=((qH (V 1) uF),false)::p0
 let p2:Pc:=((qL (V 1) (.li 0)),false)::p1
 ⟨[((.not (V 2)),(.fD [(.slc [] false),Ut])),(arw,(.fD [(.slc [] false),(zI (.li 2))])),((.lb true),(.fD [(zL (W 4 0)),tC]))],
 [([],(.call 33 [JV] (zB (V 2)))),
 (p2,(.row (W 0 0) (V 1) (cV 3 dS.kG))),
 (p2,(.call 41 [(zL (W 3 6))] (.fD [(zL (W 4 0)),(zI (W 4 1))])))],[]⟩
theorem e14 : jo Tryz.prog fG fH oU (oN kA 14 [] []) 3 200 14 [.agg Cj,zI (V 1)] 2=some R14:=by kernel_rfl
theorem YQ (x0:dK)(x1:Int):CT Tryz.prog sT 14 [dK.av x0,eI x1] (kE (xH x0 x1)):=
 let v2:Bool:=oP x0
 let v3:dS:=x0.Objects.getD (x1:Int).toNat default
 let v4:List dI×Int:=uZ v3.Props
 qY jc dP dQ e14 xC (by kernel_rfl) [dK.av x0,eI x1,eB v2,dS.av v3,kE v4] xn
  (wC (Jo x0) <|
  wR rfl <|
  wC (YP v3.Props) <|
  wn)
  ln
  (gW kE rfl rfl (gW kE rfl rfl (iY rfl)))
def R42 : iE:=
 ⟨[((.lb true),(zB (.and avp (.or (.bin .eql .kC (W 0 1) (W 1 1)) (.and (.bin .neq .kC (W 0 1) (W 0 1)) (.bin .neq .kC (W 1 1) (W 1 1)))))))],
 [],[]⟩
theorem e42 : jo Tryz.prog fG fH oU (oN kA 42 [] []) 3 200 42 [.agg Em,.agg (cV 1 dL.kG)] 2=some R42:=by kernel_rfl
theorem FZ (x0:dL)(x1:dL):CT Tryz.prog sT 42 [dL.av x0,dL.av x1] (eB (sZ x0 x1)):=
 qY jc dP dQ e42 xC (by kernel_rfl) [dL.av x0,dL.av x1] xn
  wn
  ln
  (iY rfl)
def R15 : iE:=
 let p0:Pc:=(arp,true)::[]
 let p1:Pc:=((.and arp (V 2)),true)::[]
 let p2:Pc:=((.and (.and arp (V 2)) (V 3)),true)::[]
 ⟨[((.lb true),(zB (.and (.and (.and arp (V 2)) (V 3)) (V 4))))],
 [(p0,(.call 42 [(.agg (cW 0 1 dL.kG)),(.agg (cW 1 1 dL.kG))] (zB (V 2)))),
 (p1,(.call 42 [(.agg (cW 0 5 dL.kG)),(.agg (cW 1 5 dL.kG))] (zB (V 3)))),
 (p2,(.call 42 [(.agg (cW 0 9 dL.kG)),(.agg (cW 1 9 dL.kG))] (zB (V 4))))],[]⟩
theorem e15 : jo Tryz.prog fG fH oU (oN kA 15 [] []) 3 200 15 [.agg xI,.agg (cV 1 dN.kG)] 2=some R15:=by kernel_rfl
theorem QN (x0:dN)(x1:dN):CT Tryz.prog sT 15 [dN.av x0,dN.av x1] (eB (vg x0 x1)):=
 let v2:Bool:=sZ x0.Value x1.Value
 let v3:Bool:=sZ x0.Get x1.Get
 let v4:Bool:=sZ x0.Set x1.Set
 qY jc dP dQ e15 xC (by kernel_rfl) [dN.av x0,dN.av x1,eB v2,eB v3,eB v4] xn
  (wC (FZ x0.Value x1.Value) <|
  wC (FZ x0.Get x1.Get) <|
  wC (FZ x0.Set x1.Set) <|
  wn)
  ln
  (iY rfl)
def att : Lo:=
 let p0:Pc:=((qN wz Ht),false)::[]
 let p1:Pc:=QF::p0
 .mk [((qN wz Ht),false)] 2 2 [rX,tC] [((.not XK),1,[(zB (V 2))]),((.not (.and (sE (W 4 0) (W 5 0)) (qE (W 4 1) (W 5 1)))),2,[rX]),((.lb true),0,[(zB (V 2)),NC])] [(p1,(.row (V 0) (V 3) QE)),
 (p1,(.row (V 1) (V 3) [(zS (W 5 0)),(zI (W 5 1))]))] [] [1,1] [(V 0),(V 1)]
def atu : LH:=.mk [Yy] Yz [(wz,1)] [] 0 [] []
def vF (r:Bool×Bool×Bool):Nat×List AV:=Ny r.1 [eB r.2.1] [eB r.2.2]
theorem BX (x0:List dI)(x1:List dI):∀(n:Nat) (u2:Bool) (u3:Int),nU Tryz.prog sT att atu [eL dI.enc x0,eL dI.enc x1] n [eB u2,eI u3] (vF (nT x0 x1 n u2 u3))
 |0,u2,u3=>l0
 |n+1,u2,u3=>
  let v4:dI:=x0.getD (u3:Int).toNat default
  let v5:dI:=x1.getD (u3:Int).toNat default
  EU rfl [dI.av v4,dI.av v5] xn (wR rfl <|
  wR rfl <|
  wn) ln <|
   rc vF rx<|rc vF rx<|rl (rg (BX x0 x1 n _ _))
def R16 : iE:=
 ⟨[((qN wz Ht),rX),(aex,(zB (V 4))),((.lb true),Hr)],
 [],[att]⟩
def H16 : LH:=.mk [] (.li 0) [] [] 0 [atu] []
theorem e16 : jo Tryz.prog fG fH oU (oN kA 16 [5,4] [(0,(.mk [0,1] (.mk [(4,(.sc .bool)),(5,(.sc kI))] [] [] 7) [(.normal,(.mk [(4,(.sc .bool))] [] [] 7)),(.ret,(.mk [(4,(.sc .bool))] [] [] 7))]))]) 3 200 16 [zL (V 0),zL (V 1)] 2=some R16:=by kernel_rfl
theorem QO (x0:List dI)(x1:List dI):CT Tryz.prog sT 16 [eL dI.enc x0,eL dI.enc x1] (eB (vw x0 x1)):=
 let r2:Bool×Bool×Bool:=nT x0 x1 (x0.length+1) false 0
 qY jc dP dQ e16 H16 (by kernel_rfl) [eL dI.enc x0,eL dI.enc x1,eI (ji r2.1),eB r2.2.1,eB r2.2.2] xn
  wn
  (Yp (BX x0 x1 (x0.length+1) false 0) <|
  ln)
  (gW (fun r=>.p (.bool r)) rfl rfl (gW (fun r=>.p (.bool r)) rfl rfl (iY rfl)))
def R3 : iE:=
 let p0:Pc:=((V 4),false)::[]
 let p1:Pc:=(avn,true)::p0
 let p2:Pc:=((.and (.and avn (V 11)) (qE (W 9 1) (W 10 1))),true)::p0
 ⟨[((V 4),Hr),((.lb true),(zB (.and (.and (.and avn (V 11)) (qE (W 9 1) (W 10 1))) (V 12))))],
 [([],(.call 8 [JV] (zB (V 4)))),
 (p0,(.call 9 [JV,(zI (V 1)),abS] (.fD [(zB (W 5 0)),(zI (W 5 1))]))),
 (p0,(.call 10 [JV,(zI (V 1)),abS] (.fD [(zB (W 6 0)),(zI (W 6 1))]))),
 (p0,(.call 11 [JV,(zI (V 1)),(.agg [(zS (W 3 0)),(zI (W 3 1))])] (.fD [(.agg (kQ 7 [0] 0 dN.kG)),(zB (W 7 1)),(zI (W 7 2))]))),
 (p0,(.call 12 [JV,(zI (V 1)),(.agg [(zS (W 3 0)),(zI (W 3 1))])] (.fD [(.agg (kQ 8 [0] 0 dN.kG)),(zB (W 8 1)),(zI (W 8 2))]))),
 (p0,(.call 13 [JV,(zI (V 1))] (.fD [(zL (W 9 0)),(zI (W 9 1))]))),
 (p0,(.call 14 [JV,(zI (V 1))] (.fD [(zL (W 10 0)),(zI (W 10 1))]))),
 (p1,(.call 15 [(.agg (kQ 7 [0] 0 dN.kG)),(.agg (kQ 8 [0] 0 dN.kG))] (zB (V 11)))),
 (p2,(.call 16 [(zL (W 9 0)),(zL (W 10 0))] (zB (V 12))))],[]⟩
theorem e3 : jo Tryz.prog fG fH oU (oN kA 3 [] []) 3 200 3 [.agg Cj,zI (V 1),.agg (cV 2 dL.kG),.agg (cV 3 dI.kG)] 4=some R3:=by kernel_rfl
theorem Jp (x0:dK)(x1:Int)(x2:dL)(x3:dI):CT Tryz.prog sT 3 [dK.av x0,eI x1,dL.av x2,dI.av x3] (eB (nY x0 x1 x2 x3)):=
 let v4:Bool:=EX x0
 let v5:Bool×Int:=u_ x0 x1 x2
 let v6:Bool×Int:=BR x0 x1 x2
 let v7:dN×Bool×Int:=y7 x0 x1 x3
 let v8:dN×Bool×Int:=Hq x0 x1 x3
 let v9:List dI×Int:=wH x0 x1
 let v10:List dI×Int:=xH x0 x1
 let v11:Bool:=vg v7.1 v8.1
 let v12:Bool:=vw v9.1 v10.1
 qY jc dP dQ e3 xC (by kernel_rfl) [dK.av x0,eI x1,dL.av x2,dI.av x3,eB v4,ny v5,ny v6,gu v7,gu v8,kE v9,kE v10,eB v11,eB v12] xn
  (wC (XQ x0) <|
  wC (QL x0 x1 x2) <|
  wC (X9 x0 x1 x2) <|
  wC (UC x0 x1 x3) <|
  wC (abW x0 x1 x3) <|
  wC (S_ x0 x1) <|
  wC (YQ x0 x1) <|
  wC (QN v7.1 v8.1) <|
  wC (QO v9.1 v10.1) <|
  wn)
  ln
  (gW (fun r=>.p (.bool r)) rfl rfl (iY rfl))
theorem Jq (x0:dK)(x1:Int)(x2:dL)(x3:dI):PC Tryz.prog 3 [dK.av x0,eI x1,dL.av x2,dI.av x3] (eB (nY x0 x1 x2 x3)):=(Jp x0 x1 x2 x3 trivial).1
end Go.Fw
end
section
namespace Go.Fw
open Go.Proofs
set_option maxRecDepth 100000
theorem Jr : Rd Tryz.prog 27 dL.enc dL.wf:=
 (Dw Tryz.underlying27 (by kernel_rfl) (jT (m:=1) rfl (by kernel_rfl) (Si Tryz.underlying5) (jT (m:=1) rfl (by kernel_rfl) (ani Tryz.underlying25) (jT (m:=1) rfl (by kernel_rfl) (ags Tryz.underlying9) (jT (m:=1) rfl (by kernel_rfl) (Si Tryz.underlying3) (MW)))))).to (fun x=>dL.mk x.1 x.2.1 x.2.2.1 x.2.2.2.1) (fun _=>rfl) (fun _ h=>⟨h.1,h.2.1,h.2.2.1,h.2.2.2.1⟩)
theorem aiU : Rd Tryz.prog 29 dI.enc dI.wf:=
 (Dw Tryz.underlying29 (by kernel_rfl) (jT (m:=1) rfl (by kernel_rfl) (ags Tryz.underlying9) (jT (m:=1) rfl (by kernel_rfl) (Si Tryz.underlying3) (MW)))).to (fun x=>dI.mk x.1 x.2.1) (fun _=>rfl) (fun _ h=>⟨h.1,h.2.1⟩)
theorem ao7 : Rd Tryz.prog 35 dN.enc dN.wf:=
 (Dw Tryz.underlying35 (by kernel_rfl) (jT (m:=1) rfl (by kernel_rfl) (Si Tryz.underlying5) (jT (m:=4) rfl (by kernel_rfl) Jr (jT (m:=4) rfl (by kernel_rfl) Jr (jT (m:=4) rfl (by kernel_rfl) Jr (jT (m:=1) rfl (by kernel_rfl) (MV Tryz.underlying4) (jT (m:=1) rfl (by kernel_rfl) (MV Tryz.underlying4) (jT (m:=1) rfl (by kernel_rfl) (MV Tryz.underlying4) (MW))))))))).to (fun x=>dN.mk x.1 x.2.1 x.2.2.1 x.2.2.2.1 x.2.2.2.2.1 x.2.2.2.2.2.1 x.2.2.2.2.2.2.1) (fun _=>rfl) (fun _ h=>⟨h.1,h.2.1,h.2.2.1,h.2.2.2.1⟩)
theorem ao8 : Rd Tryz.prog 98 dJ.enc dJ.wf:=
 (Dw Tryz.underlying98 (by kernel_rfl) (jT (m:=2) rfl (by kernel_rfl) aiU (jT (m:=16) rfl (by kernel_rfl) ao7 (MW)))).to (fun x=>dJ.mk x.1 x.2.1) (fun _=>rfl) (fun _ h=>⟨h.1,h.2.1⟩)
theorem arJ : Rd Tryz.prog 59 dS.enc dS.wf:=
 (Dw Tryz.underlying59 (by kernel_rfl) (jT (m:=1) rfl (by kernel_rfl) (Si Tryz.underlying5) (jT (m:=4) rfl (by kernel_rfl) Jr (jT (m:=1) rfl (by kernel_rfl) (MV Tryz.underlying4) (jT (m:=1) rfl (by kernel_rfl) (adG (m:=18) Tryz.underlying57 (by kernel_rfl) (by decide) (fun _=>rfl) ao8) (jT (m:=4) rfl (by kernel_rfl) Jr (jT (m:=4) rfl (by kernel_rfl) Jr (jT (m:=1) rfl (by kernel_rfl) (ags Tryz.underlying9) (jT (m:=1) rfl (by kernel_rfl) (MV Tryz.underlying4) (jT (m:=1) rfl (by kernel_rfl) (MV Tryz.underlying4) (MW))))))))))).to (fun x=>dS.mk x.1 x.2.1 x.2.2.1 x.2.2.2.1 x.2.2.2.2.1 x.2.2.2.2.2.1 x.2.2.2.2.2.2.1 x.2.2.2.2.2.2.2.1 x.2.2.2.2.2.2.2.2.1) (fun _=>rfl) (fun _ h=>⟨h.1,h.2.1,h.2.2.2.1,h.2.2.2.2.1,h.2.2.2.2.2.1,h.2.2.2.2.2.2.1⟩)
theorem ao9 : Rd Tryz.prog 24 dK.enc dK.wf:=
 (Dw Tryz.underlying24 (by kernel_rfl) (jT (m:=1) rfl (by kernel_rfl) (adG (m:=18) Tryz.underlying22 (by kernel_rfl) (by decide) (fun _=>rfl) arJ) (MW))).to (fun x=>dK.mk x.1) (fun _=>rfl) (fun _ h=>⟨h.1⟩)
end Go.Fw
end
section
namespace Go.Fw
structure HWg (h:dK):Prop where
 wf:HWf h
 tg:∀o∈h.Objects,o.Target.ok/\o.Handler.ok
 pl:∀o∈h.Objects,o.Props.length<=4294967296
theorem hwg {h:dK}(w:h.wf):HWg h:=⟨hwf w,fun o ho=>⟨vok (w.Objects.2 o ho).Target,vok (w.Objects.2 o ho).Handler⟩,fun o ho=>Nat.le_trans (w.Objects.2 o ho).Props.1 (by decide)⟩
theorem HWg.at {h:dK}(w:HWg h){i:Nat}(hi:i<h.Objects.length):(h.Objects.getD i default).Target.ok/\(h.Objects.getD i default).Handler.ok/\(h.Objects.getD i default).Props.length<=4294967296:=by
 have:h.Objects.getD i default∈h.Objects:=by rw [List.getD_eq_getElem?_getD,List.getElem?_eq_getElem hi];exact List.getElem_mem hi
 exact ⟨(w.tg _ this).1,(w.tg _ this).2,w.pl _ this⟩
theorem arK (o:dS):(bif o.Makes then (8:Int) else (bif o.Calls then 7 else 6))=AP o:=rfl
theorem LZ {h:dK}{v:dL}(hv:v.ok):jE h v=eH h v:=by
 unfold jE eH
 dsimp only
 rw [zf hv,AZ]
 cases hm:iw v with
 |false=>rfl
 |true=>
  cases ho:dM v with
  |false=>rfl
  |true=>
   simp only [Bool.not_true,cond_false,Bool.false_or,yj,arK]
   have h1:=hm
   unfold iw at h1
   dsimp only at h1
   obtain ⟨-,h1⟩:=zh h1
   unfold dM at ho
   simp only [Bool.and_eq_true,decide_eq_true_eq] at ho
   have k3:dZ v.Kind 3=false:=tK.2 (by omega)
   have k2:dZ v.Kind 2=false:=tK.2 (by omega)
   have k4:dZ v.Kind 4=false:=tK.2 (by omega)
   rw [k3,k2,k4] at h1
   simp only [cond_false,Bool.false_and,Bool.or_false,Bool.and_eq_true] at h1
   obtain ⟨⟨n,s⟩,-⟩:=h1
   unfold jk at n
   rw [Bool.and_eq_true] at n
   have n:=n.1
   rw [adI] at n
   have s':zW [] v.Str=true:=by unfold zW at s ⊢;rw [decide_eq_true_eq] at s ⊢;exact s.symm
   have r:dZ v.Ref v.Ref=true:=kP.2 rfl
   rw [n,s',r]
   simp
theorem ae6 {v:dL}(hv:v.ok):nR v 1=jQ v/\nR v 0=sV v:=by
 unfold nR jQ sV
 dsimp only
 rw [zf hv]
 exact ⟨rfl,rfl⟩
theorem ak6 {h:dK}{o:dS}(n:Int)(hp:o.eu.ok)(ht:o.Target.ok)(hh:o.Handler.ok):yu h o n=pK h o n:=by
 unfold yu pK
 dsimp only
 rw [(ae6 hp).1,(ae6 ht).1,(ae6 hh).1,LZ ht,LZ hh,AZ,AZ]
 have e3:jJ h n ((2:Int).toNat+1) false 0 [o.Target,o.Handler]=bif ((!dM o.Target||!eH h o.Target)||decide (o.Target.Ref>=n)) then (false,default,default,false,[o.Target,o.Handler]) else bif ((!dM o.Handler||!eH h o.Handler)||decide (o.Handler.Ref>=n)) then (false,default,default,false,[o.Target,o.Handler]) else (true,false,[o.Target,o.Handler],default,default):=by
  show jJ h n 3 false 0 [o.Target,o.Handler]=_
  simp only [jJ]
  have a0:dY .i64 0 1=1:=rfl
  have a1:dY .i64 1 1=2:=rfl
  rw [a0,a1]
  rfl
 rw [e3]
 have nt:∀{v:dL},jQ v=true->dM v=false:=by
  intro v hv
  unfold jQ at hv
  dsimp only at hv
  rw [Bool.and_eq_true] at hv
  have:=kP.1 hv.1
  unfold dM
  rw [this];rfl
 cases ht':jQ o.Target with
 |true=>
  cases hh':jQ o.Handler with
  |true=>rfl
  |false=>rw [nt ht'];rfl
 |false=>
  cases hh':jQ o.Handler with
  |true=>rw [nt hh'];simp only [Bool.false_or,cond_true,Bool.false_and,Bool.not_false,Bool.true_or];cases (!dM o.Target||!eH h o.Target||decide (o.Target.Ref>=n))<;>rfl
  |false=>
   simp only [Bool.or_self,Bool.and_self,cond_false]
   cases dM o.Target<;>cases dM o.Handler<;>cases eH h o.Target<;>cases eH h o.Handler<;>cases decide (o.Target.Ref>=n)<;>cases decide (o.Handler.Ref>=n)<;>rfl
theorem ae7 {h:dK}{o:dS}(hd:∀p∈o.Props,p.dV.ok):∀{n:Nat} {u:Bool} {i:Int},rJ h o.Props n u i=ig h o n u i
 |0,_,_=>rfl
 |n+1,u,i=>by
  simp only [rJ,ig]
  have:(o.Props.getD i.toNat default).dV.ok:=by
   by_cases hi:i.toNat<o.Props.length
   .exact hd _ (aD8 hi)
   .rw [List.getD_eq_getElem?_getD,List.getElem?_eq_none (by omega)];exact ⟨⟨by decide,by decide⟩,⟨⟨by decide,by decide⟩,by decide⟩,⟨⟨by decide,by decide⟩,by decide⟩,⟨⟨by decide,by decide⟩,by decide⟩⟩
  rw [LZ this.2.1,LZ this.2.2.1,LZ this.2.2.2,ae7 hd]
theorem atv {h:dK}{o:dS}:∀{n:Nat} {u:Bool} {i:Int},(ig h o n u i).1=false->(ig h o n u i).2.2=false
 |0,_,_,_=>rfl
 |n+1,u,i,hf=>by
  simp only [ig] at hf ⊢
  cases h1:(!(decide ((i:Int)<(je dJ.enc o.Props)))) with
  |true=>rw [h1] at hf;cases hf
  |false=>
   rw [h1] at hf
   simp only [cond_false] at hf ⊢
   cases h2:(((!eH h (o.Props.getD i.toNat default).dV.Value)||(!eH h (o.Props.getD i.toNat default).dV.Get))||(!eH h (o.Props.getD i.toNat default).dV.Set)) with
   |true=>rfl
   |false=>rw [h2] at hf;simp only [cond_false] at hf ⊢;exact atv hf
theorem ae8 {x0:Nat}{l:List dJ}{c:Int}(hc:((FloatKind.f64.decode x0).toInt .zero).getD 0=c)(hl:l.length<=4294967296):∀(n j:Nat) {u:Int} {b:Bool},j<=l.length->l.length-j<n->(iU x0 l n u j).1=(lW l c n b j).1/\((lW l c n b j).1=false->0<=(iU x0 l n u j).2.2/\(lW l c n b j).2.2=false)
 |0,j,_,_,_,h=>by omega
 |n+1,j,u,b,hj,hn=>by
  simp only [iU,lW,iL,U5,hc]
  by_cases hlt:j<l.length
  .have e1:(!decide ((j:Int)<(l.length:Int)))=false:=by rw [decide_eq_true (by omega)];rfl
   rw [e1]
   simp only [cond_false]
   cases ((iI (l.getD (j:Int).toNat default).Key).2&&decide ((iI (l.getD (j:Int).toNat default).Key).1>=c)) with
   |true=>exact ⟨rfl,fun _=>⟨by simp only [cond_true];omega,rfl⟩⟩
   |false=>
    simp only [cond_false]
    rw [nG (by omega) (by omega)]
    have e3:((j:Int)+1)=((j+1:Nat):Int):=by omega
    rw [e3]
    exact ae8 hc hl n (j+1) (by omega) (by omega)
  .have e1:(!decide ((j:Int)<(l.length:Int)))=true:=by rw [decide_eq_false (by omega)];rfl
   rw [e1]
   exact ⟨rfl,fun h=>Bool.noConfusion h⟩
theorem ao_ {x0:Nat}{l:List dJ}(hl:l.length<=4294967296):BO l (((FloatKind.f64.decode x0).toInt .zero).getD 0)=!jU x0 l:=by
 unfold BO jU mO
 dsimp only
 have h:=ae8 (x0:=x0) rfl hl (l.length+1) 0 (u:=0) (b:=false) (Nat.zero_le _) (by omega)
 have e0:((0:Nat):Int)=0:=rfl
 rw [e0] at h
 rw [h.1]
 cases hb:(lW l (((FloatKind.f64.decode x0).toInt .zero).getD 0) (l.length+1) false 0).1 with
 |true=>rfl
 |false=>
  have e2:(!dZ (ji false) 0)=true:=rfl
  simp only [e2,cond_true]
  obtain ⟨a,b⟩:=h.2 hb
  rw [b,decide_eq_true a];rfl
theorem ae9 {l:List dJ}{s:List UInt8}(hl:l.length<=4294967296):∀(n j:Nat) {u:Int} {b:Bool},j<=l.length->l.length-j<n->(jh l s n u j).1=(lY l s n b j).1/\((lY l s n b j).1=false->0<=(jh l s n u j).2.2/\(lY l s n b j).2.2=false)
 |0,j,_,_,_,h=>by omega
 |n+1,j,u,b,hj,hn=>by
  simp only [jh,lY,iL,U5,OY]
  by_cases hlt:j<l.length
  .have e1:(!decide ((j:Int)<(l.length:Int)))=false:=by rw [decide_eq_true (by omega)];rfl
   rw [e1]
   simp only [cond_false]
   cases (((iI (l.getD (j:Int).toNat default).Key).2&&decide ((iI (l.getD (j:Int).toNat default).Key).1<(sLen s)))||(zW (l.getD (j:Int).toNat default).Key.Str [108,101,110,103,116,104]&&dZ (l.getD (j:Int).toNat default).Key.Sym 0)) with
   |true=>exact ⟨rfl,fun _=>⟨by simp only [cond_true];omega,rfl⟩⟩
   |false=>
    simp only [cond_false]
    rw [nG (by omega) (by omega)]
    have e3:((j:Int)+1)=((j+1:Nat):Int):=by omega
    rw [e3]
    exact ae9 hl n (j+1) (by omega) (by omega)
  .have e1:(!decide ((j:Int)<(l.length:Int)))=true:=by rw [decide_eq_false (by omega)];rfl
   rw [e1]
   exact ⟨rfl,fun h=>Bool.noConfusion h⟩
theorem apa {l:List dJ}{s:List UInt8}(hl:l.length<=4294967296):BQ l s=xG l s:=by
 unfold BQ xG lU nS
 dsimp only
 have h:=ae9 (s:=s) hl (l.length+1) 0 (u:=0) (b:=false) (Nat.zero_le _) (by omega)
 have e0:((0:Nat):Int)=0:=rfl
 rw [e0] at h
 rw [h.1]
 by_cases hs:sLen s<=4096
 .rw [decide_eq_true hs,decide_eq_false (show ¬sLen s > 4096 by omega)]
  simp only [cond_false,Bool.true_and]
  cases hb:(lY l s (l.length+1) false 0).1 with
  |true=>rfl
  |false=>
   have e2:(!dZ (ji false) 0)=true:=rfl
   simp only [e2,cond_true]
   obtain ⟨a,b⟩:=h.2 hb
   rw [b,decide_eq_true a];rfl
 .rw [decide_eq_false hs,decide_eq_true (show sLen s > 4096 by omega)];rfl
theorem ak7 {d:dN}(h:fU d=true):jC (jZ .u8 d.Has 12) 0=!jC (jZ .u8 d.Has 3) 0:=by
 unfold fU at h
 dsimp only at h
 rw [Bool.and_eq_true,Bool.or_eq_true] at h
 rcases h.2 with h|h<;>rw [kP.1 h]<;>rfl
theorem apb {l:List dJ}(hl:l.length<=4294967296)(hw:∀p∈l,fU p.dV=true):BP l=xE l:=by
 unfold BP xE lH
 dsimp only [OY]
 rw [ao_ hl]
 by_cases h0:0<l.length
 .have hm:l.getD (0:Int).toNat default∈l:=aD8 h0
  rw [ak7 (hw _ hm)]
 .have:dZ (je dJ.enc l) 0=true:=by rw [iL];exact kP.2 (by omega)
  rw [this];rfl
theorem aiV {h:dK}(w:HWg h){i:Nat}(hi:i<h.Objects.length):kF h (i:Nat)=jv h (i:Nat):=by
 unfold kF jv
 dsimp only [Int.toNat_natCast]
 obtain ⟨hd,hp⟩:=w.wf.at i
 obtain ⟨ht,hh,hl⟩:=w.at hi
 generalize h.Objects.getD i default=o at hd hp ht hh hl
 rw [ak6 _ hp ht hh,(ae6 ht).2,(ae6 hh).2,LZ hp]
 have e1:wI h o (i:Nat)=(((((dZ o.Kind 5)&&dM o.Target)&&(decide ((o.Target.Ref:Int)<(i:Nat))))&&eH h o.Target)&&(dZ (h.Objects.getD o.Target.Ref.toNat default).Kind 6)):=by
  unfold wI
  dsimp only
  rw [LZ ht,AZ]
 rw [e1,AZ]
 cases dZ o.Kind 6 with
 |true=>rfl
 |false=>
  simp only [cond_false]
  cases (((!sV o.Target)&&(!(((((dZ o.Kind 5)&&dM o.Target)&&(decide ((o.Target.Ref:Int)<(i:Nat))))&&eH h o.Target)&&(dZ (h.Objects.getD o.Target.Ref.toNat default).Kind 6))))||(!sV o.Handler))||((sNe o.Text [])&&(jC o.Kind 3)) with
  |true=>rfl
  |false=>
   simp only [cond_false]
   cases ((jC o.eu.Kind 1)&&(!dM o.eu))||(!eH h o.eu) with
   |true=>rfl
   |false=>
    simp only [Bool.false_or]
    unfold E5
    dsimp only
    rw [<- vO _ hl hd,ae7 hd]
    cases hc:jC (jF o.Props) 0 with
    |true=>rfl
    |false=>
     simp only [cond_false]
     cases h12:(ig h o (o.Props.length+1) false 0).1 with
     |false=>
      have e2:(!dZ (ji false) 0)=true:=rfl
      simp only [e2,cond_true]
      rw [atv h12];rfl
     |true=>
      have e2:(!dZ (ji true) 0)=false:=rfl
      simp only [e2,cond_false,Bool.not_true]
      rw [apa hl]
      have hw:∀p∈o.Props,fU p.dV=true:=by
       have hc:=wF.1 hc
       rw [vO _ hl hd,He _ hl] at hc
       cases hb:decide ((o.Props.length:Int) > 1024) with
       |true=>rw [hb] at hc;cases hc
       |false=>rw [hb] at hc;exact Xv hc
      rw [apb hl hw]
theorem arL {h:dK}(w:HWg h):oP h=dZ (kR h) 0:=by
 rw [Bool.eq_iff_iff,XG,kP,Hl]
 constructor
 .rintro ⟨a,b,c⟩
  have ho:∀i,i<h.Objects.length->jv h (i:Nat)=true:=fun i hi=>by rw [<- aiV w hi];exact b i hi
  exact ⟨a,ho,XC (Qz ho) (by omega) c⟩
 .intro k
  exact ⟨k.len,fun i hi=>by rw [aiV w hi];exact k.obj i hi,k.aoo⟩
end Go.Fw
end
section
namespace Go.Fw
theorem abX {h:dK}:kR h≠0->kR h=9:=by
 unfold kR
 dsimp only
 cases hl:decide (((je dS.enc h.Objects):Int) > 4096) with
 |true=>exact fun _=>rfl
 |false=>
  have e:=Qy (x0:=h) (LP hl) (h.Objects.length+1) 0 0 (Nat.zero_le _) (by omega)
  have e0:((0:Nat):Int)=0:=rfl
  rw [e0] at e
  rw [e]
  simp only [cond_false]
  split
  .have e2:(!dZ (ji true) 0)=false:=rfl
   simp only [e2,cond_false]
   cases qW h with
   |true=>exact fun _=>rfl
   |false=>exact fun h=>absurd rfl h
  .have e2:(!dZ (ji false) 0)=true:=rfl
   simp only [e2,cond_true]
   intros;trivial
theorem arM {h:dK}{i:Int}(k:jv h i=true):jF (h.Objects.getD i.toNat default).Props=0:=by
 unfold jv at k
 dsimp only at k
 cases h6:dZ (h.Objects.getD i.toNat default).Kind 6 with
 |true=>
  rw [h6] at k
  simp only [cond_true] at k
  unfold pK at k
  dsimp only at k
  obtain ⟨hc,-⟩:=zh k
  simp only [Bool.or_eq_false_iff] at hc
  have:=of_decide_eq_false hc.1.1.1.1
  rw [iL] at this
  have:(h.Objects.getD i.toNat default).Props=[]:=List.length_eq_zero_iff.1 (by omega)
  rw [this];rfl
 |false=>
  rw [h6] at k
  simp only [cond_false] at k
  obtain ⟨-,k⟩:=zh k
  obtain ⟨k,-⟩:=zh k
  rw [Bool.or_eq_false_iff] at k
  exact wF.1 k.2
theorem avT {h:dK}{v:dL}:kV h v=eH h v:=by
 unfold kV eH AP
 dsimp only
 cases ho:dM v with
 |false=>cases iZ v<;>rfl
 |true=>
  cases iZ v with
  |false=>rfl
  |true=>
   simp only [Bool.not_true,cond_false,Bool.false_or]
   by_cases hr:v.Ref<je dS.enc h.Objects
   .rw [decide_eq_true hr,decide_eq_false (show ¬v.Ref>=je dS.enc h.Objects by omega)]
    simp only [cond_false,Bool.true_and]
    unfold dM at ho
    simp only [Bool.and_eq_true,decide_eq_true_eq] at ho
    have:v.Kind=6\/v.Kind=7\/v.Kind=8:=by omega
    cases (h.Objects.getD v.Ref.toNat default).Makes<;>cases (h.Objects.getD v.Ref.toNat default).Calls<;>rcases this with e|e|e<;>rw [e]<;>rfl
   .rw [decide_eq_false hr,decide_eq_true (show v.Ref>=je dS.enc h.Objects by omega)];rfl
theorem QS {h:dK}{x1:Int}:∀{n:Nat} {u:Bool} {v:dL},qj h x1 n u v=jP h x1 n u v
 |0,_,_=>rfl
 |n+1,u,v=>by simp only [qj,jP,AZ,QS (n:=n)]
theorem ak8 {h:dK}{x1:Int}{v:dL}:zi h x1 v=jd h x1 v:=by
 unfold zi jd
 rw [QS]
theorem O6 (v:dL):sZ v v=true:=by
 unfold sZ
 rw [kP.2 rfl,kP.2 rfl,MX]
 have:zW v.Str v.Str=true:=by unfold zW;simp
 rw [this]
 cases fEq v.Num v.Num<;>rfl
theorem Yb (d:dN):vg d d=true:=by
 unfold vg
 dsimp only
 rw [O6,O6,O6,kP.2 rfl]
 have:∀b:Bool,Nr b b=true:=fun b=>by cases b<;>rfl
 rw [this,this,this];rfl
theorem aiW {l:List dI}(hl:l.length<=4294967296):∀(n j:Nat) {u:Bool},j<=l.length->l.length-j<n->(nT l l n u j).1=true
 |0,j,_,_,h=>by omega
 |n+1,j,u,hj,hn=>by
  simp only [nT,iL]
  by_cases hlt:j<l.length
  .have e1:(!decide ((j:Int)<(l.length:Int)))=false:=by rw [decide_eq_true (by omega)];rfl
   rw [e1]
   have s:∀k:dI,(!((zW k.Str k.Str)&&(dZ k.Sym k.Sym)))=false:=fun k=>by rw [kP.2 rfl];unfold zW;simp
   rw [s]
   simp only [cond_false]
   rw [nG (by omega) (by omega)]
   have e3:((j:Int)+1)=((j+1:Nat):Int):=by omega
   rw [e3]
   exact aiW hl n (j+1) (by omega) (by omega)
  .have e1:(!decide ((j:Int)<(l.length:Int)))=true:=by rw [decide_eq_false (by omega)];rfl
   rw [e1];rfl
theorem Yc {l:List dI}(hl:l.length<=4294967296):vw l l=true:=by
 unfold vw
 dsimp only
 have h:=aiW hl (l.length+1) 0 (u:=false) (Nat.zero_le _) (by omega)
 have e0:((0:Nat):Int)=0:=rfl
 rw [e0] at h
 rw [h,wF.2 rfl];rfl
theorem axB {k:dI}:jC (fP k) 0=true->fP k=9:=by
 unfold fP
 cases ((((decide ((k.Sym:Int)<0))||(decide (((sLen k.Str):Int) > 4096)))||((decide ((k.Sym:Int) > 0))&&(decide (((sLen k.Str):Int) > 0))))) with
 |true=>exact fun _=>rfl
 |false=>exact fun h=>absurd h (by decide)
theorem ahe {x0:dK}{x1:Int}{x2:dL}{x3:dI}(w:HWg x0)(hv:x2.ok):nY x0 x1 x2 x3=true:=by
 have b1:∀b:Bool,Nr b b=true:=fun b=>by cases b<;>rfl
 have i1:∀i:Int,dZ i i=true:=fun i=>kP.2 rfl
 have L:u_ x0 x1 x2=BR x0 x1 x2/\y7 x0 x1 x3=Hq x0 x1 x3/\wH x0 x1=xH x0 x1:=by
  unfold u_ BR y7 Hq wH xH Bo
  dsimp only [Qm]
  rw [arL w]
  by_cases hC:kR x0=0
  .rw [wF.2 hC,kP.2 hC]
   simp only [cond_false,Bool.not_true]
   cases hi:((decide ((x1:Int)<0))||(decide ((x1:Int)>=(je dS.enc x0.Objects)))) with
   |true=>
    have:jC 2 0=true:=rfl
    simp only [cond_true,this]
    refine ⟨?_,?_,?_⟩<;>trivial
   |false=>
    have:jC 0 0=false:=rfl
    simp only [cond_false,this]
    rw [iL,Bool.or_eq_false_iff] at hi
    have hi0:=of_decide_eq_false hi.1
    have hi1:=of_decide_eq_false hi.2
    have hlt:x1.toNat<x0.Objects.length:=by omega
    obtain ⟨-,-,hl⟩:=w.at hlt
    obtain ⟨hd,-⟩:=w.wf.at x1.toNat
    have ho:=(Hl.1 hC).obj _ hlt
    have ht:=arM ho
    rw [Int.toNat_natCast] at ht
    refine ⟨?_,?_,?_⟩
    .have e:jV x0 x2=!(((jC x2.Kind 1)&&(!eX x2))||(!Ho x0 x2)):=by
      unfold jV
      dsimp only
      have e2:Ho x0 x2=kV x0 x2:=by rw [avT,<- LZ hv];rfl
      rw [e2,AZ]
      have:jC x2.Kind 1=!dZ x2.Kind 1:=rfl
      rw [this]
      cases dZ x2.Kind 1<;>cases dM x2<;>cases kV x0 x2<;>rfl
     rw [e,ak8,Bool.not_not]
    .rw [aoe _ _ hl hd]
     cases hk:jC (fP x3) 0 with
     |false=>
      simp only [cond_false]
      unfold xA kT
      dsimp only
      rw [<- vO _ hl hd,wF.2 ht]
      simp only [cond_false]
      rw [hk]
      simp only [cond_false]
      cases decide (kS (x0.Objects.getD x1.toNat default).Props x3<0)<;>rfl
     |true=>
      simp only [cond_true]
      unfold xA kT
      dsimp only
      rw [<- vO _ hl hd,wF.2 ht]
      simp only [cond_false]
      rw [hk,axB hk]
      rfl
    .rw [aod _ hl hd]
     unfold uZ
     dsimp only
     rw [<- vO _ hl hd,wF.2 ht]
     rfl
  .have h9:=abX hC
   rw [h9]
   exact ⟨rfl,rfl,rfl⟩
 have Kl:(xH x0 x1).1.length<=4294967296:=by
  unfold xH
  dsimp only
  cases hm:oP x0 with
  |false=>exact Nat.zero_le _
  |true=>
   simp only [Bool.not_true,cond_false]
   cases hi:((decide ((x1:Int)<0))||(decide ((x1:Int)>=(je dS.enc x0.Objects)))) with
   |true=>exact Nat.zero_le _
   |false=>
    rw [iL,Bool.or_eq_false_iff] at hi
    have hi0:=of_decide_eq_false hi.1
    have hi1:=of_decide_eq_false hi.2
    obtain ⟨-,-,hl⟩:=w.at (i:=x1.toNat) (by omega)
    exact akP _ hl
 unfold nY
 dsimp only
 rw [L.1,L.2.1,L.2.2,b1,i1,b1,i1,Yb,i1,Yc Kl]
 cases EX x0<;>rfl
end Go.Fw
end
