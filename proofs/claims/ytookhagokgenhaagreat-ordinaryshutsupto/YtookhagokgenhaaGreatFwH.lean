
import Derived.Test.YtookhagokgenhaaGreatFwG
import Derived.Test.YtookhagokgenhaaGreatFwF
import Derived.Test.YtookhagokgenhaaGreatRows
import Derived.Test.YtookhagokgenhaaGreatProg
import Derived.Test.YtookhagokgenhaaGreatFwE
set_option linter.unusedVariables false
set_option linter.unusedSimpArgs false
set_option linter.unusedSectionVars false
set_option linter.unnecessarySimpa false
section
namespace Go.Fw
set_option maxRecDepth 100000
set_option maxHeartbeats 4000000
open Go.Proofs
instance : UN dJ.enc:=⟨dJ.iC⟩
instance {x : dJ}:Fz (dJ.av x):=⟨dJ.fz x⟩
instance : NG dJ.enc 4:=⟨dJ.len⟩
instance : UN dH.enc:=⟨dH.iC⟩
instance {x : dH}:Fz (dH.av x):=⟨dH.fz x⟩
instance : NG dH.enc 2:=⟨dH.len⟩
instance : UN dI.enc:=⟨dI.iC⟩
instance {x : dI}:Fz (dI.av x):=⟨dI.fz x⟩
instance : NG dI.enc 16:=⟨dI.len⟩
instance : UN dL.enc:=⟨dL.iC⟩
instance {x : dL}:Fz (dL.av x):=⟨dL.fz x⟩
instance : NG dL.enc 18:=⟨dL.len⟩
instance : UN dM.enc:=⟨dM.iC⟩
instance {x : dM}:Fz (dM.av x):=⟨dM.fz x⟩
instance : NG dM.enc 18:=⟨dM.len⟩
instance : UN dK.enc:=⟨dK.iC⟩
instance {x : dK}:Fz (dK.av x):=⟨dK.fz x⟩
instance : NG dK.enc 1:=⟨dK.len⟩
instance : UN gJ.enc:=⟨gJ.iC⟩
instance {x : gJ}:Fz (gJ.av x):=⟨gJ.fz x⟩
instance : NG gJ.enc 26:=⟨gJ.len⟩
instance : UN rY.enc:=⟨rY.iC⟩
instance {x : rY}:Fz (rY.av x):=⟨rY.fz x⟩
instance : NG rY.enc 32:=⟨rY.len⟩
instance : UN iI.enc:=⟨iI.iC⟩
instance {x : iI}:Fz (iI.av x):=⟨iI.fz x⟩
instance : NG iI.enc 29:=⟨iI.len⟩
instance : UN rZ.enc:=⟨rZ.iC⟩
instance {x : rZ}:Fz (rZ.av x):=⟨rZ.fz x⟩
instance : NG rZ.enc 87:=⟨rZ.len⟩
instance : UN zf.enc:=⟨zf.iC⟩
instance {x : zf}:Fz (zf.av x):=⟨zf.fz x⟩
instance : NG zf.enc 23:=⟨zf.len⟩
instance : UN ny.enc:=⟨ny.iC⟩
instance {x : ny}:Fz (ny.av x):=⟨ny.fz x⟩
instance : NG ny.enc 24:=⟨ny.len⟩
instance {r : dI×Int}:Fz (zO r):=⟨(inferInstance:PU [(dI.av r.1),(.p (.int .i64 r.2))]).h⟩
instance {r : Int×Bool}:Fz (oW r):=⟨(inferInstance:PU [(.p (.int .i64 r.1)),(.p (.bool r.2))]).h⟩
instance {r : dI×Bool×Int}:Fz (f_ r):=⟨(inferInstance:PU [(dI.av r.1),(.p (.bool r.2.1)),(.p (.int .i64 r.2.2))]).h⟩
instance {r : Bool×Int}:Fz (w_ r):=⟨(inferInstance:PU [(.p (.bool r.1)),(.p (.int .i64 r.2))]).h⟩
instance {r : List dL×Int}:Fz (kF r):=⟨(inferInstance:PU [(.sl (List.map dL.enc r.1) false),(.p (.int .i64 r.2))]).h⟩
instance {r : Int×Int}:Fz (kL r):=⟨(inferInstance:PU [(.p (.int .i64 r.1)),(.p (.int .i64 r.2))]).h⟩
instance {r : List dH×Int}:Fz (nG r):=⟨(inferInstance:PU [(.sl (List.map dH.enc r.1) false),(.p (.int .i64 r.2))]).h⟩
instance {r : dK×gJ×Int}:Fz (fH r):=⟨(inferInstance:PU [(dK.av r.1),(gJ.av r.2.1),(.p (.int .i64 r.2.2))]).h⟩
instance {r : dK×gJ}:Fz (vT r):=⟨(inferInstance:PU [(dK.av r.1),(gJ.av r.2)]).h⟩
instance {r : dM×Int}:Fz (qj r):=⟨(inferInstance:PU [(dM.av r.1),(.p (.int .i64 r.2))]).h⟩
noncomputable def gu : pG:=xOr (aom 156 155 153) (acB Tryz.prog)
theorem dU : ∀σ:List AV,iC σ=true->n_ Tryz.prog σ gu:=aot (alr uw vX CW) agk
noncomputable def gB : DX:=alu (Yc Tryz.prog ajZ) (alu (aov Tryz.prog (ocT [(86,[0],18,true),(87,[0],18,true),(46,[0],18,false),(18,[0,0],18,false),(79,[],2,true),(81,[],2,true)])) (aoW [136,137] (aoz Tryz.prog (wcT [(100000,[(0,18)]),(127,[(1,2)]),(145,[(1,2)]),(146,[(1,2)]),(157,[(1,2)]),(161,[(1,2)]),(116,[]),(60,[]),(63,[]),(132,[])]))))
theorem dV : ∀σ:List AV,iC σ=true->nN Tryz.prog σ gB:=aei (acY aqX) (aei alv (al7 alB))
def rJ : Md:=mdT 5871356456951737715627160420826621365518021009141724136019110586212477782060648894380917167715692941303349248
def kA : List (List Nat):=[[],[],[],[],[],[],[],[],[],[],[],[],[],[],[],[],[],[],[],[],[],[],[],[],[],[],[],[],[],[],[],[],[],[],[],[],[],[],[],[],[],[],[],[],[],[],[],[],[],[],[],[],[],[],[],[],[],[],[],[],[0,1,2,6,7,8,9,14,15,16,17,18,30],[],[],[0,1,2,6,7,8,9,14,15,16,17,18,30],[],[],[],[],[],[],[],[],[],[],[],[],[],[],[],[],[],[],[],[],[],[],[],[],[],[],[],[],[],[],[],[],[],[],[],[],[],[],[],[],[],[],[],[0,1,2,5,6,7,8,9,30,31,32,33,34,35,36,37],[],[0,1,4,5],[],[],[],[],[],[],[0,1,4],[],[],[],[],[],[],[],[],[],[],[1,2,4,5,6,7,11,26,31,49],[],[],[],[],[0,1,4,5,7,8,9,16],[],[],[],[],[],[],[],[],[],[],[],[],[1,2,3,6,7,12,20,21,22,23,24,25,26],[1,2,3,4,8,9,10,11,12,13,14,15,16,17,18,19,20,21,22,26,31,42,50,62,67,79,86,106,117,131,142,143,144,145,155,156,157,158,168,169,170,171],[],[],[],[],[],[],[],[],[],[],[1,2,3,4,8,9,18,21],[],[],[],[1,2,3,4,8,11],[],[],[],[],[],[],[],[],[],[],[],[],[],[],[],[],[],[],[],[],[]]
def sT : Ba:=⟨[(78,⟨[],[(qM (.rlen (V 0)) (.li 4294967296))],[(.or (qN (V 1) (.li 0)) (qM (.rlen (V 0)) (.li 1024)))]⟩),
 (65,⟨[(qM (.li 0) (V 1)),(qL (V 1) (.rlen (W 0 0)))],[],[]⟩),
 (45,⟨[],[(qM (.rlen (W 0 0)) (.li 4294967296)),(qM (.rlen (W 1 28)) (.li 4294967296))],[(.or (qN (V 2) (.li 0)) (qM (.li 0) (W 1 1))),(.or (qN (V 2) (.li 0)) (qL (W 1 1) (.rlen (W 0 0))))]⟩),
 (46,⟨[],[(qM (.rlen (W 0 0)) (.li 4294967296))],[(qE (.rlen (W 1 0)) (.rlen (W 0 0)))]⟩),
 (74,⟨[],[(qM (.rlen (V 0)) (.li 4294967296))],[(.or (qN (V 2) (.li 0)) (qM (.rlen (V 0)) (.li 1024)))]⟩),
 (75,⟨[],[(qM (.rlen (V 0)) (.li 4294967296))],[(qL (V 2) (.rlen (V 0)))]⟩),
 (23,⟨[(qM (.li 0) (V 2)),(qL (V 2) (.rlen (W 0 0))),(qE (.rlen (W 0 0)) (.rlen (W 1 0)))],[],[]⟩)],[(145,4,⟨[(qM (.li 0) (V 1)),(qM (.li 0) (V 2)),(qM (V 2) (.rlen (V 4))),(qM (V 1) (.rlen (V 4)))],[(qM (.rlen (V 4)) (.li 4294967296))],[(qE (.rlen (V 7)) (.rlen (V 4)))]⟩),
 (161,4,⟨[(qM (V 1) (mI (.rlen (V 5)) (V 3))),(qM (V 2) (mI (.rlen (V 5)) (V 3))),(qM (.li 0) (V 1)),(qM (.li 0) (V 2)),(qM (.li 0) (V 3)),(qM (V 1) (.rlen (V 5))),(qM (V 2) (.rlen (V 5))),(qM (V 3) (.rlen (V 5)))],[(qM (.rlen (V 5)) (.li 4294967296))],[(qE (.rlen (V 8)) (.rlen (V 5)))]⟩),
 (157,4,⟨[(qM (.li 0) (V 1)),(qL (V 1) (V 2)),(qL (V 2) (V 3)),(qM (V 3) (.rlen (V 5)))],[(qM (.rlen (V 5)) (.li 4294967296))],[(qE (.rlen (V 8)) (.rlen (V 5)))]⟩),
 (146,4,⟨[(qM (.li 0) (V 1)),(qL (V 1) (V 2)),(qL (V 2) (V 3)),(qM (V 3) (.li 4294967296)),(qM (V 3) (.rlen (V 5)))],[(qM (.rlen (V 5)) (.li 4294967296))],[(qE (.rlen (V 8)) (.rlen (V 5)))]⟩),
 (127,4,⟨[(qM (.li 0) (V 1)),(qM (V 1) (.rlen (V 3)))],[(qM (.rlen (V 3)) (.li 4294967296))],[(qE (.rlen (V 6)) (.rlen (V 3)))]⟩)]⟩
theorem ang (a b:Int):aeq Tryz.prog 10000 3 (.p (.int .i64 a)) (.p (.int .i64 b))=some (decide (a=b)):=by
 have h:yEq Tryz.prog 10000 3 (.sc (.int .i64) (.var 0 [])) (.sc (.int .i64) (.var 1 []))=some (.bin .eql (.int .i64) (.var 0 []) (.var 1 [])):=by kernel_rfl
 have h2:=N8 (P:=Tryz.prog) (ρ:=[.p (.int .i64 a),.p (.int .i64 b)]) h
 refine h2.trans ?_
 show some (a == b)=_
 rw [axd]
theorem aj0 (a b:dH):aeq Tryz.prog 10000 29 (.agg a.enc) (.agg b.enc)=some (decide (a=b)):=by
 have h:yEq Tryz.prog 10000 29 (.agg (gX 0 [] 0 dH.fC)) (.agg (gX 1 [] 0 dH.fC))=some (.and (.bin .eql .str (.var 0 [0]) (.var 1 [0])) (.bin .eql (.int .i64) (.var 0 [1]) (.var 1 [1]))):=by kernel_rfl
 have h2:=N8 (P:=Tryz.prog) (ρ:=[a.av,b.av]) h
 refine h2.trans ?_
 congr 1
 show (DK a.Str b.Str&&dS a.Sym b.Sym)=decide (a=b)
 cases a;cases b
 simp [DK,dS,NV,Bool.decide_and,axd]
def R44 : iL:=
 ⟨[((.lb true),(.agg [(zS (V 0)),(zI (.li 0))]))],
 [],[]⟩
theorem e44 : jU Tryz.prog gu gB rJ (rG kA 44 [] []) 3 200 44 [zS (V 0)] 1=some R44:=by kernel_rfl
theorem F6 (x0:List UInt8):CT Tryz.prog sT 44 [eS x0] (dH.av (nV x0)):=
 vS jR dU dV e44 zn (by kernel_rfl) [eS x0] xn
  wn
  ln
  (jQ rfl)
def R56 : iL:=
 ⟨[((.lb true),(.agg [(zU (.li 3)),(zF (V 0)),(zS (.ls [])),(zI (.li 0))]))],
 [],[]⟩
theorem e56 : jU Tryz.prog gu gB rJ (rG kA 56 [] []) 3 200 56 [zF (V 0)] 1=some R56:=by kernel_rfl
theorem Yn (x0:Nat):CT Tryz.prog sT 56 [eF x0] (dJ.av (Ec x0)):=
 vS jR dU dV e56 zn (by kernel_rfl) [eF x0] xn
  wn
  ln
  (jQ rfl)
def R55 : iL:=
 ⟨[((.lb true),(.agg [(zU (.li 51)),(zU (W 0 0)),(zF (W 0 1)),(zS (W 0 2)),(zI (W 0 3)),(zU (.li 0)),(zF (.lf 0)),(zS (.ls [])),(zI (.li 0)),(zU (.li 0)),(zF (.lf 0)),(zS (.ls [])),(zI (.li 0)),(zB (.lb true)),(zB (.lb true)),(zB (.lb true))]))],
 [],[]⟩
theorem e55 : jU Tryz.prog gu gB rJ (rG kA 55 [] []) 3 200 55 [.agg (cV 0 dJ.fC)] 1=some R55:=by kernel_rfl
theorem Yo (x0:dJ):CT Tryz.prog sT 55 [dJ.av x0] (dI.av (OO x0)):=
 vS jR dU dV e55 zn (by kernel_rfl) [dJ.av x0] xn
  wn
  ln
  (jQ rfl)
def R20 : iL:=
 ⟨[((.lb true),(.agg (cV 1 dI.fC)))],
 [([],(.call 56 [(zF (.lf 4619567317775286272))] (.agg (cV 0 dJ.fC)))),
 ([],(.call 55 [(.agg (cV 0 dJ.fC))] (.agg (cV 1 dI.fC))))],[]⟩
theorem e20 : jU Tryz.prog gu gB rJ (rG kA 20 [] []) 3 200 20 [] 0=some R20:=by kernel_rfl
theorem Bg : CT Tryz.prog sT 20 [] (dI.av ku):=
 vS jR dU dV e20 zn (by kernel_rfl) [dJ.av (Ec 4619567317775286272),dI.av (OO (Ec 4619567317775286272))] xn
  (wC (Yn 4619567317775286272) <|
  wC (Yo (Ec 4619567317775286272)) <|
  wn)
  ln
  (jQ rfl)
def R82 : iL:=
 ⟨[((.lb true),(.agg [(zU (.li 6)),(zF (.lf 0)),(zS (.ls [])),(zI (V 0))]))],
 [],[]⟩
theorem e82 : jU Tryz.prog gu gB rJ (rG kA 82 [] []) 3 200 82 [zI (V 0)] 1=some R82:=by kernel_rfl
theorem Us (x0:Int):CT Tryz.prog sT 82 [eI x0] (dJ.av (IX x0)):=
 vS jR dU dV e82 zn (by kernel_rfl) [eI x0] xn
  wn
  ln
  (jQ rfl)
def R43 : iL:=
 ⟨[((.lb true),(.agg [(.slc [[(zU (.li 1)),(zU (.li 1)),(zF (.lf 0)),(zS (.ls [])),(zI (.li 0)),(zB (.lb true)),(.slc [[(zS (W 0 0)),(zI (W 0 1)),(zU (W 1 0)),(zU (W 1 1)),(zF (W 1 2)),(zS (W 1 3)),(zI (W 1 4)),(zU (W 1 5)),(zF (W 1 6)),(zS (W 1 7)),(zI (W 1 8)),(zU (W 1 9)),(zF (W 1 10)),(zS (W 1 11)),(zI (W 1 12)),(zB (W 1 13)),(zB (W 1 14)),(zB (W 1 15))]] false),(zU (.li 0)),(zF (.lf 0)),(zS (.ls [])),(zI (.li 0)),(zU (.li 0)),(zF (.lf 0)),(zS (.ls [])),(zI (.li 0)),(zS (.ls [])),(zB (.lb false)),(zB (.lb false))],[(zU (.li 1)),(zU (W 2 0)),(zF (W 2 1)),(zS (W 2 2)),(zI (W 2 3)),(zB (.lb true)),(.slc [] false),(zU (.li 0)),(zF (.lf 0)),(zS (.ls [])),(zI (.li 0)),(zU (.li 0)),(zF (.lf 0)),(zS (.ls [])),(zI (.li 0)),(zS (.ls [])),(zB (.lb false)),(zB (.lb false))]] false)]))],
 [([],(.call 44 [(zS (.ls [97]))] (.agg [(zS (W 0 0)),(zI (W 0 1))]))),
 ([],(.call 20 [] (.agg (cV 1 dI.fC)))),
 ([],(.call 82 [(zI (.li 0))] (.agg (cV 2 dJ.fC))))],[]⟩
theorem e43 : jU Tryz.prog gu gB rJ (rG kA 43 [] []) 3 200 43 [] 0=some R43:=by kernel_rfl
theorem Nw : CT Tryz.prog sT 43 [] (dK.av ql):=
 vS jR dU dV e43 zn (by kernel_rfl) [dH.av (nV [97]),dI.av (ku ),dJ.av (IX 0)] xn
  (wC (F6 [97]) <|
  wC (Bg) <|
  wC (Us 0) <|
  wn)
  ln
  (jQ rfl)
def anh : Lo:=
 let p0:Pc:=((qL (V 3) (.rlen (W 0 0))),true)::[]
 let p1:Pc:=((W 8 0),false)::p0
 let p2:Pc:=((W 9 1),false)::p1
 .mk [((qL (V 3) (.rlen (W 0 0))),true)] 5 3 [(zB (V 2)),(zI (V 3)),(.slc [] false)] [((.not (.not (W 8 0))),1,[(zB (V 5)),(zI (V 6)),(zL (V 7))]),((W 9 1),2,[(zB (.lb true)),(zL (V 7))]),((uE (W 11 1) (.li 1)),1,[(zB (V 5)),(zI (V 6)),(zL (V 10))]),((.lb true),0,[(zB (V 5)),(zI (W 11 4)),(zL (V 10))])] [(p0,(.tm (qM (.li 0) (V 6)))),
 (p0,(.tm (qL (V 6) (.rlen (W 0 0))))),
 (p0,(.rd (false,1) (V 4) (V 6) 0 (zB (W 8 0)))),
 (p1,(.look 3 (.mk false 1 false 1) (V 7) (zI (V 6)) (zB (.lb false)) (W 9 0) (zB (W 9 1)))),
 (p2,(.put 3 (.mk false 1 false 1) (V 7) (zI (V 6)) (zB (.lb true)) (V 10))),
 (p2,(.row (W 0 0) (V 6) (cV 11 dM.fC)))] [] [3,2] []
def ani : LH:=.mk [(qM (.li 0) (V 6)),(qL (V 6) (.rlen (W 0 0)))] .nl [] [([((uN (W 11 1) (.li 1)),true)],(qM (.li 0) (W 11 4))),([((uN (W 11 1) (.li 1)),true),((qL (V 6) (.rlen (W 0 0))),true),((qM (.li 0) (V 6)),true)],(qL (W 11 4) (.rlen (W 0 0))))] 0 [] []
def t_ (r:Bool×Bool×Int×List (Int×Bool)×Bool×List (Int×Bool)):Nat×List AV:=Z5 r.1 [eB r.2.1,eI r.2.2.1,eL (zi Dj rowB) r.2.2.2.1] [eB r.2.2.2.2.1,eL (zi Dj rowB) r.2.2.2.2.2]
theorem Ey (x0:dK)(v1:List Bool)(u2:Bool)(u3:Int)(u4:List Bool):∀(n:Nat) (u5:Bool) (u6:Int) (u7:List (Int×Bool)) (hP:Yz x0) (hB:x0.Objects.length<=4294967296) (_:kG x0 u4 n u5 u6 u7=true),u_ Tryz.prog sT anh ani [dK.av x0,eL rowB v1,eB u2,eI u3,eL rowB u4] n [eB u5,eI u6,eL (zi Dj rowB) u7] (t_ (g_ x0 u4 n u5 u6 u7))
 |0,u5,u6,u7,_,_,hE=>absurd (show false=true from hE) Bool.false_ne_true
 |n+1,u5,u6,u7,hP,hB,hE=>
  let v8:Bool:=u4.getD (u6:Int).toNat default
  let v9:Bool×Bool:=nC false u6 u7
  let v10:List (Int×Bool):=nD u6 true u7
  let v11:dM:=x0.Objects.getD (u6:Int).toNat default
  have hE:(bif (!(!v8)) then true
  else bif v9.2 then true
  else bif (dS v11.eY.Kind 1) then true
  else kG x0 u4 n u5 v11.eY.Ref v10)=true:=hE
  PV rfl [.agg (rowB v8),.agg (eB v9.1::rowB v9.2),eL (zi Dj rowB) v10,dM.av v11] (xp (fun h=>decide_eq_true (ajW hP (J4.1 (h.at 0 rfl))))<|xp (fun h=>decide_eq_true (anf hP (J4.1 (h.at 0 rfl)) (of_decide_eq_true (h.at 1 rfl)) (of_decide_eq_true (h.at 2 rfl))))<|xn) (wT <|
  wT <|
  UD rfl <|
  am_ (f:=Dj) (g:=rowB) ang u6 false rfl <|
  aqS (f:=Dj) (g:=rowB) ang u6 true rfl <|
  wR rfl <|
  wn) ln <|
   rcf t_ (fun g0=>rx)<|fun g0=>rcf t_ (fun g1=>rx)<|fun g1=>rcf t_ (fun g2=>rx)<|fun g2=>rl (rg (Ey x0 v1 u2 u3 u4 n _ _ _ hP hB (Wu g2 (Wu g1 (Wu g0 hE)))))
def anj : Lo:=
 let p0:Pc:=((qL (V 3) (.rlen (W 0 0))),true)::[]
 let p1:Pc:=((qE (V 5) (.li 0)),true)::p0
 .mk [] 2 3 [(zB (.lb false)),(zI (.li 0)),(zL (V 1))] [((.not (qL (V 3) (.rlen (W 0 0)))),1,[(zB (V 2)),(zL (V 4))]),((.not (qE (V 5) (.li 0))),2,[(zB (V 9)),(zL (V 4))]),((.lb true),0,[(zB (V 6)),(zI (aI (V 3) (.li 1))),(zL (V 11))])] [(p1,(.mark (.mk false 1 false 1) (V 8) (V 4) (.rlen (W 0 0)) (V 11)))] [anh] [2,2] []
def ank : LH:=.mk [(qM (.li 0) (V 3)),(qE (.rlen (V 4)) (.rlen (V 1)))] (mI (.rlen (W 0 0)) (V 3)) [((.rlen (W 0 0)),1)] [] 1 [ani] []
def yK (r:Bool×Bool×List Bool×Bool×List Bool):Nat×List AV:=Z5 r.1 [eB r.2.1,eL rowB r.2.2.1] [eB r.2.2.2.1,eL rowB r.2.2.2.2]
theorem Ez (x0:dK)(v1:List Bool):∀(n:Nat) (u2:Bool) (u3:Int) (u4:List Bool) (hP:Yz x0) (hB:x0.Objects.length<=4294967296) (k0:0<=u3),u_ Tryz.prog sT anj ank [dK.av x0,eL rowB v1] n [eB u2,eI u3,eL rowB u4] (yK (kY x0 n u2 u3 u4))
 |0,u2,u3,u4,_,_,_=>l0
 |n+1,u2,u3,u4,hP,hB,k0=>
  let r5:Bool×Bool×Int×List (Int×Bool)×Bool×List (Int×Bool):=g_ x0 u4 (x0.Objects.length+3) u2 u3 []
  let v11:List Bool:=MW r5.2.2.2.1 u4
  PV rfl [eI (mZ r5.1),eB r5.2.1,eI r5.2.2.1,eL (zi Dj rowB) r5.2.2.2.1,eB r5.2.2.2.2.1,eL (zi Dj rowB) r5.2.2.2.2.2,eL rowB v11] xn (aqR (u:=r5.2.2.2.1) (l:=u4) rfl rfl (by intro h;exact aaJ hP (fun e he=>absurd he List.not_mem_nil) k0 (of_decide_eq_true (h.at 1 rfl)))<|wn) (lc2 (Ey x0 v1 u2 u3 u4 (x0.Objects.length+3) u2 u3 [] hP hB (OX hP)) (hn:=Int.natCast_pos.2 (Nat.succ_pos _)) <|
  ln) <|
   rcf yK (fun g0=>rx)<|fun g0=>rcf yK (fun g1=>rx)<|fun g1=>rl (rg (Ez x0 v1 n _ _ _ hP hB (ao5 hB k0 g0)))
def R66 : iL:=
 ⟨[((.not (qE (V 2) (.li 0))),(zB (V 5))),((.lb true),(zB (.lb false)))],
 [([],(.mk (.rlen (W 0 0)) (.rlen (W 0 0)) [(zB (.lb false))] (V 1)))],[anj]⟩
def H66 : LH:=.mk [] (.li 0) [] [] 0 [ank] []
theorem e66 : jU Tryz.prog gu gB rJ (rG kA 66 [4,2,6,5,8,16] [(0,(.mk [1,3,15] (.mk [(2,(.sc .bool)),(16,(.sc kI))] [] [(5,1)] 11) [(.normal,(.mk [(2,(.sc .bool))] [] [(5,1)] 11)),(.ret,(.mk [(2,(.sc .bool))] [] [(5,1)] 11))])),(2,(.mk [1,3,4,5,15,16] (.mk [(2,(.sc .bool)),(6,(.sc kI))] [] [(14,(.map (.mk false 1 false 1)))] 18) [(.normal,(.mk [(2,(.sc .bool)),(6,(.sc kI))] [] [(14,(.map (.mk false 1 false 1)))] 18)),(.ret,(.mk [(2,(.sc .bool))] [] [(14,(.map (.mk false 1 false 1)))] 18))]))]) 3 200 66 [.agg (cV 0 dK.fC)] 1=some R66:=by kernel_rfl
theorem UO (x0:dK)(hP:Yz x0)(hB:x0.Objects.length<=4294967296):CT Tryz.prog sT 66 [dK.av x0] (eB (rD x0)):=
 let v1:List Bool:=List.replicate ((iM dM.enc x0.Objects):Int).toNat false
 let r2:Bool×Bool×List Bool×Bool×List Bool:=kY x0 (x0.Objects.length+1) false 0 v1
 vS jR dU dV e66 H66 (by kernel_rfl) [dK.av x0,eL rowB v1,eI (mZ r2.1),eB r2.2.1,eL rowB r2.2.2.1,eB r2.2.2.2.1,eL rowB r2.2.2.2.2] xn
  (wMk (f:=rowB) false rfl<|wn)
  (lc2 (Ez x0 v1 (x0.Objects.length+1) false 0 v1 hP hB (Int.le_refl _)) <|
  ln)
  (gI (fun r=>.p (.bool r)) rfl rfl (jQ rfl))
def atf : iL:=
 ⟨[((.lb true),(zF (V 1)))],
 [([],(.call 153 [(zF (V 0))] (zF (V 1))))],[]⟩
theorem atg : jU Tryz.prog gu gB rJ (rG kA 133 [] []) 3 200 133 [zF (V 0)] 1=some atf:=by kernel_rfl
theorem UQ (x0:Nat)(h0:IC x0):CT Tryz.prog sT 133 [eF x0] (eF (FP x0)):=
 let v1:Nat:=jd x0
 vS jR dU dV atg zn (by kernel_rfl) [eF x0,eF v1] xn
  (wCp (by intro h;exact ctP (CW x0 h0))<|wn)
  ln
  (jQ rfl)
def ath : iL:=
 ⟨[((.lb true),(zF (V 2)))],
 [([],(.call 156 [(zF (V 0))] (.sc (.int .u64) (V 1)))),
 ([],(.call 155 [(.sc (.int .u64) (.bin .andNot (.int .u64) (V 1) (.li 9223372036854775808)))] (zF (V 2))))],[]⟩
theorem ati : jU Tryz.prog gu gB rJ (rG kA 134 [] []) 3 200 134 [zF (V 0)] 1=some ath:=by kernel_rfl
theorem aaT (x0:Nat):CT Tryz.prog sT 134 [eF x0] (eF (MZ x0)):=
 let v1:Int:=nU x0
 let v2:Nat:=oV (mM .u64 v1 9223372036854775808)
 vS jR dU dV ati zn (by kernel_rfl) [eF x0,.p (.int .u64 v1),eF v2] xn
  (wC (ctP (uw x0)) <|
  wC (ctP (vX (mM .u64 v1 9223372036854775808))) <|
  wn)
  ln
  (jQ rfl)
def atj : iL:=
 ⟨[((.lb true),(zB (qL (.conv .i64 (V 1)) (.li 0))))],
 [([],(.call 156 [(zF (V 0))] (.sc (.int .u64) (V 1))))],[]⟩
theorem atl : jU Tryz.prog gu gB rJ (rG kA 135 [] []) 3 200 135 [zF (V 0)] 1=some atj:=by kernel_rfl
theorem Qc (x0:Nat):CT Tryz.prog sT 135 [eF x0] (eB (zQ x0)):=
 let v1:Int:=nU x0
 vS jR dU dV atl zn (by kernel_rfl) [eF x0,.p (.int .u64 v1)] xn
  (wC (ctP (uw x0))<|wn)
  ln
  (jQ rfl)
def atm : iL:=
 let p0:Pc:=((.bin .neq .kJ (V 0) (V 0)),false)::[]
 let p1:Pc:=((.bin .eql .kJ (V 1) (V 0)),true)::p0
 let p2:Pc:=((.and (.bin .eql .kJ (V 1) (V 0)) (.bin .leq .kJ (V 2) (.lf 4845873199050653695))),true)::p0
 let p3:Pc:=((.bin .neq .kJ (V 0) (.lf 0)),false)::p2
 ⟨[((.lb true),(zB (.or (.bin .neq .kJ (V 0) (V 0)) (.and (.and (.bin .eql .kJ (V 1) (V 0)) (.bin .leq .kJ (V 2) (.lf 4845873199050653695))) (.or (.bin .neq .kJ (V 0) (.lf 0)) (.not (V 3)))))))],
 [(p0,(.call 133 [(zF (V 0))] (zF (V 1)))),
 (p1,(.call 134 [(zF (V 0))] (zF (V 2)))),
 (p3,(.call 135 [(zF (V 0))] (zB (V 3))))],[]⟩
theorem e120 : jU Tryz.prog gu gB rJ (rG kA 120 [] []) 3 200 120 [zF (V 0)] 1=some atm:=by kernel_rfl
theorem Ll (x0:Nat):CT Tryz.prog sT 120 [eF x0] (eB (uM x0)):=
 let v1:Nat:=FP x0
 let v2:Nat:=MZ x0
 let v3:Bool:=zQ x0
 vS jR dU dV e120 zn (by kernel_rfl) [eF x0,eF v1,eF v2,eB v3] xn
  (wCp (by intro h;exact UQ x0 (asl (h.at 0 rfl))) <|
  wC (aaT x0) <|
  wC (Qc x0) <|
  wn)
  ln
  (jQ rfl)
def R96 : iL:=
 let p0:Pc:=((qG (.slen (W 0 2)) (.li 4096)),false)::[]
 let p1:Pc:=((qL (W 0 3) (.li 0)),false)::p0
 let p2:Pc:=((.bin .gtr kU (W 0 0) (.li 8)),false)::p1
 let p3:Pc:=((uE (W 0 0) (.li 2)),true)::p2
 let p4:Pc:=((.bin .neq .kJ (W 0 1) (.lf 4607182418800017408)),true)::p3
 let p5:Pc:=((.bin .neq .kJ (W 0 1) (.lf 0)),false)::p4
 let p6:Pc:=((uE (W 0 0) (.li 2)),false)::p2
 let p7:Pc:=((uE (W 0 0) (.li 3)),true)::p6
 let p8:Pc:=((.and (uE (W 0 0) (.li 2)) (.and (.bin .neq .kJ (W 0 1) (.lf 4607182418800017408)) (.or (.bin .neq .kJ (W 0 1) (.lf 0)) (.not (V 1))))),false)::p2
 let p9:Pc:=((.and (.not (uE (W 0 0) (.li 2))) (.and (uE (W 0 0) (.li 3)) (.not (V 2)))),false)::p8
 let p10:Pc:=((.and (uE (W 0 0) (W 0 0)) (.and (.or (uE (W 0 0) (.li 2)) (.or (uE (W 0 0) (.li 3)) (.bin .eql .kJ (W 0 1) (.lf 0)))) (.and (.ite (uE (W 0 0) (.li 2)) (sE (W 0 2) (.ls [])) (.ite (uE (W 0 0) (.li 3)) (sE (W 0 2) (.ls [])) (.or (uE (W 0 0) (.li 4)) (sE (W 0 2) (.ls []))))) (.ite (uE (W 0 0) (.li 2)) (qE (W 0 3) (.li 0)) (.ite (uE (W 0 0) (.li 3)) (qE (W 0 3) (.li 0)) (.ite (uE (W 0 0) (.li 4)) (qE (W 0 3) (.li 0)) (.or (.or (uE (W 0 0) (.li 5)) (.or (uE (W 0 0) (.li 6)) (.or (uE (W 0 0) (.li 7)) (uE (W 0 0) (.li 8))))) (qE (W 0 3) (.li 0))))))))),true)::p9
 ⟨[((.or (.or (.bin .gtr kU (W 0 0) (.li 8)) (qL (W 0 3) (.li 0))) (qG (.slen (W 0 2)) (.li 4096))),(zB (.lb false))),((.and (uE (W 0 0) (.li 2)) (.and (.bin .neq .kJ (W 0 1) (.lf 4607182418800017408)) (.or (.bin .neq .kJ (W 0 1) (.lf 0)) (.not (V 1))))),(zB (.lb false))),((.and (.not (uE (W 0 0) (.li 2))) (.and (uE (W 0 0) (.li 3)) (.not (V 2)))),(zB (.lb false))),((.lb true),(zB (.and (.and (uE (W 0 0) (W 0 0)) (.and (.or (uE (W 0 0) (.li 2)) (.or (uE (W 0 0) (.li 3)) (.bin .eql .kJ (W 0 1) (.lf 0)))) (.and (.ite (uE (W 0 0) (.li 2)) (sE (W 0 2) (.ls [])) (.ite (uE (W 0 0) (.li 3)) (sE (W 0 2) (.ls [])) (.or (uE (W 0 0) (.li 4)) (sE (W 0 2) (.ls []))))) (.ite (uE (W 0 0) (.li 2)) (qE (W 0 3) (.li 0)) (.ite (uE (W 0 0) (.li 3)) (qE (W 0 3) (.li 0)) (.ite (uE (W 0 0) (.li 4)) (qE (W 0 3) (.li 0)) (.or (.or (uE (W 0 0) (.li 5)) (.or (uE (W 0 0) (.li 6)) (.or (uE (W 0 0) (.li 7)) (uE (W 0 0) (.li 8))))) (qE (W 0 3) (.li 0))))))))) (V 3))))],
 [(p5,(.call 120 [(zF (W 0 1))] (zB (V 1)))),
 (p7,(.call 120 [(zF (W 0 1))] (zB (V 2)))),
 (p10,(.call 120 [(zF (.ite (uE (W 0 0) (.li 2)) (.lf 0) (.ite (uE (W 0 0) (.li 3)) (.lf 0) (W 0 1))))] (zB (V 3))))],[]⟩
theorem e96 : jU Tryz.prog gu gB rJ (rG kA 96 [] []) 3 200 96 [.agg (cV 0 dJ.fC)] 1=some R96:=by kernel_rfl
theorem uf (x0:dJ):CT Tryz.prog sT 96 [dJ.av x0] (eB (iJ x0)):=
 let v1:Bool:=uM x0.Num
 let v2:Bool:=uM x0.Num
 let v3:Bool:=uM (bif (dS x0.Kind 2) then 0 else (bif (dS x0.Kind 3) then 0 else x0.Num))
 vS jR dU dV e96 zn (by kernel_rfl) [dJ.av x0,eB v1,eB v2,eB v3] xn
  (wC (Ll x0.Num) <|
  wC (Ll x0.Num) <|
  wC (Ll (bif (dS x0.Kind 2) then 0 else (bif (dS x0.Kind 3) then 0 else x0.Num))) <|
  wn)
  ln
  (gI (fun r=>.p (.bool r)) rfl rfl (gI (fun r=>.p (.bool r)) rfl rfl (gI (fun r=>.p (.bool r)) rfl rfl (jQ rfl))))
def R92 : iL:=
 let p0:Pc:=((uE (W 0 0) (V 1)),true)::[]
 ⟨[((.lb true),(zB (.and (uE (W 0 0) (V 1)) (V 2))))],
 [(p0,(.call 96 [(.agg (cV 0 dJ.fC))] (zB (V 2))))],[]⟩
theorem e92 : jU Tryz.prog gu gB rJ (rG kA 92 [] []) 3 200 92 [.agg (cV 0 dJ.fC),zU (V 1)] 2=some R92:=by kernel_rfl
theorem Bh (x0:dJ)(x1:Int):CT Tryz.prog sT 92 [dJ.av x0,eU x1] (eB (o7 x0 x1)):=
 let v2:Bool:=iJ x0
 vS jR dU dV e92 zn (by kernel_rfl) [dJ.av x0,eU x1,eB v2] xn
  (wC (uf x0)<|wn)
  ln
  (jQ rfl)
def R69 : iL:=
 ⟨[((.lb true),(zB (.and (.bin .geq kU (W 0 0) (.li 6)) (.bin .leq kU (W 0 0) (.li 8)))))],
 [],[]⟩
theorem e69 : jU Tryz.prog gu gB rJ (rG kA 69 [] []) 3 200 69 [.agg (cV 0 dJ.fC)] 1=some R69:=by kernel_rfl
theorem jP (x0:dJ):CT Tryz.prog sT 69 [dJ.av x0] (eB (dP x0)):=
 vS jR dU dV e69 zn (by kernel_rfl) [dJ.av x0] xn
  wn
  ln
  (jQ rfl)
def atn : iL:=
 ⟨[((W 0 17),(zU (.li 8))),((W 0 16),(zU (.li 7))),((.lb true),(zU (.li 6)))],
 [],[]⟩
theorem ato : jU Tryz.prog gu gB rJ (rG kA 114 [] []) 3 200 114 [.agg (cV 0 dM.fC)] 1=some atn:=by kernel_rfl
theorem Yp (x0:dM):CT Tryz.prog sT 114 [dM.av x0] (eU (En x0)):=
 vS jR dU dV ato zn (by kernel_rfl) [dM.av x0] xn
  wn
  ln
  (gI (fun r=>.p (.int .u8 r)) rfl rfl (gI (fun r=>.p (.int .u8 r)) rfl rfl (jQ rfl)))
def R91 : iL:=
 let p0:Pc:=((V 2),true)::[]
 let p1:Pc:=((.not (V 3)),false)::p0
 let p2:Pc:=((qL (W 1 3) (.rlen (W 0 0))),true)::p1
 ⟨[((.not (V 2)),(zB (.lb false))),((.lb true),(zB (.or (.not (V 3)) (.and (qL (W 1 3) (.rlen (W 0 0))) (uE (V 5) (W 1 0))))))],
 [([],(.call 96 [(.agg (cV 1 dJ.fC))] (zB (V 2)))),
 (p0,(.call 69 [(.agg (cV 1 dJ.fC))] (zB (V 3)))),
 (p2,(.row (W 0 0) (W 1 3) (cV 4 dM.fC))),
 (p2,(.call 114 [(.agg (cV 4 dM.fC))] (zU (V 5))))],[]⟩
def H91 : LH:=.mk [] (.li 0) [] [([((V 2),true)],(qM (.li 0) (W 1 3)))] 0 [] []
theorem e91 : jU Tryz.prog gu gB rJ (rG kA 91 [] []) 3 200 91 [.agg (cV 0 dK.fC),.agg (cV 1 dJ.fC)] 2=some R91:=by kernel_rfl
theorem yL (x0:dK)(x1:dJ):CT Tryz.prog sT 91 [dK.av x0,dJ.av x1] (eB (eX x0 x1)):=
 let v2:Bool:=iJ x1
 let v3:Bool:=dP x1
 let v4:dM:=x0.Objects.getD (x1.Ref:Int).toNat default
 let v5:Int:=En v4
 vS jR dU dV e91 H91 (by kernel_rfl) [dK.av x0,dJ.av x1,eB v2,eB v3,dM.av v4,eU v5] (xp (fun h=>decide_eq_true (Nu ( (h.at 0 rfl))))<|xn)
  (wC (uf x1) <|
  wC (jP x1) <|
  wR rfl <|
  wC (Yp v4) <|
  wn)
  ln
  (gI (fun r=>.p (.bool r)) rfl rfl (jQ rfl))
def anl : Lo:=
 let p0:Pc:=((.and (W 1 17) (.not (W 1 16))),false)::[]
 let p1:Pc:=((sN (W 1 15) (.ls [])),false)::p0
 let p2:Pc:=((V 3),true)::p1
 let p3:Pc:=((W 1 5),false)::p2
 let p4:Pc:=((qG (.rlen (W 1 6)) (.li 0)),false)::p3
 let p5:Pc:=((.and (V 4) (V 5)),false)::p4
 let p6:Pc:=((qL (V 7) (.li 2)),true)::p5
 let p7:Pc:=((.not (V 10)),false)::p6
 .mk [((.and (V 4) (V 5)),false),((qG (.rlen (W 1 6)) (.li 0)),false),((W 1 5),false),((V 3),true),((sN (W 1 15) (.ls [])),false),((.and (W 1 17) (.not (W 1 16))),false)] 6 3 [(zB (.lb false)),(zI (.li 0)),(.slc [[(zU (W 1 7)),(zF (W 1 8)),(zS (W 1 9)),(zI (W 1 10))],[(zU (W 1 11)),(zF (W 1 12)),(zS (W 1 13)),(zI (W 1 14))]] false)] [((.not (qL (V 7) (.li 2))),1,[(zB (V 6)),(zL (V 8))]),((.or (.or (.not (V 10)) (.not (V 11))) (qH (W 9 3) (V 2))),2,[(zB (.lb false)),(zL (V 8))]),((.lb true),0,[(zB (V 6)),(zI (aI (V 7) (.li 1))),(zL (V 8))])] [(p6,(.tm (qM (.li 0) (V 7)))),
 (p6,(.rd (true,4) (V 8) (V 7) 0 (.agg (cV 9 dJ.fC)))),
 (p6,(.call 69 [(.agg (cV 9 dJ.fC))] (zB (V 10)))),
 (p7,(.call 91 [(.agg [(zL (W 0 0))]),(.agg (cV 9 dJ.fC))] (zB (V 11))))] [] [2,2] []
def anm : LH:=.mk [(qM (.rlen (W 1 6)) (V 7)),(qE (.rlen (V 8)) (.li 2))] (mI (.li 2) (V 7)) [((.li 2),1)] [] 3 [] []
def yM (r:Bool×Bool×List dJ×Bool×List dJ):Nat×List AV:=Z5 r.1 [eB r.2.1,eL dJ.enc r.2.2.1] [eB r.2.2.2.1,eL dJ.enc r.2.2.2.2]
theorem EC (x0:dK)(x1:dM)(x2:Int)(v3:Bool)(v4:Bool)(v5:Bool):∀(n:Nat) (u6:Bool) (u7:Int) (u8:List dJ),u_ Tryz.prog sT anl anm [dK.av x0,dM.av x1,eI x2,eB v3,eB v4,eB v5] n [eB u6,eI u7,eL dJ.enc u8] (yM (kH x0 x2 n u6 u7 u8))
 |0,u6,u7,u8=>l0
 |n+1,u6,u7,u8=>
  let v9:dJ:=u8.getD (u7:Int).toNat default
  let v10:Bool:=dP v9
  let v11:Bool:=eX x0 v9
  PV rfl [dJ.av v9,eB v10,eB v11] xn (wT <|
  UD rfl <|
  wC (jP v9) <|
  wC (yL x0 v9) <|
  wn) ln <|
   rc yM rx<|rc yM rx<|rl (rg (EC x0 x1 x2 v3 v4 v5 n _ _ _))
def R90 : iL:=
 let p0:Pc:=((.or (qG (.rlen (W 1 6)) (.li 0)) (W 1 5)),false)::[]
 let p1:Pc:=((.and (W 1 17) (.not (W 1 16))),false)::[]
 let p2:Pc:=((sN (W 1 15) (.ls [])),false)::p1
 let p3:Pc:=((V 3),true)::p2
 let p4:Pc:=((W 1 5),false)::p3
 let p5:Pc:=((qG (.rlen (W 1 6)) (.li 0)),false)::p4
 let p6:Pc:=((V 4),true)::p5
 let p7:Pc:=((.and (V 4) (V 5)),false)::p5
 let p8:Pc:=((qE (V 6) (.li 0)),true)::p7
 ⟨[((.or (.or (.or (.or (qG (.rlen (W 1 6)) (.li 0)) (W 1 5)) (.not (V 3))) (sN (W 1 15) (.ls []))) (.and (W 1 17) (.not (W 1 16)))),(zB (.lb false))),((.and (V 4) (V 5)),(zB (.lb true))),((.not (qE (V 6) (.li 0))),(zB (V 9))),((.lb true),(zB (.and (.bin .eql .bool (W 11 16) (W 1 16)) (.bin .eql .bool (W 11 17) (W 1 17)))))],
 [(p0,(.call 92 [(.agg (cW 1 1 dJ.fC)),(zU (.li 1))] (zB (V 3)))),
 (p5,(.call 92 [(.agg (cW 1 7 dJ.fC)),(zU (.li 1))] (zB (V 4)))),
 (p6,(.call 92 [(.agg (cW 1 11 dJ.fC)),(zU (.li 1))] (zB (V 5)))),
 (p8,(.row (W 0 0) (W 1 10) (cV 11 dM.fC)))],[anl]⟩
def H90 : LH:=.mk [] (.li 0) [] [([((qE (V 6) (.li 0)),true)],(qM (.li 0) (W 1 10))),([((qE (V 6) (.li 0)),true)],(qL (W 1 10) (.rlen (W 0 0))))] 0 [anm] []
theorem e90 : jU Tryz.prog gu gB rJ (rG kA 90 [61,60,62,63,66,68,67,69,52,6] [(0,(.mk [2,3,4,50,51] (.mk [(6,(.sc .bool)),(52,(.sc kI))] [] [(43,4)] 46) [(.normal,(.mk [(6,(.sc .bool))] [] [(43,4)] 46)),(.ret,(.mk [(6,(.sc .bool))] [] [(43,4)] 46))]))]) 3 200 90 [.agg (cV 0 dK.fC),.agg (cV 1 dM.fC),zI (V 2)] 3=some R90:=by kernel_rfl
theorem UR (x0:dK)(x1:dM)(x2:Int):CT Tryz.prog sT 90 [dK.av x0,dM.av x1,eI x2] (eB (tC x0 x1 x2)):=
 let v3:Bool:=o7 x1.eY 1
 let v4:Bool:=o7 x1.Target 1
 let v5:Bool:=o7 x1.Handler 1
 let r6:Bool×Bool×List dJ×Bool×List dJ:=kH x0 x2 ((2:Int).toNat+1) false 0 [x1.Target,x1.Handler]
 let v11:dM:=x0.Objects.getD (x1.Target.Ref:Int).toNat default
 vS jR dU dV e90 H90 (by kernel_rfl) [dK.av x0,dM.av x1,eI x2,eB v3,eB v4,eB v5,eI (mZ r6.1),eB r6.2.1,eL dJ.enc r6.2.2.1,eB r6.2.2.2.1,eL dJ.enc r6.2.2.2.2,dM.av v11] (xp (fun h=>decide_eq_true (ajU (nO.1 (h.at 0 rfl))))<|xp (fun h=>decide_eq_true (ajV (nO.1 (h.at 0 rfl))))<|xn)
  (wC (Bh x1.eY 1) <|
  wC (Bh x1.Target 1) <|
  wC (Bh x1.Handler 1) <|
  wR rfl <|
  wn)
  (lc2 (EC x0 x1 x2 v3 v4 v5 ((2:Int).toNat+1) false 0 [x1.Target,x1.Handler]) <|
  ln)
  (gI (fun r=>.p (.bool r)) rfl rfl (gI (fun r=>.p (.bool r)) rfl rfl (gI (fun r=>.p (.bool r)) rfl rfl (jQ rfl))))
def R83 : iL:=
 ⟨[((.or (.or (qL (W 0 1) (.li 0)) (qG (.slen (W 0 0)) (.li 4096))) (.and (qG (W 0 1) (.li 0)) (sN (W 0 0) (.ls [])))),(zI (.li 9))),((.lb true),(zI (.li 0)))],
 [],[]⟩
theorem e83 : jU Tryz.prog gu gB rJ (rG kA 83 [] []) 3 200 83 [.agg (cV 0 dH.fC)] 1=some R83:=by kernel_rfl
theorem zX (x0:dH):CT Tryz.prog sT 83 [dH.av x0] (eI (mP x0)):=
 vS jR dU dV e83 zn (by kernel_rfl) [dH.av x0] xn
  wn
  ln
  (gI (fun r=>.p (.int .i64 r)) rfl rfl (jQ rfl))
def R30 : iL:=
 ⟨[((.lb true),(zB (uN (.bin .and kU (W 0 0) (.li 3)) (.li 0))))],
 [],[]⟩
theorem e30 : jU Tryz.prog gu gB rJ (rG kA 30 [] []) 3 200 30 [.agg (cV 0 dI.fC)] 1=some R30:=by kernel_rfl
theorem oz (x0:dI):CT Tryz.prog sT 30 [dI.av x0] (eB (jo x0)):=
 vS jR dU dV e30 zn (by kernel_rfl) [dI.av x0] xn
  wn
  ln
  (jQ rfl)
def R59 : iL:=
 ⟨[((.lb true),(zB (uN (.bin .and kU (W 0 0) (.li 12)) (.li 0))))],
 [],[]⟩
theorem e59 : jU Tryz.prog gu gB rJ (rG kA 59 [] []) 3 200 59 [.agg (cV 0 dI.fC)] 1=some R59:=by kernel_rfl
theorem ug (x0:dI):CT Tryz.prog sT 59 [dI.av x0] (eB (iD x0)):=
 vS jR dU dV e59 zn (by kernel_rfl) [dI.av x0] xn
  wn
  ln
  (jQ rfl)
def atp : iL:=
 ⟨[((.lb true),(zB (.or (uE (W 0 0) (.li 7)) (uE (W 0 0) (.li 8)))))],
 [],[]⟩
theorem atq : jU Tryz.prog gu gB rJ (rG kA 131 [] []) 3 200 131 [.agg (cV 0 dJ.fC)] 1=some atp:=by kernel_rfl
theorem Ut (x0:dJ):CT Tryz.prog sT 131 [dJ.av x0] (eB (II x0)):=
 vS jR dU dV atq zn (by kernel_rfl) [dJ.av x0] xn
  wn
  ln
  (jQ rfl)
def atr : iL:=
 let p0:Pc:=((V 1),true)::[]
 let p1:Pc:=((uE (W 0 0) (.li 0)),false)::p0
 ⟨[((.lb true),(zB (.and (V 1) (.or (uE (W 0 0) (.li 0)) (V 2)))))],
 [([],(.call 96 [(.agg (cV 0 dJ.fC))] (zB (V 1)))),
 (p1,(.call 131 [(.agg (cV 0 dJ.fC))] (zB (V 2))))],[]⟩
theorem att : jU Tryz.prog gu gB rJ (rG kA 112 [] []) 3 200 112 [.agg (cV 0 dJ.fC)] 1=some atr:=by kernel_rfl
theorem I4 (x0:dJ):CT Tryz.prog sT 112 [dJ.av x0] (eB (lZ x0)):=
 let v1:Bool:=iJ x0
 let v2:Bool:=II x0
 vS jR dU dV att zn (by kernel_rfl) [dJ.av x0,eB v1,eB v2] xn
  (wC (uf x0) <|
  wC (Ut x0) <|
  wn)
  ln
  (jQ rfl)
def R84 : iL:=
 let p0:Pc:=((uN (.bin .andNot kU (W 0 0) (.li 63)) (.li 0)),false)::[]
 let p1:Pc:=((V 1),true)::p0
 let p2:Pc:=((.or (uN (.bin .andNot kU (W 0 0) (.li 63)) (.li 0)) (.and (V 1) (V 2))),false)::[]
 let p3:Pc:=((.or (.or (uN (.bin .andNot kU (W 0 0) (.li 63)) (.li 0)) (.and (V 1) (V 2))) (.not (V 3))),false)::[]
 let p4:Pc:=((.or (.or (.or (uN (.bin .andNot kU (W 0 0) (.li 63)) (.li 0)) (.and (V 1) (V 2))) (.not (V 3))) (.not (V 4))),false)::[]
 ⟨[((.or (.or (.or (.or (uN (.bin .andNot kU (W 0 0) (.li 63)) (.li 0)) (.and (V 1) (V 2))) (.not (V 3))) (.not (V 4))) (.not (V 5))),(zI (.li 90))),((.or (.or (.and (uN (.bin .and kU (.com .u8 (W 0 0)) (.li 1)) (.li 0)) (.not (.and (uE (W 0 1) (.li 0)) (.and (.bin .eql .kJ (W 0 2) (.lf 0)) (.and (sE (W 0 3) (.ls [])) (qE (W 0 4) (.li 0))))))) (.and (uN (.bin .and kU (.com .u8 (W 0 0)) (.li 4)) (.li 0)) (.not (.and (uE (W 0 5) (.li 0)) (.and (.bin .eql .kJ (W 0 6) (.lf 0)) (.and (sE (W 0 7) (.ls [])) (qE (W 0 8) (.li 0)))))))) (.and (uN (.bin .and kU (.com .u8 (W 0 0)) (.li 8)) (.li 0)) (.not (.and (uE (W 0 9) (.li 0)) (.and (.bin .eql .kJ (W 0 10) (.lf 0)) (.and (sE (W 0 11) (.ls [])) (qE (W 0 12) (.li 0)))))))),(zI (.li 90))),((.or (.or (.and (uN (.bin .and kU (.com .u8 (W 0 0)) (.li 2)) (.li 0)) (W 0 13)) (.and (uN (.bin .and kU (.com .u8 (W 0 0)) (.li 16)) (.li 0)) (W 0 14))) (.and (uN (.bin .and kU (.com .u8 (W 0 0)) (.li 32)) (.li 0)) (W 0 15))),(zI (.li 90))),((.lb true),(zI (.li 0)))],
 [(p0,(.call 30 [(.agg (cV 0 dI.fC))] (zB (V 1)))),
 (p1,(.call 59 [(.agg (cV 0 dI.fC))] (zB (V 2)))),
 (p2,(.call 96 [(.agg (cW 0 1 dJ.fC))] (zB (V 3)))),
 (p3,(.call 112 [(.agg (cW 0 5 dJ.fC))] (zB (V 4)))),
 (p4,(.call 112 [(.agg (cW 0 9 dJ.fC))] (zB (V 5))))],[]⟩
theorem e84 : jU Tryz.prog gu gB rJ (rG kA 84 [] []) 3 200 84 [.agg (cV 0 dI.fC)] 1=some R84:=by kernel_rfl
theorem yU (x0:dI):CT Tryz.prog sT 84 [dI.av x0] (eI (mQ x0)):=
 let v1:Bool:=jo x0
 let v2:Bool:=iD x0
 let v3:Bool:=iJ x0.Value
 let v4:Bool:=lZ x0.Get
 let v5:Bool:=lZ x0.Set
 vS jR dU dV e84 zn (by kernel_rfl) [dI.av x0,eB v1,eB v2,eB v3,eB v4,eB v5] xn
  (wC (oz x0) <|
  wC (ug x0) <|
  wC (uf x0.Value) <|
  wC (I4 x0.Get) <|
  wC (I4 x0.Set) <|
  wn)
  ln
  (gI (fun r=>.p (.int .i64 r)) rfl rfl (gI (fun r=>.p (.int .i64 r)) rfl rfl (gI (fun r=>.p (.int .i64 r)) rfl rfl (jQ rfl))))
def R58 : iL:=
 ⟨[((.lb true),(.agg [(zU (.ite (V 1) (.bin .or kU (W 0 0) (.li 60)) (.bin .or kU (W 0 0) (.li 51)))),(zU (W 0 1)),(zF (W 0 2)),(zS (W 0 3)),(zI (W 0 4)),(zU (W 0 5)),(zF (W 0 6)),(zS (W 0 7)),(zI (W 0 8)),(zU (W 0 9)),(zF (W 0 10)),(zS (W 0 11)),(zI (W 0 12)),(zB (W 0 13)),(zB (W 0 14)),(zB (W 0 15))]))],
 [([],(.call 59 [(.agg (cV 0 dI.fC))] (zB (V 1))))],[]⟩
theorem e58 : jU Tryz.prog gu gB rJ (rG kA 58 [] []) 3 200 58 [.agg (cV 0 dI.fC)] 1=some R58:=by kernel_rfl
theorem yV (x0:dI):CT Tryz.prog sT 58 [dI.av x0] (dI.av (j_ x0)):=
 let v1:Bool:=iD x0
 vS jR dU dV e58 zn (by kernel_rfl) [dI.av x0,eB v1] xn
  (wC (ug x0)<|wn)
  ln
  (jQ rfl)
def atu : iL:=
 let p0:Pc:=((qN (V 1) (.li 0)),false)::[]
 ⟨[((qN (V 1) (.li 0)),(.eG [(.agg [(zU (.li 0)),(zU (.li 0)),(zF (.lf 0)),(zS (.ls [])),(zI (.li 0)),(zU (.li 0)),(zF (.lf 0)),(zS (.ls [])),(zI (.li 0)),(zU (.li 0)),(zF (.lf 0)),(zS (.ls [])),(zI (.li 0)),(zB (.lb false)),(zB (.lb false)),(zB (.lb false))]),(zI (V 1))])),((.lb true),(.eG [(.agg (cV 2 dI.fC)),(zI (.li 0))]))],
 [([],(.call 84 [(.agg (cV 0 dI.fC))] (zI (V 1)))),
 (p0,(.call 58 [(.agg (cV 0 dI.fC))] (.agg (cV 2 dI.fC))))],[]⟩
theorem atv : jU Tryz.prog gu gB rJ (rG kA 124 [] []) 3 200 124 [.agg (cV 0 dI.fC)] 1=some atu:=by kernel_rfl
theorem OZ (x0:dI):CT Tryz.prog sT 124 [dI.av x0] (zO (yR x0)):=
 let v1:Int:=mQ x0
 let v2:dI:=j_ x0
 vS jR dU dV atv zn (by kernel_rfl) [dI.av x0,eI v1,dI.av v2] xn
  (wC (yU x0) <|
  wC (yV x0) <|
  wn)
  ln
  (gI zO rfl rfl (jQ rfl))
def atw : iL:=
 ⟨[((.lb true),(zB (.and (qE (W 1 1) (.li 0)) (uE (.var 1 [0,0]) (W 0 0)))))],
 [([],(.call 124 [(.agg (cV 0 dI.fC))] (.eG [(.agg (gX 1 [0] 0 dI.fC)),(zI (W 1 1))])))],[]⟩
theorem atx : jU Tryz.prog gu gB rJ (rG kA 106 [] []) 3 200 106 [.agg (cV 0 dI.fC)] 1=some atw:=by kernel_rfl
theorem I5 (x0:dI):CT Tryz.prog sT 106 [dI.av x0] (eB (qF x0)):=
 let v1:dI×Int:=yR x0
 vS jR dU dV atx zn (by kernel_rfl) [dI.av x0,zO v1] xn
  (wC (OZ x0)<|wn)
  ln
  (jQ rfl)
def ano : Lo:=
 let p0:Pc:=((qG (.rlen (V 0)) (.li 1024)),false)::[]
 let p1:Pc:=((qL (V 2) (.rlen (V 0))),true)::p0
 let p2:Pc:=((qN (V 5) (.li 0)),false)::p1
 let p3:Pc:=((V 6),true)::p2
 let p4:Pc:=((qG (W 7 1) (.li 0)),false)::p3
 .mk [((qG (.rlen (V 0)) (.li 1024)),false)] 1 3 [(zI (.li 0)),(zI (.li 0)),(.slc [] false)] [((.not (qL (V 2) (.rlen (V 0)))),1,[(zI (V 1)),(zL (V 3))]),((qN (V 5) (.li 0)),2,[(zI (V 5)),(zL (V 3))]),((.not (V 6)),2,[(zI (.li 90)),(zL (V 3))]),((qG (W 7 1) (.li 0)),2,[(zI (.li 100)),(zL (V 3))]),((.lb true),0,[(zI (V 1)),(zI (aI (V 2) (.li 1))),(zL (V 8))])] [(p1,(.row (V 0) (V 2) (cV 4 dL.fC))),
 (p1,(.call 83 [(.agg [(zS (W 4 0)),(zI (W 4 1))])] (zI (V 5)))),
 (p2,(.call 106 [(.agg (cW 4 2 dI.fC))] (zB (V 6)))),
 (p3,(.look 29 (.mk true 2 false 1) (V 3) (.agg [(zS (W 4 0)),(zI (W 4 1))]) (zI (.li 0)) (W 7 0) (zI (W 7 1)))),
 (p4,(.put 29 (.mk true 2 false 1) (V 3) (.agg [(zS (W 4 0)),(zI (W 4 1))]) (zI (aI (V 2) (.li 1))) (V 8)))] [] [2,2] [(V 0)]
def anp : LH:=.mk [(qM (.li 0) (V 1)),(qM (V 1) (V 2))] (mI (.rlen (V 0)) (V 2)) [((.rlen (V 0)),1)] [] 0 [] []
def o9 (r:Bool×Int×List (dH×Int)×Int×List (dH×Int)):Nat×List AV:=Z5 r.1 [eI r.2.1,eL (zi dH.enc Dj) r.2.2.1] [eI r.2.2.2.1,eL (zi dH.enc Dj) r.2.2.2.2]
theorem CX (x0:List dL):∀(n:Nat) (u1:Int) (u2:Int) (u3:List (dH×Int)),u_ Tryz.prog sT ano anp [eL dL.enc x0] n [eI u1,eI u2,eL (zi dH.enc Dj) u3] (o9 (oq x0 n u1 u2 u3))
 |0,u1,u2,u3=>l0
 |n+1,u1,u2,u3=>
  let v4:dL:=x0.getD (u2:Int).toNat default
  let v5:Int:=mP v4.Key
  let v6:Bool:=qF v4.dR
  let v7:Bool×Int:=nC 0 v4.Key u3
  let v8:List (dH×Int):=nD v4.Key (dZ .i64 u2 1) u3
  PV rfl [dL.av v4,eI v5,eB v6,.agg (eB v7.1::Dj v7.2),eL (zi dH.enc Dj) v8] xn (wR rfl <|
  wC (zX v4.Key) <|
  wC (I5 v4.dR) <|
  am_ (f:=dH.enc) (g:=Dj) aj0 v4.Key 0 rfl <|
  aqS (f:=dH.enc) (g:=Dj) aj0 v4.Key (dZ .i64 u2 1) rfl <|
  wn) ln <|
   rc o9 rx<|rc o9 rx<|rc o9 rx<|rc o9 rx<|rl (rg (CX x0 n _ _ _))
def R78 : iL:=
 ⟨[((qG (.rlen (V 0)) (.li 1024)),(zI (.li 4))),((.not (qE (V 1) (.li 0))),(zI (V 4))),((.lb true),(zI (.li 0)))],
 [],[ano]⟩
def H78 : LH:=.mk [] (.li 0) [] [] 0 [anp] []
theorem e78 : jU Tryz.prog gu gB rJ (rG kA 78 [15,4,6,2] [(0,(.mk [3,13,14] (.mk [(2,(.sc kI)),(15,(.sc kI))] [] [(6,(.map (.mk true 2 false 1)))] 11) [(.normal,(.mk [(2,(.sc kI))] [] [(6,(.map (.mk true 2 false 1)))] 11)),(.ret,(.mk [(2,(.sc kI))] [] [(6,(.map (.mk true 2 false 1)))] 11))]))]) 3 200 78 [zL (V 0)] 1=some R78:=by kernel_rfl
theorem Bj (x0:List dL):CT Tryz.prog sT 78 [eL dL.enc x0] (eI (jG x0)):=
 let r1:Bool×Int×List (dH×Int)×Int×List (dH×Int):=oq x0 (x0.length+1) 0 0 []
 vS jR dU dV e78 H78 (by kernel_rfl) [eL dL.enc x0,eI (mZ r1.1),eI r1.2.1,eL (zi dH.enc Dj) r1.2.2.1,eI r1.2.2.2.1,eL (zi dH.enc Dj) r1.2.2.2.2] xn
  wn
  (lc2 (CX x0 (x0.length+1) 0 0 []) <|
  ln)
  (gI (fun r=>.p (.int .i64 r)) rfl rfl (gI (fun r=>.p (.int .i64 r)) rfl rfl (jQ rfl)))
def aty : iL:=
 ⟨[((.lb true),(.agg [(zS (V 0)),(zI (.li 0))]))],
 [],[]⟩
theorem e115 : jU Tryz.prog gu gB rJ (rG kA 115 [] []) 3 200 115 [zS (V 0)] 1=some aty:=by kernel_rfl
theorem WG (x0:List UInt8):CT Tryz.prog sT 115 [eS x0] (dH.av (TY x0)):=
 vS jR dU dV e115 zn (by kernel_rfl) [eS x0] xn
  wn
  ln
  (jQ rfl)
def aj1 : Lo:=
 let p0:Pc:=((.and (qG (.slen (W 0 0)) (.li 1)) (uE (.byte (W 0 0) (.li 0)) (.li 48))),false)::[]
 let p1:Pc:=((qG (.slen (W 0 0)) (.li 4)),false)::p0
 let p2:Pc:=((sE (W 0 0) (.ls [])),false)::p1
 let p3:Pc:=((qG (W 0 1) (.li 0)),false)::p2
 let p4:Pc:=((qL (V 4) (.slen (W 0 0))),true)::p3
 let p5:Pc:=((.bin .lss kU (.byte (W 0 0) (V 4)) (.li 48)),false)::p4
 let p6:Pc:=((.bin .gtr kU (.byte (W 0 0) (V 4)) (.li 57)),false)::p4
 let p7:Pc:=((.bin .lss kU (.byte (W 0 0) (V 4)) (.li 48)),false)::p6
 .mk [((qG (W 0 1) (.li 0)),false),((sE (W 0 0) (.ls [])),false),((qG (.slen (W 0 0)) (.li 4)),false),((.and (qG (.slen (W 0 0)) (.li 1)) (uE (.byte (W 0 0) (.li 0)) (.li 48))),false)] 1 4 [(zI (.li 0)),(zB (.lb false)),(zI (.li 0)),(zI (.li 0))] [((.not (qL (V 4) (.slen (W 0 0)))),1,[(zI (V 1)),(zB (V 2)),(zI (V 3))]),((.or (.bin .lss kU (.byte (W 0 0) (V 4)) (.li 48)) (.bin .gtr kU (.byte (W 0 0) (V 4)) (.li 57))),2,[(zI (.li 0)),(zB (.lb false))]),((.lb true),0,[(zI (V 1)),(zB (V 2)),(zI (aI (.bin .mul kI (V 3) (.li 10)) (.conv .i64 (.bin .sub kU (.byte (W 0 0) (V 4)) (.li 48))))),(zI (aI (V 4) (.li 1)))])] [(p4,(.tm (qM (.li 0) (V 4)))),
 (p5,(.tm (qM (.li 0) (V 4)))),
 (p7,(.tm (qM (.li 0) (V 4))))] [] [3,2] []
def aj2 : LH:=.mk [(qM (.li 0) (V 4))] (mI (.slen (W 0 0)) (V 4)) [((.slen (W 0 0)),1)] [] 1 [] []
def zD (r:Bool×Int×Bool×Int×Int×Bool):Nat×List AV:=Z5 r.1 [eI r.2.1,eB r.2.2.1,eI r.2.2.2.1] [eI r.2.2.2.2.1,eB r.2.2.2.2.2]
theorem Gx (x0:dH):∀(n:Nat) (u1:Int) (u2:Bool) (u3:Int) (u4:Int),u_ Tryz.prog sT aj1 aj2 [dH.av x0] n [eI u1,eB u2,eI u3,eI u4] (zD (zV x0 n u1 u2 u3 u4))
 |0,u1,u2,u3,u4=>l0
 |n+1,u1,u2,u3,u4=>
  PV rfl [] xn (wT <|
  wT <|
  wT <|
  wn) ln <|
   rc zD rx<|rc zD rx<|rl (rg (Gx x0 n _ _ _ _))
def atz : iL:=
 let p0:Pc:=((.or (.or (qG (W 0 1) (.li 0)) (sE (W 0 0) (.ls []))) (qG (.slen (W 0 0)) (.li 4))),false)::[]
 let p1:Pc:=((qG (.slen (W 0 0)) (.li 1)),true)::p0
 ⟨[((.or (.or (.or (qG (W 0 1) (.li 0)) (sE (W 0 0) (.ls []))) (qG (.slen (W 0 0)) (.li 4))) (.and (qG (.slen (W 0 0)) (.li 1)) (uE (.byte (W 0 0) (.li 0)) (.li 48)))),(.eG [(zI (.li 0)),(zB (.lb false))])),((.not (qE (V 1) (.li 0))),(.eG [(zI (V 5)),(zB (V 6))])),((qH (V 4) (.li 1024)),(.eG [(zI (.li 0)),(zB (.lb false))])),((.lb true),(.eG [(zI (V 4)),(zB (.lb true))]))],
 [(p1,(.tm (qL (.li 0) (.slen (W 0 0)))))],[aj1]⟩
def atA : LH:=.mk [] (.li 0) [] [] 0 [aj2] []
theorem e118 : jU Tryz.prog gu gB rJ (rG kA 118 [44,46,45,47,48,35,5,4,2,3] [(0,(.mk [1,34] (.mk [(2,(.sc kI)),(3,(.sc .bool)),(4,(.sc kI)),(35,(.sc kI))] [] [] 34) [(.normal,(.mk [(2,(.sc kI)),(3,(.sc .bool)),(4,(.sc kI))] [] [] 34)),(.ret,(.mk [(2,(.sc kI)),(3,(.sc .bool))] [] [] 34))]))]) 3 200 118 [.agg (cV 0 dH.fC)] 1=some atz:=by kernel_rfl
theorem F7 (x0:dH):CT Tryz.prog sT 118 [dH.av x0] (oW (tY x0)):=
 let r1:Bool×Int×Bool×Int×Int×Bool:=zV x0 (((sLen x0.Str):Int).toNat+1) 0 false 0 0
 vS jR dU dV e118 atA (by kernel_rfl) [dH.av x0,eI (mZ r1.1),eI r1.2.1,eB r1.2.2.1,eI r1.2.2.2.1,eI r1.2.2.2.2.1,eB r1.2.2.2.2.2] xn
  (wT<|wn)
  (lc2 (Gx x0 (((sLen x0.Str):Int).toNat+1) 0 false 0 0) <|
  ln)
  (gI oW rfl rfl (gI oW rfl rfl (gI oW rfl rfl (jQ rfl))))
def WH : Lo:=
 let p0:Pc:=((qL (V 3) (.rlen (V 1))),true)::[]
 let p1:Pc:=((W 5 1),true)::p0
 .mk [] 2 2 [(zI (.li 0)),(zI (.li 0))] [((.not (qL (V 3) (.rlen (V 1)))),1,[(zI (V 2))]),((.and (W 5 1) (qH (W 5 0) (.YW (V 0)))),2,[(zI (V 3))]),((.lb true),0,[(zI (V 2)),(zI (aI (V 3) (.li 1)))])] [(p0,(.row (V 1) (V 3) (cV 4 dL.fC))),
 (p0,(.call 118 [(.agg [(zS (W 4 0)),(zI (W 4 1))])] (.eG [(zI (W 5 0)),(zB (W 5 1))]))),
 (p1,(.num .i64 (V 0) (.YW (V 0))))] [] [1,1] [(V 1)]
def WI : LH:=.mk [(qM (.li 0) (V 3))] (mI (.rlen (V 1)) (V 3)) [((.rlen (V 1)),1)] [] 0 [] []
def lN (r:Bool×Int×Int):Nat×List AV:=Z5 r.1 [eI r.2.1] [eI r.2.2]
theorem pV (x0:Nat)(x1:List dL):∀(n:Nat) (u2:Int) (u3:Int) (h0:adn x0=true),u_ Tryz.prog sT WH WI [eF x0,eL dL.enc x1] n [eI u2,eI u3] (lN (kM x0 x1 n u2 u3))
 |0,u2,u3,_=>l0
 |n+1,u2,u3,h0=>
  let v4:dL:=x1.getD (u3:Int).toNat default
  let v5:Int×Bool:=tY v4.Key
  PV rfl [dL.av v4,oW v5] xn (wR rfl <|
  wC (F7 v4.Key) <|
  wX (fun _ _=>ajT h0) <|
  wn) ln <|
   rc lN rx<|rc lN rx<|rl (rg (pV x0 x1 n _ _ h0))
def amo : iL:=
 ⟨[((.not (qE (V 2) (.li 0))),(.eG [(zI (V 4))])),((.lb true),(.eG [(zI (.li (-1)))]))],
 [],[WH]⟩
def amq : LH:=.mk [] (.li 0) [] [] 0 [WI] []
theorem amr : MV Tryz.prog gu gB rJ (rG kA 132 [8,5,4] [(0,(.mk [0,1,7] (.mk [(4,(.sc kI)),(8,(.sc kI))] [] [] 26) [(.normal,(.mk [(4,(.sc kI))] [] [] 26)),(.ret,(.mk [(4,(.sc kI))] [] [] 26))]))]) 3 200 132 [(zL (V 1)),(.fn 117 [] [(.op 21 1 (.li 0) 0)])] 2 [(21,(.rows 1 [[(zF (V 0))]]))] [] 22=some amo:=by kernel_rfl
theorem zu (x0:Nat)(x1:List dL)(h0:adn x0=true):CTw Tryz.prog sT 132 [(.sl (List.map dL.enc x1) false),(.fn (.func 117) [] [(.op 21 1 0 0)])] [(21,.rows 1 [[(.p (.float .f64 x0))]])] 22 (.p (.int .i64 (oK x0 x1))) [(21,.rows 1 [[(.p (.float .f64 x0))]])]:=
 let r2:Bool×Int×Int:=kM x0 x1 (x1.length+1) 0 0
 mkW (cs:=[]) jR dU dV amr amq (by kernel_rfl) [eF x0,eL dL.enc x1,eI (mZ r2.1),eI r2.2.1,eI r2.2.2] xn
  wn
  (lc2 (pV x0 x1 (x1.length+1) 0 0 h0) <|
  ln)
  (gI (fun r=>.eG [(.p (.int .i64 r))]) rfl rfl (jQ rfl))
def ams : iL:=
 ⟨[((.lb true),(.eG [(zB (qH (V 2) (.li 0)))]))],
 [([],(.oU 132 [(zL (V 1)),(.fn 117 [] [(.op 21 1 (.li 0) 0)])] [(21,(.rows 1 [[(zF (V 0))]]))] 22 (zI (V 2)) [(21,(.rows 1 [[(zF (V 0))]]))]))],[]⟩
theorem amu : MV Tryz.prog gu gB rJ (rG kA 116 [] []) 3 200 116 [(zL (V 1)),(.fn 117 [] [(.op 21 1 (.li 0) 0)])] 2 [(21,(.rows 1 [[(zF (V 0))]]))] [] 22=some ams:=by kernel_rfl
theorem xw (x0:Nat)(x1:List dL)(h0:adn x0=true):CTw Tryz.prog sT 116 [(.sl (List.map dL.enc x1) false),(.fn (.func 117) [] [(.op 21 1 0 0)])] [(21,.rows 1 [[(.p (.float .f64 x0))]])] 22 (.p (.bool (mV x0 x1))) [(21,.rows 1 [[(.p (.float .f64 x0))]])]:=
 let w2:Int:=oK x0 x1
 let r2:Int:=w2
 mkW (cs:=[]) jR dU dV amu zn (by kernel_rfl) [eF x0,eL dL.enc x1,eI r2] xn
  (wWp (by intro h;exact zu x0 x1 h0)<|wn)
  ln
  (jQ rfl)
def R93 : iL:=
 let p0:Pc:=((qE (.rlen (V 0)) (.li 0)),false)::[]
 let p1:Pc:=((qE (W 1 1) (W 2 1)),true)::[]
 let p2:Pc:=((sE (W 1 0) (W 2 0)),true)::p1
 let p3:Pc:=((qE (.rlen (V 0)) (.li 0)),false)::p2
 let p4:Pc:=((.bin .leq .kJ (W 3 4) (.lf 4652218415073722368)),true)::p3
 let p5:Pc:=((.bin .geq .kJ (W 3 4) (.lf 0)),true)::p4
 let p6:Pc:=((uN (W 3 3) (.li 3)),false)::p5
 let p7:Pc:=((W 3 17),false)::p6
 let p8:Pc:=((W 3 16),false)::p7
 let p9:Pc:=((V 4),true)::p8
 ⟨[((.or (qE (.rlen (V 0)) (.li 0)) (.not (.and (sE (W 1 0) (W 2 0)) (qE (W 1 1) (W 2 1))))),(zB (.lb false))),((.or (.or (.or (.or (.not (V 4)) (W 3 16)) (W 3 17)) (uN (W 3 3) (.li 3))) (.not (.and (.bin .geq .kJ (W 3 4) (.lf 0)) (.bin .leq .kJ (W 3 4) (.lf 4652218415073722368))))),(zB (.lb false))),((.lb true),(zB (.not (V 5))))],
 [(p0,(.row (V 0) (.li 0) (cV 1 dL.fC))),
 (p0,(.call 115 [(zS (.ls [108,101,110,103,116,104]))] (.agg [(zS (W 2 0)),(zI (W 2 1))]))),
 (p3,(.row (V 0) (.li 0) (cV 3 dL.fC))),
 (p3,(.call 30 [(.agg (cW 3 2 dI.fC))] (zB (V 4)))),
 (p9,(.oU 116 [(zL (V 0)),(.fn 117 [] [(.op 21 1 (.li 0) 0)])] [(21,(.rows 1 [[(zF (W 3 4))]]))] 22 (zB (V 5)) [(21,(.rows 1 [[(zF (W 3 4))]]))]))],[]⟩
theorem e93 : jU Tryz.prog gu gB rJ (rG kA 93 [] []) 3 200 93 [zL (V 0)] 1=some R93:=by kernel_rfl
theorem UU (x0:List dL):CT Tryz.prog sT 93 [eL dL.enc x0] (eB (Bc x0)):=
 let v1:dL:=x0.getD (0:Int).toNat default
 let v2:dH:=TY [108,101,110,103,116,104]
 let v3:dL:=x0.getD (0:Int).toNat default
 let v4:Bool:=jo v3.dR
 let w5:Bool:=mV v3.dR.Value.Num x0
 let r5:Bool:=w5
 vS jR dU dV e93 zn (by kernel_rfl) [eL dL.enc x0,dL.av v1,dH.av v2,dL.av v3,eB v4,eB r5] xn
  (wR rfl <|
  wC (WG [108,101,110,103,116,104]) <|
  wR rfl <|
  wC (oz v3.dR) <|
  wWp (by intro h;exact xw v3.dR.Value.Num x0 (ami (h.at 4 rfl) (h.at 5 rfl))) <|
  wn)
  ln
  (gI (fun r=>.p (.bool r)) rfl rfl (gI (fun r=>.p (.bool r)) rfl rfl (jQ rfl)))
def aaU : Lo:=
 let p0:Pc:=((qL (V 3) (.rlen (V 0))),true)::[]
 let p1:Pc:=((.and (W 5 1) (qL (W 5 0) (.slen (V 1)))),false)::p0
 .mk [] 2 2 [(zI (.li 0)),(zI (.li 0))] [((.not (qL (V 3) (.rlen (V 0)))),1,[(zI (V 2))]),((.or (.and (W 5 1) (qL (W 5 0) (.slen (V 1)))) (.and (sE (W 4 0) (W 6 0)) (qE (W 4 1) (W 6 1)))),2,[(zI (V 3))]),((.lb true),0,[(zI (V 2)),(zI (aI (V 3) (.li 1)))])] [(p0,(.row (V 0) (V 3) (cV 4 dL.fC))),
 (p0,(.call 118 [(.agg [(zS (W 4 0)),(zI (W 4 1))])] (.eG [(zI (W 5 0)),(zB (W 5 1))]))),
 (p1,(.call 115 [(zS (.ls [108,101,110,103,116,104]))] (.agg [(zS (W 6 0)),(zI (W 6 1))])))] [] [1,1] [(V 0)]
def aaV : LH:=.mk [(qM (.li 0) (V 3))] (mI (.rlen (V 0)) (V 3)) [((.rlen (V 0)),1)] [] 0 [] []
def mD (r:Bool×Int×Int):Nat×List AV:=Z5 r.1 [eI r.2.1] [eI r.2.2]
theorem qI (x0:List dL)(x1:List UInt8):∀(n:Nat) (u2:Int) (u3:Int),u_ Tryz.prog sT aaU aaV [eL dL.enc x0,eS x1] n [eI u2,eI u3] (mD (lC x0 x1 n u2 u3))
 |0,u2,u3=>l0
 |n+1,u2,u3=>
  let v4:dL:=x0.getD (u3:Int).toNat default
  let v5:Int×Bool:=tY v4.Key
  let v6:dH:=TY [108,101,110,103,116,104]
  PV rfl [dL.av v4,oW v5,dH.av v6] xn (wR rfl <|
  wC (F7 v4.Key) <|
  wC (WG [108,101,110,103,116,104]) <|
  wn) ln <|
   rc mD rx<|rc mD rx<|rl (rg (qI x0 x1 n _ _))
def ao9 : iL:=
 ⟨[((.not (qE (V 2) (.li 0))),(.eG [(zI (V 4))])),((.lb true),(.eG [(zI (.li (-1)))]))],
 [],[aaU]⟩
def ao_ : LH:=.mk [] (.li 0) [] [] 0 [aaV] []
theorem apa : MV Tryz.prog gu gB rJ (rG kA 132 [8,5,4] [(0,(.mk [0,1,7] (.mk [(4,(.sc kI)),(8,(.sc kI))] [] [] 4) [(.normal,(.mk [(4,(.sc kI))] [] [] 4)),(.ret,(.mk [(4,(.sc kI))] [] [] 4))]))]) 3 200 132 [(zL (V 0)),(.fn 119 [] [(.vp [(zS (V 1))] 0)])] 2 [] [] 0=some ao9:=by kernel_rfl
theorem zY (x0:List dL)(x1:List UInt8):CTw Tryz.prog sT 132 [(.sl (List.map dL.enc x0) false),(.fn (.func 119) [] [(.vp [(.str x1)] 0)])] [] 0 (.p (.int .i64 (qm x0 x1))) []:=
 let r2:Bool×Int×Int:=lC x0 x1 (x0.length+1) 0 0
 mkW (cs:=[]) jR dU dV apa ao_ (by kernel_rfl) [eL dL.enc x0,eS x1,eI (mZ r2.1),eI r2.2.1,eI r2.2.2] xn
  wn
  (lc2 (qI x0 x1 (x0.length+1) 0 0) <|
  ln)
  (gI (fun r=>.eG [(.p (.int .i64 r))]) rfl rfl (jQ rfl))
def apb : iL:=
 ⟨[((.lb true),(.eG [(zB (qH (V 2) (.li 0)))]))],
 [([],(.oU 132 [(zL (V 0)),(.fn 119 [] [(.vp [(zS (V 1))] 0)])] [] 0 (zI (V 2)) []))],[]⟩
theorem apc : MV Tryz.prog gu gB rJ (rG kA 116 [] []) 3 200 116 [(zL (V 0)),(.fn 119 [] [(.vp [(zS (V 1))] 0)])] 2 [] [] 0=some apb:=by kernel_rfl
theorem yN (x0:List dL)(x1:List UInt8):CTw Tryz.prog sT 116 [(.sl (List.map dL.enc x0) false),(.fn (.func 119) [] [(.vp [(.str x1)] 0)])] [] 0 (.p (.bool (ou x0 x1))) []:=
 let w2:Int:=qm x0 x1
 let r2:Int:=w2
 mkW (cs:=[]) jR dU dV apc zn (by kernel_rfl) [eL dL.enc x0,eS x1,eI r2] xn
  (wW (zY x0 x1)<|wn)
  ln
  (jQ rfl)
def R94 : iL:=
 let p0:Pc:=((qM (.slen (V 1)) (.li 4096)),true)::[]
 ⟨[((.lb true),(zB (.and (qM (.slen (V 1)) (.li 4096)) (.not (V 2)))))],
 [(p0,(.call 116 [(zL (V 0)),(.fn 119 [] [(.vp [(zS (V 1))] 0)])] (zB (V 2))))],[]⟩
theorem e94 : jU Tryz.prog gu gB rJ (rG kA 94 [] []) 3 200 94 [zL (V 0),zS (V 1)] 2=some R94:=by kernel_rfl
theorem UW (x0:List dL)(x1:List UInt8):CT Tryz.prog sT 94 [eL dL.enc x0,eS x1] (eB (Bd x0 x1)):=
 let w2:Bool:=ou x0 x1
 let r2:Bool:=w2
 vS jR dU dV e94 zn (by kernel_rfl) [eL dL.enc x0,eS x1,eB r2] xn
  (wC (ctW rfl (yN x0 x1))<|wn)
  ln
  (jQ rfl)
def aj3 : Lo:=
 let p0:Pc:=((uE (W 2 0) (.li 6)),false)::[]
 let p1:Pc:=((.and (sN (W 2 15) (.ls [])) (uN (W 2 0) (.li 3))),false)::p0
 let p2:Pc:=((V 8),true)::p1
 let p3:Pc:=((.and (.not (V 7)) (.not (.and (.and (.and (.and (uE (W 2 0) (.li 5)) (V 4)) (qL (W 2 10) (V 1))) (V 5)) (uE (W 6 0) (.li 6))))),false)::p2
 let p4:Pc:=((qN (V 11) (.li 0)),false)::p3
 let p5:Pc:=((V 10),true)::p4
 let p6:Pc:=((.and (uN (W 2 1) (.li 1)) (.not (V 9))),false)::p5
 let p7:Pc:=((qL (V 13) (.rlen (W 2 6))),true)::p6
 let p8:Pc:=((.not (V 15)),false)::p7
 let p9:Pc:=((.or (.not (V 15)) (.not (V 16))),false)::p7
 .mk [((.and (uN (W 2 1) (.li 1)) (.not (V 9))),false),((V 10),true),((qN (V 11) (.li 0)),false),((.and (.not (V 7)) (.not (.and (.and (.and (.and (uE (W 2 0) (.li 5)) (V 4)) (qL (W 2 10) (V 1))) (V 5)) (uE (W 6 0) (.li 6))))),false),((V 8),true),((.and (sN (W 2 15) (.ls [])) (uN (W 2 0) (.li 3))),false),((uE (W 2 0) (.li 6)),false)] 12 2 [(zB (.lb false)),(zI (.li 0))] [((.not (qL (V 13) (.rlen (W 2 6)))),1,[(zB (V 12))]),((.or (.or (.not (V 15)) (.not (V 16))) (.not (V 17))),2,[(zB (.lb false))]),((.lb true),0,[(zB (V 12)),(zI (aI (V 13) (.li 1)))])] [(p7,(.row (W 2 6) (V 13) (cV 14 dL.fC))),
 (p7,(.call 91 [(.agg [(zL (W 0 0))]),(.agg (cW 14 3 dJ.fC))] (zB (V 15)))),
 (p8,(.call 91 [(.agg [(zL (W 0 0))]),(.agg (cW 14 7 dJ.fC))] (zB (V 16)))),
 (p9,(.call 91 [(.agg [(zL (W 0 0))]),(.agg (cW 14 11 dJ.fC))] (zB (V 17))))] [] [1,1] [(W 2 6)]
def aj6 : LH:=.mk [(qM (V 11) (V 13))] (mI (.rlen (W 2 6)) (V 13)) [((.rlen (W 2 6)),1)] [] 10 [] []
def vg (r:Bool×Bool×Bool):Nat×List AV:=Z5 r.1 [eB r.2.1] [eB r.2.2]
theorem Bl (x0:dK)(x1:Int)(v2:dM)(v3:Bool)(v4:Bool)(v5:Bool)(v6:dM)(v7:Bool)(v8:Bool)(v9:Bool)(v10:Bool)(v11:Int):∀(n:Nat) (u12:Bool) (u13:Int),u_ Tryz.prog sT aj3 aj6 [dK.av x0,eI x1,dM.av v2,eB v3,eB v4,eB v5,dM.av v6,eB v7,eB v8,eB v9,eB v10,eI v11] n [eB u12,eI u13] (vg (jC x0 v2 n u12 u13))
 |0,u12,u13=>l0
 |n+1,u12,u13=>
  let v14:dL:=v2.Props.getD (u13:Int).toNat default
  let v15:Bool:=eX x0 v14.dR.Value
  let v16:Bool:=eX x0 v14.dR.Get
  let v17:Bool:=eX x0 v14.dR.Set
  PV rfl [dL.av v14,eB v15,eB v16,eB v17] xn (wR rfl <|
  wC (yL x0 v14.dR.Value) <|
  wC (yL x0 v14.dR.Get) <|
  wC (yL x0 v14.dR.Set) <|
  wn) ln <|
   rc vg rx<|rc vg rx<|rl (rg (Bl x0 x1 v2 v3 v4 v5 v6 v7 v8 v9 v10 v11 n _ _))
def R65 : iL:=
 let p0:Pc:=((uE (W 2 0) (.li 6)),true)::[]
 let p1:Pc:=((uE (W 2 0) (.li 6)),false)::[]
 let p2:Pc:=((uE (W 2 0) (.li 5)),true)::p1
 let p3:Pc:=((.and (.and (uE (W 2 0) (.li 5)) (V 4)) (qL (W 2 10) (V 1))),true)::p1
 let p4:Pc:=((.and (.and (.and (uE (W 2 0) (.li 5)) (V 4)) (qL (W 2 10) (V 1))) (V 5)),true)::p1
 let p5:Pc:=((.and (.not (V 7)) (.not (.and (.and (.and (.and (uE (W 2 0) (.li 5)) (V 4)) (qL (W 2 10) (V 1))) (V 5)) (uE (W 6 0) (.li 6))))),false)::p1
 let p6:Pc:=((.and (sN (W 2 15) (.ls [])) (uN (W 2 0) (.li 3))),false)::p1
 let p7:Pc:=((V 8),true)::p6
 let p8:Pc:=((.and (.not (V 7)) (.not (.and (.and (.and (.and (uE (W 2 0) (.li 5)) (V 4)) (qL (W 2 10) (V 1))) (V 5)) (uE (W 6 0) (.li 6))))),false)::p7
 let p9:Pc:=((uN (W 2 1) (.li 1)),true)::p8
 let p10:Pc:=((.and (uN (W 2 1) (.li 1)) (.not (V 9))),false)::p8
 let p11:Pc:=((.or (.and (uN (W 2 1) (.li 1)) (.not (V 9))) (.not (V 10))),false)::p8
 let p12:Pc:=((qN (V 11) (.li 0)),false)::p8
 let p13:Pc:=((V 10),true)::p12
 let p14:Pc:=((.and (uN (W 2 1) (.li 1)) (.not (V 9))),false)::p13
 let p15:Pc:=((qE (V 12) (.li 0)),true)::p14
 let p16:Pc:=((uE (W 2 0) (.li 1)),false)::p15
 let p17:Pc:=((uE (W 2 0) (.li 2)),true)::p16
 let p18:Pc:=((.and (.not (W 2 16)) (.not (W 2 17))),true)::p17
 let p19:Pc:=((uE (W 2 0) (.li 2)),false)::p16
 let p20:Pc:=((uE (W 2 0) (.li 3)),true)::p19
 let p21:Pc:=((.and (.not (W 2 16)) (.not (W 2 17))),true)::p20
 ⟨[((uE (W 2 0) (.li 6)),(zB (V 3))),((.or (.or (.and (.not (V 7)) (.not (.and (.and (.and (.and (uE (W 2 0) (.li 5)) (V 4)) (qL (W 2 10) (V 1))) (V 5)) (uE (W 6 0) (.li 6))))) (.not (V 8))) (.and (sN (W 2 15) (.ls [])) (uN (W 2 0) (.li 3)))),(zB (.lb false))),((.or (.or (.and (uN (W 2 1) (.li 1)) (.not (V 9))) (.not (V 10))) (qN (V 11) (.li 0))),(zB (.lb false))),((.not (qE (V 12) (.li 0))),(zB (V 14))),((uE (W 2 0) (.li 1)),(zB (.and (.not (W 2 16)) (.not (W 2 17))))),((uE (W 2 0) (.li 2)),(zB (.and (.and (.not (W 2 16)) (.not (W 2 17))) (V 15)))),((uE (W 2 0) (.li 3)),(zB (.and (.and (.not (W 2 16)) (.not (W 2 17))) (V 16)))),((uE (W 2 0) (.li 4)),(zB (.and (W 2 16) (W 2 17)))),((uE (W 2 0) (.li 5)),(zB (W 2 16))),((.lb true),(zB (.lb false)))],
 [([],(.row (W 0 0) (V 1) (cV 2 dM.fC))),
 (p0,(.call 90 [(.agg [(zL (W 0 0))]),(.agg (cV 2 dM.fC)),(zI (V 1))] (zB (V 3)))),
 (p2,(.call 69 [(.agg (cW 2 7 dJ.fC))] (zB (V 4)))),
 (p3,(.call 91 [(.agg [(zL (W 0 0))]),(.agg (cW 2 7 dJ.fC))] (zB (V 5)))),
 (p4,(.row (W 0 0) (W 2 10) (cV 6 dM.fC))),
 (p1,(.call 92 [(.agg (cW 2 7 dJ.fC)),(zU (.li 0))] (zB (V 7)))),
 (p5,(.call 92 [(.agg (cW 2 11 dJ.fC)),(zU (.li 0))] (zB (V 8)))),
 (p9,(.call 69 [(.agg (cW 2 1 dJ.fC))] (zB (V 9)))),
 (p10,(.call 91 [(.agg [(zL (W 0 0))]),(.agg (cW 2 1 dJ.fC))] (zB (V 10)))),
 (p11,(.call 78 [(zL (W 2 6))] (zI (V 11)))),
 (p18,(.call 93 [(zL (W 2 6))] (zB (V 15)))),
 (p21,(.call 94 [(zL (W 2 6)),(zS (W 2 15))] (zB (V 16))))],[aj3]⟩
def H65 : LH:=.mk [] (.li 0) [] [([((V 5),true)],(qM (.li 0) (W 2 10))),([((V 5),true),((V 4),true)],(qL (W 2 10) (.rlen (W 0 0))))] 0 [aj6] []
theorem e65 : jU Tryz.prog gu gB rJ (rG kA 65 [115,116,117,114,118,119,123,124,125,122,126,127,103,4] [(0,(.mk [2,5,101,102] (.mk [(4,(.sc .bool)),(103,(.sc kI))] [] [] 96) [(.normal,(.mk [(4,(.sc .bool))] [] [] 96)),(.ret,(.mk [(4,(.sc .bool))] [] [] 96))]))]) 3 200 65 [.agg (cV 0 dK.fC),zI (V 1)] 2=some R65:=by kernel_rfl
theorem Uu (x0:dK)(x1:Int):CT Tryz.prog sT 65 [dK.av x0,eI x1] (eB (kC x0 x1)):=
 let v2:dM:=x0.Objects.getD (x1:Int).toNat default
 let v3:Bool:=tC x0 v2 x1
 let v4:Bool:=dP v2.Target
 let v5:Bool:=eX x0 v2.Target
 let v6:dM:=x0.Objects.getD (v2.Target.Ref:Int).toNat default
 let v7:Bool:=o7 v2.Target 0
 let v8:Bool:=o7 v2.Handler 0
 let v9:Bool:=dP v2.eY
 let v10:Bool:=eX x0 v2.eY
 let v11:Int:=jG v2.Props
 let r12:Bool×Bool×Bool:=jC x0 v2 (v2.Props.length+1) false 0
 let v15:Bool:=Bc v2.Props
 let v16:Bool:=Bd v2.Props v2.Text
 vS jR dU dV e65 H65 (by kernel_rfl) [dK.av x0,eI x1,dM.av v2,eB v3,eB v4,eB v5,dM.av v6,eB v7,eB v8,eB v9,eB v10,eI v11,eI (mZ r12.1),eB r12.2.1,eB r12.2.2,eB v15,eB v16] (xp (fun h=>decide_eq_true (aeP ( (h.at 0 rfl))))<|xp (fun h=>decide_eq_true (aeQ ( (h.at 0 rfl)) ( (h.at 1 rfl))))<|xn)
  (wR rfl <|
  wC (UR x0 v2 x1) <|
  wC (jP v2.Target) <|
  wC (yL x0 v2.Target) <|
  wR rfl <|
  wC (Bh v2.Target 0) <|
  wC (Bh v2.Handler 0) <|
  wC (jP v2.eY) <|
  wC (yL x0 v2.eY) <|
  wC (Bj v2.Props) <|
  wC (UU v2.Props) <|
  wC (UW v2.Props v2.Text) <|
  wn)
  (lc2 (Bl x0 x1 v2 v3 v4 v5 v6 v7 v8 v9 v10 v11 (v2.Props.length+1) false 0) <|
  ln)
  (gI (fun r=>.p (.bool r)) rfl rfl (gI (fun r=>.p (.bool r)) rfl rfl (gI (fun r=>.p (.bool r)) rfl rfl (gI (fun r=>.p (.bool r)) rfl rfl (gI (fun r=>.p (.bool r)) rfl rfl (gI (fun r=>.p (.bool r)) rfl rfl (gI (fun r=>.p (.bool r)) rfl rfl (gI (fun r=>.p (.bool r)) rfl rfl (gI (fun r=>.p (.bool r)) rfl rfl (jQ rfl))))))))))
def anq : Lo:=
 let p0:Pc:=((qG (.rlen (W 0 0)) (.li 4096)),false)::[]
 let p1:Pc:=((qL (V 2) (.rlen (W 0 0))),true)::p0
 .mk [((qG (.rlen (W 0 0)) (.li 4096)),false)] 1 2 [(zI (.li 0)),(zI (.li 0))] [((.not (qL (V 2) (.rlen (W 0 0)))),1,[(zI (V 1))]),((.not (V 3)),2,[(zI (.li 9))]),((.lb true),0,[(zI (V 1)),(zI (aI (V 2) (.li 1)))])] [(p1,(.call 65 [(.agg [(zL (W 0 0))]),(zI (V 2))] (zB (V 3))))] [] [1,1] []
def anr : LH:=.mk [(qM (.li 0) (V 2))] (mI (.rlen (W 0 0)) (V 2)) [((.rlen (W 0 0)),1)] [] 0 [] []
def yO (r:Bool×Int×Int):Nat×List AV:=Z5 r.1 [eI r.2.1] [eI r.2.2]
theorem ED (x0:dK):∀(n:Nat) (u1:Int) (u2:Int),u_ Tryz.prog sT anq anr [dK.av x0] n [eI u1,eI u2] (yO (pO x0 n u1 u2))
 |0,u1,u2=>l0
 |n+1,u1,u2=>
  let v3:Bool:=kC x0 u2
  PV rfl [eB v3] xn (wC (Uu x0 u2)<|wn) ln <|
   rc yO rx<|rc yO rx<|rl (rg (ED x0 n _ _))
def R25 : iL:=
 let p0:Pc:=((qG (.rlen (W 0 0)) (.li 4096)),false)::[]
 let p1:Pc:=((qE (V 1) (.li 0)),true)::p0
 ⟨[((qG (.rlen (W 0 0)) (.li 4096)),(zI (.li 9))),((.not (qE (V 1) (.li 0))),(zI (V 3))),((V 4),(zI (.li 9))),((.lb true),(zI (.li 0)))],
 [(p1,(.call 66 [(.agg [(zL (W 0 0))])] (zB (V 4))))],[anq]⟩
def H25 : LH:=.mk [] (.li 0) [] [] 0 [anr] []
theorem e25 : jU Tryz.prog gu gB rJ (rG kA 25 [3,11,2] [(0,(.mk [1,10] (.mk [(2,(.sc kI)),(11,(.sc kI))] [] [] 10) [(.normal,(.mk [(2,(.sc kI))] [] [] 10)),(.ret,(.mk [(2,(.sc kI))] [] [] 10))]))]) 3 200 25 [.agg (cV 0 dK.fC)] 1=some R25:=by kernel_rfl
theorem J8 (x0:dK):CT Tryz.prog sT 25 [dK.av x0] (eI (jO x0)):=
 let r1:Bool×Int×Int:=pO x0 (x0.Objects.length+1) 0 0
 let v4:Bool:=rD x0
 vS jR dU dV e25 H25 (by kernel_rfl) [dK.av x0,eI (mZ r1.1),eI r1.2.1,eI r1.2.2,eB v4] xn
  (wCp (by intro h;exact UO x0 (amj (aaK (h.at 1 rfl)) (nO.1 (h.at 0 rfl))) (aaK (h.at 1 rfl)))<|wn)
  (lc2 (ED x0 (x0.Objects.length+1) 0 0) <|
  ln)
  (gI (fun r=>.p (.int .i64 r)) rfl rfl (gI (fun r=>.p (.int .i64 r)) rfl rfl (gI (fun r=>.p (.int .i64 r)) rfl rfl (jQ rfl))))
def R70 : iL:=
 let p0:Pc:=((V 2),false)::[]
 let p1:Pc:=((V 2),true)::[]
 let p2:Pc:=((qH (W 1 3) (.rlen (W 0 0))),false)::p1
 let p3:Pc:=((V 4),true)::p2
 ⟨[((.not (V 2)),(zB (V 3))),((.or (.not (V 4)) (qH (W 1 3) (.rlen (W 0 0)))),(zB (.lb false))),((.lb true),(zB (.or (.or (.and (uE (W 1 0) (.li 8)) (W 5 17)) (.and (.and (uE (W 1 0) (.li 7)) (W 5 16)) (.not (W 5 17)))) (.and (.and (uE (W 1 0) (.li 6)) (.not (W 5 16))) (.not (W 5 17))))))],
 [([],(.call 69 [(.agg (cV 1 dJ.fC))] (zB (V 2)))),
 (p0,(.call 96 [(.agg (cV 1 dJ.fC))] (zB (V 3)))),
 (p1,(.call 96 [(.agg (cV 1 dJ.fC))] (zB (V 4)))),
 (p3,(.row (W 0 0) (W 1 3) (cV 5 dM.fC)))],[]⟩
def H70 : LH:=.mk [] (.li 0) [] [([((V 4),true)],(qM (.li 0) (W 1 3)))] 0 [] []
theorem e70 : jU Tryz.prog gu gB rJ (rG kA 70 [] []) 3 200 70 [.agg (cV 0 dK.fC),.agg (cV 1 dJ.fC)] 2=some R70:=by kernel_rfl
theorem xA (x0:dK)(x1:dJ):CT Tryz.prog sT 70 [dK.av x0,dJ.av x1] (eB (jH x0 x1)):=
 let v2:Bool:=dP x1
 let v3:Bool:=iJ x1
 let v4:Bool:=iJ x1
 let v5:dM:=x0.Objects.getD (x1.Ref:Int).toNat default
 vS jR dU dV e70 H70 (by kernel_rfl) [dK.av x0,dJ.av x1,eB v2,eB v3,eB v4,dM.av v5] (xp (fun h=>decide_eq_true (Nu ( (h.at 0 rfl))))<|xn)
  (wC (jP x1) <|
  wC (uf x1) <|
  wC (uf x1) <|
  wR rfl <|
  wn)
  ln
  (gI (fun r=>.p (.bool r)) rfl rfl (gI (fun r=>.p (.bool r)) rfl rfl (jQ rfl)))
def R31 : iL:=
 let p0:Pc:=((uE (W 1 0) (.li 1)),false)::[]
 let p1:Pc:=((.or (uE (W 1 0) (.li 1)) (V 2)),true)::[]
 ⟨[((.lb true),(zB (.and (.or (uE (W 1 0) (.li 1)) (V 2)) (V 3))))],
 [(p0,(.call 69 [(.agg (cV 1 dJ.fC))] (zB (V 2)))),
 (p1,(.call 70 [(.agg [(zL (W 0 0))]),(.agg (cV 1 dJ.fC))] (zB (V 3))))],[]⟩
theorem e31 : jU Tryz.prog gu gB rJ (rG kA 31 [] []) 3 200 31 [.agg (cV 0 dK.fC),.agg (cV 1 dJ.fC)] 2=some R31:=by kernel_rfl
theorem Ny (x0:dK)(x1:dJ):CT Tryz.prog sT 31 [dK.av x0,dJ.av x1] (eB (jD x0 x1)):=
 let v2:Bool:=dP x1
 let v3:Bool:=jH x0 x1
 vS jR dU dV e31 zn (by kernel_rfl) [dK.av x0,dJ.av x1,eB v2,eB v3] xn
  (wC (jP x1) <|
  wC (xA x0 x1) <|
  wn)
  ln
  (jQ rfl)
def R45 : iL:=
 let p0:Pc:=((qH (W 1 1) (.rlen (W 0 0))),false)::[]
 let p1:Pc:=((qL (W 1 1) (.li 0)),false)::p0
 let p2:Pc:=((.or (uE (W 2 0) (.li 1)) (.or (uE (W 2 0) (.li 4)) (uE (W 2 0) (.li 5)))),true)::p1
 let p3:Pc:=((uE (W 1 0) (.li 11)),false)::p2
 let p4:Pc:=((uE (W 1 0) (.li 4)),false)::p3
 let p5:Pc:=((uE (W 1 0) (.li 3)),false)::p4
 let p6:Pc:=((uE (W 1 0) (.li 1)),false)::p5
 let p7:Pc:=((uE (W 1 0) (.li 2)),true)::p6
 let p8:Pc:=((uE (W 1 0) (.li 2)),false)::p6
 let p9:Pc:=((.or (uE (W 1 0) (.li 5)) (uE (W 1 0) (.li 10))),true)::p8
 let p10:Pc:=((uE (W 1 0) (.li 10)),false)::p8
 let p11:Pc:=((uE (W 1 0) (.li 5)),false)::p10
 let p12:Pc:=((uE (W 1 0) (.li 6)),true)::p11
 let p13:Pc:=((qN (V 5) (.li 0)),false)::p12
 let p14:Pc:=((qN (V 6) (.li 0)),false)::p13
 let p15:Pc:=((.not (V 7)),false)::p14
 let p16:Pc:=((.or (.not (V 7)) (.not (V 8))),false)::p14
 ⟨[((.or (qL (W 1 1) (.li 0)) (qH (W 1 1) (.rlen (W 0 0)))),(zI (.li 2))),((.not (.or (uE (W 2 0) (.li 1)) (.or (uE (W 2 0) (.li 4)) (uE (W 2 0) (.li 5))))),(zI (.li 2))),((.and (.not (.or (uE (W 1 0) (.li 1)) (.or (uE (W 1 0) (.li 3)) (.or (uE (W 1 0) (.li 4)) (uE (W 1 0) (.li 11)))))) (.and (uE (W 1 0) (.li 2)) (.not (V 3)))),(zI (.li 9))),((.and (.not (.or (uE (W 1 0) (.li 1)) (.or (uE (W 1 0) (.li 3)) (.or (uE (W 1 0) (.li 4)) (uE (W 1 0) (.li 11)))))) (.and (.not (uE (W 1 0) (.li 2))) (.or (uE (W 1 0) (.li 5)) (uE (W 1 0) (.li 10))))),(zI (V 4))),((.and (.not (.or (uE (W 1 0) (.li 1)) (.or (uE (W 1 0) (.li 3)) (.or (uE (W 1 0) (.li 4)) (uE (W 1 0) (.li 11)))))) (.and (.not (uE (W 1 0) (.li 2))) (.and (uE (W 1 0) (.li 6)) (qN (V 5) (.li 0))))),(zI (V 5))),((.and (.not (.or (uE (W 1 0) (.li 1)) (.or (uE (W 1 0) (.li 3)) (.or (uE (W 1 0) (.li 4)) (uE (W 1 0) (.li 11)))))) (.and (.not (uE (W 1 0) (.li 2))) (.and (uE (W 1 0) (.li 6)) (qN (V 6) (.li 0))))),(zI (V 6))),((.and (.not (.or (uE (W 1 0) (.li 1)) (.or (uE (W 1 0) (.li 3)) (.or (uE (W 1 0) (.li 4)) (uE (W 1 0) (.li 11)))))) (.and (.not (uE (W 1 0) (.li 2))) (.and (uE (W 1 0) (.li 6)) (.or (.or (.not (V 7)) (.not (V 8))) (.not (V 9)))))),(zI (.li 9))),((.and (.not (.or (uE (W 1 0) (.li 1)) (.or (uE (W 1 0) (.li 3)) (.or (uE (W 1 0) (.li 4)) (uE (W 1 0) (.li 11)))))) (.and (.not (uE (W 1 0) (.li 2))) (.not (uE (W 1 0) (.li 6))))),(zI (.li 2))),((.lb true),(zI (.li 0)))],
 [(p1,(.row (W 0 0) (W 1 1) (cV 2 dM.fC))),
 (p7,(.call 31 [(.agg [(zL (W 0 0))]),(.agg (cW 1 20 dJ.fC))] (zB (V 3)))),
 (p9,(.call 83 [(.agg [(zS (W 1 2)),(zI (W 1 3))])] (zI (V 4)))),
 (p12,(.call 83 [(.agg [(zS (W 1 2)),(zI (W 1 3))])] (zI (V 5)))),
 (p13,(.call 84 [(.agg (cW 1 4 dI.fC))] (zI (V 6)))),
 (p14,(.call 70 [(.agg [(zL (W 0 0))]),(.agg (cW 1 5 dJ.fC))] (zB (V 7)))),
 (p15,(.call 70 [(.agg [(zL (W 0 0))]),(.agg (cW 1 9 dJ.fC))] (zB (V 8)))),
 (p16,(.call 70 [(.agg [(zL (W 0 0))]),(.agg (cW 1 13 dJ.fC))] (zB (V 9))))],[]⟩
theorem e45 : jU Tryz.prog gu gB rJ (rG kA 45 [] []) 3 200 45 [.agg (cV 0 dK.fC),.agg (cV 1 iI.fC)] 2=some R45:=by kernel_rfl
theorem Nz (x0:dK)(x1:iI):CT Tryz.prog sT 45 [dK.av x0,iI.av x1] (eI (jh x0 x1)):=
 let v2:dM:=x0.Objects.getD (x1.Object:Int).toNat default
 let v3:Bool:=jD x0 x1.Value
 let v4:Int:=mP x1.Key
 let v5:Int:=mP x1.Key
 let v6:Int:=mQ x1.dR
 let v7:Bool:=jH x0 x1.dR.Value
 let v8:Bool:=jH x0 x1.dR.Get
 let v9:Bool:=jH x0 x1.dR.Set
 vS jR dU dV e45 zn (by kernel_rfl) [dK.av x0,iI.av x1,dM.av v2,eB v3,eI v4,eI v5,eI v6,eB v7,eB v8,eB v9] xn
  (wR rfl <|
  wC (Ny x0 x1.Value) <|
  wC (zX x1.Key) <|
  wC (zX x1.Key) <|
  wC (yU x1.dR) <|
  wC (xA x0 x1.dR.Value) <|
  wC (xA x0 x1.dR.Get) <|
  wC (xA x0 x1.dR.Set) <|
  wn)
  ln
  (gI (fun r=>.p (.int .i64 r)) rfl rfl (gI (fun r=>.p (.int .i64 r)) rfl rfl (gI (fun r=>.p (.int .i64 r)) rfl rfl (gI (fun r=>.p (.int .i64 r)) rfl rfl (gI (fun r=>.p (.int .i64 r)) rfl rfl (gI (fun r=>.p (.int .i64 r)) rfl rfl (gI (fun r=>.p (.int .i64 r)) rfl rfl (gI (fun r=>.p (.int .i64 r)) rfl rfl (jQ rfl)))))))))
def R67 : iL:=
 ⟨[((.lb true),(.agg (cV 0 dM.fC)))],
 [([],(.under [] (.JJ 18 (W 0 6)))),
 ([],(.under [] (.len2 0 (W 0 6))))],[]⟩
theorem e67 : jU Tryz.prog gu gB rJ (rG kA 67 [] []) 3 200 67 [.agg (cV 0 dM.fC)] 1=some R67:=by kernel_rfl
theorem PX (x0:dM):CT Tryz.prog sT 67 [dM.av x0] (dM.av (Eo x0)):=
 vS jR dU dV e67 zn (by kernel_rfl) [dM.av x0] xn
  (wU (acZ (f:=dL.enc) rfl wn) <|
  wU (aax wn) <|
  wn)
  ln
  (jQ rfl)
def ant : Lo:=
 let p0:Pc:=((qL (V 3) (.rlen (W 0 0))),true)::[]
 .mk [] 3 2 [(zI (.li 0)),(zL (V 2))] [((.not (qL (V 3) (.rlen (W 0 0)))),1,[(zL (V 4))]),((.lb true),0,[(zI (aI (V 3) (.li 1))),(zL (V 7))])] [(p0,(.tm (qM (.li 0) (V 3)))),
 (p0,(.rd (true,18) (V 4) (V 3) 0 (.agg (cV 5 dM.fC)))),
 (p0,(.call 67 [(.agg (cV 5 dM.fC))] (.agg (cV 6 dM.fC)))),
 (p0,(.tm (qM (.li 0) (V 3)))),
 (p0,(.st (V 4) (V 3) 0 [(zU (W 6 0)),(zU (W 6 1)),(zF (W 6 2)),(zS (W 6 3)),(zI (W 6 4)),(zB (W 6 5)),(zL (W 6 6)),(zU (W 6 7)),(zF (W 6 8)),(zS (W 6 9)),(zI (W 6 10)),(zU (W 6 11)),(zF (W 6 12)),(zS (W 6 13)),(zI (W 6 14)),(zS (W 6 15)),(zB (W 6 16)),(zB (W 6 17))] (V 7)))] [] [1] []
def anu : LH:=.mk [(qM (.li 0) (V 3)),(qE (.rlen (V 4)) (.rlen (V 2)))] (mI (.rlen (W 0 0)) (V 3)) [((.rlen (W 0 0)),1)] [] 3 [] [[(qE (.rlen (V 3)) (.rlen (V 2)))]]
def Gy (r:List dM):Nat×List AV:=(0,[eL dM.enc r])
theorem Gz (x0:dK)(v1:List dM)(v2:List dM):∀(n:Nat) (u3:Int) (u4:List dM),u_ Tryz.prog sT ant anu [dK.av x0,eL dM.enc v1,eL dM.enc v2] n [eI u3,eL dM.enc u4] (Gy (lD x0 n u3 u4))
 |0,u3,u4=>l0
 |n+1,u3,u4=>
  let v5:dM:=u4.getD (u3:Int).toNat default
  let v6:dM:=Eo v5
  let v7:List dM:=u4.set (u3:Int).toNat v6
  PV rfl [dM.av v5,dM.av v6,eL dM.enc v7] xn (wT <|
  UD rfl <|
  wC (PX v5) <|
  wT <|
  wSt (f:=dM.enc) v6 rfl <|
  wn) ln <|
   rc Gy rx<|rl (rg (Gz x0 v1 v2 n _ _))
def H46 : LH:=.mk [] (.li 0) [] [] 0 [anu] []
def atB : iL:=
 ⟨[((.lb true),(.agg [(zL (V 3))]))],
 [([],(.mk (.rlen (W 0 0)) (.rlen (W 0 0)) [(zU (.li 0)),(zU (.li 0)),(zF (.lf 0)),(zS (.ls [])),(zI (.li 0)),(zB (.lb false)),(zL .nl),(zU (.li 0)),(zF (.lf 0)),(zS (.ls [])),(zI (.li 0)),(zU (.li 0)),(zF (.lf 0)),(zS (.ls [])),(zI (.li 0)),(zS (.ls [])),(zB (.lb false)),(zB (.lb false))] (V 1))),
 ([],(.JJ 18 (W 0 0))),
 ([],(.cpy (V 1) (.rlen (W 0 0)) (W 0 0) (V 2))),
 ([],(.tm (qE (.rlen (W 0 0)) (.rlen (V 3)))))],[ant]⟩
theorem atC : acF Tryz.prog gu gB rJ (rG kA 46 [4,15] [(0,(.mk [2,3,14] (.mk [(15,(.sc kI))] [] [(5,18)] 14) [(.normal,(.mk [] [] [(5,18)] 14))]))]) 3 200 46 [.agg (cV 0 dK.fC)] 1 [0] 18=some atB:=by kernel_rfl
theorem Qd (x0:dK):CTo Tryz.prog sT 46 [dK.av x0] (dK.av (IY x0)) [0] 18:=
 let v1:List dM:=List.replicate ((iM dM.enc x0.Objects):Int).toNat (dM.mk 0 (dJ.mk 0 0 [] 0) false [] (dJ.mk 0 0 [] 0) (dJ.mk 0 0 [] 0) [] false false)
 let v2:List dM:=x0.Objects.take ((iM dM.enc x0.Objects):Int).toNat++v1.drop (min x0.Objects.length ((iM dM.enc x0.Objects):Int).toNat)
 let r3:List dM:=lD x0 (x0.Objects.length+1) 0 v2
 let v4:List dM:=(r3.drop (0)).take (((iM dM.enc x0.Objects):Int).toNat-0)
 mkO jR dU dV atC H46 (by kernel_rfl) [dK.av x0,eL dM.enc v1,eL dM.enc v2,eL dM.enc r3,eL dM.enc v4] xn
  (wMk (f:=dM.enc) (dM.mk 0 (dJ.mk 0 0 [] 0) false [] (dJ.mk 0 0 [] 0) (dJ.mk 0 0 [] 0) [] false false) rfl <|
  acZ (f:=dM.enc) rfl <|
  atc (f:=dM.enc) rfl rfl <|
  wT <|
  wn)
  (lc1 (Gz x0 v1 v2 (x0.Objects.length+1) 0 v2) <|
  ln)
  (jQ rfl)
theorem UY (x0:dK):CTo Tryz.prog sT 46 [dK.av x0] (dK.av (yG x0)) [0] 18:=
 al8 (congrArg dK.av (Ur x0)) (Qd x0)
def R68 : iL:=
 let p0:Pc:=((V 2),true)::[]
 ⟨[((.and (V 2) (V 3)),(zB (qE (W 0 3) (W 1 3)))),((uN (W 0 0) (W 1 0)),(zB (.lb false))),((.or (uE (W 0 0) (.li 0)) (uE (W 0 0) (.li 1))),(zB (.lb true))),((.or (uE (W 0 0) (.li 2)) (uE (W 0 0) (.li 3))),(zB (.bin .eql .kJ (W 0 1) (W 1 1)))),((uE (W 0 0) (.li 4)),(zB (sE (W 0 2) (W 1 2)))),((uE (W 0 0) (.li 5)),(zB (qE (W 0 3) (W 1 3)))),((.lb true),(zB (.lb false)))],
 [([],(.call 69 [(.agg (cV 0 dJ.fC))] (zB (V 2)))),
 (p0,(.call 69 [(.agg (cV 1 dJ.fC))] (zB (V 3))))],[]⟩
theorem e68 : jU Tryz.prog gu gB rJ (rG kA 68 [] []) 3 200 68 [.agg (cV 0 dJ.fC),.agg (cV 1 dJ.fC)] 2=some R68:=by kernel_rfl
theorem Qe (x0:dJ)(x1:dJ):CT Tryz.prog sT 68 [dJ.av x0,dJ.av x1] (eB (zT x0 x1)):=
 let v2:Bool:=dP x0
 let v3:Bool:=dP x1
 vS jR dU dV e68 zn (by kernel_rfl) [dJ.av x0,dJ.av x1,eB v2,eB v3] xn
  (wC (jP x0) <|
  wC (jP x1) <|
  wn)
  ln
  (gI (fun r=>.p (.bool r)) rfl rfl (gI (fun r=>.p (.bool r)) rfl rfl (gI (fun r=>.p (.bool r)) rfl rfl (gI (fun r=>.p (.bool r)) rfl rfl (gI (fun r=>.p (.bool r)) rfl rfl (gI (fun r=>.p (.bool r)) rfl rfl (jQ rfl)))))))
def R29 : iL:=
 let p0:Pc:=((.and (.and (uE (W 0 0) (.li 3)) (uE (W 1 0) (.li 3))) (.bin .neq .kJ (W 0 1) (W 0 1))),false)::[]
 ⟨[((.and (.and (uE (W 0 0) (.li 3)) (uE (W 1 0) (.li 3))) (.bin .neq .kJ (W 0 1) (W 0 1))),(zB (.bin .neq .kJ (W 1 1) (W 1 1)))),((.lb true),(zB (V 2)))],
 [(p0,(.call 68 [(.agg (cV 0 dJ.fC)),(.agg (cV 1 dJ.fC))] (zB (V 2))))],[]⟩
theorem e29 : jU Tryz.prog gu gB rJ (rG kA 29 [] []) 3 200 29 [.agg (cV 0 dJ.fC),.agg (cV 1 dJ.fC)] 2=some R29:=by kernel_rfl
theorem pU (x0:dJ)(x1:dJ):CT Tryz.prog sT 29 [dJ.av x0,dJ.av x1] (eB (fB x0 x1)):=
 let v2:Bool:=zT x0 x1
 vS jR dU dV e29 zn (by kernel_rfl) [dJ.av x0,dJ.av x1,eB v2] xn
  (wC (Qe x0 x1)<|wn)
  ln
  (gI (fun r=>.p (.bool r)) rfl rfl (jQ rfl))
def R85 : iL:=
 ⟨[((.lb true),(.agg [(zU (.li 1)),(zU (.li 0)),(zF (.lf 0)),(zS (.ls [])),(zI (.li 0)),(zB (V 0)),(zB (.lb false)),(zU (.li 0)),(zU (.li 0)),(zF (.lf 0)),(zS (.ls [])),(zI (.li 0)),(zU (.li 0)),(zF (.lf 0)),(zS (.ls [])),(zI (.li 0)),(zU (.li 0)),(zF (.lf 0)),(zS (.ls [])),(zI (.li 0)),(zB (.lb false)),(zB (.lb false)),(zB (.lb false)),(.slc [] false),(zU (.li 0)),(zS (.ls []))]))],
 [],[]⟩
theorem e85 : jU Tryz.prog gu gB rJ (rG kA 85 [] []) 3 200 85 [zB (V 0)] 1=some R85:=by kernel_rfl
theorem kP (x0:Bool):CT Tryz.prog sT 85 [eB x0] (gJ.av (dX x0)):=
 vS jR dU dV e85 zn (by kernel_rfl) [eB x0] xn
  wn
  ln
  (jQ rfl)
def anv : Lo:=
 let p0:Pc:=((V 5),true)::[]
 let p1:Pc:=((qE (W 4 3) (V 1)),false)::p0
 .mk [] 3 2 [(zB (.lb false)),(.agg (cV 2 dJ.fC))] [((.not (V 5)),1,[(zB (V 3)),(.agg (cV 4 dJ.fC))]),((qE (W 4 3) (V 1)),2,[(zB (.lb true)),(.agg (cV 4 dJ.fC))]),((uE (W 6 0) (.li 6)),2,[(zB (.lb false)),(.agg (cV 4 dJ.fC))]),((.lb true),0,[(zB (V 3)),(.agg (cW 6 1 dJ.fC))])] [([],(.call 69 [(.agg (cV 4 dJ.fC))] (zB (V 5)))),
 (p1,(.row (W 0 0) (W 4 3) (cV 6 dM.fC)))] [] [2,2] []
def anw : LH:=.mk [] .nl [] [([((V 5),true)],(qM (.li 0) (W 4 3))),([((V 5),true)],(qL (W 4 3) (.rlen (W 0 0))))] 0 [] []
def oJ (r:Bool×Bool×dJ×Bool×dJ):Nat×List AV:=Z5 r.1 [eB r.2.1,dJ.av r.2.2.1] [eB r.2.2.2.1,dJ.av r.2.2.2.2]
theorem xP (x0:dK)(x1:Int)(x2:dJ):∀(n:Nat) (u3:Bool) (u4:dJ) (hC:jO x0=0) (h2:hIn x0 x2) (q0:hIn x0 u4) (_:jI x0 x1 n u3 u4=true),u_ Tryz.prog sT anv anw [dK.av x0,eI x1,dJ.av x2] n [eB u3,dJ.av u4] (oJ (kR x0 x1 n u3 u4))
 |0,u3,u4,_,_,_,hE=>absurd (show false=true from hE) Bool.false_ne_true
 |n+1,u3,u4,hC,h2,q0,hE=>
  let v5:Bool:=dP u4
  let v6:dM:=x0.Objects.getD (u4.Ref:Int).toNat default
  have hE:(bif (!v5) then true
  else bif (dS u4.Ref x1) then true
  else bif (dS v6.Kind 6) then true
  else jI x0 x1 n u3 v6.eY)=true:=hE
  PV rfl [eB v5,dM.av v6] (xp (fun h=>decide_eq_true (aqV q0 ( (h.at 0 rfl))))<|xp (fun h=>decide_eq_true (ane q0 ( (h.at 0 rfl))))<|xn) (wC (jP u4) <|
  wR rfl <|
  wn) ln <|
   rcf oJ (fun g0=>rx)<|fun g0=>rcf oJ (fun g1=>rx)<|fun g1=>rcf oJ (fun g2=>rx)<|fun g2=>rl (rg (xP x0 x1 x2 n _ _ hC h2 (ao6 hC) (Wu g2 (Wu g1 (Wu g0 hE)))))
def R32 : iL:=
 ⟨[((qE (V 3) (.li 0)),(zB (.lb false))),((.lb true),(zB (V 6)))],
 [],[anv]⟩
def H32 : LH:=.mk [] (.li 0) [] [] 0 [anw] []
theorem e32 : jU Tryz.prog gu gB rJ (rG kA 32 [6] [(0,(.mk [1,3,5] (.mk [(6,(.sc .bool))] [(1,[kU,.kJ,.str,kI])] [] 3) [(.normal,(.mk [(6,(.sc .bool))] [(1,[kU,.kJ,.str,kI])] [] 3)),(.ret,(.mk [(6,(.sc .bool))] [(1,[kU,.kJ,.str,kI])] [] 3))]))]) 3 200 32 [.agg (cV 0 dK.fC),zI (V 1),.agg (cV 2 dJ.fC)] 3=some R32:=by kernel_rfl
theorem Lm (x0:dK)(x1:Int)(x2:dJ)(hC:jO x0=0)(h2:hIn x0 x2):CT Tryz.prog sT 32 [dK.av x0,eI x1,dJ.av x2] (eB (iH x0 x1 x2)):=
 let r3:Bool×Bool×dJ×Bool×dJ:=kR x0 x1 (x0.Objects.length+1) false x2
 vS jR dU dV e32 H32 (by kernel_rfl) [dK.av x0,eI x1,dJ.av x2,eI (mZ r3.1),eB r3.2.1,dJ.av r3.2.2.1,eB r3.2.2.2.1,dJ.av r3.2.2.2.2] xn
  wn
  (lc2 (xP x0 x1 x2 (x0.Objects.length+1) false x2 hC h2 h2 (Uo hC h2)) (hn:=Int.natCast_pos.2 (Nat.succ_pos _)) <|
  ln)
  (gI (fun r=>.p (.bool r)) rfl rfl (jQ rfl))
def R74 : iL:=
 let p0:Pc:=((qN (V 2) (.li 0)),false)::[]
 ⟨[((qN (V 2) (.li 0)),(zI (V 2))),((.lb true),(zI (V 3)))],
 [([],(.call 78 [(zL (V 0))] (zI (V 2)))),
 (p0,(.call 83 [(.agg [(zS (W 1 0)),(zI (W 1 1))])] (zI (V 3))))],[]⟩
theorem e74 : jU Tryz.prog gu gB rJ (rG kA 74 [] []) 3 200 74 [zL (V 0),.agg (cV 1 dH.fC)] 2=some R74:=by kernel_rfl
theorem Bo (x0:List dL)(x1:dH):CT Tryz.prog sT 74 [eL dL.enc x0,dH.av x1] (eI (mg x0 x1)):=
 let v2:Int:=jG x0
 let v3:Int:=mP x1
 vS jR dU dV e74 zn (by kernel_rfl) [eL dL.enc x0,dH.av x1,eI v2,eI v3] xn
  (wC (Bj x0) <|
  wC (zX x1) <|
  wn)
  ln
  (gI (fun r=>.p (.int .i64 r)) rfl rfl (jQ rfl))
def anx : Lo:=
 let p0:Pc:=((qL (V 3) (.rlen (V 0))),true)::[]
 .mk [] 2 2 [(zI (.li 0)),(zI (.li 0))] [((.not (qL (V 3) (.rlen (V 0)))),1,[(zI (V 2))]),((.and (sE (W 4 0) (W 1 0)) (qE (W 4 1) (W 1 1))),2,[(zI (V 3))]),((.lb true),0,[(zI (V 2)),(zI (aI (V 3) (.li 1)))])] [(p0,(.row (V 0) (V 3) (cV 4 dL.fC)))] [] [1,1] [(V 0)]
def anz : LH:=.mk [(qM (.li 0) (V 3))] (mI (.rlen (V 0)) (V 3)) [((.rlen (V 0)),1)] [] 0 [] [[],[(qL (V 2) (.rlen (V 0)))]]
def Bq (r:Bool×Int×Int):Nat×List AV:=Z5 r.1 [eI r.2.1] [eI r.2.2]
theorem I7 (x0:List dL)(x1:dH):∀(n:Nat) (u2:Int) (u3:Int),u_ Tryz.prog sT anx anz [eL dL.enc x0,dH.av x1] n [eI u2,eI u3] (Bq (vO x0 x1 n u2 u3))
 |0,u2,u3=>l0
 |n+1,u2,u3=>
  let v4:dL:=x0.getD (u3:Int).toNat default
  PV rfl [dL.av v4] xn (wR rfl<|wn) ln <|
   rc Bq rx<|rc Bq rx<|rl (rg (I7 x0 x1 n _ _))
def R75 : iL:=
 ⟨[((.not (qE (V 2) (.li 0))),(zI (V 4))),((.lb true),(zI (.li (-1))))],
 [],[anx]⟩
def H75 : LH:=.mk [] (.li 0) [] [] 0 [anz] []
theorem e75 : jU Tryz.prog gu gB rJ (rG kA 75 [8,5,4] [(0,(.mk [0,3,7] (.mk [(4,(.sc kI)),(8,(.sc kI))] [] [] 5) [(.normal,(.mk [(4,(.sc kI))] [] [] 5)),(.ret,(.mk [(4,(.sc kI))] [] [] 5))]))]) 3 200 75 [zL (V 0),.agg (cV 1 dH.fC)] 2=some R75:=by kernel_rfl
theorem I8 (x0:List dL)(x1:dH):CT Tryz.prog sT 75 [eL dL.enc x0,dH.av x1] (eI (tq x0 x1)):=
 let r2:Bool×Int×Int:=vO x0 x1 (x0.length+1) 0 0
 vS jR dU dV e75 H75 (by kernel_rfl) [eL dL.enc x0,dH.av x1,eI (mZ r2.1),eI r2.2.1,eI r2.2.2] xn
  wn
  (lc2 (I7 x0 x1 (x0.length+1) 0 0) <|
  ln)
  (gI (fun r=>.p (.int .i64 r)) rfl rfl (jQ rfl))
def R37 : iL:=
 let p0:Pc:=((qN (V 2) (.li 0)),false)::[]
 let p1:Pc:=((qH (V 3) (.li 0)),true)::p0
 ⟨[((qN (V 2) (.li 0)),(.eG [(.agg [(zU (.li 0)),(zU (.li 0)),(zF (.lf 0)),(zS (.ls [])),(zI (.li 0)),(zU (.li 0)),(zF (.lf 0)),(zS (.ls [])),(zI (.li 0)),(zU (.li 0)),(zF (.lf 0)),(zS (.ls [])),(zI (.li 0)),(zB (.lb false)),(zB (.lb false)),(zB (.lb false))]),(zB (.lb false)),(zI (V 2))])),((qH (V 3) (.li 0)),(.eG [(.agg (cW 4 2 dI.fC)),(zB (.lb true)),(zI (.li 0))])),((.lb true),(.eG [(.agg [(zU (.li 0)),(zU (.li 0)),(zF (.lf 0)),(zS (.ls [])),(zI (.li 0)),(zU (.li 0)),(zF (.lf 0)),(zS (.ls [])),(zI (.li 0)),(zU (.li 0)),(zF (.lf 0)),(zS (.ls [])),(zI (.li 0)),(zB (.lb false)),(zB (.lb false)),(zB (.lb false))]),(zB (.lb false)),(zI (.li 0))]))],
 [([],(.call 74 [(zL (V 0)),(.agg [(zS (W 1 0)),(zI (W 1 1))])] (zI (V 2)))),
 (p0,(.call 75 [(zL (V 0)),(.agg [(zS (W 1 0)),(zI (W 1 1))])] (zI (V 3)))),
 (p1,(.row (V 0) (V 3) (cV 4 dL.fC)))],[]⟩
theorem e37 : jU Tryz.prog gu gB rJ (rG kA 37 [] []) 3 200 37 [zL (V 0),.agg (cV 1 dH.fC)] 2=some R37:=by kernel_rfl
theorem yX (x0:List dL)(x1:dH):CT Tryz.prog sT 37 [eL dL.enc x0,dH.av x1] (f_ (fA x0 x1)):=
 let v2:Int:=mg x0 x1
 let v3:Int:=tq x0 x1
 let v4:dL:=x0.getD (v3:Int).toNat default
 vS jR dU dV e37 zn (by kernel_rfl) [eL dL.enc x0,dH.av x1,eI v2,eI v3,dL.av v4] xn
  (wC (Bo x0 x1) <|
  wC (I8 x0 x1) <|
  wR rfl <|
  wn)
  ln
  (gI f_ rfl rfl (gI f_ rfl rfl (jQ rfl)))
def R88 : iL:=
 let p0:Pc:=((qN (V 3) (.li 0)),false)::[]
 let p1:Pc:=((V 1),true)::p0
 let p2:Pc:=((qN (V 4) (.li 0)),false)::p1
 ⟨[((qN (V 3) (.li 0)),(zI (V 3))),((.and (V 1) (.or (qN (V 4) (.li 0)) (uN (W 2 0) (W 5 0)))),(zI (.li 90))),((.lb true),(zI (.li 0)))],
 [([],(.call 84 [(.agg (cV 0 dI.fC))] (zI (V 3)))),
 (p1,(.call 84 [(.agg (cV 2 dI.fC))] (zI (V 4)))),
 (p2,(.call 58 [(.agg (cV 2 dI.fC))] (.agg (cV 5 dI.fC))))],[]⟩
theorem e88 : jU Tryz.prog gu gB rJ (rG kA 88 [] []) 3 200 88 [.agg (cV 0 dI.fC),zB (V 1),.agg (cV 2 dI.fC)] 3=some R88:=by kernel_rfl
theorem UZ (x0:dI)(x1:Bool)(x2:dI):CT Tryz.prog sT 88 [dI.av x0,eB x1,dI.av x2] (eI (uZ x0 x1 x2)):=
 let v3:Int:=mQ x0
 let v4:Int:=mQ x2
 let v5:dI:=j_ x2
 vS jR dU dV e88 zn (by kernel_rfl) [dI.av x0,eB x1,dI.av x2,eI v3,eI v4,dI.av v5] xn
  (wC (yU x0) <|
  wC (yU x2) <|
  wC (yV x2) <|
  wn)
  ln
  (gI (fun r=>.p (.int .i64 r)) rfl rfl (gI (fun r=>.p (.int .i64 r)) rfl rfl (jQ rfl)))
def atD : iL:=
 ⟨[((.lb true),(zB (uE (.bin .and kU (W 0 0) (.li 15)) (.li 0))))],
 [],[]⟩
theorem atE : jU Tryz.prog gu gB rJ (rG kA 113 [] []) 3 200 113 [.agg (cV 0 dI.fC)] 1=some atD:=by kernel_rfl
theorem Qg (x0:dI):CT Tryz.prog sT 113 [dI.av x0] (eB (tX x0)):=
 vS jR dU dV atE zn (by kernel_rfl) [dI.av x0] xn
  wn
  ln
  (jQ rfl)
def R89 : iL:=
 let p0:Pc:=((W 1 15),false)::[]
 let p1:Pc:=((W 0 15),false)::p0
 let p2:Pc:=((.and (uN (.bin .and kU (W 0 0) (.li 16)) (.li 0)) (.not (.bin .eql .bool (W 0 14) (W 1 14)))),false)::p1
 let p3:Pc:=((V 2),false)::p2
 let p4:Pc:=((.bin .eql .bool (V 3) (V 4)),true)::p3
 let p5:Pc:=((V 5),true)::p4
 let p6:Pc:=((W 1 13),false)::p5
 let p7:Pc:=((.not (W 0 13)),true)::p6
 let p8:Pc:=((uE (.bin .and kU (W 0 0) (.li 1)) (.li 0)),false)::p7
 let p9:Pc:=((V 5),false)::p4
 let p10:Pc:=((uE (.bin .and kU (W 0 0) (.li 4)) (.li 0)),false)::p9
 let p11:Pc:=((.or (uE (.bin .and kU (W 0 0) (.li 4)) (.li 0)) (V 7)),true)::p9
 let p12:Pc:=((uE (.bin .and kU (W 0 0) (.li 8)) (.li 0)),false)::p11
 ⟨[((W 1 15),(zB (.lb true))),((W 0 15),(zB (.lb false))),((.and (uN (.bin .and kU (W 0 0) (.li 16)) (.li 0)) (.not (.bin .eql .bool (W 0 14) (W 1 14)))),(zB (.lb false))),((V 2),(zB (.lb true))),((.not (.bin .eql .bool (V 3) (V 4))),(zB (.lb false))),((V 5),(zB (.or (W 1 13) (.and (.not (W 0 13)) (.or (uE (.bin .and kU (W 0 0) (.li 1)) (.li 0)) (V 6)))))),((.lb true),(zB (.and (.or (uE (.bin .and kU (W 0 0) (.li 4)) (.li 0)) (V 7)) (.or (uE (.bin .and kU (W 0 0) (.li 8)) (.li 0)) (V 8)))))],
 [(p2,(.call 113 [(.agg (cV 0 dI.fC))] (zB (V 2)))),
 (p3,(.call 30 [(.agg (cV 0 dI.fC))] (zB (V 3)))),
 (p3,(.call 30 [(.agg (cV 1 dI.fC))] (zB (V 4)))),
 (p4,(.call 30 [(.agg (cV 0 dI.fC))] (zB (V 5)))),
 (p8,(.call 29 [(.agg (cW 0 1 dJ.fC)),(.agg (cW 1 1 dJ.fC))] (zB (V 6)))),
 (p10,(.call 29 [(.agg (cW 0 5 dJ.fC)),(.agg (cW 1 5 dJ.fC))] (zB (V 7)))),
 (p12,(.call 29 [(.agg (cW 0 9 dJ.fC)),(.agg (cW 1 9 dJ.fC))] (zB (V 8))))],[]⟩
theorem e89 : jU Tryz.prog gu gB rJ (rG kA 89 [] []) 3 200 89 [.agg (cV 0 dI.fC),.agg (cV 1 dI.fC)] 2=some R89:=by kernel_rfl
theorem aaW (x0:dI)(x1:dI):CT Tryz.prog sT 89 [dI.av x0,dI.av x1] (eB (A_ x0 x1)):=
 let v2:Bool:=tX x0
 let v3:Bool:=jo x0
 let v4:Bool:=jo x1
 let v5:Bool:=jo x0
 let v6:Bool:=fB x0.Value x1.Value
 let v7:Bool:=fB x0.Get x1.Get
 let v8:Bool:=fB x0.Set x1.Set
 vS jR dU dV e89 zn (by kernel_rfl) [dI.av x0,dI.av x1,eB v2,eB v3,eB v4,eB v5,eB v6,eB v7,eB v8] xn
  (wC (Qg x0) <|
  wC (oz x0) <|
  wC (oz x1) <|
  wC (oz x0) <|
  wC (pU x0.Value x1.Value) <|
  wC (pU x0.Get x1.Get) <|
  wC (pU x0.Set x1.Set) <|
  wn)
  ln
  (gI (fun r=>.p (.bool r)) rfl rfl (gI (fun r=>.p (.bool r)) rfl rfl (gI (fun r=>.p (.bool r)) rfl rfl (gI (fun r=>.p (.bool r)) rfl rfl (gI (fun r=>.p (.bool r)) rfl rfl (gI (fun r=>.p (.bool r)) rfl rfl (jQ rfl)))))))
def R57 : iL:=
 let p0:Pc:=((qN (V 4) (.li 0)),false)::[]
 let p1:Pc:=((V 2),true)::p0
 ⟨[((qN (V 4) (.li 0)),(.eG [(zB (.lb false)),(zI (V 4))])),((.not (V 2)),(.eG [(zB (V 0)),(zI (.li 0))])),((.lb true),(.eG [(zB (V 5)),(zI (.li 0))]))],
 [([],(.call 88 [(.agg (cV 1 dI.fC)),(zB (V 2)),(.agg (cV 3 dI.fC))] (zI (V 4)))),
 (p1,(.call 89 [(.agg (cV 1 dI.fC)),(.agg (cV 3 dI.fC))] (zB (V 5))))],[]⟩
theorem e57 : jU Tryz.prog gu gB rJ (rG kA 57 [] []) 3 200 57 [zB (V 0),.agg (cV 1 dI.fC),zB (V 2),.agg (cV 3 dI.fC)] 4=some R57:=by kernel_rfl
theorem Lp (x0:Bool)(x1:dI)(x2:Bool)(x3:dI):CT Tryz.prog sT 57 [eB x0,dI.av x1,eB x2,dI.av x3] (w_ (gV x0 x1 x2 x3)):=
 let v4:Int:=uZ x1 x2 x3
 let v5:Bool:=A_ x1 x3
 vS jR dU dV e57 zn (by kernel_rfl) [eB x0,dI.av x1,eB x2,dI.av x3,eI v4,eB v5] xn
  (wC (UZ x1 x2 x3) <|
  wC (aaW x1 x3) <|
  wn)
  ln
  (gI w_ rfl rfl (gI w_ rfl rfl (jQ rfl)))
def R21 : iL:=
 let p0:Pc:=((W 4 0),true)::[]
 let p1:Pc:=((qN (W 4 1) (.li 0)),false)::p0
 let p2:Pc:=((V 2),false)::p1
 let p3:Pc:=((V 2),true)::p1
 let p4:Pc:=((V 6),true)::p3
 let p5:Pc:=((.and (V 6) (V 7)),false)::p3
 let p6:Pc:=((V 8),true)::p5
 let p7:Pc:=((.or (.and (V 6) (V 7)) (.and (V 8) (V 9))),true)::p3
 ⟨[((.or (qN (W 4 1) (.li 0)) (.not (W 4 0))),(.eG [(.agg [(zU (.li 0)),(zU (.li 0)),(zF (.lf 0)),(zS (.ls [])),(zI (.li 0)),(zU (.li 0)),(zF (.lf 0)),(zS (.ls [])),(zI (.li 0)),(zU (.li 0)),(zF (.lf 0)),(zS (.ls [])),(zI (.li 0)),(zB (.lb false)),(zB (.lb false)),(zB (.lb false))]),(zB (.lb false)),(zI (W 4 1))])),((.not (V 2)),(.eG [(.agg (cV 5 dI.fC)),(zB (.lb true)),(zI (.li 0))])),((.lb true),(.eG [(.agg [(zU (.ite (.or (.and (V 6) (V 7)) (.and (V 8) (V 9))) (W 10 0) (W 3 0))),(zU (.ite (uN (.bin .and kU (W 1 0) (.li 1)) (.li 0)) (W 1 1) (.ite (.or (.and (V 6) (V 7)) (.and (V 8) (V 9))) (W 10 1) (W 3 1)))),(zF (.ite (uN (.bin .and kU (W 1 0) (.li 1)) (.li 0)) (W 1 2) (.ite (.or (.and (V 6) (V 7)) (.and (V 8) (V 9))) (W 10 2) (W 3 2)))),(zS (.ite (uN (.bin .and kU (W 1 0) (.li 1)) (.li 0)) (W 1 3) (.ite (.or (.and (V 6) (V 7)) (.and (V 8) (V 9))) (W 10 3) (W 3 3)))),(zI (.ite (uN (.bin .and kU (W 1 0) (.li 1)) (.li 0)) (W 1 4) (.ite (.or (.and (V 6) (V 7)) (.and (V 8) (V 9))) (W 10 4) (W 3 4)))),(zU (.ite (uN (.bin .and kU (W 1 0) (.li 4)) (.li 0)) (W 1 5) (.ite (.or (.and (V 6) (V 7)) (.and (V 8) (V 9))) (W 10 5) (W 3 5)))),(zF (.ite (uN (.bin .and kU (W 1 0) (.li 4)) (.li 0)) (W 1 6) (.ite (.or (.and (V 6) (V 7)) (.and (V 8) (V 9))) (W 10 6) (W 3 6)))),(zS (.ite (uN (.bin .and kU (W 1 0) (.li 4)) (.li 0)) (W 1 7) (.ite (.or (.and (V 6) (V 7)) (.and (V 8) (V 9))) (W 10 7) (W 3 7)))),(zI (.ite (uN (.bin .and kU (W 1 0) (.li 4)) (.li 0)) (W 1 8) (.ite (.or (.and (V 6) (V 7)) (.and (V 8) (V 9))) (W 10 8) (W 3 8)))),(zU (.ite (uN (.bin .and kU (W 1 0) (.li 8)) (.li 0)) (W 1 9) (.ite (.or (.and (V 6) (V 7)) (.and (V 8) (V 9))) (W 10 9) (W 3 9)))),(zF (.ite (uN (.bin .and kU (W 1 0) (.li 8)) (.li 0)) (W 1 10) (.ite (.or (.and (V 6) (V 7)) (.and (V 8) (V 9))) (W 10 10) (W 3 10)))),(zS (.ite (uN (.bin .and kU (W 1 0) (.li 8)) (.li 0)) (W 1 11) (.ite (.or (.and (V 6) (V 7)) (.and (V 8) (V 9))) (W 10 11) (W 3 11)))),(zI (.ite (uN (.bin .and kU (W 1 0) (.li 8)) (.li 0)) (W 1 12) (.ite (.or (.and (V 6) (V 7)) (.and (V 8) (V 9))) (W 10 12) (W 3 12)))),(zB (.ite (uN (.bin .and kU (W 1 0) (.li 2)) (.li 0)) (W 1 13) (.ite (.or (.and (V 6) (V 7)) (.and (V 8) (V 9))) (W 10 13) (W 3 13)))),(zB (.ite (uN (.bin .and kU (W 1 0) (.li 16)) (.li 0)) (W 1 14) (.ite (.or (.and (V 6) (V 7)) (.and (V 8) (V 9))) (W 10 14) (W 3 14)))),(zB (.ite (uN (.bin .and kU (W 1 0) (.li 32)) (.li 0)) (W 1 15) (.ite (.or (.and (V 6) (V 7)) (.and (V 8) (V 9))) (W 10 15) (W 3 15))))]),(zB (.lb true)),(zI (.li 0))]))],
 [([],(.call 57 [(zB (V 0)),(.agg (cV 1 dI.fC)),(zB (V 2)),(.agg (cV 3 dI.fC))] (.eG [(zB (W 4 0)),(zI (W 4 1))]))),
 (p2,(.call 58 [(.agg (cV 1 dI.fC))] (.agg (cV 5 dI.fC)))),
 (p3,(.call 30 [(.agg (cV 1 dI.fC))] (zB (V 6)))),
 (p4,(.call 59 [(.agg (cV 3 dI.fC))] (zB (V 7)))),
 (p5,(.call 59 [(.agg (cV 1 dI.fC))] (zB (V 8)))),
 (p6,(.call 30 [(.agg (cV 3 dI.fC))] (zB (V 9)))),
 (p7,(.call 58 [(.agg [(zU (.bin .andNot kU (W 1 0) (.li 48))),(zU (.li 0)),(zF (.lf 0)),(zS (.ls [])),(zI (.li 0)),(zU (.li 0)),(zF (.lf 0)),(zS (.ls [])),(zI (.li 0)),(zU (.li 0)),(zF (.lf 0)),(zS (.ls [])),(zI (.li 0)),(zB (.lb false)),(zB (W 3 14)),(zB (W 3 15))])] (.agg (cV 10 dI.fC))))],[]⟩
theorem e21 : jU Tryz.prog gu gB rJ (rG kA 21 [] []) 3 200 21 [zB (V 0),.agg (cV 1 dI.fC),zB (V 2),.agg (cV 3 dI.fC)] 4=some R21:=by kernel_rfl
theorem U0 (x0:Bool)(x1:dI)(x2:Bool)(x3:dI):CT Tryz.prog sT 21 [eB x0,dI.av x1,eB x2,dI.av x3] (f_ (fG x0 x1 x2 x3)):=
 let v4:Bool×Int:=gV x0 x1 x2 x3
 let v5:dI:=j_ x1
 let v6:Bool:=jo x1
 let v7:Bool:=iD x3
 let v8:Bool:=iD x1
 let v9:Bool:=jo x3
 let v10:dI:=j_ (dI.mk (mM .u8 x1.Has 48) (dJ.mk 0 0 [] 0) (dJ.mk 0 0 [] 0) (dJ.mk 0 0 [] 0) false x3.dY x3.Configurable)
 vS jR dU dV e21 zn (by kernel_rfl) [eB x0,dI.av x1,eB x2,dI.av x3,w_ v4,dI.av v5,eB v6,eB v7,eB v8,eB v9,dI.av v10] xn
  (wC (Lp x0 x1 x2 x3) <|
  wC (yV x1) <|
  wC (oz x1) <|
  wC (ug x3) <|
  wC (ug x1) <|
  wC (oz x3) <|
  wC (yV (dI.mk (mM .u8 x1.Has 48) (dJ.mk 0 0 [] 0) (dJ.mk 0 0 [] 0) (dJ.mk 0 0 [] 0) false x3.dY x3.Configurable)) <|
  wn)
  ln
  (gI f_ rfl rfl (gI f_ rfl rfl (jQ rfl)))
def R86 : iL:=
 let p0:Pc:=((qN (V 3) (.li 0)),false)::[]
 let p1:Pc:=((V 5),true)::p0
 let p2:Pc:=((.and (qL (V 4) (.li 0)) (qE (.rlen (V 0)) (.li 1024))),false)::p1
 let p3:Pc:=((qL (V 4) (.li 0)),true)::p2
 let p4:Pc:=((qL (V 4) (.li 0)),false)::p2
 ⟨[((qN (V 3) (.li 0)),(.eG [(.slc [] false),(zI (V 3))])),((.not (V 5)),(.eG [(.slc [] false),(zI (.li 90))])),((.and (qL (V 4) (.li 0)) (qE (.rlen (V 0)) (.li 1024))),(.eG [(.slc [] false),(zI (.li 100))])),((qL (V 4) (.li 0)),(.eG [(zL (V 7)),(zI (.li 0))])),((.lb true),(.eG [(zL (V 9)),(zI (.li 0))]))],
 [([],(.call 74 [(zL (V 0)),(.agg [(zS (W 1 0)),(zI (W 1 1))])] (zI (V 3)))),
 (p0,(.call 75 [(zL (V 0)),(.agg [(zS (W 1 0)),(zI (W 1 1))])] (zI (V 4)))),
 (p0,(.call 106 [(.agg (cV 2 dI.fC))] (zB (V 5)))),
 (p3,(.sub 18 (V 0) none (some (.rlen (V 0))) (V 6))),
 (p3,(.app 18 (V 6) [[(zS (W 1 0)),(zI (W 1 1)),(zU (W 2 0)),(zU (W 2 1)),(zF (W 2 2)),(zS (W 2 3)),(zI (W 2 4)),(zU (W 2 5)),(zF (W 2 6)),(zS (W 2 7)),(zI (W 2 8)),(zU (W 2 9)),(zF (W 2 10)),(zS (W 2 11)),(zI (W 2 12)),(zB (W 2 13)),(zB (W 2 14)),(zB (W 2 15))]] (V 7))),
 (p4,(.sub 18 (V 0) none (some (.li 0)) .nl)),
 (p4,(.JJ 18 (V 0))),
 (p4,(.len2 0 (V 0))),
 (p4,(.tm (qM (.li 0) (V 4)))),
 (p4,(.tm (qL (V 4) (.rlen (V 0))))),
 (p4,(.st (V 0) (V 4) 2 [(zU (W 2 0)),(zU (W 2 1)),(zF (W 2 2)),(zS (W 2 3)),(zI (W 2 4)),(zU (W 2 5)),(zF (W 2 6)),(zS (W 2 7)),(zI (W 2 8)),(zU (W 2 9)),(zF (W 2 10)),(zS (W 2 11)),(zI (W 2 12)),(zB (W 2 13)),(zB (W 2 14)),(zB (W 2 15))] (V 8))),
 (p4,(.sub 18 (V 8) none (some (.rlen (V 0))) (V 9)))],[]⟩
theorem e86 : jU Tryz.prog gu gB rJ (rG kA 86 [] []) 3 200 86 [zL (V 0),.agg (cV 1 dH.fC),.agg (cV 2 dI.fC)] 3=some R86:=by kernel_rfl
theorem Yq (x0:List dL)(x1:dH)(x2:dI):CT Tryz.prog sT 86 [eL dL.enc x0,dH.av x1,dI.av x2] (kF (jY x0 x1 x2)):=
 let v3:Int:=mg x0 x1
 let v4:Int:=tq x0 x1
 let v5:Bool:=qF x2
 let v6:List dL:=(x0.drop (0)).take (((iM dL.enc x0):Int).toNat-0)
 let v7:List dL:=v6++[(dL.mk x1 x2)]
 let v8:List dL:=x0.set (v4:Int).toNat (dL.mk (x0.getD (v4:Int).toNat default).Key x2)
 let v9:List dL:=(v8.drop (0)).take (((iM dL.enc x0):Int).toNat-0)
 vS jR dU dV e86 zn (by kernel_rfl) [eL dL.enc x0,dH.av x1,dI.av x2,eI v3,eI v4,eB v5,eL dL.enc v6,eL dL.enc v7,eL dL.enc v8,eL dL.enc v9] xn
  (wC (Bo x0 x1) <|
  wC (I8 x0 x1) <|
  wC (I5 x2) <|
  TW rfl <|
  aqO (f:=dL.enc) [(dL.mk x1 x2)] rfl <|
  TW rfl <|
  acZ (f:=dL.enc) rfl <|
  aax <|
  wT <|
  wT <|
  wSt (f:=dL.enc) (dL.mk (x0.getD (v4:Int).toNat default).Key x2) rfl <|
  TW rfl <|
  wn)
  ln
  (gI kF rfl rfl (gI kF rfl rfl (gI kF rfl rfl (gI kF rfl rfl (jQ rfl)))))
def R87 : iL:=
 let p0:Pc:=((qN (V 2) (.li 0)),false)::[]
 let p1:Pc:=((qL (V 3) (.li 0)),true)::p0
 let p2:Pc:=((qL (V 3) (.li 0)),false)::p0
 ⟨[((qN (V 2) (.li 0)),(.eG [(.slc [] false),(zI (V 2))])),((qL (V 3) (.li 0)),(.eG [(zL (V 0)),(zI (.li 0))])),((.lb true),(.eG [(zL (V 6)),(zI (.li 0))]))],
 [([],(.call 74 [(zL (V 0)),(.agg [(zS (W 1 0)),(zI (W 1 1))])] (zI (V 2)))),
 (p0,(.call 75 [(zL (V 0)),(.agg [(zS (W 1 0)),(zI (W 1 1))])] (zI (V 3)))),
 (p1,(.sub 18 (V 0) none (some (.li 0)) .nl)),
 (p1,(.JJ 18 (V 0))),
 (p1,(.len2 0 (V 0))),
 (p2,(.sub 18 (V 0) none (some (.li 0)) .nl)),
 (p2,(.sub 18 (V 0) (some (.li 0)) (some (V 3)) (V 4))),
 (p2,(.JJ 18 (V 4))),
 (p2,(.len2 0 (V 4))),
 (p2,(.sub 18 (V 0) (some (aI (V 3) (.li 1))) (some (.rlen (V 0))) (V 5))),
 (p2,(.JJ 18 (V 5))),
 (p2,(.Y3 18 (V 4) (V 5) (V 6)))],[]⟩
theorem e87 : jU Tryz.prog gu gB rJ (rG kA 87 [] []) 3 200 87 [zL (V 0),.agg (cV 1 dH.fC)] 2=some R87:=by kernel_rfl
theorem U1 (x0:List dL)(x1:dH):CT Tryz.prog sT 87 [eL dL.enc x0,dH.av x1] (kF (rC x0 x1)):=
 let v2:Int:=mg x0 x1
 let v3:Int:=tq x0 x1
 let v4:List dL:=(x0.drop ((0:Int).toNat)).take ((v3:Int).toNat-(0:Int).toNat)
 let v5:List dL:=(x0.drop (((dZ .i64 v3 1):Int).toNat)).take (((iM dL.enc x0):Int).toNat-((dZ .i64 v3 1):Int).toNat)
 let v6:List dL:=v4++v5
 vS jR dU dV e87 zn (by kernel_rfl) [eL dL.enc x0,dH.av x1,eI v2,eI v3,eL dL.enc v4,eL dL.enc v5,eL dL.enc v6] xn
  (wC (Bo x0 x1) <|
  wC (I8 x0 x1) <|
  TW rfl <|
  acZ (f:=dL.enc) rfl <|
  aax <|
  TW rfl <|
  TW rfl <|
  acZ (f:=dL.enc) rfl <|
  aax <|
  TW rfl <|
  acZ (f:=dL.enc) rfl <|
  aqQ (f:=dL.enc) (l:=v4) (q:=v5) rfl rfl <|
  wn)
  ln
  (gI kF rfl rfl (gI kF rfl rfl (jQ rfl)))
def atF : iL:=
 ⟨[((W 1 1),(.eG [(zI (.li 0)),(zI (W 1 0))])),((qG (W 0 1) (.li 0)),(.eG [(zI (.li 2)),(zI (.li 0))])),((.lb true),(.eG [(zI (.li 1)),(zI (.li 0))]))],
 [([],(.call 118 [(.agg [(zS (W 0 0)),(zI (W 0 1))])] (.eG [(zI (W 1 0)),(zB (W 1 1))])))],[]⟩
theorem e108 : jU Tryz.prog gu gB rJ (rG kA 108 [] []) 3 200 108 [.agg (cV 0 dH.fC)] 1=some atF:=by kernel_rfl
theorem o_ (x0:dH):CT Tryz.prog sT 108 [dH.av x0] (kL (fV x0)):=
 let v1:Int×Bool:=tY x0
 vS jR dU dV e108 zn (by kernel_rfl) [dH.av x0,oW v1] xn
  (wC (F7 x0)<|wn)
  ln
  (gI kL rfl rfl (gI kL rfl rfl (jQ rfl)))
def aaX : Lo:=
 let p0:Pc:=((qL (V 3) (V 2)),true)::[]
 let p1:Pc:=((qG (V 5) (V 1)),true)::p0
 let p2:Pc:=((.and (qG (V 5) (V 1)) (.not (.or (qL (W 8 0) (W 10 0)) (.and (qE (W 8 0) (W 10 0)) (qL (W 8 1) (W 10 1)))))),false)::p0
 let p3:Pc:=((qG (V 5) (V 1)),true)::p2
 .mk [((qL (V 3) (V 2)),true)] 5 2 [(zI (V 3)),(zL (V 4))] [((.and (qG (V 5) (V 1)) (.not (.or (qL (W 8 0) (W 10 0)) (.and (qE (W 8 0) (W 10 0)) (qL (W 8 1) (W 10 1)))))),1,[(zI (V 5)),(zL (V 6))]),((.not (qG (V 5) (V 1))),1,[(zI (V 5)),(zL (V 6))]),((.lb true),0,[(zI (mI (V 5) (.li 1))),(zL (V 14))])] [(p1,(.tm (qM (.li 0) (V 5)))),
 (p1,(.tm (qL (V 5) (.rlen (V 0))))),
 (p1,(.rd (true,2) (V 6) (V 5) 0 (.agg [(zS (W 7 0)),(zI (W 7 1))]))),
 (p1,(.call 108 [(.agg [(zS (W 7 0)),(zI (W 7 1))])] (.eG [(zI (W 8 0)),(zI (W 8 1))]))),
 (p1,(.tm (qM (.li 0) (mI (V 5) (.li 1))))),
 (p1,(.tm (qL (mI (V 5) (.li 1)) (.rlen (V 0))))),
 (p1,(.rd (true,2) (V 6) (mI (V 5) (.li 1)) 0 (.agg [(zS (W 9 0)),(zI (W 9 1))]))),
 (p1,(.call 108 [(.agg [(zS (W 9 0)),(zI (W 9 1))])] (.eG [(zI (W 10 0)),(zI (W 10 1))]))),
 (p3,(.tm (qM (.li 0) (V 5)))),
 (p3,(.tm (qL (V 5) (.rlen (V 6))))),
 (p3,(.tm (qM (.li 0) (mI (V 5) (.li 1))))),
 (p3,(.tm (qL (mI (V 5) (.li 1)) (.rlen (V 6))))),
 (p3,(.row (V 6) (V 5) [(zS (W 11 0)),(zI (W 11 1))])),
 (p3,(.row (V 6) (mI (V 5) (.li 1)) [(zS (W 12 0)),(zI (W 12 1))])),
 (p3,(.st (V 6) (V 5) 0 [(zS (W 12 0)),(zI (W 12 1))] (V 13))),
 (p3,(.st (V 13) (mI (V 5) (.li 1)) 0 [(zS (W 11 0)),(zI (W 11 1))] (V 14))),
 (p3,(.tm (qE (.rlen (V 0)) (.rlen (V 6)))))] [] [2] []
def aaY : LH:=.mk [(qM (V 5) (V 3)),(qE (.rlen (V 6)) (.rlen (V 4)))] (mI (V 5) (V 1)) [((V 3),1),((V 1),(-1))] [] 0 [] [[(qE (.rlen (V 6)) (.rlen (V 4)))]]
def kS (r:Int×List dH):Nat×List AV:=(0,[eI r.1,eL dH.enc r.2])
theorem oC (x0:List dH)(x1:Int)(x2:Int)(u3:Int)(u4:List dH):∀(n:Nat) (u5:Int) (u6:List dH),u_ Tryz.prog sT aaX aaY [eL dH.enc x0,eI x1,eI x2,eI u3,eL dH.enc u4] n [eI u5,eL dH.enc u6] (kS (iw x1 n u5 u6))
 |0,u5,u6=>l0
 |n+1,u5,u6=>
  let v7:dH:=u6.getD (u5:Int).toNat default
  let v8:Int×Int:=fV v7
  let v9:dH:=u6.getD ((jk .i64 u5 1):Int).toNat default
  let v10:Int×Int:=fV v9
  let v11:dH:=u6.getD (u5:Int).toNat default
  let v12:dH:=u6.getD ((jk .i64 u5 1):Int).toNat default
  let v13:List dH:=u6.set (u5:Int).toNat v12
  let v14:List dH:=v13.set ((jk .i64 u5 1):Int).toNat v11
  PV rfl [dH.av v7,kL v8,dH.av v9,kL v10,dH.av v11,dH.av v12,eL dH.enc v13,eL dH.enc v14] xn (wT <|
  wT <|
  UD rfl <|
  wC (o_ v7) <|
  wT <|
  wT <|
  UD rfl <|
  wC (o_ v9) <|
  wT <|
  wT <|
  wT <|
  wT <|
  wR rfl <|
  wR rfl <|
  wSt (f:=dH.enc) v12 rfl <|
  wSt (f:=dH.enc) v11 rfl <|
  wT <|
  wn) ln <|
   rc kS rx<|rc kS rx<|rl (rg (oC x0 x1 x2 u3 u4 n _ _))
def aaZ : Lo:=
 .mk [] 3 2 [(zI (aI (V 1) (.li 1))),(zL (V 0))] [((.not (qL (V 3) (V 2))),1,[(zL (V 4))]),((.lb true),0,[(zI (aI (V 3) (.li 1))),(zL (V 6))])] [] [aaX] [1] []
def aa0 : LH:=.mk [(qM (aI (V 1) (.li 1)) (V 3)),(qE (.rlen (V 4)) (.rlen (V 0)))] (mI (V 2) (V 3)) [((V 2),1)] [] 0 [aaY] [[(qE (.rlen (V 3)) (.rlen (V 0)))]]
def oD (r:List dH):Nat×List AV:=(0,[eL dH.enc r])
theorem oG (x0:List dH)(x1:Int)(x2:Int):∀(n:Nat) (u3:Int) (u4:List dH),u_ Tryz.prog sT aaZ aa0 [eL dH.enc x0,eI x1,eI x2] n [eI u3,eL dH.enc u4] (oD (iy x1 x2 n u3 u4))
 |0,u3,u4=>l0
 |n+1,u3,u4=>
  let r5:Int×List dH:=iw x1 ((u3-x1).toNat+1) u3 u4
  PV rfl [eI r5.1,eL dH.enc r5.2] xn wn (lc1 (oC x0 x1 x2 u3 u4 ((u3-x1).toNat+1) u3 u4) (hn:=(show ((1)*(u3)+((-1)*(x1)+(0)):Int)<_ by first|omega|(simp only [axF];omega))) <|
  ln) <|
   rc oD rx<|rl (rg (oG x0 x1 x2 n _ _))
def ape : iL:=
 ⟨[((.lb true),(.eG [(.eG []),(zL (V 3))]))],
 [],[aaZ]⟩
def apf : LH:=.mk [] (.li 0) [] [] 0 [aa0] []
theorem apg : MV Tryz.prog gu gB rJ (rG kA 145 [7,6,25,21,22,24,23,20] [(0,(.mk [1,2,3] (.mk [(6,(.sc kI))] [] [(2,2)] 8) [(.normal,(.mk [] [] [(2,2)] 8))])),(2,(.mk [1,2,3,6] (.mk [(7,(.sc kI))] [] [(2,2)] 13) [(.normal,(.mk [(7,(.sc kI))] [] [(2,2)] 13))]))]) 3 200 145 [(.agg [(.fn 107 [] [(.op 3 1 (.li 0) 0)]),(.fn 144 [] [(.os 2 2 0 (.rlen (V 0))),(.c (.at 1 29))])]),(zI (V 1)),(zI (V 2))] 3 [(3,(.rows 1 [[(.os 2 2 0 (.rlen (V 0)))]])),(2,(.fE 2 (V 0)))] [(2,2)] 4=some ape:=by kernel_rfl
theorem pq (x0:List dH)(x1:Int)(x2:Int){L:Nat}(hL:L=(List.map dH.enc x0).length):CTw Tryz.prog sT 145 [(.agg [(.fn (.func 107) [] [(.op 3 1 0 0)]),(.fn (.func 144) [] [(.os 2 2 0 L),(.p (Cv.val (.at 1 29)))])]),(.p (.int .i64 x1)),(.p (.int .i64 x2))] [(3,.rows 1 [[(.os 2 2 0 L)]]),(2,.rows 2 (List.map dH.enc x0))] 4 (.eG []) [(3,.rows 1 [[(.os 2 2 0 L)]]),(2,.rows 2 (List.map dH.enc (ig x0 x1 x2)))]:=by subst hL;exact (
 let r3:List dH:=iy x1 x2 ((x2:Int).toNat+1) (dZ .i64 x1 1) x0
 mkW (cs:=[eL dH.enc (ig x0 x1 x2)]) jR dU dV apg apf (by kernel_rfl) [eL dH.enc x0,eI x1,eI x2,eL dH.enc r3] xn
  wn
  (lc1 (oG x0 x1 x2 ((x2:Int).toNat+1) (dZ .i64 x1 1) x0) <|
  ln)
  (jQ rfl))
def aa1 : Lo:=
 let p0:Pc:=((qL (V 4) (V 3)),true)::[]
 .mk [] 4 2 [(zI (.li 0)),(zL (V 0))] [((.not (qL (V 4) (V 3))),1,[(zL (V 5))]),((.lb true),0,[(zI (aI (V 4) (.li 1))),(zL (V 9))])] [(p0,(.tm (qM (.li 0) (aI (V 1) (V 4))))),
 (p0,(.tm (qL (aI (V 1) (V 4)) (.rlen (V 5))))),
 (p0,(.tm (qM (.li 0) (aI (V 2) (V 4))))),
 (p0,(.tm (qL (aI (V 2) (V 4)) (.rlen (V 5))))),
 (p0,(.row (V 5) (aI (V 1) (V 4)) [(zS (W 6 0)),(zI (W 6 1))])),
 (p0,(.row (V 5) (aI (V 2) (V 4)) [(zS (W 7 0)),(zI (W 7 1))])),
 (p0,(.st (V 5) (aI (V 1) (V 4)) 0 [(zS (W 7 0)),(zI (W 7 1))] (V 8))),
 (p0,(.st (V 8) (aI (V 2) (V 4)) 0 [(zS (W 6 0)),(zI (W 6 1))] (V 9))),
 (p0,(.tm (qE (.rlen (V 0)) (.rlen (V 5)))))] [] [1] []
def aa2 : LH:=.mk [(qE (.rlen (V 5)) (.rlen (V 0))),(qM (.li 0) (V 4))] (mI (V 3) (V 4)) [((V 3),1)] [] 0 [] [[(qE (.rlen (V 4)) (.rlen (V 0)))]]
def qp (r:List dH):Nat×List AV:=(0,[eL dH.enc r])
theorem qw (x0:List dH)(x1:Int)(x2:Int)(x3:Int):∀(n:Nat) (u4:Int) (u5:List dH),u_ Tryz.prog sT aa1 aa2 [eL dH.enc x0,eI x1,eI x2,eI x3] n [eI u4,eL dH.enc u5] (qp (iY x1 x2 x3 n u4 u5))
 |0,u4,u5=>l0
 |n+1,u4,u5=>
  let v6:dH:=u5.getD ((dZ .i64 x1 u4):Int).toNat default
  let v7:dH:=u5.getD ((dZ .i64 x2 u4):Int).toNat default
  let v8:List dH:=u5.set ((dZ .i64 x1 u4):Int).toNat v7
  let v9:List dH:=v8.set ((dZ .i64 x2 u4):Int).toNat v6
  PV rfl [dH.av v6,dH.av v7,eL dH.enc v8,eL dH.enc v9] xn (wT <|
  wT <|
  wT <|
  wT <|
  wR rfl <|
  wR rfl <|
  wSt (f:=dH.enc) v7 rfl <|
  wSt (f:=dH.enc) v6 rfl <|
  wT <|
  wn) ln <|
   rc qp rx<|rl (rg (qw x0 x1 x2 x3 n _ _))
def aph : iL:=
 ⟨[((.lb true),(.eG [(.eG []),(zL (V 4))]))],
 [],[aa1]⟩
def apj : LH:=.mk [] (.li 0) [] [] 0 [aa2] []
theorem apk : MV Tryz.prog gu gB rJ (rG kA 161 [8] [(0,(.mk [1,2,3,4] (.mk [(8,(.sc kI))] [] [(2,2)] 6) [(.normal,(.mk [] [] [(2,2)] 6))]))]) 3 200 161 [(.agg [(.fn 107 [] [(.op 3 1 (.li 0) 0)]),(.fn 144 [] [(.os 2 2 0 (.rlen (V 0))),(.c (.at 1 29))])]),(zI (V 1)),(zI (V 2)),(zI (V 3))] 4 [(3,(.rows 1 [[(.os 2 2 0 (.rlen (V 0)))]])),(2,(.fE 2 (V 0)))] [(2,2)] 4=some aph:=by kernel_rfl
theorem mX (x0:List dH)(x1:Int)(x2:Int)(x3:Int){L:Nat}(hL:L=(List.map dH.enc x0).length):CTw Tryz.prog sT 161 [(.agg [(.fn (.func 107) [] [(.op 3 1 0 0)]),(.fn (.func 144) [] [(.os 2 2 0 L),(.p (Cv.val (.at 1 29)))])]),(.p (.int .i64 x1)),(.p (.int .i64 x2)),(.p (.int .i64 x3))] [(3,.rows 1 [[(.os 2 2 0 L)]]),(2,.rows 2 (List.map dH.enc x0))] 4 (.eG []) [(3,.rows 1 [[(.os 2 2 0 L)]]),(2,.rows 2 (List.map dH.enc (gW x0 x1 x2 x3)))]:=by subst hL;exact (
 let r4:List dH:=iY x1 x2 x3 ((x3:Int).toNat+1) 0 x0
 mkW (cs:=[eL dH.enc (gW x0 x1 x2 x3)]) jR dU dV apk apj (by kernel_rfl) [eL dH.enc x0,eI x1,eI x2,eI x3,eL dH.enc r4] xn
  wn
  (lc1 (qw x0 x1 x2 x3 ((x3:Int).toNat+1) 0 x0) <|
  ln)
  (jQ rfl))
def aa3 : Lo:=
 let p0:Pc:=((qN (V 4) (V 5)),true)::[]
 let p1:Pc:=((qG (V 4) (V 5)),true)::p0
 let p2:Pc:=((qG (V 4) (V 5)),false)::p0
 .mk [] 4 3 [(zI (mI (V 2) (V 1))),(zI (mI (V 3) (V 2))),(zL (V 0))] [((.not (qN (V 4) (V 5))),1,[(zI (V 4)),(zL (V 6))]),((qG (V 4) (V 5)),0,[(zI (mI (V 4) (V 5))),(zI (V 5)),(zL (V 7))]),((.lb true),0,[(zI (V 4)),(zI (mI (V 5) (V 4))),(zL (V 9))])] [(p1,(.oU 161 [(.agg [(.fn 107 [] [(.op 3 1 (.li 0) 0)]),(.fn 144 [] [(.os 2 2 0 (.rlen (V 0))),(.c (.at 1 29))])]),(zI (mI (V 2) (V 4))),(zI (V 2)),(zI (V 5))] [(3,(.rows 1 [[(.os 2 2 0 (.rlen (V 0)))]])),(2,(.fE 2 (V 6)))] 4 (.eG []) [(3,(.rows 1 [[(.os 2 2 0 (.rlen (V 0)))]])),(2,(.fE 2 (V 7)))])),
 (p2,(.oU 161 [(.agg [(.fn 107 [] [(.op 3 1 (.li 0) 0)]),(.fn 144 [] [(.os 2 2 0 (.rlen (V 0))),(.c (.at 1 29))])]),(zI (mI (V 2) (V 4))),(zI (mI (aI (V 2) (V 5)) (V 4))),(zI (V 4))] [(3,(.rows 1 [[(.os 2 2 0 (.rlen (V 0)))]])),(2,(.fE 2 (V 6)))] 4 (.eG []) [(3,(.rows 1 [[(.os 2 2 0 (.rlen (V 0)))]])),(2,(.fE 2 (V 9)))]))] [] [2] []
def aa4 : LH:=.mk [(qL (.li 0) (V 4)),(qL (.li 0) (V 5)),(qM (V 4) (mI (V 2) (V 1))),(qM (V 5) (mI (V 3) (V 2))),(qE (.rlen (V 6)) (.rlen (V 0)))] (aI (V 4) (V 5)) [((V 3),1),((V 1),(-1))] [] 0 [] [[(qM (.li 0) (V 4)),(qM (V 4) (mI (V 2) (V 1))),(qM (V 4) (mI (V 3) (V 2))),(qE (.rlen (V 5)) (.rlen (V 0)))]]
def nH (r:Int×List dH):Nat×List AV:=(0,[eI r.1,eL dH.enc r.2])
theorem nI (x0:List dH)(x1:Int)(x2:Int)(x3:Int):∀(n:Nat) (u4:Int) (u5:Int) (u6:List dH),u_ Tryz.prog sT aa3 aa4 [eL dH.enc x0,eI x1,eI x2,eI x3] n [eI u4,eI u5,eL dH.enc u6] (nH (iT x2 n u4 u5 u6))
 |0,u4,u5,u6=>l0
 |n+1,u4,u5,u6=>
  let w7:List dH:=gW u6 (jk .i64 x2 u4) x2 u5
  let v7:List dH:=w7
  let w9:List dH:=gW u6 (jk .i64 x2 u4) (jk .i64 (dZ .i64 x2 u5) u4) u4
  let v9:List dH:=w9
  PV rfl [eL dH.enc v7,eu,eL dH.enc v9,eu] xn (wWL (fun hL=>mX u6 (jk .i64 x2 u4) x2 u5 hL) <|
  wWL (fun hL=>mX u6 (jk .i64 x2 u4) (jk .i64 (dZ .i64 x2 u5) u4) u4 hL) <|
  wn) ln <|
   rc nH rx<|rc nH (rg (nI x0 x1 x2 x3 n _ _ _))<|rl (rg (nI x0 x1 x2 x3 n _ _ _))
def apl : iL:=
 ⟨[((.lb true),(.eG [(.eG []),(zL (V 6))]))],
 [([],(.oU 161 [(.agg [(.fn 107 [] [(.op 3 1 (.li 0) 0)]),(.fn 144 [] [(.os 2 2 0 (.rlen (V 0))),(.c (.at 1 29))])]),(zI (mI (V 2) (V 4))),(zI (V 2)),(zI (V 4))] [(3,(.rows 1 [[(.os 2 2 0 (.rlen (V 0)))]])),(2,(.fE 2 (V 5)))] 4 (.eG []) [(3,(.rows 1 [[(.os 2 2 0 (.rlen (V 0)))]])),(2,(.fE 2 (V 6)))]))],[aa3]⟩
def apm : LH:=.mk [] (.li 0) [] [] 0 [aa4] []
theorem apn : MV Tryz.prog gu gB rJ (rG kA 157 [1,2,3,4,8,9,18,21] [(0,(.mk [2,4] (.mk [(8,(.sc kI)),(9,(.sc kI))] [] [(2,2)] 13) [(.normal,(.mk [(8,(.sc kI))] [] [(2,2)] 13))]))]) 3 200 157 [(.agg [(.fn 107 [] [(.op 3 1 (.li 0) 0)]),(.fn 144 [] [(.os 2 2 0 (.rlen (V 0))),(.c (.at 1 29))])]),(zI (V 1)),(zI (V 2)),(zI (V 3))] 4 [(3,(.rows 1 [[(.os 2 2 0 (.rlen (V 0)))]])),(2,(.fE 2 (V 0)))] [(2,2)] 4=some apl:=by kernel_rfl
theorem BF (x0:List dH)(x1:Int)(x2:Int)(x3:Int){L:Nat}(hL:L=(List.map dH.enc x0).length):CTw Tryz.prog sT 157 [(.agg [(.fn (.func 107) [] [(.op 3 1 0 0)]),(.fn (.func 144) [] [(.os 2 2 0 L),(.p (Cv.val (.at 1 29)))])]),(.p (.int .i64 x1)),(.p (.int .i64 x2)),(.p (.int .i64 x3))] [(3,.rows 1 [[(.os 2 2 0 L)]]),(2,.rows 2 (List.map dH.enc x0))] 4 (.eG []) [(3,.rows 1 [[(.os 2 2 0 L)]]),(2,.rows 2 (List.map dH.enc (kD x0 x1 x2 x3)))]:=by subst hL;exact (
 let r4:Int×List dH:=iT x2 ((x3-x1).toNat+1) (jk .i64 x2 x1) (jk .i64 x3 x2) x0
 let w6:List dH:=gW r4.2 (jk .i64 x2 r4.1) x2 r4.1
 let v6:List dH:=w6
 mkW (cs:=[eL dH.enc (kD x0 x1 x2 x3)]) jR dU dV apn apm (by kernel_rfl) [eL dH.enc x0,eI x1,eI x2,eI x3,eI r4.1,eL dH.enc r4.2,eL dH.enc v6,eu] xn
  (wWL (fun hL=>mX r4.2 (jk .i64 x2 r4.1) x2 r4.1 hL)<|wn)
  (lc1 (nI x0 x1 x2 x3 ((x3-x1).toNat+1) (jk .i64 x2 x1) (jk .i64 x3 x2) x0) (hn:=(show ((1)*(x3)+((-1)*(x1)+(0)):Int)<_ by first|omega|(simp only [axF];omega))) <|
  ln)
  (jQ rfl))
def aa5 : Lo:=
 let p0:Pc:=((qE (mI (V 2) (V 1)) (.li 1)),true)::[]
 let p1:Pc:=((qL (V 4) (V 5)),true)::p0
 .mk [((qE (mI (V 2) (V 1)) (.li 1)),true)] 4 2 [(zI (V 2)),(zI (V 3))] [((.not (qL (V 4) (V 5))),1,[(zI (V 4))]),((.lb true),0,[(zI (.ite (.or (qL (W 7 0) (W 9 0)) (.and (qE (W 7 0) (W 9 0)) (qL (W 7 1) (W 9 1)))) (aI (.conv .i64 (.bin .shr (.int .u64) (.conv .u64 (aI (V 4) (V 5))) (.li 1))) (.li 1)) (V 4))),(zI (.ite (.or (qL (W 7 0) (W 9 0)) (.and (qE (W 7 0) (W 9 0)) (qL (W 7 1) (W 9 1)))) (V 5) (.conv .i64 (.bin .shr (.int .u64) (.conv .u64 (aI (V 4) (V 5))) (.li 1)))))])] [(p1,(.tm (qM (.li 0) (.conv .i64 (.bin .shr (.int .u64) (.conv .u64 (aI (V 4) (V 5))) (.li 1)))))),
 (p1,(.tm (qL (.conv .i64 (.bin .shr (.int .u64) (.conv .u64 (aI (V 4) (V 5))) (.li 1))) (.rlen (V 0))))),
 (p1,(.rd (true,2) (V 0) (.conv .i64 (.bin .shr (.int .u64) (.conv .u64 (aI (V 4) (V 5))) (.li 1))) 0 (.agg [(zS (W 6 0)),(zI (W 6 1))]))),
 (p1,(.call 108 [(.agg [(zS (W 6 0)),(zI (W 6 1))])] (.eG [(zI (W 7 0)),(zI (W 7 1))]))),
 (p1,(.tm (qM (.li 0) (V 1)))),
 (p1,(.tm (qL (V 1) (.rlen (V 0))))),
 (p1,(.rd (true,2) (V 0) (V 1) 0 (.agg [(zS (W 8 0)),(zI (W 8 1))]))),
 (p1,(.call 108 [(.agg [(zS (W 8 0)),(zI (W 8 1))])] (.eG [(zI (W 9 0)),(zI (W 9 1))])))] [] [1] []
def aa6 : LH:=.mk [(qM (V 2) (V 4)),(qM (V 4) (V 5)),(qM (V 5) (V 3)),(qM (.li 0) (V 4))] (mI (V 5) (V 4)) [((V 3),1),((V 2),(-1))] [] 0 [] [[(qM (V 2) (V 4)),(qM (V 4) (V 3))]]
def qJ (r:Int):Nat×List AV:=(0,[eI r])
theorem qK (x0:List dH)(x1:Int)(x2:Int)(x3:Int):∀(n:Nat) (u4:Int) (u5:Int),u_ Tryz.prog sT aa5 aa6 [eL dH.enc x0,eI x1,eI x2,eI x3] n [eI u4,eI u5] (qJ (kZ x0 x1 n u4 u5))
 |0,u4,u5=>l0
 |n+1,u4,u5=>
  let v6:dH:=x0.getD ((IntKind.wrap .i64 (iZ .u64 (IntKind.wrap .u64 (dZ .i64 u4 u5)) 1)):Int).toNat default
  let v7:Int×Int:=fV v6
  let v8:dH:=x0.getD (x1:Int).toNat default
  let v9:Int×Int:=fV v8
  PV rfl [dH.av v6,kL v7,dH.av v8,kL v9] xn (wT <|
  wT <|
  UD rfl <|
  wC (o_ v6) <|
  wT <|
  wT <|
  UD rfl <|
  wC (o_ v8) <|
  wn) ln <|
   rc qJ rx<|rl (rg (qK x0 x1 x2 x3 n _ _))
def aa7 : Lo:=
 let p0:Pc:=((qE (mI (V 2) (V 1)) (.li 1)),true)::[]
 let p1:Pc:=((qL (V 5) (mI (V 4) (.li 1))),true)::p0
 .mk [((qE (mI (V 2) (V 1)) (.li 1)),true)] 5 2 [(zI (V 1)),(zL (V 0))] [((.not (qL (V 5) (mI (V 4) (.li 1)))),1,[(zL (V 6))]),((.lb true),0,[(zI (aI (V 5) (.li 1))),(zL (V 10))])] [(p1,(.tm (qM (.li 0) (V 5)))),
 (p1,(.tm (qL (V 5) (.rlen (V 6))))),
 (p1,(.tm (qM (.li 0) (aI (V 5) (.li 1))))),
 (p1,(.tm (qL (aI (V 5) (.li 1)) (.rlen (V 6))))),
 (p1,(.row (V 6) (V 5) [(zS (W 7 0)),(zI (W 7 1))])),
 (p1,(.row (V 6) (aI (V 5) (.li 1)) [(zS (W 8 0)),(zI (W 8 1))])),
 (p1,(.st (V 6) (V 5) 0 [(zS (W 8 0)),(zI (W 8 1))] (V 9))),
 (p1,(.st (V 9) (aI (V 5) (.li 1)) 0 [(zS (W 7 0)),(zI (W 7 1))] (V 10))),
 (p1,(.tm (qE (.rlen (V 0)) (.rlen (V 6)))))] [] [1] []
def aa8 : LH:=.mk [(qM (V 1) (V 5)),(qE (.rlen (V 6)) (.rlen (V 0)))] (mI (mI (V 4) (.li 1)) (V 5)) [((mI (V 4) (.li 1)),1)] [] 0 [] [[(qE (.rlen (V 5)) (.rlen (V 0)))]]
def qO (r:List dH):Nat×List AV:=(0,[eL dH.enc r])
theorem qP (x0:List dH)(x1:Int)(x2:Int)(x3:Int)(r4:Int):∀(n:Nat) (u5:Int) (u6:List dH),u_ Tryz.prog sT aa7 aa8 [eL dH.enc x0,eI x1,eI x2,eI x3,eI r4] n [eI u5,eL dH.enc u6] (qO (jf r4 n u5 u6))
 |0,u5,u6=>l0
 |n+1,u5,u6=>
  let v7:dH:=u6.getD (u5:Int).toNat default
  let v8:dH:=u6.getD ((dZ .i64 u5 1):Int).toNat default
  let v9:List dH:=u6.set (u5:Int).toNat v8
  let v10:List dH:=v9.set ((dZ .i64 u5 1):Int).toNat v7
  PV rfl [dH.av v7,dH.av v8,eL dH.enc v9,eL dH.enc v10] xn (wT <|
  wT <|
  wT <|
  wT <|
  wR rfl <|
  wR rfl <|
  wSt (f:=dH.enc) v8 rfl <|
  wSt (f:=dH.enc) v7 rfl <|
  wT <|
  wn) ln <|
   rc qO rx<|rl (rg (qP x0 x1 x2 x3 r4 n _ _))
def aa9 : Lo:=
 let p0:Pc:=((qE (mI (V 2) (V 1)) (.li 1)),false)::[]
 let p1:Pc:=((qE (mI (V 3) (V 2)) (.li 1)),true)::p0
 let p2:Pc:=((qL (V 6) (V 7)),true)::p1
 .mk [((qE (mI (V 3) (V 2)) (.li 1)),true),((qE (mI (V 2) (V 1)) (.li 1)),false)] 6 2 [(zI (V 1)),(zI (V 2))] [((.not (qL (V 6) (V 7))),1,[(zI (V 6))]),((.lb true),0,[(zI (.ite (.or (qL (W 9 0) (W 11 0)) (.and (qE (W 9 0) (W 11 0)) (qL (W 9 1) (W 11 1)))) (V 6) (aI (.conv .i64 (.bin .shr (.int .u64) (.conv .u64 (aI (V 6) (V 7))) (.li 1))) (.li 1)))),(zI (.ite (.or (qL (W 9 0) (W 11 0)) (.and (qE (W 9 0) (W 11 0)) (qL (W 9 1) (W 11 1)))) (.conv .i64 (.bin .shr (.int .u64) (.conv .u64 (aI (V 6) (V 7))) (.li 1))) (V 7)))])] [(p2,(.tm (qM (.li 0) (V 2)))),
 (p2,(.tm (qL (V 2) (.rlen (V 0))))),
 (p2,(.rd (true,2) (V 0) (V 2) 0 (.agg [(zS (W 8 0)),(zI (W 8 1))]))),
 (p2,(.call 108 [(.agg [(zS (W 8 0)),(zI (W 8 1))])] (.eG [(zI (W 9 0)),(zI (W 9 1))]))),
 (p2,(.tm (qM (.li 0) (.conv .i64 (.bin .shr (.int .u64) (.conv .u64 (aI (V 6) (V 7))) (.li 1)))))),
 (p2,(.tm (qL (.conv .i64 (.bin .shr (.int .u64) (.conv .u64 (aI (V 6) (V 7))) (.li 1))) (.rlen (V 0))))),
 (p2,(.rd (true,2) (V 0) (.conv .i64 (.bin .shr (.int .u64) (.conv .u64 (aI (V 6) (V 7))) (.li 1))) 0 (.agg [(zS (W 10 0)),(zI (W 10 1))]))),
 (p2,(.call 108 [(.agg [(zS (W 10 0)),(zI (W 10 1))])] (.eG [(zI (W 11 0)),(zI (W 11 1))])))] [] [1] []
def aa_ : LH:=.mk [(qM (V 1) (V 6)),(qM (V 7) (V 2)),(qM (V 6) (V 2))] (mI (V 7) (V 6)) [((V 2),1),((V 1),(-1))] [] 0 [] [[(qM (V 6) (V 2)),(qM (V 1) (V 6))]]
def qQ (r:Int):Nat×List AV:=(0,[eI r])
theorem qR (x0:List dH)(x1:Int)(x2:Int)(x3:Int)(r4:Int)(r5:List dH):∀(n:Nat) (u6:Int) (u7:Int),u_ Tryz.prog sT aa9 aa_ [eL dH.enc x0,eI x1,eI x2,eI x3,eI r4,eL dH.enc r5] n [eI u6,eI u7] (qQ (lg x0 x2 n u6 u7))
 |0,u6,u7=>l0
 |n+1,u6,u7=>
  let v8:dH:=x0.getD (x2:Int).toNat default
  let v9:Int×Int:=fV v8
  let v10:dH:=x0.getD ((IntKind.wrap .i64 (iZ .u64 (IntKind.wrap .u64 (dZ .i64 u6 u7)) 1)):Int).toNat default
  let v11:Int×Int:=fV v10
  PV rfl [dH.av v8,kL v9,dH.av v10,kL v11] xn (wT <|
  wT <|
  UD rfl <|
  wC (o_ v8) <|
  wT <|
  wT <|
  UD rfl <|
  wC (o_ v10) <|
  wn) ln <|
   rc qQ rx<|rl (rg (qR x0 x1 x2 x3 r4 r5 n _ _))
def abb : Lo:=
 let p0:Pc:=((qE (mI (V 2) (V 1)) (.li 1)),false)::[]
 let p1:Pc:=((qE (mI (V 3) (V 2)) (.li 1)),true)::p0
 let p2:Pc:=((qG (V 7) (V 6)),true)::p1
 .mk [((qE (mI (V 3) (V 2)) (.li 1)),true),((qE (mI (V 2) (V 1)) (.li 1)),false)] 7 2 [(zI (V 2)),(zL (V 0))] [((.not (qG (V 7) (V 6))),1,[(zL (V 8))]),((.lb true),0,[(zI (mI (V 7) (.li 1))),(zL (V 12))])] [(p2,(.tm (qM (.li 0) (V 7)))),
 (p2,(.tm (qL (V 7) (.rlen (V 8))))),
 (p2,(.tm (qM (.li 0) (mI (V 7) (.li 1))))),
 (p2,(.tm (qL (mI (V 7) (.li 1)) (.rlen (V 8))))),
 (p2,(.row (V 8) (V 7) [(zS (W 9 0)),(zI (W 9 1))])),
 (p2,(.row (V 8) (mI (V 7) (.li 1)) [(zS (W 10 0)),(zI (W 10 1))])),
 (p2,(.st (V 8) (V 7) 0 [(zS (W 10 0)),(zI (W 10 1))] (V 11))),
 (p2,(.st (V 11) (mI (V 7) (.li 1)) 0 [(zS (W 9 0)),(zI (W 9 1))] (V 12))),
 (p2,(.tm (qE (.rlen (V 0)) (.rlen (V 8)))))] [] [1] []
def abd : LH:=.mk [(qM (V 7) (V 2)),(qE (.rlen (V 8)) (.rlen (V 0)))] (mI (V 7) (V 6)) [((V 2),1),((V 1),(-1))] [] 0 [] [[(qE (.rlen (V 7)) (.rlen (V 0)))]]
def qU (r:List dH):Nat×List AV:=(0,[eL dH.enc r])
theorem qV (x0:List dH)(x1:Int)(x2:Int)(x3:Int)(r4:Int)(r5:List dH)(r6:Int):∀(n:Nat) (u7:Int) (u8:List dH),u_ Tryz.prog sT abb abd [eL dH.enc x0,eI x1,eI x2,eI x3,eI r4,eL dH.enc r5,eI r6] n [eI u7,eL dH.enc u8] (qU (jg r6 n u7 u8))
 |0,u7,u8=>l0
 |n+1,u7,u8=>
  let v9:dH:=u8.getD (u7:Int).toNat default
  let v10:dH:=u8.getD ((jk .i64 u7 1):Int).toNat default
  let v11:List dH:=u8.set (u7:Int).toNat v10
  let v12:List dH:=v11.set ((jk .i64 u7 1):Int).toNat v9
  PV rfl [dH.av v9,dH.av v10,eL dH.enc v11,eL dH.enc v12] xn (wT <|
  wT <|
  wT <|
  wT <|
  wR rfl <|
  wR rfl <|
  wSt (f:=dH.enc) v10 rfl <|
  wSt (f:=dH.enc) v9 rfl <|
  wT <|
  wn) ln <|
   rc qU rx<|rl (rg (qV x0 x1 x2 x3 r4 r5 r6 n _ _))
def abe : Lo:=
 let p0:Pc:=((qE (mI (V 2) (V 1)) (.li 1)),false)::[]
 let p1:Pc:=((qE (mI (V 3) (V 2)) (.li 1)),false)::p0
 let p2:Pc:=((qL (V 8) (V 9)),true)::p1
 .mk [((qE (mI (V 3) (V 2)) (.li 1)),false),((qE (mI (V 2) (V 1)) (.li 1)),false)] 8 2 [(zI (.ite (qG (V 2) (.conv .i64 (.bin .shr (.int .u64) (.conv .u64 (aI (V 1) (V 3))) (.li 1)))) (mI (aI (.conv .i64 (.bin .shr (.int .u64) (.conv .u64 (aI (V 1) (V 3))) (.li 1))) (V 2)) (V 3)) (V 1))),(zI (.ite (qG (V 2) (.conv .i64 (.bin .shr (.int .u64) (.conv .u64 (aI (V 1) (V 3))) (.li 1)))) (.conv .i64 (.bin .shr (.int .u64) (.conv .u64 (aI (V 1) (V 3))) (.li 1))) (V 2)))] [((.not (qL (V 8) (V 9))),1,[(zI (V 8))]),((.lb true),0,[(zI (.ite (.or (qL (W 11 0) (W 13 0)) (.and (qE (W 11 0) (W 13 0)) (qL (W 11 1) (W 13 1)))) (V 8) (aI (.conv .i64 (.bin .shr (.int .u64) (.conv .u64 (aI (V 8) (V 9))) (.li 1))) (.li 1)))),(zI (.ite (.or (qL (W 11 0) (W 13 0)) (.and (qE (W 11 0) (W 13 0)) (qL (W 11 1) (W 13 1)))) (.conv .i64 (.bin .shr (.int .u64) (.conv .u64 (aI (V 8) (V 9))) (.li 1))) (V 9)))])] [(p2,(.tm (qM (.li 0) (mI (mI (aI (.conv .i64 (.bin .shr (.int .u64) (.conv .u64 (aI (V 1) (V 3))) (.li 1))) (V 2)) (.li 1)) (.conv .i64 (.bin .shr (.int .u64) (.conv .u64 (aI (V 8) (V 9))) (.li 1))))))),
 (p2,(.tm (qL (mI (mI (aI (.conv .i64 (.bin .shr (.int .u64) (.conv .u64 (aI (V 1) (V 3))) (.li 1))) (V 2)) (.li 1)) (.conv .i64 (.bin .shr (.int .u64) (.conv .u64 (aI (V 8) (V 9))) (.li 1)))) (.rlen (V 0))))),
 (p2,(.rd (true,2) (V 0) (mI (mI (aI (.conv .i64 (.bin .shr (.int .u64) (.conv .u64 (aI (V 1) (V 3))) (.li 1))) (V 2)) (.li 1)) (.conv .i64 (.bin .shr (.int .u64) (.conv .u64 (aI (V 8) (V 9))) (.li 1)))) 0 (.agg [(zS (W 10 0)),(zI (W 10 1))]))),
 (p2,(.call 108 [(.agg [(zS (W 10 0)),(zI (W 10 1))])] (.eG [(zI (W 11 0)),(zI (W 11 1))]))),
 (p2,(.tm (qM (.li 0) (.conv .i64 (.bin .shr (.int .u64) (.conv .u64 (aI (V 8) (V 9))) (.li 1)))))),
 (p2,(.tm (qL (.conv .i64 (.bin .shr (.int .u64) (.conv .u64 (aI (V 8) (V 9))) (.li 1))) (.rlen (V 0))))),
 (p2,(.rd (true,2) (V 0) (.conv .i64 (.bin .shr (.int .u64) (.conv .u64 (aI (V 8) (V 9))) (.li 1))) 0 (.agg [(zS (W 12 0)),(zI (W 12 1))]))),
 (p2,(.call 108 [(.agg [(zS (W 12 0)),(zI (W 12 1))])] (.eG [(zI (W 13 0)),(zI (W 13 1))])))] [] [1] []
def abf : LH:=.mk [(qM (V 1) (V 8)),(qM (V 9) (V 2)),(qM (V 9) (.conv .i64 (.bin .shr (.int .u64) (.conv .u64 (aI (V 1) (V 3))) (.li 1)))),(qM (mI (aI (.conv .i64 (.bin .shr (.int .u64) (.conv .u64 (aI (V 1) (V 3))) (.li 1))) (V 2)) (V 3)) (V 8))] (mI (V 9) (V 8)) [((V 3),1),((V 1),(-1))] [] 0 [] [[(qM (.ite (qG (V 2) (.conv .i64 (.bin .shr (.int .u64) (.conv .u64 (aI (V 1) (V 3))) (.li 1)))) (mI (aI (.conv .i64 (.bin .shr (.int .u64) (.conv .u64 (aI (V 1) (V 3))) (.li 1))) (V 2)) (V 3)) (V 1)) (V 8))]]
def qW (r:Int):Nat×List AV:=(0,[eI r])
theorem qX (x0:List dH)(x1:Int)(x2:Int)(x3:Int)(r4:Int)(r5:List dH)(r6:Int)(r7:List dH):∀(n:Nat) (u8:Int) (u9:Int),u_ Tryz.prog sT abe abf [eL dH.enc x0,eI x1,eI x2,eI x3,eI r4,eL dH.enc r5,eI r6,eL dH.enc r7] n [eI u8,eI u9] (qW (lq x0 x1 x2 x3 n u8 u9))
 |0,u8,u9=>l0
 |n+1,u8,u9=>
  let v10:dH:=x0.getD ((jk .i64 (jk .i64 (dZ .i64 (IntKind.wrap .i64 (iZ .u64 (IntKind.wrap .u64 (dZ .i64 x1 x3)) 1)) x2) 1) (IntKind.wrap .i64 (iZ .u64 (IntKind.wrap .u64 (dZ .i64 u8 u9)) 1))):Int).toNat default
  let v11:Int×Int:=fV v10
  let v12:dH:=x0.getD ((IntKind.wrap .i64 (iZ .u64 (IntKind.wrap .u64 (dZ .i64 u8 u9)) 1)):Int).toNat default
  let v13:Int×Int:=fV v12
  PV rfl [dH.av v10,kL v11,dH.av v12,kL v13] xn (wT <|
  wT <|
  UD rfl <|
  wC (o_ v10) <|
  wT <|
  wT <|
  UD rfl <|
  wC (o_ v12) <|
  wn) ln <|
   rc qW rx<|rl (rg (qX x0 x1 x2 x3 r4 r5 r6 r7 n _ _))
def apo : iL:=
 let p0:Pc:=((qE (mI (V 2) (V 1)) (.li 1)),false)::[]
 let p1:Pc:=((qE (mI (V 3) (V 2)) (.li 1)),false)::p0
 let p2:Pc:=((qL (V 2) (mI (aI (.conv .i64 (.bin .shr (.int .u64) (.conv .u64 (aI (V 1) (V 3))) (.li 1))) (V 2)) (V 8))),true)::p1
 let p3:Pc:=((qL (V 8) (V 2)),true)::p2
 let p4:Pc:=((qL (V 8) (.conv .i64 (.bin .shr (.int .u64) (.conv .u64 (aI (V 1) (V 3))) (.li 1)))),true)::p3
 let p5:Pc:=((qL (V 1) (V 8)),true)::p4
 let p6:Pc:=((qL (mI (aI (.conv .i64 (.bin .shr (.int .u64) (.conv .u64 (aI (V 1) (V 3))) (.li 1))) (V 2)) (V 8)) (V 3)),true)::p5
 let p7:Pc:=((qL (.conv .i64 (.bin .shr (.int .u64) (.conv .u64 (aI (V 1) (V 3))) (.li 1))) (mI (aI (.conv .i64 (.bin .shr (.int .u64) (.conv .u64 (aI (V 1) (V 3))) (.li 1))) (V 2)) (V 8))),true)::p6
 let p8:Pc:=((.and (qL (V 1) (V 8)) (qL (V 8) (.conv .i64 (.bin .shr (.int .u64) (.conv .u64 (aI (V 1) (V 3))) (.li 1))))),false)::p3
 let p9:Pc:=((qL (mI (aI (.conv .i64 (.bin .shr (.int .u64) (.conv .u64 (aI (V 1) (V 3))) (.li 1))) (V 2)) (V 8)) (V 3)),true)::p8
 let p10:Pc:=((qL (.conv .i64 (.bin .shr (.int .u64) (.conv .u64 (aI (V 1) (V 3))) (.li 1))) (mI (aI (.conv .i64 (.bin .shr (.int .u64) (.conv .u64 (aI (V 1) (V 3))) (.li 1))) (V 2)) (V 8))),true)::p9
 let p11:Pc:=((.and (qL (V 8) (V 2)) (qL (V 2) (mI (aI (.conv .i64 (.bin .shr (.int .u64) (.conv .u64 (aI (V 1) (V 3))) (.li 1))) (V 2)) (V 8)))),false)::p1
 let p12:Pc:=((qL (V 8) (.conv .i64 (.bin .shr (.int .u64) (.conv .u64 (aI (V 1) (V 3))) (.li 1)))),true)::p11
 let p13:Pc:=((qL (V 1) (V 8)),true)::p12
 let p14:Pc:=((qL (mI (aI (.conv .i64 (.bin .shr (.int .u64) (.conv .u64 (aI (V 1) (V 3))) (.li 1))) (V 2)) (V 8)) (V 3)),true)::p13
 let p15:Pc:=((qL (.conv .i64 (.bin .shr (.int .u64) (.conv .u64 (aI (V 1) (V 3))) (.li 1))) (mI (aI (.conv .i64 (.bin .shr (.int .u64) (.conv .u64 (aI (V 1) (V 3))) (.li 1))) (V 2)) (V 8))),true)::p14
 let p16:Pc:=((.and (qL (V 1) (V 8)) (qL (V 8) (.conv .i64 (.bin .shr (.int .u64) (.conv .u64 (aI (V 1) (V 3))) (.li 1))))),false)::p11
 let p17:Pc:=((qL (mI (aI (.conv .i64 (.bin .shr (.int .u64) (.conv .u64 (aI (V 1) (V 3))) (.li 1))) (V 2)) (V 8)) (V 3)),true)::p16
 let p18:Pc:=((qL (.conv .i64 (.bin .shr (.int .u64) (.conv .u64 (aI (V 1) (V 3))) (.li 1))) (mI (aI (.conv .i64 (.bin .shr (.int .u64) (.conv .u64 (aI (V 1) (V 3))) (.li 1))) (V 2)) (V 8))),true)::p17
 ⟨[((qE (mI (V 2) (V 1)) (.li 1)),(.eG [(.eG []),(zL (V 5))])),((qE (mI (V 3) (V 2)) (.li 1)),(.eG [(.eG []),(zL (V 7))])),((.and (.and (qL (V 8) (V 2)) (qL (V 2) (mI (aI (.conv .i64 (.bin .shr (.int .u64) (.conv .u64 (aI (V 1) (V 3))) (.li 1))) (V 2)) (V 8)))) (.and (.and (qL (V 1) (V 8)) (qL (V 8) (.conv .i64 (.bin .shr (.int .u64) (.conv .u64 (aI (V 1) (V 3))) (.li 1))))) (.and (qL (.conv .i64 (.bin .shr (.int .u64) (.conv .u64 (aI (V 1) (V 3))) (.li 1))) (mI (aI (.conv .i64 (.bin .shr (.int .u64) (.conv .u64 (aI (V 1) (V 3))) (.li 1))) (V 2)) (V 8))) (qL (mI (aI (.conv .i64 (.bin .shr (.int .u64) (.conv .u64 (aI (V 1) (V 3))) (.li 1))) (V 2)) (V 8)) (V 3))))),(.eG [(.eG []),(zL (V 13))])),((.and (.and (qL (V 8) (V 2)) (qL (V 2) (mI (aI (.conv .i64 (.bin .shr (.int .u64) (.conv .u64 (aI (V 1) (V 3))) (.li 1))) (V 2)) (V 8)))) (.and (qL (V 1) (V 8)) (qL (V 8) (.conv .i64 (.bin .shr (.int .u64) (.conv .u64 (aI (V 1) (V 3))) (.li 1)))))),(.eG [(.eG []),(zL (V 11))])),((.and (.and (qL (V 8) (V 2)) (qL (V 2) (mI (aI (.conv .i64 (.bin .shr (.int .u64) (.conv .u64 (aI (V 1) (V 3))) (.li 1))) (V 2)) (V 8)))) (.and (qL (.conv .i64 (.bin .shr (.int .u64) (.conv .u64 (aI (V 1) (V 3))) (.li 1))) (mI (aI (.conv .i64 (.bin .shr (.int .u64) (.conv .u64 (aI (V 1) (V 3))) (.li 1))) (V 2)) (V 8))) (qL (mI (aI (.conv .i64 (.bin .shr (.int .u64) (.conv .u64 (aI (V 1) (V 3))) (.li 1))) (V 2)) (V 8)) (V 3)))),(.eG [(.eG []),(zL (V 15))])),((.and (qL (V 8) (V 2)) (qL (V 2) (mI (aI (.conv .i64 (.bin .shr (.int .u64) (.conv .u64 (aI (V 1) (V 3))) (.li 1))) (V 2)) (V 8)))),(.eG [(.eG []),(zL (V 9))])),((.and (.and (qL (V 1) (V 8)) (qL (V 8) (.conv .i64 (.bin .shr (.int .u64) (.conv .u64 (aI (V 1) (V 3))) (.li 1))))) (.and (qL (.conv .i64 (.bin .shr (.int .u64) (.conv .u64 (aI (V 1) (V 3))) (.li 1))) (mI (aI (.conv .i64 (.bin .shr (.int .u64) (.conv .u64 (aI (V 1) (V 3))) (.li 1))) (V 2)) (V 8))) (qL (mI (aI (.conv .i64 (.bin .shr (.int .u64) (.conv .u64 (aI (V 1) (V 3))) (.li 1))) (V 2)) (V 8)) (V 3)))),(.eG [(.eG []),(zL (V 19))])),((.and (qL (V 1) (V 8)) (qL (V 8) (.conv .i64 (.bin .shr (.int .u64) (.conv .u64 (aI (V 1) (V 3))) (.li 1))))),(.eG [(.eG []),(zL (V 17))])),((.and (qL (.conv .i64 (.bin .shr (.int .u64) (.conv .u64 (aI (V 1) (V 3))) (.li 1))) (mI (aI (.conv .i64 (.bin .shr (.int .u64) (.conv .u64 (aI (V 1) (V 3))) (.li 1))) (V 2)) (V 8))) (qL (mI (aI (.conv .i64 (.bin .shr (.int .u64) (.conv .u64 (aI (V 1) (V 3))) (.li 1))) (V 2)) (V 8)) (V 3))),(.eG [(.eG []),(zL (V 21))])),((.lb true),(.eG [(.eG []),(zL (V 0))]))],
 [(p3,(.oU 157 [(.agg [(.fn 107 [] [(.op 3 1 (.li 0) 0)]),(.fn 144 [] [(.os 2 2 0 (.rlen (V 0))),(.c (.at 1 29))])]),(zI (V 8)),(zI (V 2)),(zI (mI (aI (.conv .i64 (.bin .shr (.int .u64) (.conv .u64 (aI (V 1) (V 3))) (.li 1))) (V 2)) (V 8)))] [(3,(.rows 1 [[(.os 2 2 0 (.rlen (V 0)))]])),(2,(.fE 2 (V 0)))] 4 (.eG []) [(3,(.rows 1 [[(.os 2 2 0 (.rlen (V 0)))]])),(2,(.fE 2 (V 9)))])),
 (p5,(.oU 146 [(.agg [(.fn 107 [] [(.op 3 1 (.li 0) 0)]),(.fn 144 [] [(.os 2 2 0 (.rlen (V 0))),(.c (.at 1 29))])]),(zI (V 1)),(zI (V 8)),(zI (.conv .i64 (.bin .shr (.int .u64) (.conv .u64 (aI (V 1) (V 3))) (.li 1))))] [(3,(.rows 1 [[(.os 2 2 0 (.rlen (V 0)))]])),(2,(.fE 2 (V 9)))] 4 (.eG []) [(3,(.rows 1 [[(.os 2 2 0 (.rlen (V 0)))]])),(2,(.fE 2 (V 11)))])),
 (p7,(.oU 146 [(.agg [(.fn 107 [] [(.op 3 1 (.li 0) 0)]),(.fn 144 [] [(.os 2 2 0 (.rlen (V 0))),(.c (.at 1 29))])]),(zI (.conv .i64 (.bin .shr (.int .u64) (.conv .u64 (aI (V 1) (V 3))) (.li 1)))),(zI (mI (aI (.conv .i64 (.bin .shr (.int .u64) (.conv .u64 (aI (V 1) (V 3))) (.li 1))) (V 2)) (V 8))),(zI (V 3))] [(3,(.rows 1 [[(.os 2 2 0 (.rlen (V 0)))]])),(2,(.fE 2 (V 11)))] 4 (.eG []) [(3,(.rows 1 [[(.os 2 2 0 (.rlen (V 0)))]])),(2,(.fE 2 (V 13)))])),
 (p10,(.oU 146 [(.agg [(.fn 107 [] [(.op 3 1 (.li 0) 0)]),(.fn 144 [] [(.os 2 2 0 (.rlen (V 0))),(.c (.at 1 29))])]),(zI (.conv .i64 (.bin .shr (.int .u64) (.conv .u64 (aI (V 1) (V 3))) (.li 1)))),(zI (mI (aI (.conv .i64 (.bin .shr (.int .u64) (.conv .u64 (aI (V 1) (V 3))) (.li 1))) (V 2)) (V 8))),(zI (V 3))] [(3,(.rows 1 [[(.os 2 2 0 (.rlen (V 0)))]])),(2,(.fE 2 (V 9)))] 4 (.eG []) [(3,(.rows 1 [[(.os 2 2 0 (.rlen (V 0)))]])),(2,(.fE 2 (V 15)))])),
 (p13,(.oU 146 [(.agg [(.fn 107 [] [(.op 3 1 (.li 0) 0)]),(.fn 144 [] [(.os 2 2 0 (.rlen (V 0))),(.c (.at 1 29))])]),(zI (V 1)),(zI (V 8)),(zI (.conv .i64 (.bin .shr (.int .u64) (.conv .u64 (aI (V 1) (V 3))) (.li 1))))] [(3,(.rows 1 [[(.os 2 2 0 (.rlen (V 0)))]])),(2,(.fE 2 (V 0)))] 4 (.eG []) [(3,(.rows 1 [[(.os 2 2 0 (.rlen (V 0)))]])),(2,(.fE 2 (V 17)))])),
 (p15,(.oU 146 [(.agg [(.fn 107 [] [(.op 3 1 (.li 0) 0)]),(.fn 144 [] [(.os 2 2 0 (.rlen (V 0))),(.c (.at 1 29))])]),(zI (.conv .i64 (.bin .shr (.int .u64) (.conv .u64 (aI (V 1) (V 3))) (.li 1)))),(zI (mI (aI (.conv .i64 (.bin .shr (.int .u64) (.conv .u64 (aI (V 1) (V 3))) (.li 1))) (V 2)) (V 8))),(zI (V 3))] [(3,(.rows 1 [[(.os 2 2 0 (.rlen (V 0)))]])),(2,(.fE 2 (V 17)))] 4 (.eG []) [(3,(.rows 1 [[(.os 2 2 0 (.rlen (V 0)))]])),(2,(.fE 2 (V 19)))])),
 (p18,(.oU 146 [(.agg [(.fn 107 [] [(.op 3 1 (.li 0) 0)]),(.fn 144 [] [(.os 2 2 0 (.rlen (V 0))),(.c (.at 1 29))])]),(zI (.conv .i64 (.bin .shr (.int .u64) (.conv .u64 (aI (V 1) (V 3))) (.li 1)))),(zI (mI (aI (.conv .i64 (.bin .shr (.int .u64) (.conv .u64 (aI (V 1) (V 3))) (.li 1))) (V 2)) (V 8))),(zI (V 3))] [(3,(.rows 1 [[(.os 2 2 0 (.rlen (V 0)))]])),(2,(.fE 2 (V 0)))] 4 (.eG []) [(3,(.rows 1 [[(.os 2 2 0 (.rlen (V 0)))]])),(2,(.fE 2 (V 21)))]))],[aa5,aa7,aa9,abb,abe]⟩
def apq : LH:=.mk [] (.li 0) [] [] 0 [aa6,aa8,aa_,abd,abf] []
theorem apr : MV Tryz.prog gu gB rJ (rG kA 146 [1,2,3,4,8,9,10,11,12,13,14,15,16,17,18,19,20,21,22,26,31,42,50,62,67,79,86,106,117,131,142,143,144,145,155,156,157,158,168,169,170,171] [(8,(.mk [1,2,3,4,16,17,20] (.mk [(18,(.sc kI)),(19,(.sc kI))] [] [] 38) [(.normal,(.mk [(18,(.sc kI))] [] [] 38))])),(6,(.mk [4,12] (.mk [(15,(.sc kI))] [] [(2,2)] 19) [(.normal,(.mk [] [] [(2,2)] 19))])),(4,(.mk [2,4] (.mk [(12,(.sc kI)),(13,(.sc kI))] [] [] 17) [(.normal,(.mk [(12,(.sc kI))] [] [] 17))])),(2,(.mk [4,8] (.mk [(11,(.sc kI))] [] [(2,2)] 15) [(.normal,(.mk [] [] [(2,2)] 15))])),(0,(.mk [1,4] (.mk [(8,(.sc kI)),(9,(.sc kI))] [] [] 13) [(.normal,(.mk [(8,(.sc kI))] [] [] 13))]))]) 3 200 146 [(.agg [(.fn 107 [] [(.op 3 1 (.li 0) 0)]),(.fn 144 [] [(.os 2 2 0 (.rlen (V 0))),(.c (.at 1 29))])]),(zI (V 1)),(zI (V 2)),(zI (V 3))] 4 [(3,(.rows 1 [[(.os 2 2 0 (.rlen (V 0)))]])),(2,(.fE 2 (V 0)))] [(2,2)] 4=some apo:=by kernel_rfl
theorem gQ : ∀(n:Nat) (x0:List dH) (x1:Int) (x2:Int) (x3:Int) {L:Nat},(x3-x1).toNat<n->L=(List.map dH.enc x0).length->CTw Tryz.prog sT 146 [(.agg [(.fn (.func 107) [] [(.op 3 1 0 0)]),(.fn (.func 144) [] [(.os 2 2 0 L),(.p (Cv.val (.at 1 29)))])]),(.p (.int .i64 x1)),(.p (.int .i64 x2)),(.p (.int .i64 x3))] [(3,.rows 1 [[(.os 2 2 0 L)]]),(2,.rows 2 (List.map dH.enc x0))] 4 (.eG []) [(3,.rows 1 [[(.os 2 2 0 L)]]),(2,.rows 2 (List.map dH.enc (dW n x0 x1 x2 x3)))]
 |0,x0,x1,x2,x3,L,hm,_=>absurd hm (Nat.not_lt_zero _)
 |n+1,x0,x1,x2,x3,L,hm,hL=>by subst hL;exact (fun hp=>(fun hd=>
 let r4:Int:=kZ x0 x1 ((x3-x2).toNat+1) x2 x3
 let r5:List dH:=jf r4 (((jk .i64 r4 1):Int).toNat+1) x1 x0
 let r6:Int:=lg x0 x2 ((x2-x1).toNat+1) x1 x2
 let r7:List dH:=jg r6 ((x2-x1).toNat+1) x2 x0
 let r8:Int:=lq x0 x1 x2 x3 ((x3-x1).toNat+1) (bif (decide ((x2:Int) > (IntKind.wrap .i64 (iZ .u64 (IntKind.wrap .u64 (dZ .i64 x1 x3)) 1)))) then (jk .i64 (dZ .i64 (IntKind.wrap .i64 (iZ .u64 (IntKind.wrap .u64 (dZ .i64 x1 x3)) 1)) x2) x3) else x1) (bif (decide ((x2:Int) > (IntKind.wrap .i64 (iZ .u64 (IntKind.wrap .u64 (dZ .i64 x1 x3)) 1)))) then (IntKind.wrap .i64 (iZ .u64 (IntKind.wrap .u64 (dZ .i64 x1 x3)) 1)) else x2)
 let w9:List dH:=kD x0 r8 x2 (jk .i64 (dZ .i64 (IntKind.wrap .i64 (iZ .u64 (IntKind.wrap .u64 (dZ .i64 x1 x3)) 1)) x2) r8)
 let v9:List dH:=w9
 let w11:List dH:=dW n v9 x1 r8 (IntKind.wrap .i64 (iZ .u64 (IntKind.wrap .u64 (dZ .i64 x1 x3)) 1))
 let v11:List dH:=w11
 let w13:List dH:=dW n v11 (IntKind.wrap .i64 (iZ .u64 (IntKind.wrap .u64 (dZ .i64 x1 x3)) 1)) (jk .i64 (dZ .i64 (IntKind.wrap .i64 (iZ .u64 (IntKind.wrap .u64 (dZ .i64 x1 x3)) 1)) x2) r8) x3
 let v13:List dH:=w13
 let w15:List dH:=dW n v9 (IntKind.wrap .i64 (iZ .u64 (IntKind.wrap .u64 (dZ .i64 x1 x3)) 1)) (jk .i64 (dZ .i64 (IntKind.wrap .i64 (iZ .u64 (IntKind.wrap .u64 (dZ .i64 x1 x3)) 1)) x2) r8) x3
 let v15:List dH:=w15
 let w17:List dH:=dW n x0 x1 r8 (IntKind.wrap .i64 (iZ .u64 (IntKind.wrap .u64 (dZ .i64 x1 x3)) 1))
 let v17:List dH:=w17
 let w19:List dH:=dW n v17 (IntKind.wrap .i64 (iZ .u64 (IntKind.wrap .u64 (dZ .i64 x1 x3)) 1)) (jk .i64 (dZ .i64 (IntKind.wrap .i64 (iZ .u64 (IntKind.wrap .u64 (dZ .i64 x1 x3)) 1)) x2) r8) x3
 let v19:List dH:=w19
 let w21:List dH:=dW n x0 (IntKind.wrap .i64 (iZ .u64 (IntKind.wrap .u64 (dZ .i64 x1 x3)) 1)) (jk .i64 (dZ .i64 (IntKind.wrap .i64 (iZ .u64 (IntKind.wrap .u64 (dZ .i64 x1 x3)) 1)) x2) r8) x3
 let v21:List dH:=w21
 (mkW (cs:=[eL dH.enc (dW (n+1) x0 x1 x2 x3)]) jR dU dV apr apq (by kernel_rfl) [eL dH.enc x0,eI x1,eI x2,eI x3,eI r4,eL dH.enc r5,eI r6,eL dH.enc r7,eI r8,eL dH.enc v9,eu,eL dH.enc v11,eu,eL dH.enc v13,eu,eL dH.enc v15,eu,eL dH.enc v17,eu,eL dH.enc v19,eu,eL dH.enc v21,eu] xn
  (wWL (fun hL=>BF x0 r8 x2 (jk .i64 (dZ .i64 (IntKind.wrap .i64 (iZ .u64 (IntKind.wrap .u64 (dZ .i64 x1 x3)) 1)) x2) r8) hL) <|
  wWL (fun hL=>gQ n v9 x1 r8 (IntKind.wrap .i64 (iZ .u64 (IntKind.wrap .u64 (dZ .i64 x1 x3)) 1)) hd.1 hL) <|
  wWL (fun hL=>gQ n v11 (IntKind.wrap .i64 (iZ .u64 (IntKind.wrap .u64 (dZ .i64 x1 x3)) 1)) (jk .i64 (dZ .i64 (IntKind.wrap .i64 (iZ .u64 (IntKind.wrap .u64 (dZ .i64 x1 x3)) 1)) x2) r8) x3 hd.2 hL) <|
  wWL (fun hL=>gQ n v9 (IntKind.wrap .i64 (iZ .u64 (IntKind.wrap .u64 (dZ .i64 x1 x3)) 1)) (jk .i64 (dZ .i64 (IntKind.wrap .i64 (iZ .u64 (IntKind.wrap .u64 (dZ .i64 x1 x3)) 1)) x2) r8) x3 hd.2 hL) <|
  wWL (fun hL=>gQ n x0 x1 r8 (IntKind.wrap .i64 (iZ .u64 (IntKind.wrap .u64 (dZ .i64 x1 x3)) 1)) hd.1 hL) <|
  wWL (fun hL=>gQ n v17 (IntKind.wrap .i64 (iZ .u64 (IntKind.wrap .u64 (dZ .i64 x1 x3)) 1)) (jk .i64 (dZ .i64 (IntKind.wrap .i64 (iZ .u64 (IntKind.wrap .u64 (dZ .i64 x1 x3)) 1)) x2) r8) x3 hd.2 hL) <|
  wWL (fun hL=>gQ n x0 (IntKind.wrap .i64 (iZ .u64 (IntKind.wrap .u64 (dZ .i64 x1 x3)) 1)) (jk .i64 (dZ .i64 (IntKind.wrap .i64 (iZ .u64 (IntKind.wrap .u64 (dZ .i64 x1 x3)) 1)) x2) r8) x3 hd.2 hL) <|
  wn)
  (lc1 (qK x0 x1 x2 x3 ((x3-x2).toNat+1) x2 x3) (hn:=(show ((1)*(x3)+((-1)*(x2)+(0)):Int)<_ by first|omega|(simp only [axF];omega))) <|
  lc1 (qP x0 x1 x2 x3 r4 (((jk .i64 r4 1):Int).toNat+1) x1 x0) <|
  lc1 (qR x0 x1 x2 x3 r4 r5 ((x2-x1).toNat+1) x1 x2) (hn:=(show ((1)*(x2)+((-1)*(x1)+(0)):Int)<_ by first|omega|(simp only [axF];omega))) <|
  lc1 (qV x0 x1 x2 x3 r4 r5 r6 ((x2-x1).toNat+1) x2 x0) (hn:=(show ((1)*(x2)+((-1)*(x1)+(0)):Int)<_ by first|omega|(simp only [axF];omega))) <|
  lc1 (qX x0 x1 x2 x3 r4 r5 r6 r7 ((x3-x1).toNat+1) (bif (decide ((x2:Int) > (IntKind.wrap .i64 (iZ .u64 (IntKind.wrap .u64 (dZ .i64 x1 x3)) 1)))) then (jk .i64 (dZ .i64 (IntKind.wrap .i64 (iZ .u64 (IntKind.wrap .u64 (dZ .i64 x1 x3)) 1)) x2) x3) else x1) (bif (decide ((x2:Int) > (IntKind.wrap .i64 (iZ .u64 (IntKind.wrap .u64 (dZ .i64 x1 x3)) 1)))) then (IntKind.wrap .i64 (iZ .u64 (IntKind.wrap .u64 (dZ .i64 x1 x3)) 1)) else x2)) (hn:=(show ((1)*(x3)+((-1)*(x1)+(0)):Int)<_ by first|omega|(simp only [axF];omega))) <|
  ln)
  (gI (fun r=>.eG [.eG [],.sl (List.map dH.enc r) false]) rfl rfl (gI (fun r=>.eG [.eG [],.sl (List.map dH.enc r) false]) rfl rfl (gI (fun r=>.eG [.eG [],.sl (List.map dH.enc r) false]) rfl rfl (gI (fun r=>.eG [.eG [],.sl (List.map dH.enc r) false]) rfl rfl (gI (fun r=>.eG [.eG [],.sl (List.map dH.enc r) false]) rfl rfl (gI (fun r=>.eG [.eG [],.sl (List.map dH.enc r) false]) rfl rfl (gI (fun r=>.eG [.eG [],.sl (List.map dH.enc r) false]) rfl rfl (gI (fun r=>.eG [.eG [],.sl (List.map dH.enc r) false]) rfl rfl (gI (fun r=>.eG [.eG [],.sl (List.map dH.enc r) false]) rfl rfl (jQ rfl))))))))))) hp) (aoZ (of_decide_eq_true hp.1) (of_decide_eq_true hp.2.1) (of_decide_eq_true hp.2.2.1) (of_decide_eq_true hp.2.2.2.1) hm))
def abg : Lo:=
 let p0:Pc:=((qM (V 3) (V 1)),true)::[]
 .mk [] 2 3 [(zI (.li 0)),(zI (.li 20)),(zL (V 0))] [((.not (qM (V 3) (V 1))),1,[(zI (V 2)),(zI (V 3)),(zL (V 4))]),((.lb true),0,[(zI (V 3)),(zI (aI (V 3) (.li 20))),(zL (V 5))])] [(p0,(.oU 145 [(.agg [(.fn 107 [] [(.op 3 1 (.li 0) 0)]),(.fn 144 [] [(.os 2 2 0 (.rlen (V 0))),(.c (.at 1 29))])]),(zI (V 2)),(zI (V 3))] [(3,(.rows 1 [[(.os 2 2 0 (.rlen (V 0)))]])),(2,(.fE 2 (V 4)))] 4 (.eG []) [(3,(.rows 1 [[(.os 2 2 0 (.rlen (V 0)))]])),(2,(.fE 2 (V 5)))]))] [] [3] []
def abh : LH:=.mk [(qM (.li 0) (V 2)),(qE (V 3) (aI (V 2) (.li 20))),(qE (.rlen (V 4)) (.rlen (V 0))),(qM (V 2) (V 1))] (mI (V 1) (V 2)) [((V 1),1),((.li 20),1)] [] 0 [] [[(qM (.li 0) (V 2)),(qM (V 2) (.rlen (V 4))),(qE (.rlen (V 4)) (.rlen (V 0)))]]
def r_ (r:Int×Int×List dH):Nat×List AV:=(0,[eI r.1,eI r.2.1,eL dH.enc r.2.2])
theorem su (x0:List dH)(x1:Int):∀(n:Nat) (u2:Int) (u3:Int) (u4:List dH),u_ Tryz.prog sT abg abh [eL dH.enc x0,eI x1] n [eI u2,eI u3,eL dH.enc u4] (r_ (jF x1 n u2 u3 u4))
 |0,u2,u3,u4=>l0
 |n+1,u2,u3,u4=>
  let w5:List dH:=ig u4 u2 u3
  let v5:List dH:=w5
  PV rfl [eL dH.enc v5,eu] xn (wWL (fun hL=>pq u4 u2 u3 hL)<|wn) ln <|
   rc r_ rx<|rl (rg (su x0 x1 n _ _ _))
def WJ : Lo:=
 let p0:Pc:=((qL (V 7) (V 1)),true)::[]
 let p1:Pc:=((qM (V 12) (V 1)),true)::p0
 .mk [((qL (V 7) (V 1)),true)] 11 3 [(zI (.li 0)),(zI (.bin .mul kI (.li 2) (V 7))),(zL (V 10))] [((.not (qM (V 12) (V 1))),1,[(zI (V 11)),(zI (V 12)),(zL (V 13))]),((.lb true),0,[(zI (V 12)),(zI (aI (V 12) (.bin .mul kI (.li 2) (V 7)))),(zL (V 14))])] [(p1,(.oU 146 [(.agg [(.fn 107 [] [(.op 3 1 (.li 0) 0)]),(.fn 144 [] [(.os 2 2 0 (.rlen (V 0))),(.c (.at 1 29))])]),(zI (V 11)),(zI (aI (V 11) (V 7))),(zI (V 12))] [(3,(.rows 1 [[(.os 2 2 0 (.rlen (V 0)))]])),(2,(.fE 2 (V 13)))] 4 (.eG []) [(3,(.rows 1 [[(.os 2 2 0 (.rlen (V 0)))]])),(2,(.fE 2 (V 14)))]))] [] [3] []
def WL : LH:=.mk [(qM (.li 0) (V 11)),(qE (V 12) (aI (V 11) (.bin .mul kI (.li 2) (V 7)))),(qM (V 11) (.rlen (V 13))),(qE (.rlen (V 13)) (.rlen (V 10)))] (mI (V 1) (V 11)) [((V 1),1),((V 7),2)] [] 0 [] [[(qM (.li 0) (V 11)),(qM (V 11) (.rlen (V 13))),(qE (.rlen (V 13)) (.rlen (V 10)))]]
def rM (r:Int×Int×List dH):Nat×List AV:=(0,[eI r.1,eI r.2.1,eL dH.enc r.2.2])
theorem rO (x0:List dH)(x1:Int)(r2:Int×Int×List dH)(v5:List dH)(u7:Int)(u8:Int)(u9:Int)(u10:List dH):∀(n:Nat) (u11:Int) (u12:Int) (u13:List dH),u_ Tryz.prog sT WJ WL [eL dH.enc x0,eI x1,eI r2.1,eI r2.2.1,eL dH.enc r2.2.2,eL dH.enc v5,eu,eI u7,eI u8,eI u9,eL dH.enc u10] n [eI u11,eI u12,eL dH.enc u13] (rM (jq x1 u7 n u11 u12 u13))
 |0,u11,u12,u13=>l0
 |n+1,u11,u12,u13=>
  let w14:List dH:=dW ((u12-u11).toNat+1) u13 u11 (dZ .i64 u11 u7) u12
  let v14:List dH:=w14
  PV rfl [eL dH.enc v14,eu] xn (wWL (fun hL=>gQ ((u12-u11).toNat+1) u13 u11 (dZ .i64 u11 u7) u12 (Nat.lt_succ_self _) hL)<|wn) ln <|
   rc rM rx<|rl (rg (rO x0 x1 r2 v5 u7 u8 u9 u10 n _ _ _))
def abj : Lo:=
 let p0:Pc:=((qL (V 7) (V 1)),true)::[]
 let p1:Pc:=((qL (aI (V 11) (V 7)) (V 1)),true)::p0
 .mk [] 7 4 [(zI (.li 20)),(zI (V 2)),(zI (V 3)),(zL (V 5))] [((.not (qL (V 7) (V 1))),1,[(zL (V 10))]),((qL (aI (V 11) (V 7)) (V 1)),0,[(zI (.bin .mul kI (V 7) (.li 2))),(zI (V 11)),(zI (V 12)),(zL (V 14))]),((.lb true),0,[(zI (.bin .mul kI (V 7) (.li 2))),(zI (V 11)),(zI (V 12)),(zL (V 13))])] [(p1,(.oU 146 [(.agg [(.fn 107 [] [(.op 3 1 (.li 0) 0)]),(.fn 144 [] [(.os 2 2 0 (.rlen (V 0))),(.c (.at 1 29))])]),(zI (V 11)),(zI (aI (V 11) (V 7))),(zI (V 1))] [(3,(.rows 1 [[(.os 2 2 0 (.rlen (V 0)))]])),(2,(.fE 2 (V 13)))] 4 (.eG []) [(3,(.rows 1 [[(.os 2 2 0 (.rlen (V 0)))]])),(2,(.fE 2 (V 14)))]))] [WJ] [1] []
def abk : LH:=.mk [(qM (.li 20) (V 7)),(qE (.rlen (V 10)) (.rlen (V 0)))] (mI (V 1) (V 7)) [((V 1),1)] [] 1 [WL] [[(qE (.rlen (V 7)) (.rlen (V 5)))]]
def nJ (r:List dH):Nat×List AV:=(0,[eL dH.enc r])
theorem nK (x0:List dH)(x1:Int)(r2:Int×Int×List dH)(v5:List dH):∀(n:Nat) (u7:Int) (u8:Int) (u9:Int) (u10:List dH),u_ Tryz.prog sT abj abk [eL dH.enc x0,eI x1,eI r2.1,eI r2.2.1,eL dH.enc r2.2.2,eL dH.enc v5,eu] n [eI u7,eI u8,eI u9,eL dH.enc u10] (nJ (iU x1 n u7 u8 u9 u10))
 |0,u7,u8,u9,u10=>l0
 |n+1,u7,u8,u9,u10=>
  let r11:Int×Int×List dH:=jq x1 u7 ((x1+2*u7).toNat+1) 0 (YT .i64 2 u7) u10
  let w14:List dH:=dW ((x1-r11.1).toNat+1) r11.2.2 r11.1 (dZ .i64 r11.1 u7) x1
  let v14:List dH:=w14
  PV rfl [eI r11.1,eI r11.2.1,eL dH.enc r11.2.2,eL dH.enc v14,eu] xn (wWL (fun hL=>gQ ((x1-r11.1).toNat+1) r11.2.2 r11.1 (dZ .i64 r11.1 u7) x1 (Nat.lt_succ_self _) hL)<|wn) (lc1 (rO x0 x1 r2 v5 u7 u8 u9 u10 ((x1+2*u7).toNat+1) 0 (YT .i64 2 u7) u10) (hn:=(show ((1)*(x1)+((2)*(u7)+(0)):Int)<_ by first|omega|(simp only [axF];omega))) <|
  ln) <|
   rc nJ rx<|rc nJ (rg (nK x0 x1 r2 v5 n _ _ _ _))<|rl (rg (nK x0 x1 r2 v5 n _ _ _ _))
def aps : iL:=
 ⟨[((.lb true),(.eG [(.eG []),(zL (V 7))]))],
 [([],(.oU 145 [(.agg [(.fn 107 [] [(.op 3 1 (.li 0) 0)]),(.fn 144 [] [(.os 2 2 0 (.rlen (V 0))),(.c (.at 1 29))])]),(zI (V 2)),(zI (V 1))] [(3,(.rows 1 [[(.os 2 2 0 (.rlen (V 0)))]])),(2,(.fE 2 (V 4)))] 4 (.eG []) [(3,(.rows 1 [[(.os 2 2 0 (.rlen (V 0)))]])),(2,(.fE 2 (V 5)))]))],[abg,abj]⟩
def apt : LH:=.mk [] (.li 0) [] [] 0 [abh,abk] []
theorem apu : MV Tryz.prog gu gB rJ (rG kA 127 [1,2,4,5,6,7,11,26,31,49] [(2,(.mk [1,2] (.mk [(4,(.sc kI)),(5,(.sc kI)),(6,(.sc kI))] [] [(2,2)] 12) [(.normal,(.mk [] [] [(2,2)] 12))])),(4,(.mk [1,2,4] (.mk [(5,(.sc kI)),(6,(.sc kI))] [] [(2,2)] 19) [(.normal,(.mk [(5,(.sc kI)),(6,(.sc kI))] [] [(2,2)] 19))])),(0,(.mk [1,2,4] (.mk [(5,(.sc kI)),(6,(.sc kI))] [] [(2,2)] 9) [(.normal,(.mk [(5,(.sc kI)),(6,(.sc kI))] [] [(2,2)] 9))]))]) 3 200 127 [(.agg [(.fn 107 [] [(.op 3 1 (.li 0) 0)]),(.fn 144 [] [(.os 2 2 0 (.rlen (V 0))),(.c (.at 1 29))])]),(zI (V 1))] 2 [(3,(.rows 1 [[(.os 2 2 0 (.rlen (V 0)))]])),(2,(.fE 2 (V 0)))] [(2,2)] 4=some aps:=by kernel_rfl
theorem BG (x0:List dH)(x1:Int){L:Nat}(hL:L=(List.map dH.enc x0).length):CTw Tryz.prog sT 127 [(.agg [(.fn (.func 107) [] [(.op 3 1 0 0)]),(.fn (.func 144) [] [(.os 2 2 0 L),(.p (Cv.val (.at 1 29)))])]),(.p (.int .i64 x1))] [(3,.rows 1 [[(.os 2 2 0 L)]]),(2,.rows 2 (List.map dH.enc x0))] 4 (.eG []) [(3,.rows 1 [[(.os 2 2 0 L)]]),(2,.rows 2 (List.map dH.enc (gZ x0 x1)))]:=by subst hL;exact (
 let r2:Int×Int×List dH:=jF x1 (x1.toNat+21) 0 20 x0
 let w5:List dH:=ig r2.2.2 r2.1 x1
 let v5:List dH:=w5
 let r7:List dH:=iU x1 (x1.toNat+1) 20 r2.1 r2.2.1 v5
 mkW (cs:=[eL dH.enc (gZ x0 x1)]) jR dU dV apu apt (by kernel_rfl) [eL dH.enc x0,eI x1,eI r2.1,eI r2.2.1,eL dH.enc r2.2.2,eL dH.enc v5,eu,eL dH.enc r7] xn
  (wWL (fun hL=>pq r2.2.2 r2.1 x1 hL)<|wn)
  (lc1 (su x0 x1 (x1.toNat+21) 0 20 x0) (hn:=(show ((1)*(x1)+((1)*(20)+(0)):Int)<_ by first|omega|(simp only [axF];omega))) <|
  lc1 (nK x0 x1 r2 v5 (x1.toNat+1) 20 r2.1 r2.2.1 v5) <|
  ln)
  (jQ rfl))
def atG : iL:=
 let p0:Pc:=((qE (.rlen (V 0)) (.li 0)),true)::[]
 let p1:Pc:=((qE (.rlen (V 0)) (.li 0)),false)::[]
 let p2:Pc:=((qE (.rlen (V 0)) (.li 1)),true)::p1
 let p3:Pc:=((qE (.rlen (V 0)) (.li 1)),false)::p1
 let p4:Pc:=((qE (.rlen (V 0)) (.li 1)),false)::[]
 let p5:Pc:=((qE (.rlen (V 0)) (.li 0)),false)::p4
 ⟨[((.or (qE (.rlen (V 0)) (.li 0)) (qE (.rlen (V 0)) (.li 1))),(zL (V 0))),((.lb true),(zL (V 1)))],
 [([],(.JJ 2 (V 0))),
 ([],(.len2 0 (V 0))),
 ([],(.tm (qM (.li 0) (.rlen (V 0))))),
 (p0,(.tm (qM (.li 0) (.rlen (V 0))))),
 (p2,(.tm (qM (.li 0) (.rlen (V 0))))),
 (p3,(.tm (qM (.li 0) (.rlen (V 0))))),
 (p3,(.oU 127 [(.agg [(.fn 107 [] [(.op 3 1 (.li 0) 0)]),(.fn 144 [] [(.os 2 2 0 (.rlen (V 0))),(.c (.at 1 29))])]),(zI (.rlen (V 0)))] [(3,(.rows 1 [[(.os 2 2 0 (.rlen (V 0)))]])),(2,(.fE 2 (V 0)))] 4 (.eG []) [(3,(.rows 1 [[(.os 2 2 0 (.rlen (V 0)))]])),(2,(.fE 2 (V 1)))])),
 (p5,(.tm (qE (.rlen (V 0)) (.rlen (V 1)))))],[]⟩
theorem atH : acF Tryz.prog gu gB rJ (rG kA 79 [] []) 3 200 79 [zL (V 0)] 1 [] 2=some atG:=by kernel_rfl
theorem Qh (x0:List dH):CTo Tryz.prog sT 79 [eL dH.enc x0] (eL dH.enc (IQ x0)) [] 2:=
 let w1:List dH:=gZ x0 (iM dH.enc x0)
 let v1:List dH:=w1
 let v3:List dH:=(v1.drop (0)).take (((iM dH.enc x0):Int).toNat-0)
 mkO jR dU dV atH zn (by kernel_rfl) [eL dH.enc x0,eL dH.enc v1,eu,eL dH.enc v3] xn
  (acZ (f:=dH.enc) rfl <|
  aax <|
  wT <|
  wT <|
  wT <|
  wT <|
  wWL (fun hL=>BG x0 (iM dH.enc x0) hL) <|
  wT <|
  wn)
  ln
  (gI (fun r=>.sl (List.map dH.enc r) false) rfl rfl (jQ rfl))
theorem U2 (x0:List dH):CTo Tryz.prog sT 79 [eL dH.enc x0] (eL dH.enc (Ed x0)) [] 2:=
 aoX (fun hb=>
 have hb0:x0.length<=4294967296:=by have:=hb.1.1;simpa using this
 congrArg (eL dH.enc) (T_ x0 hb0)) (Qh x0)
def anA : Lo:=
 let p0:Pc:=((qN (V 1) (.li 0)),false)::[]
 let p1:Pc:=((qL (V 3) (.rlen (V 0))),true)::p0
 .mk [((qN (V 1) (.li 0)),false)] 2 2 [(zL .nl),(zI (.li 0))] [((.not (qL (V 3) (.rlen (V 0)))),1,[(zL (V 2))]),((.lb true),0,[(zL (V 5)),(zI (aI (V 3) (.li 1)))])] [(p1,(.row (V 0) (V 3) (cV 4 dL.fC))),
 (p1,(.app 2 (V 2) [[(zS (W 4 0)),(zI (W 4 1))]] (V 5)))] [] [1] [(V 0)]
def anB : LH:=.mk [(qE (.rlen (V 2)) (V 3))] (mI (.rlen (V 0)) (V 3)) [((.rlen (V 0)),1)] [] 1 [] []
def EF (r:List dH):Nat×List AV:=(0,[eL dH.enc r])
theorem EG (x0:List dL)(v1:Int):∀(n:Nat) (u2:List dH) (u3:Int),u_ Tryz.prog sT anA anB [eL dL.enc x0,eI v1] n [eL dH.enc u2,eI u3] (EF (yS x0 n u2 u3))
 |0,u2,u3=>l0
 |n+1,u2,u3=>
  let v4:dL:=x0.getD (u3:Int).toNat default
  let v5:List dH:=u2++[v4.Key]
  PV rfl [dL.av v4,eL dH.enc v5] xn (wR rfl <|
  aqO (f:=dH.enc) [v4.Key] rfl <|
  wn) ln <|
   rc EF rx<|rl (rg (EG x0 v1 n _ _))
def R40 : iL:=
 let p0:Pc:=((qN (V 1) (.li 0)),false)::[]
 ⟨[((qN (V 1) (.li 0)),(.eG [(.slc [] false),(zI (V 1))])),((.lb true),(.eG [(zL (V 3)),(zI (.li 0))]))],
 [([],(.call 78 [(zL (V 0))] (zI (V 1)))),
 (p0,(.JU 79 [(zL (V 2))] (zL (V 3)) [] 2 true))],[anA]⟩
def H40 : LH:=.mk [] (.li 0) [] [] 0 [anB] []
theorem e40 : jU Tryz.prog gu gB (mdW [79] rJ) (rG kA 40 [5,15] [(0,(.mk [2,3,13,14] (.mk [(5,(.os 11 2)),(15,(.sc kI))] [] [] 12) [(.normal,(.mk [(5,(.os 11 2))] [] [] 12))]))]) 3 200 40 [zL (V 0)] 1=some R40:=by kernel_rfl
theorem J9 (x0:List dL):CT Tryz.prog sT 40 [eL dL.enc x0] (nG (pJ x0)):=
 let v1:Int:=jG x0
 let r2:List dH:=yS x0 (x0.length+1) [] 0
 let v3:List dH:=Ed r2
 vS jR dU dV e40 H40 (by kernel_rfl) [eL dL.enc x0,eI v1,eL dH.enc r2,eL dH.enc v3] xn
  (wC (Bj x0) <|
  wOf (U2 r2) rfl <|
  wn)
  (lc1 (EG x0 v1 (x0.length+1) [] 0) <|
  ln)
  (gI nG rfl rfl (jQ rfl))
def R18 : iL:=
 let p0:Pc:=((qN (V 2) (.li 0)),false)::[]
 let p1:Pc:=((qN (V 3) (.li 0)),false)::p0
 let p2:Pc:=((uE (W 1 0) (.li 1)),true)::p1
 let p3:Pc:=((uE (W 1 0) (.li 1)),false)::p1
 let p4:Pc:=((uE (W 1 0) (.li 2)),true)::p3
 let p5:Pc:=((V 7),true)::p4
 let p6:Pc:=((V 7),false)::p4
 let p7:Pc:=((.not (W 9 5)),false)::p6
 let p8:Pc:=((.or (.not (W 9 5)) (V 10)),true)::p6
 let p9:Pc:=((V 10),false)::p6
 let p10:Pc:=((W 9 5),true)::p9
 let p11:Pc:=((uE (W 1 0) (.li 2)),false)::p3
 let p12:Pc:=((uE (W 1 0) (.li 3)),true)::p11
 let p13:Pc:=((uE (W 1 0) (.li 3)),false)::p11
 let p14:Pc:=((uE (W 1 0) (.li 4)),true)::p13
 let p15:Pc:=((uE (W 1 0) (.li 4)),false)::p13
 let p16:Pc:=((uE (W 1 0) (.li 5)),true)::p15
 let p17:Pc:=((uE (W 1 0) (.li 5)),false)::p15
 let p18:Pc:=((uE (W 1 0) (.li 6)),true)::p17
 let p19:Pc:=((W 23 1),false)::p18
 let p20:Pc:=((W 23 1),true)::p18
 let p21:Pc:=((qN (W 26 1) (.li 0)),false)::p20
 let p22:Pc:=((uE (W 1 0) (.li 6)),false)::p17
 let p23:Pc:=((uE (W 1 0) (.li 10)),true)::p22
 let p24:Pc:=((.var 30 [0,15]),false)::p23
 let p25:Pc:=((W 30 1),true)::p24
 let p26:Pc:=((.and (W 30 1) (.not (.var 30 [0,15]))),false)::p23
 let p27:Pc:=((uE (W 1 0) (.li 10)),false)::p22
 let p28:Pc:=((.and (uE (W 1 0) (.li 2)) (V 7)),false)::p3
 let p29:Pc:=((.and (uE (W 1 0) (.li 2)) (.or (.not (W 9 5)) (V 10))),false)::p28
 let p30:Pc:=((uE (W 1 0) (.li 2)),true)::p29
 let p31:Pc:=((uE (W 1 0) (.li 2)),false)::p29
 let p32:Pc:=((uE (W 1 0) (.li 3)),false)::p31
 let p33:Pc:=((uE (W 1 0) (.li 4)),true)::p32
 let p34:Pc:=((uE (W 1 0) (.li 4)),false)::p32
 let p35:Pc:=((uE (W 1 0) (.li 5)),false)::p34
 let p36:Pc:=((.and (uE (W 1 0) (.li 6)) (.not (W 23 1))),false)::p35
 let p37:Pc:=((.and (uE (W 1 0) (.li 6)) (qN (W 26 1) (.li 0))),false)::p36
 let p38:Pc:=((uE (W 1 0) (.li 6)),true)::p37
 let p39:Pc:=((uE (W 1 0) (.li 6)),false)::p37
 let p40:Pc:=((.and (uE (W 1 0) (.li 10)) (.and (W 30 1) (.not (.var 30 [0,15])))),false)::p39
 let p41:Pc:=((uE (W 1 0) (.li 10)),true)::p40
 ⟨[((qN (V 2) (.li 0)),(.eG [(.agg [(.slc [] false)]),(.agg [(zU (.li 0)),(zU (.li 0)),(zF (.lf 0)),(zS (.ls [])),(zI (.li 0)),(zB (.lb false)),(zB (.lb false)),(zU (.li 0)),(zU (.li 0)),(zF (.lf 0)),(zS (.ls [])),(zI (.li 0)),(zU (.li 0)),(zF (.lf 0)),(zS (.ls [])),(zI (.li 0)),(zU (.li 0)),(zF (.lf 0)),(zS (.ls [])),(zI (.li 0)),(zB (.lb false)),(zB (.lb false)),(zB (.lb false)),(.slc [] false),(zU (.li 0)),(zS (.ls []))]),(zI (V 2))])),((qN (V 3) (.li 0)),(.eG [(.agg [(.slc [] false)]),(.agg [(zU (.li 0)),(zU (.li 0)),(zF (.lf 0)),(zS (.ls [])),(zI (.li 0)),(zB (.lb false)),(zB (.lb false)),(zU (.li 0)),(zU (.li 0)),(zF (.lf 0)),(zS (.ls [])),(zI (.li 0)),(zU (.li 0)),(zF (.lf 0)),(zS (.ls [])),(zI (.li 0)),(zU (.li 0)),(zF (.lf 0)),(zS (.ls [])),(zI (.li 0)),(zB (.lb false)),(zB (.lb false)),(zB (.lb false)),(.slc [] false),(zU (.li 0)),(zS (.ls []))]),(zI (V 3))])),((uE (W 1 0) (.li 1)),(.eG [(.agg [(zL (W 4 0))]),(.agg [(zU (.li 1)),(zU (W 5 1)),(zF (W 5 2)),(zS (W 5 3)),(zI (W 5 4)),(zB (.lb false)),(zB (.lb false)),(zU (.li 0)),(zU (.li 0)),(zF (.lf 0)),(zS (.ls [])),(zI (.li 0)),(zU (.li 0)),(zF (.lf 0)),(zS (.ls [])),(zI (.li 0)),(zU (.li 0)),(zF (.lf 0)),(zS (.ls [])),(zI (.li 0)),(zB (.lb false)),(zB (.lb false)),(zB (.lb false)),(.slc [] false),(zU (.li 0)),(zS (.ls []))]),(zI (.li 0))])),((.and (uE (W 1 0) (.li 2)) (V 7)),(.eG [(.agg [(zL (W 4 0))]),(.agg (cV 8 gJ.fC)),(zI (.li 0))])),((.and (uE (W 1 0) (.li 2)) (.or (.not (W 9 5)) (V 10))),(.eG [(.agg [(zL (W 4 0))]),(.agg (cV 11 gJ.fC)),(zI (.li 0))])),((uE (W 1 0) (.li 2)),(.eG [(.agg [(zL (V 38))]),(.agg (cV 13 gJ.fC)),(zI (.li 0))])),((uE (W 1 0) (.li 3)),(.eG [(.agg [(zL (W 4 0))]),(.agg (cV 15 gJ.fC)),(zI (.li 0))])),((uE (W 1 0) (.li 4)),(.eG [(.agg [(zL (V 39))]),(.agg (cV 17 gJ.fC)),(zI (.li 0))])),((uE (W 1 0) (.li 5)),(.eG [(.agg [(zL (W 4 0))]),(.agg [(zU (.li 1)),(zU (.li 0)),(zF (.lf 0)),(zS (.ls [])),(zI (.li 0)),(zB (.lb false)),(zB (W 19 1)),(zU (.var 19 [0,0])),(zU (.var 19 [0,1])),(zF (.var 19 [0,2])),(zS (.var 19 [0,3])),(zI (.var 19 [0,4])),(zU (.var 19 [0,5])),(zF (.var 19 [0,6])),(zS (.var 19 [0,7])),(zI (.var 19 [0,8])),(zU (.var 19 [0,9])),(zF (.var 19 [0,10])),(zS (.var 19 [0,11])),(zI (.var 19 [0,12])),(zB (.var 19 [0,13])),(zB (.var 19 [0,14])),(zB (.var 19 [0,15])),(.slc [] false),(zU (.li 0)),(zS (.ls []))]),(zI (.li 0))])),((.and (uE (W 1 0) (.li 6)) (.not (W 23 1))),(.eG [(.agg [(zL (W 4 0))]),(.agg (cV 24 gJ.fC)),(zI (.li 0))])),((.and (uE (W 1 0) (.li 6)) (qN (W 26 1) (.li 0))),(.eG [(.agg [(zL (W 4 0))]),(.agg [(zU (.li 3)),(zU (.li 0)),(zF (.lf 0)),(zS (.ls [])),(zI (.li 0)),(zB (.lb false)),(zB (.lb false)),(zU (.li 0)),(zU (.li 0)),(zF (.lf 0)),(zS (.ls [])),(zI (.li 0)),(zU (.li 0)),(zF (.lf 0)),(zS (.ls [])),(zI (.li 0)),(zU (.li 0)),(zF (.lf 0)),(zS (.ls [])),(zI (.li 0)),(zB (.lb false)),(zB (.lb false)),(zB (.lb false)),(.slc [] false),(zU (.li 2)),(zS (.ls [116,111,111,32,109,97,110,121]))]),(zI (.li 0))])),((uE (W 1 0) (.li 6)),(.eG [(.agg [(zL (V 40))]),(.agg (cV 28 gJ.fC)),(zI (.li 0))])),((.and (uE (W 1 0) (.li 10)) (.and (W 30 1) (.not (.var 30 [0,15])))),(.eG [(.agg [(zL (W 4 0))]),(.agg (cV 31 gJ.fC)),(zI (.li 0))])),((uE (W 1 0) (.li 10)),(.eG [(.agg [(zL (V 41))]),(.agg (cV 35 gJ.fC)),(zI (.li 0))])),((.lb true),(.eG [(.agg [(zL (W 4 0))]),(.agg [(zU (.li 1)),(zU (.li 0)),(zF (.lf 0)),(zS (.ls [])),(zI (.li 0)),(zB (.lb false)),(zB (.lb false)),(zU (.li 0)),(zU (.li 0)),(zF (.lf 0)),(zS (.ls [])),(zI (.li 0)),(zU (.li 0)),(zF (.lf 0)),(zS (.ls [])),(zI (.li 0)),(zU (.li 0)),(zF (.lf 0)),(zS (.ls [])),(zI (.li 0)),(zB (.lb false)),(zB (.lb false)),(zB (.lb false)),(zL (W 37 0)),(zU (.li 0)),(zS (.ls []))]),(zI (.li 0))]))],
 [([],(.call 25 [(.agg [(zL (W 0 0))])] (zI (V 2)))),
 (p0,(.call 45 [(.agg [(zL (W 0 0))]),(.agg (cV 1 iI.fC))] (zI (V 3)))),
 (p1,(.JU 46 [(.agg [(zL (W 0 0))])] (.agg [(zL (W 4 0))]) [0] 18 false)),
 (p1,(.tm (qM (.li 0) (W 1 1)))),
 (p1,(.tm (qL (W 1 1) (.rlen (W 4 0))))),
 (p2,(.rd (true,4) (W 4 0) (W 1 1) 1 (.agg (cW 5 1 dJ.fC)))),
 (p4,(.rd (true,4) (W 4 0) (W 1 1) 1 (.agg (cW 6 1 dJ.fC)))),
 (p4,(.call 29 [(.agg (cW 1 20 dJ.fC)),(.agg (cW 6 1 dJ.fC))] (zB (V 7)))),
 (p5,(.call 85 [(zB (.lb true))] (.agg (cV 8 gJ.fC)))),
 (p6,(.rd (false,1) (W 4 0) (W 1 1) 5 (zB (W 9 5)))),
 (p7,(.call 32 [(.agg [(zL (W 0 0))]),(zI (W 1 1)),(.agg (cW 1 20 dJ.fC))] (zB (V 10)))),
 (p8,(.call 85 [(zB (.lb false))] (.agg (cV 11 gJ.fC)))),
 (p10,(.st (W 4 0) (W 1 1) 1 [(zU (W 1 20)),(zF (W 1 21)),(zS (W 1 22)),(zI (W 1 23))] (V 12))),
 (p10,(.call 85 [(zB (.lb true))] (.agg (cV 13 gJ.fC)))),
 (p12,(.rd (false,1) (W 4 0) (W 1 1) 5 (zB (W 14 5)))),
 (p12,(.call 85 [(zB (W 14 5))] (.agg (cV 15 gJ.fC)))),
 (p14,(.st (W 4 0) (W 1 1) 5 [(zB (.lb false))] (V 16))),
 (p14,(.call 85 [(zB (.lb true))] (.agg (cV 17 gJ.fC)))),
 (p16,(.rd (false,1) (W 4 0) (W 1 1) 6 (zL (W 18 6)))),
 (p16,(.call 37 [(zL (W 18 6)),(.agg [(zS (W 1 2)),(zI (W 1 3))])] (.eG [(.agg (gX 19 [0] 0 dI.fC)),(zB (W 19 1)),(zI (W 19 2))]))),
 (p18,(.rd (false,1) (W 4 0) (W 1 1) 6 (zL (W 20 6)))),
 (p18,(.call 37 [(zL (W 20 6)),(.agg [(zS (W 1 2)),(zI (W 1 3))])] (.eG [(.agg (gX 21 [0] 0 dI.fC)),(zB (W 21 1)),(zI (W 21 2))]))),
 (p18,(.rd (false,1) (W 4 0) (W 1 1) 5 (zB (W 22 5)))),
 (p18,(.call 21 [(zB (W 22 5)),(.agg (cW 1 4 dI.fC)),(zB (W 21 1)),(.agg (gX 21 [0] 0 dI.fC))] (.eG [(.agg (gX 23 [0] 0 dI.fC)),(zB (W 23 1)),(zI (W 23 2))]))),
 (p19,(.call 85 [(zB (.lb false))] (.agg (cV 24 gJ.fC)))),
 (p20,(.rd (false,1) (W 4 0) (W 1 1) 6 (zL (W 25 6)))),
 (p20,(.call 86 [(zL (W 25 6)),(.agg [(zS (W 1 2)),(zI (W 1 3))]),(.agg (gX 23 [0] 0 dI.fC))] (.eG [(zL (W 26 0)),(zI (W 26 1))]))),
 (p21,(.st (W 4 0) (W 1 1) 6 [(zL (W 26 0))] (V 27))),
 (p21,(.call 85 [(zB (.lb true))] (.agg (cV 28 gJ.fC)))),
 (p23,(.rd (false,1) (W 4 0) (W 1 1) 6 (zL (W 29 6)))),
 (p23,(.call 37 [(zL (W 29 6)),(.agg [(zS (W 1 2)),(zI (W 1 3))])] (.eG [(.agg (gX 30 [0] 0 dI.fC)),(zB (W 30 1)),(zI (W 30 2))]))),
 (p25,(.call 85 [(zB (.lb false))] (.agg (cV 31 gJ.fC)))),
 (p26,(.rd (false,1) (W 4 0) (W 1 1) 6 (zL (W 32 6)))),
 (p26,(.call 87 [(zL (W 32 6)),(.agg [(zS (W 1 2)),(zI (W 1 3))])] (.eG [(zL (W 33 0)),(zI (W 33 1))]))),
 (p26,(.st (W 4 0) (W 1 1) 6 [(zL (W 33 0))] (V 34))),
 (p26,(.call 85 [(zB (.lb true))] (.agg (cV 35 gJ.fC)))),
 (p27,(.rd (false,1) (W 4 0) (W 1 1) 6 (zL (W 36 6)))),
 (p27,(.call 40 [(zL (W 36 6))] (.eG [(zL (W 37 0)),(zI (W 37 1))]))),
 (p30,(.sub 18 (V 12) none (some (.rlen (W 4 0))) (V 38))),
 (p33,(.sub 18 (V 16) none (some (.rlen (W 4 0))) (V 39))),
 (p38,(.sub 18 (V 27) none (some (.rlen (W 4 0))) (V 40))),
 (p41,(.sub 18 (V 34) none (some (.rlen (W 4 0))) (V 41)))],[]⟩
def H18 : LH:=.mk [] (.li 0) [] [([],(qE (.rlen (V 12)) (.rlen (W 4 0)))),([],(qE (.rlen (V 16)) (.rlen (W 4 0)))),([],(qE (.rlen (V 27)) (.rlen (W 4 0)))),([],(qE (.rlen (V 34)) (.rlen (W 4 0))))] 0 [] []
theorem e18 : jU Tryz.prog gu gB (mdW [46] rJ) (rG kA 18 [2,3,4,5,6,7,8,9,10,11,15,23,39,42,46,50,54,58,62,66] []) 3 200 18 [.agg (cV 0 dK.fC),.agg (cV 1 iI.fC)] 2=some R18:=by kernel_rfl
theorem Bv (x0:dK)(x1:iI):CT Tryz.prog sT 18 [dK.av x0,iI.av x1] (fH (jJ x0 x1)):=
 let v2:Int:=jO x0
 let v3:Int:=jh x0 x1
 let v4:dK:=yG x0
 let v5:dM:=v4.Objects.getD (x1.Object:Int).toNat default
 let v6:dM:=v4.Objects.getD (x1.Object:Int).toNat default
 let v7:Bool:=fB x1.Value v6.eY
 let v8:gJ:=dX true
 let v9:dM:=v4.Objects.getD (x1.Object:Int).toNat default
 let v10:Bool:=iH x0 x1.Object x1.Value
 let v11:gJ:=dX false
 let v12:List dM:=v4.Objects.set (x1.Object:Int).toNat (dM.mk (v4.Objects.getD (x1.Object:Int).toNat default).Kind x1.Value (v4.Objects.getD (x1.Object:Int).toNat default).Ext (v4.Objects.getD (x1.Object:Int).toNat default).Props (v4.Objects.getD (x1.Object:Int).toNat default).Target (v4.Objects.getD (x1.Object:Int).toNat default).Handler (v4.Objects.getD (x1.Object:Int).toNat default).Text (v4.Objects.getD (x1.Object:Int).toNat default).Calls (v4.Objects.getD (x1.Object:Int).toNat default).Makes)
 let v13:gJ:=dX true
 let v14:dM:=v4.Objects.getD (x1.Object:Int).toNat default
 let v15:gJ:=dX v14.Ext
 let v16:List dM:=v4.Objects.set (x1.Object:Int).toNat (dM.mk (v4.Objects.getD (x1.Object:Int).toNat default).Kind (v4.Objects.getD (x1.Object:Int).toNat default).eY false (v4.Objects.getD (x1.Object:Int).toNat default).Props (v4.Objects.getD (x1.Object:Int).toNat default).Target (v4.Objects.getD (x1.Object:Int).toNat default).Handler (v4.Objects.getD (x1.Object:Int).toNat default).Text (v4.Objects.getD (x1.Object:Int).toNat default).Calls (v4.Objects.getD (x1.Object:Int).toNat default).Makes)
 let v17:gJ:=dX true
 let v18:dM:=v4.Objects.getD (x1.Object:Int).toNat default
 let v19:dI×Bool×Int:=fA v18.Props x1.Key
 let v20:dM:=v4.Objects.getD (x1.Object:Int).toNat default
 let v21:dI×Bool×Int:=fA v20.Props x1.Key
 let v22:dM:=v4.Objects.getD (x1.Object:Int).toNat default
 let v23:dI×Bool×Int:=fG v22.Ext x1.dR v21.2.1 v21.1
 let v24:gJ:=dX false
 let v25:dM:=v4.Objects.getD (x1.Object:Int).toNat default
 let v26:List dL×Int:=jY v25.Props x1.Key v23.1
 let v27:List dM:=v4.Objects.set (x1.Object:Int).toNat (dM.mk (v4.Objects.getD (x1.Object:Int).toNat default).Kind (v4.Objects.getD (x1.Object:Int).toNat default).eY (v4.Objects.getD (x1.Object:Int).toNat default).Ext v26.1 (v4.Objects.getD (x1.Object:Int).toNat default).Target (v4.Objects.getD (x1.Object:Int).toNat default).Handler (v4.Objects.getD (x1.Object:Int).toNat default).Text (v4.Objects.getD (x1.Object:Int).toNat default).Calls (v4.Objects.getD (x1.Object:Int).toNat default).Makes)
 let v28:gJ:=dX true
 let v29:dM:=v4.Objects.getD (x1.Object:Int).toNat default
 let v30:dI×Bool×Int:=fA v29.Props x1.Key
 let v31:gJ:=dX false
 let v32:dM:=v4.Objects.getD (x1.Object:Int).toNat default
 let v33:List dL×Int:=rC v32.Props x1.Key
 let v34:List dM:=v4.Objects.set (x1.Object:Int).toNat (dM.mk (v4.Objects.getD (x1.Object:Int).toNat default).Kind (v4.Objects.getD (x1.Object:Int).toNat default).eY (v4.Objects.getD (x1.Object:Int).toNat default).Ext v33.1 (v4.Objects.getD (x1.Object:Int).toNat default).Target (v4.Objects.getD (x1.Object:Int).toNat default).Handler (v4.Objects.getD (x1.Object:Int).toNat default).Text (v4.Objects.getD (x1.Object:Int).toNat default).Calls (v4.Objects.getD (x1.Object:Int).toNat default).Makes)
 let v35:gJ:=dX true
 let v36:dM:=v4.Objects.getD (x1.Object:Int).toNat default
 let v37:List dH×Int:=pJ v36.Props
 let v38:List dM:=(v12.drop (0)).take (((iM dM.enc v4.Objects):Int).toNat-0)
 let v39:List dM:=(v16.drop (0)).take (((iM dM.enc v4.Objects):Int).toNat-0)
 let v40:List dM:=(v27.drop (0)).take (((iM dM.enc v4.Objects):Int).toNat-0)
 let v41:List dM:=(v34.drop (0)).take (((iM dM.enc v4.Objects):Int).toNat-0)
 vS jR dU dV e18 H18 (by kernel_rfl) [dK.av x0,iI.av x1,eI v2,eI v3,dK.av v4,dM.av v5,dM.av v6,eB v7,gJ.av v8,dM.av v9,eB v10,gJ.av v11,eL dM.enc v12,gJ.av v13,dM.av v14,gJ.av v15,eL dM.enc v16,gJ.av v17,dM.av v18,f_ v19,dM.av v20,f_ v21,dM.av v22,f_ v23,gJ.av v24,dM.av v25,kF v26,eL dM.enc v27,gJ.av v28,dM.av v29,f_ v30,gJ.av v31,dM.av v32,kF v33,eL dM.enc v34,gJ.av v35,dM.av v36,nG v37,eL dM.enc v38,eL dM.enc v39,eL dM.enc v40,eL dM.enc v41] (xc (nO.2 (Yk))<|xc (nO.2 (Yk))<|xc (nO.2 (Yk))<|xc (nO.2 (Yk))<|xn)
  (wC (J8 x0) <|
  wC (Nz x0 x1) <|
  wO (UY x0) <|
  wT <|
  wT <|
  UD rfl <|
  UD rfl <|
  wC (pU x1.Value v6.eY) <|
  wC (kP true) <|
  UD rfl <|
  wCp (by intro h;exact Lm x0 x1.Object x1.Value (uF.1 (h.at 5 rfl)) (ajY (h.at 2 rfl) (h.at 4 rfl))) <|
  wC (kP false) <|
  wSt (f:=dM.enc) (dM.mk (v4.Objects.getD (x1.Object:Int).toNat default).Kind x1.Value (v4.Objects.getD (x1.Object:Int).toNat default).Ext (v4.Objects.getD (x1.Object:Int).toNat default).Props (v4.Objects.getD (x1.Object:Int).toNat default).Target (v4.Objects.getD (x1.Object:Int).toNat default).Handler (v4.Objects.getD (x1.Object:Int).toNat default).Text (v4.Objects.getD (x1.Object:Int).toNat default).Calls (v4.Objects.getD (x1.Object:Int).toNat default).Makes) rfl <|
  wC (kP true) <|
  UD rfl <|
  wC (kP v14.Ext) <|
  wSt (f:=dM.enc) (dM.mk (v4.Objects.getD (x1.Object:Int).toNat default).Kind (v4.Objects.getD (x1.Object:Int).toNat default).eY false (v4.Objects.getD (x1.Object:Int).toNat default).Props (v4.Objects.getD (x1.Object:Int).toNat default).Target (v4.Objects.getD (x1.Object:Int).toNat default).Handler (v4.Objects.getD (x1.Object:Int).toNat default).Text (v4.Objects.getD (x1.Object:Int).toNat default).Calls (v4.Objects.getD (x1.Object:Int).toNat default).Makes) rfl <|
  wC (kP true) <|
  UD rfl <|
  wC (yX v18.Props x1.Key) <|
  UD rfl <|
  wC (yX v20.Props x1.Key) <|
  UD rfl <|
  wC (U0 v22.Ext x1.dR v21.2.1 v21.1) <|
  wC (kP false) <|
  UD rfl <|
  wC (Yq v25.Props x1.Key v23.1) <|
  wSt (f:=dM.enc) (dM.mk (v4.Objects.getD (x1.Object:Int).toNat default).Kind (v4.Objects.getD (x1.Object:Int).toNat default).eY (v4.Objects.getD (x1.Object:Int).toNat default).Ext v26.1 (v4.Objects.getD (x1.Object:Int).toNat default).Target (v4.Objects.getD (x1.Object:Int).toNat default).Handler (v4.Objects.getD (x1.Object:Int).toNat default).Text (v4.Objects.getD (x1.Object:Int).toNat default).Calls (v4.Objects.getD (x1.Object:Int).toNat default).Makes) rfl <|
  wC (kP true) <|
  UD rfl <|
  wC (yX v29.Props x1.Key) <|
  wC (kP false) <|
  UD rfl <|
  wC (U1 v32.Props x1.Key) <|
  wSt (f:=dM.enc) (dM.mk (v4.Objects.getD (x1.Object:Int).toNat default).Kind (v4.Objects.getD (x1.Object:Int).toNat default).eY (v4.Objects.getD (x1.Object:Int).toNat default).Ext v33.1 (v4.Objects.getD (x1.Object:Int).toNat default).Target (v4.Objects.getD (x1.Object:Int).toNat default).Handler (v4.Objects.getD (x1.Object:Int).toNat default).Text (v4.Objects.getD (x1.Object:Int).toNat default).Calls (v4.Objects.getD (x1.Object:Int).toNat default).Makes) rfl <|
  wC (kP true) <|
  UD rfl <|
  wC (J9 v36.Props) <|
  TW rfl <|
  TW rfl <|
  TW rfl <|
  TW rfl <|
  wn)
  ln
  (gI fH rfl rfl (gI fH rfl rfl (gI fH rfl rfl (gI fH rfl rfl (gI fH rfl rfl (gI fH rfl rfl (gI fH rfl rfl (gI fH rfl rfl (gI fH rfl rfl (gI fH rfl rfl (gI fH rfl rfl (gI fH rfl rfl (gI fH rfl rfl (gI fH rfl rfl (jQ rfl)))))))))))))))
def R19 : iL:=
 ⟨[((qN (W 2 2) (.li 0)),(.eG [(.agg [(zL (W 0 0))]),(.agg [(zU (.li 0)),(zU (.li 0)),(zF (.lf 0)),(zS (.ls [])),(zI (.li 0)),(zB (.lb false)),(zB (.lb false)),(zU (.li 0)),(zU (.li 0)),(zF (.lf 0)),(zS (.ls [])),(zI (.li 0)),(zU (.li 0)),(zF (.lf 0)),(zS (.ls [])),(zI (.li 0)),(zU (.li 0)),(zF (.lf 0)),(zS (.ls [])),(zI (.li 0)),(zB (.lb false)),(zB (.lb false)),(zB (.lb false)),(.slc [] false),(zU (.li 0)),(zS (.ls []))])])),((.lb true),(.eG [(.agg [(zL (.var 2 [0,0]))]),(.agg (gX 2 [1] 0 gJ.fC))]))],
 [([],(.call 18 [(.agg [(zL (W 0 0))]),(.agg (cV 1 iI.fC))] (.eG [(.agg [(zL (.var 2 [0,0]))]),(.agg (gX 2 [1] 0 gJ.fC)),(zI (W 2 2))])))],[]⟩
theorem e19 : jU Tryz.prog gu gB rJ (rG kA 19 [] []) 3 200 19 [.agg (cV 0 dK.fC),.agg (cV 1 iI.fC)] 2=some R19:=by kernel_rfl
theorem Dq (x0:dK)(x1:iI):CT Tryz.prog sT 19 [dK.av x0,iI.av x1] (vT (mW x0 x1)):=
 let v2:dK×gJ×Int:=jJ x0 x1
 vS jR dU dV e19 zn (by kernel_rfl) [dK.av x0,iI.av x1,fH v2] xn
  (wC (Bv x0 x1)<|wn)
  ln
  (gI vT rfl rfl (jQ rfl))
def R22 : iL:=
 let p0:Pc:=((uN (W 0 0) (W 1 0)),false)::[]
 let p1:Pc:=((uN (.bin .and kU (W 0 0) (.li 1)) (.li 0)),true)::p0
 let p2:Pc:=((.and (uN (.bin .and kU (W 0 0) (.li 1)) (.li 0)) (.not (V 2))),false)::p0
 let p3:Pc:=((uN (.bin .and kU (W 0 0) (.li 4)) (.li 0)),true)::p2
 let p4:Pc:=((.and (uN (.bin .and kU (W 0 0) (.li 4)) (.li 0)) (.not (V 3))),false)::p2
 let p5:Pc:=((uN (.bin .and kU (W 0 0) (.li 8)) (.li 0)),true)::p4
 ⟨[((.or (uN (W 0 0) (W 1 0)) (.or (.and (uN (.bin .and kU (W 0 0) (.li 1)) (.li 0)) (.not (V 2))) (.or (.and (uN (.bin .and kU (W 0 0) (.li 4)) (.li 0)) (.not (V 3))) (.or (.and (uN (.bin .and kU (W 0 0) (.li 8)) (.li 0)) (.not (V 4))) (.or (.and (uN (.bin .and kU (W 0 0) (.li 2)) (.li 0)) (.not (.bin .eql .bool (W 0 13) (W 1 13)))) (.or (.and (uN (.bin .and kU (W 0 0) (.li 16)) (.li 0)) (.not (.bin .eql .bool (W 0 14) (W 1 14)))) (.and (uN (.bin .and kU (W 0 0) (.li 32)) (.li 0)) (.not (.bin .eql .bool (W 0 15) (W 1 15)))))))))),(zB (.lb false))),((.lb true),(zB (.lb true)))],
 [(p1,(.call 29 [(.agg (cW 0 1 dJ.fC)),(.agg (cW 1 1 dJ.fC))] (zB (V 2)))),
 (p3,(.call 29 [(.agg (cW 0 5 dJ.fC)),(.agg (cW 1 5 dJ.fC))] (zB (V 3)))),
 (p5,(.call 29 [(.agg (cW 0 9 dJ.fC)),(.agg (cW 1 9 dJ.fC))] (zB (V 4))))],[]⟩
theorem e22 : jU Tryz.prog gu gB rJ (rG kA 22 [] []) 3 200 22 [.agg (cV 0 dI.fC),.agg (cV 1 dI.fC)] 2=some R22:=by kernel_rfl
theorem Yr (x0:dI)(x1:dI):CT Tryz.prog sT 22 [dI.av x0,dI.av x1] (eB (OE x0 x1)):=
 let v2:Bool:=fB x0.Value x1.Value
 let v3:Bool:=fB x0.Get x1.Get
 let v4:Bool:=fB x0.Set x1.Set
 vS jR dU dV e22 zn (by kernel_rfl) [dI.av x0,dI.av x1,eB v2,eB v3,eB v4] xn
  (wC (pU x0.Value x1.Value) <|
  wC (pU x0.Get x1.Get) <|
  wC (pU x0.Set x1.Set) <|
  wn)
  ln
  (gI (fun r=>.p (.bool r)) rfl rfl (jQ rfl))
def R17 : iL:=
 let p0:Pc:=((.and (uE (.var 2 [1,0]) (.li 1)) (.var 2 [1,6])),true)::[]
 ⟨[((.lb true),(zB (.and (.and (.and (.and (uE (.var 2 [1,0]) (.li 1)) (.var 2 [1,6])) (V 7)) (uE (.var 5 [1,0]) (.li 1))) (.not (.var 5 [1,6])))))],
 [([],(.call 43 [] (.agg [(zL (W 0 0))]))),
 ([],(.call 44 [(zS (.ls [97]))] (.agg [(zS (W 1 0)),(zI (W 1 1))]))),
 ([],(.call 19 [(.agg [(zL (W 0 0))]),(.agg [(zU (.li 5)),(zI (.li 0)),(zS (W 1 0)),(zI (W 1 1)),(zU (.li 0)),(zU (.li 0)),(zF (.lf 0)),(zS (.ls [])),(zI (.li 0)),(zU (.li 0)),(zF (.lf 0)),(zS (.ls [])),(zI (.li 0)),(zU (.li 0)),(zF (.lf 0)),(zS (.ls [])),(zI (.li 0)),(zB (.lb false)),(zB (.lb false)),(zB (.lb false)),(zU (.li 0)),(zF (.lf 0)),(zS (.ls [])),(zI (.li 0)),(zU (.li 0)),(zF (.lf 0)),(zS (.ls [])),(zI (.li 0)),(.slc [] false)])] (.eG [(.agg [(zL (.var 2 [0,0]))]),(.agg (gX 2 [1] 0 gJ.fC))]))),
 ([],(.call 43 [] (.agg [(zL (W 3 0))]))),
 ([],(.call 44 [(zS (.ls [97]))] (.agg [(zS (W 4 0)),(zI (W 4 1))]))),
 ([],(.call 19 [(.agg [(zL (W 3 0))]),(.agg [(zU (.li 5)),(zI (.li 1)),(zS (W 4 0)),(zI (W 4 1)),(zU (.li 0)),(zU (.li 0)),(zF (.lf 0)),(zS (.ls [])),(zI (.li 0)),(zU (.li 0)),(zF (.lf 0)),(zS (.ls [])),(zI (.li 0)),(zU (.li 0)),(zF (.lf 0)),(zS (.ls [])),(zI (.li 0)),(zB (.lb false)),(zB (.lb false)),(zB (.lb false)),(zU (.li 0)),(zF (.lf 0)),(zS (.ls [])),(zI (.li 0)),(zU (.li 0)),(zF (.lf 0)),(zS (.ls [])),(zI (.li 0)),(.slc [] false)])] (.eG [(.agg [(zL (.var 5 [0,0]))]),(.agg (gX 5 [1] 0 gJ.fC))]))),
 (p0,(.call 20 [] (.agg (cV 6 dI.fC)))),
 (p0,(.call 22 [(.agg (gX 2 [1] 7 dI.fC)),(.agg (cV 6 dI.fC))] (zB (V 7))))],[]⟩
theorem e17 : jU Tryz.prog gu gB rJ (rG kA 17 [] []) 3 200 17 [] 0=some R17:=by kernel_rfl
theorem Uw : CT Tryz.prog sT 17 [] (eB CJ):=
 vS jR dU dV e17 zn (by kernel_rfl) [dK.av (ql ),dH.av (nV [97]),vT (mW (ql ) (iI.mk 5 0 (nV [97]) (dI.mk 0 (dJ.mk 0 0 [] 0) (dJ.mk 0 0 [] 0) (dJ.mk 0 0 [] 0) false false false) (dJ.mk 0 0 [] 0) (dJ.mk 0 0 [] 0) [])),dK.av (ql ),dH.av (nV [97]),vT (mW (ql ) (iI.mk 5 1 (nV [97]) (dI.mk 0 (dJ.mk 0 0 [] 0) (dJ.mk 0 0 [] 0) (dJ.mk 0 0 [] 0) false false false) (dJ.mk 0 0 [] 0) (dJ.mk 0 0 [] 0) [])),dI.av (ku ),eB (OE (mW (ql ) (iI.mk 5 0 (nV [97]) (dI.mk 0 (dJ.mk 0 0 [] 0) (dJ.mk 0 0 [] 0) (dJ.mk 0 0 [] 0) false false false) (dJ.mk 0 0 [] 0) (dJ.mk 0 0 [] 0) [])).2.dR (ku ))] xn
  (wC (Nw) <|
  wC (F6 [97]) <|
  wC (Dq (ql ) (iI.mk 5 0 (nV [97]) (dI.mk 0 (dJ.mk 0 0 [] 0) (dJ.mk 0 0 [] 0) (dJ.mk 0 0 [] 0) false false false) (dJ.mk 0 0 [] 0) (dJ.mk 0 0 [] 0) [])) <|
  wC (Nw) <|
  wC (F6 [97]) <|
  wC (Dq (ql ) (iI.mk 5 1 (nV [97]) (dI.mk 0 (dJ.mk 0 0 [] 0) (dJ.mk 0 0 [] 0) (dJ.mk 0 0 [] 0) false false false) (dJ.mk 0 0 [] 0) (dJ.mk 0 0 [] 0) [])) <|
  wC (Bg) <|
  wC (Yr (mW (ql ) (iI.mk 5 0 (nV [97]) (dI.mk 0 (dJ.mk 0 0 [] 0) (dJ.mk 0 0 [] 0) (dJ.mk 0 0 [] 0) false false false) (dJ.mk 0 0 [] 0) (dJ.mk 0 0 [] 0) [])).2.dR (ku )) <|
  wn)
  ln
  (jQ rfl)
def aqZ : Lo:=
 let p0:Pc:=((qG (.rlen (W 0 0)) (.li 5000)),false)::[]
 let p1:Pc:=((.and (qG (.rlen (W 0 0)) (.li 60)) (qM (.rlen (W 0 0)) (.li 4096))),false)::p0
 let p2:Pc:=((qL (V 2) (.rlen (W 0 0))),true)::p1
 let p3:Pc:=((qG (.rlen (W 3 6)) (.li 100)),true)::p2
 let p4:Pc:=((.and (qG (.rlen (W 3 6)) (.li 100)) (qL (.rlen (W 4 6)) (.li 1020))),false)::p2
 .mk [((.and (qG (.rlen (W 0 0)) (.li 60)) (qM (.rlen (W 0 0)) (.li 4096))),false),((qG (.rlen (W 0 0)) (.li 5000)),false)] 1 2 [(zB (.lb false)),(zI (.li 0))] [((.not (qL (V 2) (.rlen (W 0 0)))),1,[(zB (V 1))]),((.or (.and (qG (.rlen (W 3 6)) (.li 100)) (qL (.rlen (W 4 6)) (.li 1020))) (qG (.rlen (W 5 6)) (.li 1100))),2,[(zB (.lb true))]),((.lb true),0,[(zB (V 1)),(zI (aI (V 2) (.li 1)))])] [(p2,(.row (W 0 0) (V 2) (cV 3 dM.fC))),
 (p3,(.row (W 0 0) (V 2) (cV 4 dM.fC))),
 (p4,(.row (W 0 0) (V 2) (cV 5 dM.fC)))] [] [1,1] []
def aq0 : LH:=.mk [(qM (.li 0) (V 2))] (mI (.rlen (W 0 0)) (V 2)) [((.rlen (W 0 0)),1)] [] 0 [] []
def xB (r:Bool×Bool×Bool):Nat×List AV:=Z5 r.1 [eB r.2.1] [eB r.2.2]
theorem CY (x0:dK):∀(n:Nat) (u1:Bool) (u2:Int),u_ Tryz.prog sT aqZ aq0 [dK.av x0] n [eB u1,eI u2] (xB (xq x0 n u1 u2))
 |0,u1,u2=>l0
 |n+1,u1,u2=>
  let v3:dM:=x0.Objects.getD (u2:Int).toNat default
  let v4:dM:=x0.Objects.getD (u2:Int).toNat default
  let v5:dM:=x0.Objects.getD (u2:Int).toNat default
  PV rfl [dM.av v3,dM.av v4,dM.av v5] xn (wR rfl <|
  wR rfl <|
  wR rfl <|
  wn) ln <|
   rc xB rx<|rc xB rx<|rl (rg (CY x0 n _ _))
def R8 : iL:=
 ⟨[((.or (.and (qG (.rlen (W 0 0)) (.li 60)) (qM (.rlen (W 0 0)) (.li 4096))) (qG (.rlen (W 0 0)) (.li 5000))),(zB (.lb true))),((.not (qE (V 1) (.li 0))),(zB (V 3))),((.lb true),(zB (.lb false)))],
 [],[aqZ]⟩
def H8 : LH:=.mk [] (.li 0) [] [] 0 [aq0] []
theorem e8 : jU Tryz.prog gu gB rJ (rG kA 8 [36,38,37,39,40,41,42,43,46,48,47,49,50,51,52,53,3,2] [(0,(.mk [1] (.mk [(2,(.sc .bool)),(3,(.sc kI))] [] [] 19) [(.normal,(.mk [(2,(.sc .bool))] [] [] 19)),(.ret,(.mk [(2,(.sc .bool))] [] [] 19))]))]) 3 200 8 [.agg (cV 0 dK.fC)] 1=some R8:=by kernel_rfl
theorem Ux (x0:dK):CT Tryz.prog sT 8 [dK.av x0] (eB (CP x0)):=
 let r1:Bool×Bool×Bool:=xq x0 (x0.Objects.length+1) false 0
 vS jR dU dV e8 H8 (by kernel_rfl) [dK.av x0,eI (mZ r1.1),eB r1.2.1,eB r1.2.2] xn
  wn
  (lc2 (CY x0 (x0.Objects.length+1) false 0) <|
  ln)
  (gI (fun r=>.p (.bool r)) rfl rfl (gI (fun r=>.p (.bool r)) rfl rfl (jQ rfl)))
def R26 : iL:=
 let p0:Pc:=((qN (V 2) (.li 0)),false)::[]
 let p1:Pc:=((qH (V 1) (.rlen (W 0 0))),false)::p0
 let p2:Pc:=((qL (V 1) (.li 0)),false)::p1
 ⟨[((qN (V 2) (.li 0)),(.eG [(.agg [(zU (.li 0)),(zU (.li 0)),(zF (.lf 0)),(zS (.ls [])),(zI (.li 0)),(zB (.lb false)),(.slc [] false),(zU (.li 0)),(zF (.lf 0)),(zS (.ls [])),(zI (.li 0)),(zU (.li 0)),(zF (.lf 0)),(zS (.ls [])),(zI (.li 0)),(zS (.ls [])),(zB (.lb false)),(zB (.lb false))]),(zI (V 2))])),((.or (qL (V 1) (.li 0)) (qH (V 1) (.rlen (W 0 0)))),(.eG [(.agg [(zU (.li 0)),(zU (.li 0)),(zF (.lf 0)),(zS (.ls [])),(zI (.li 0)),(zB (.lb false)),(.slc [] false),(zU (.li 0)),(zF (.lf 0)),(zS (.ls [])),(zI (.li 0)),(zU (.li 0)),(zF (.lf 0)),(zS (.ls [])),(zI (.li 0)),(zS (.ls [])),(zB (.lb false)),(zB (.lb false))]),(zI (.li 2))])),((.lb true),(.eG [(.agg (cV 4 dM.fC)),(zI (.li 0))]))],
 [([],(.call 25 [(.agg [(zL (W 0 0))])] (zI (V 2)))),
 (p2,(.row (W 0 0) (V 1) (cV 3 dM.fC))),
 (p2,(.call 67 [(.agg (cV 3 dM.fC))] (.agg (cV 4 dM.fC))))],[]⟩
theorem e26 : jU Tryz.prog gu gB rJ (rG kA 26 [] []) 3 200 26 [.agg (cV 0 dK.fC),zI (V 1)] 2=some R26:=by kernel_rfl
theorem Uy (x0:dK)(x1:Int):CT Tryz.prog sT 26 [dK.av x0,eI x1] (qj (FX x0 x1)):=
 let v2:Int:=jO x0
 let v3:dM:=x0.Objects.getD (x1:Int).toNat default
 let v4:dM:=Eo v3
 vS jR dU dV e26 zn (by kernel_rfl) [dK.av x0,eI x1,eI v2,dM.av v3,dM.av v4] xn
  (wC (J8 x0) <|
  wR rfl <|
  wC (PX v3) <|
  wn)
  ln
  (gI qj rfl rfl (gI qj rfl rfl (jQ rfl)))
def R11 : iL:=
 let p0:Pc:=((qN (W 3 1) (.li 0)),false)::[]
 ⟨[((qN (W 3 1) (.li 0)),(.eG [(.agg [(zU (.li 0)),(zU (.li 0)),(zF (.lf 0)),(zS (.ls [])),(zI (.li 0)),(zU (.li 0)),(zF (.lf 0)),(zS (.ls [])),(zI (.li 0)),(zU (.li 0)),(zF (.lf 0)),(zS (.ls [])),(zI (.li 0)),(zB (.lb false)),(zB (.lb false)),(zB (.lb false))]),(zB (.lb false)),(zI (W 3 1))])),((.lb true),(.eG [(.agg (gX 4 [0] 0 dI.fC)),(zB (W 4 1)),(zI (W 4 2))]))],
 [([],(.call 26 [(.agg [(zL (W 0 0))]),(zI (V 1))] (.eG [(.agg (gX 3 [0] 0 dM.fC)),(zI (W 3 1))]))),
 (p0,(.call 37 [(zL (.var 3 [0,6])),(.agg [(zS (W 2 0)),(zI (W 2 1))])] (.eG [(.agg (gX 4 [0] 0 dI.fC)),(zB (W 4 1)),(zI (W 4 2))])))],[]⟩
theorem e11 : jU Tryz.prog gu gB rJ (rG kA 11 [] []) 3 200 11 [.agg (cV 0 dK.fC),zI (V 1),.agg (cV 2 dH.fC)] 3=some R11:=by kernel_rfl
theorem Qi (x0:dK)(x1:Int)(x2:dH):CT Tryz.prog sT 11 [dK.av x0,eI x1,dH.av x2] (f_ (xu x0 x1 x2)):=
 let v3:dM×Int:=FX x0 x1
 let v4:dI×Bool×Int:=fA v3.1.Props x2
 vS jR dU dV e11 zn (by kernel_rfl) [dK.av x0,eI x1,dH.av x2,qj v3,f_ v4] xn
  (wC (Uy x0 x1) <|
  wC (yX v3.1.Props x2) <|
  wn)
  ln
  (gI f_ rfl rfl (jQ rfl))
def R13 : iL:=
 let p0:Pc:=((qN (W 2 1) (.li 0)),false)::[]
 ⟨[((qN (W 2 1) (.li 0)),(.eG [(.slc [] false),(zI (W 2 1))])),((.lb true),(.eG [(zL (W 3 0)),(zI (W 3 1))]))],
 [([],(.call 26 [(.agg [(zL (W 0 0))]),(zI (V 1))] (.eG [(.agg (gX 2 [0] 0 dM.fC)),(zI (W 2 1))]))),
 (p0,(.call 40 [(zL (.var 2 [0,6]))] (.eG [(zL (W 3 0)),(zI (W 3 1))])))],[]⟩
theorem e13 : jU Tryz.prog gu gB rJ (rG kA 13 [] []) 3 200 13 [.agg (cV 0 dK.fC),zI (V 1)] 2=some R13:=by kernel_rfl
theorem EH (x0:dK)(x1:Int):CT Tryz.prog sT 13 [dK.av x0,eI x1] (nG (pR x0 x1)):=
 let v2:dM×Int:=FX x0 x1
 let v3:List dH×Int:=pJ v2.1.Props
 vS jR dU dV e13 zn (by kernel_rfl) [dK.av x0,eI x1,qj v2,nG v3] xn
  (wC (Uy x0 x1) <|
  wC (J9 v2.1.Props) <|
  wn)
  ln
  (gI nG rfl rfl (jQ rfl))
def R4 : iL:=
 let p0:Pc:=((V 3),true)::[]
 let p1:Pc:=((V 4),false)::p0
 let p2:Pc:=((qN (W 5 2) (.li 0)),false)::p1
 ⟨[((.not (V 3)),(zB (.lb false))),((V 4),(zB (V 3))),((qN (W 5 2) (.li 0)),(zB (V 3))),((.or (.or (.or (.not (.var 5 [1,5])) (uN (.var 6 [1,0]) (.li 1))) (.var 6 [1,5])) (qN (.rlen (W 10 0)) (.rlen (W 11 0)))),(zB (.lb false))),((.lb true),(zB (.or (.or (.or (qN (W 7 2) (.li 0)) (qN (W 9 2) (.li 0))) (W 7 1)) (.and (uE (.var 9 [1,0]) (.li 1)) (.not (.var 9 [1,5]))))))],
 [([],(.call 17 [] (zB (V 3)))),
 (p0,(.call 8 [(.agg [(zL (W 0 0))])] (zB (V 4)))),
 (p1,(.call 18 [(.agg [(zL (W 0 0))]),(.agg [(zU (.li 4)),(zI (V 1)),(zS (.ls [])),(zI (.li 0)),(zU (.li 0)),(zU (.li 0)),(zF (.lf 0)),(zS (.ls [])),(zI (.li 0)),(zU (.li 0)),(zF (.lf 0)),(zS (.ls [])),(zI (.li 0)),(zU (.li 0)),(zF (.lf 0)),(zS (.ls [])),(zI (.li 0)),(zB (.lb false)),(zB (.lb false)),(zB (.lb false)),(zU (.li 0)),(zF (.lf 0)),(zS (.ls [])),(zI (.li 0)),(zU (.li 0)),(zF (.lf 0)),(zS (.ls [])),(zI (.li 0)),(.slc [] false)])] (.eG [(.agg [(zL (.var 5 [0,0]))]),(.agg (gX 5 [1] 0 gJ.fC)),(zI (W 5 2))]))),
 (p2,(.call 19 [(.agg [(zL (.var 5 [0,0]))]),(.agg [(zU (.li 3)),(zI (V 1)),(zS (.ls [])),(zI (.li 0)),(zU (.li 0)),(zU (.li 0)),(zF (.lf 0)),(zS (.ls [])),(zI (.li 0)),(zU (.li 0)),(zF (.lf 0)),(zS (.ls [])),(zI (.li 0)),(zU (.li 0)),(zF (.lf 0)),(zS (.ls [])),(zI (.li 0)),(zB (.lb false)),(zB (.lb false)),(zB (.lb false)),(zU (.li 0)),(zF (.lf 0)),(zS (.ls [])),(zI (.li 0)),(zU (.li 0)),(zF (.lf 0)),(zS (.ls [])),(zI (.li 0)),(.slc [] false)])] (.eG [(.agg [(zL (.var 6 [0,0]))]),(.agg (gX 6 [1] 0 gJ.fC))]))),
 (p2,(.call 11 [(.agg [(zL (W 0 0))]),(zI (V 1)),(.agg [(zS (W 2 0)),(zI (W 2 1))])] (.eG [(.agg (gX 7 [0] 0 dI.fC)),(zB (W 7 1)),(zI (W 7 2))]))),
 (p2,(.call 20 [] (.agg (cV 8 dI.fC)))),
 (p2,(.call 18 [(.agg [(zL (.var 5 [0,0]))]),(.agg [(zU (.li 6)),(zI (V 1)),(zS (W 2 0)),(zI (W 2 1)),(zU (W 8 0)),(zU (W 8 1)),(zF (W 8 2)),(zS (W 8 3)),(zI (W 8 4)),(zU (W 8 5)),(zF (W 8 6)),(zS (W 8 7)),(zI (W 8 8)),(zU (W 8 9)),(zF (W 8 10)),(zS (W 8 11)),(zI (W 8 12)),(zB (W 8 13)),(zB (W 8 14)),(zB (W 8 15)),(zU (.li 0)),(zF (.lf 0)),(zS (.ls [])),(zI (.li 0)),(zU (.li 0)),(zF (.lf 0)),(zS (.ls [])),(zI (.li 0)),(.slc [] false)])] (.eG [(.agg [(zL (.var 9 [0,0]))]),(.agg (gX 9 [1] 0 gJ.fC)),(zI (W 9 2))]))),
 (p2,(.call 13 [(.agg [(zL (W 0 0))]),(zI (V 1))] (.eG [(zL (W 10 0)),(zI (W 10 1))]))),
 (p2,(.call 13 [(.agg [(zL (.var 5 [0,0]))]),(zI (V 1))] (.eG [(zL (W 11 0)),(zI (W 11 1))])))],[]⟩
theorem e4 : jU Tryz.prog gu gB rJ (rG kA 4 [] []) 3 200 4 [.agg (cV 0 dK.fC),zI (V 1),.agg (cV 2 dH.fC)] 3=some R4:=by kernel_rfl
theorem F8 (x0:dK)(x1:Int)(x2:dH):CT Tryz.prog sT 4 [dK.av x0,eI x1,dH.av x2] (eB (ni x0 x1 x2)):=
 let v3:Bool:=CJ
 let v4:Bool:=CP x0
 let v5:dK×gJ×Int:=jJ x0 (iI.mk 4 x1 (dH.mk [] 0) (dI.mk 0 (dJ.mk 0 0 [] 0) (dJ.mk 0 0 [] 0) (dJ.mk 0 0 [] 0) false false false) (dJ.mk 0 0 [] 0) (dJ.mk 0 0 [] 0) [])
 let v6:dK×gJ:=mW v5.1 (iI.mk 3 x1 (dH.mk [] 0) (dI.mk 0 (dJ.mk 0 0 [] 0) (dJ.mk 0 0 [] 0) (dJ.mk 0 0 [] 0) false false false) (dJ.mk 0 0 [] 0) (dJ.mk 0 0 [] 0) [])
 let v7:dI×Bool×Int:=xu x0 x1 x2
 let v8:dI:=ku
 let v9:dK×gJ×Int:=jJ v5.1 (iI.mk 6 x1 x2 v8 (dJ.mk 0 0 [] 0) (dJ.mk 0 0 [] 0) [])
 let v10:List dH×Int:=pR x0 x1
 let v11:List dH×Int:=pR v5.1 x1
 vS jR dU dV e4 zn (by kernel_rfl) [dK.av x0,eI x1,dH.av x2,eB v3,eB v4,fH v5,vT v6,f_ v7,dI.av v8,fH v9,nG v10,nG v11] xn
  (wC (Uw) <|
  wC (Ux x0) <|
  wC (Bv x0 (iI.mk 4 x1 (dH.mk [] 0) (dI.mk 0 (dJ.mk 0 0 [] 0) (dJ.mk 0 0 [] 0) (dJ.mk 0 0 [] 0) false false false) (dJ.mk 0 0 [] 0) (dJ.mk 0 0 [] 0) [])) <|
  wC (Dq v5.1 (iI.mk 3 x1 (dH.mk [] 0) (dI.mk 0 (dJ.mk 0 0 [] 0) (dJ.mk 0 0 [] 0) (dJ.mk 0 0 [] 0) false false false) (dJ.mk 0 0 [] 0) (dJ.mk 0 0 [] 0) [])) <|
  wC (Qi x0 x1 x2) <|
  wC (Bg) <|
  wC (Bv v5.1 (iI.mk 6 x1 x2 v8 (dJ.mk 0 0 [] 0) (dJ.mk 0 0 [] 0) [])) <|
  wC (EH x0 x1) <|
  wC (EH v5.1 x1) <|
  wn)
  ln
  (show _=eB (bif (!v3) then false else bif v4 then v3 else bif (iK v5.2.2 0) then v3 else bif ((((!v5.2.1.Yes)||(iK v6.2.Kind 1))||v6.2.Yes)||(iK (iM dH.enc v10.1) (iM dH.enc v11.1))) then false else ((((iK v7.2.2 0)||(iK v9.2.2 0))||v7.2.1)||((dS v9.2.1.Kind 1)&&(!v9.2.1.Yes)))) from gI (fun r=>.p (.bool r)) rfl rfl (gI (fun r=>.p (.bool r)) rfl rfl (gI (fun r=>.p (.bool r)) rfl rfl (gI (fun r=>.p (.bool r)) rfl rfl (jQ rfl)))))
theorem F9 (x0:dK)(x1:Int)(x2:dH):PC Tryz.prog 4 [dK.av x0,eI x1,dH.av x2] (eB (ni x0 x1 x2)):=(F8 x0 x1 x2 trivial).1
def R5 : iL:=
 let p0:Pc:=((V 4),true)::[]
 let p1:Pc:=((V 5),false)::p0
 let p2:Pc:=((qN (W 7 2) (.li 0)),false)::p1
 let p3:Pc:=((.and (uE (.var 7 [1,0]) (.li 1)) (.not (.bin .eql .bool (.var 7 [1,5]) (W 9 1)))),false)::p2
 let p4:Pc:=((qN (W 9 2) (.li 0)),false)::p3
 let p5:Pc:=((qN (W 6 2) (.li 0)),false)::p4
 let p6:Pc:=((qN (.rlen (.var 7 [0,0])) (.rlen (W 0 0))),false)::p5
 let p7:Pc:=((qN (W 10 2) (.li 0)),false)::p6
 let p8:Pc:=((W 9 1),true)::p7
 let p9:Pc:=((uE (.var 7 [1,0]) (.li 1)),true)::p8
 let p10:Pc:=((W 10 1),true)::p9
 let p11:Pc:=((.and (W 10 1) (V 11)),true)::p9
 let p12:Pc:=((.and (uE (.var 7 [1,0]) (.li 1)) (W 9 1)),false)::p7
 ⟨[((.not (V 4)),(zB (.lb false))),((V 5),(zB (V 4))),((qN (W 7 2) (.li 0)),(zB (V 4))),((.or (.or (qN (W 6 2) (.li 0)) (qN (W 9 2) (.li 0))) (.and (uE (.var 7 [1,0]) (.li 1)) (.not (.bin .eql .bool (.var 7 [1,5]) (W 9 1))))),(zB (.lb false))),((.or (qN (W 10 2) (.li 0)) (qN (.rlen (.var 7 [0,0])) (.rlen (W 0 0)))),(zB (.lb false))),((.and (uE (.var 7 [1,0]) (.li 1)) (W 9 1)),(zB (.and (.and (W 10 1) (V 11)) (V 12)))),((.lb true),(zB (V 13)))],
 [([],(.call 17 [] (zB (V 4)))),
 (p0,(.call 8 [(.agg [(zL (W 0 0))])] (zB (V 5)))),
 (p1,(.call 11 [(.agg [(zL (W 0 0))]),(zI (V 1)),(.agg [(zS (W 2 0)),(zI (W 2 1))])] (.eG [(.agg (gX 6 [0] 0 dI.fC)),(zB (W 6 1)),(zI (W 6 2))]))),
 (p1,(.call 18 [(.agg [(zL (W 0 0))]),(.agg [(zU (.li 6)),(zI (V 1)),(zS (W 2 0)),(zI (W 2 1)),(zU (W 3 0)),(zU (W 3 1)),(zF (W 3 2)),(zS (W 3 3)),(zI (W 3 4)),(zU (W 3 5)),(zF (W 3 6)),(zS (W 3 7)),(zI (W 3 8)),(zU (W 3 9)),(zF (W 3 10)),(zS (W 3 11)),(zI (W 3 12)),(zB (W 3 13)),(zB (W 3 14)),(zB (W 3 15)),(zU (.li 0)),(zF (.lf 0)),(zS (.ls [])),(zI (.li 0)),(zU (.li 0)),(zF (.lf 0)),(zS (.ls [])),(zI (.li 0)),(.slc [] false)])] (.eG [(.agg [(zL (.var 7 [0,0]))]),(.agg (gX 7 [1] 0 gJ.fC)),(zI (W 7 2))]))),
 (p2,(.row (W 0 0) (V 1) (cV 8 dM.fC))),
 (p2,(.call 21 [(zB (W 8 5)),(.agg (cV 3 dI.fC)),(zB (W 6 1)),(.agg (gX 6 [0] 0 dI.fC))] (.eG [(.agg (gX 9 [0] 0 dI.fC)),(zB (W 9 1)),(zI (W 9 2))]))),
 (p5,(.call 11 [(.agg [(zL (.var 7 [0,0]))]),(zI (V 1)),(.agg [(zS (W 2 0)),(zI (W 2 1))])] (.eG [(.agg (gX 10 [0] 0 dI.fC)),(zB (W 10 1)),(zI (W 10 2))]))),
 (p10,(.call 22 [(.agg (gX 10 [0] 0 dI.fC)),(.agg (gX 9 [0] 0 dI.fC))] (zB (V 11)))),
 (p11,(.call 23 [(.agg [(zL (W 0 0))]),(.agg [(zL (.var 7 [0,0]))]),(zI (V 1)),(.agg [(zS (W 2 0)),(zI (W 2 1))])] (zB (V 12)))),
 (p12,(.call 24 [(.agg [(zL (W 0 0))]),(.agg [(zL (.var 7 [0,0]))])] (zB (V 13))))],[]⟩
theorem e5 : jU Tryz.prog gu gB rJ (rG kA 5 [] []) 3 200 5 [.agg (cV 0 dK.fC),zI (V 1),.agg (cV 2 dH.fC),.agg (cV 3 dI.fC)] 4=some R5:=by kernel_rfl
def R9 : iL:=
 let p0:Pc:=((qN (W 3 1) (.li 0)),false)::[]
 let p1:Pc:=((V 4),true)::p0
 ⟨[((qN (W 3 1) (.li 0)),(.eG [(zB (.lb false)),(zI (W 3 1))])),((.not (V 4)),(.eG [(zB (.lb false)),(zI (.li 9))])),((.lb true),(.eG [(zB (V 5)),(zI (.li 0))]))],
 [([],(.call 26 [(.agg [(zL (W 0 0))]),(zI (V 1))] (.eG [(.agg (gX 3 [0] 0 dM.fC)),(zI (W 3 1))]))),
 (p0,(.call 31 [(.agg [(zL (W 0 0))]),(.agg (cV 2 dJ.fC))] (zB (V 4)))),
 (p1,(.call 32 [(.agg [(zL (W 0 0))]),(zI (V 1)),(.agg (cV 2 dJ.fC))] (zB (V 5))))],[]⟩
theorem e9 : jU Tryz.prog gu gB rJ (rG kA 9 [] []) 3 200 9 [.agg (cV 0 dK.fC),zI (V 1),.agg (cV 2 dJ.fC)] 3=some R9:=by kernel_rfl
def R6 : iL:=
 let p0:Pc:=((V 3),true)::[]
 let p1:Pc:=((V 4),false)::p0
 let p2:Pc:=((qN (W 5 2) (.li 0)),false)::p1
 let p3:Pc:=((uE (W 7 1) (W 2 0)),true)::p2
 let p4:Pc:=((.or (qN (W 6 1) (.li 0)) (qN (.rlen (.var 5 [0,0])) (.rlen (W 0 0)))),false)::p2
 let p5:Pc:=((.or (.or (qN (W 6 1) (.li 0)) (qN (.rlen (.var 5 [0,0])) (.rlen (W 0 0)))) (qN (V 9) (.li 0))),false)::p2
 let p6:Pc:=((.and (uE (W 7 1) (W 2 0)) (qE (W 8 4) (W 2 3))),false)::p5
 let p7:Pc:=((.bin .eql .bool (.var 5 [1,5]) (.or (.and (uE (W 7 1) (W 2 0)) (qE (W 8 4) (W 2 3))) (.and (W 10 5) (.not (W 6 0))))),true)::p2
 let p8:Pc:=((qN (V 9) (.li 0)),false)::p7
 let p9:Pc:=((qN (.rlen (.var 5 [0,0])) (.rlen (W 0 0))),false)::p8
 let p10:Pc:=((qN (W 6 1) (.li 0)),false)::p9
 let p11:Pc:=((.or (.not (.var 5 [1,5])) (.and (uE (W 11 1) (W 2 0)) (qE (W 11 4) (W 2 3)))),true)::p10
 let p12:Pc:=((.var 5 [1,5]),false)::p11
 ⟨[((.not (V 3)),(zB (.lb false))),((V 4),(zB (V 3))),((qN (W 5 2) (.li 0)),(zB (V 3))),((.or (.or (.or (qN (W 6 1) (.li 0)) (qN (.rlen (.var 5 [0,0])) (.rlen (W 0 0)))) (qN (V 9) (.li 0))) (.not (.bin .eql .bool (.var 5 [1,5]) (.or (.and (uE (W 7 1) (W 2 0)) (qE (W 8 4) (W 2 3))) (.and (W 10 5) (.not (W 6 0))))))),(zB (.lb false))),((.lb true),(zB (.and (.or (.not (.var 5 [1,5])) (.and (uE (W 11 1) (W 2 0)) (qE (W 11 4) (W 2 3)))) (.or (.var 5 [1,5]) (V 12)))))],
 [([],(.call 17 [] (zB (V 3)))),
 (p0,(.call 8 [(.agg [(zL (W 0 0))])] (zB (V 4)))),
 (p1,(.call 18 [(.agg [(zL (W 0 0))]),(.agg [(zU (.li 2)),(zI (V 1)),(zS (.ls [])),(zI (.li 0)),(zU (.li 0)),(zU (.li 0)),(zF (.lf 0)),(zS (.ls [])),(zI (.li 0)),(zU (.li 0)),(zF (.lf 0)),(zS (.ls [])),(zI (.li 0)),(zU (.li 0)),(zF (.lf 0)),(zS (.ls [])),(zI (.li 0)),(zB (.lb false)),(zB (.lb false)),(zB (.lb false)),(zU (W 2 0)),(zF (W 2 1)),(zS (W 2 2)),(zI (W 2 3)),(zU (.li 0)),(zF (.lf 0)),(zS (.ls [])),(zI (.li 0)),(.slc [] false)])] (.eG [(.agg [(zL (.var 5 [0,0]))]),(.agg (gX 5 [1] 0 gJ.fC)),(zI (W 5 2))]))),
 (p2,(.call 9 [(.agg [(zL (W 0 0))]),(zI (V 1)),(.agg (cV 2 dJ.fC))] (.eG [(zB (W 6 0)),(zI (W 6 1))]))),
 (p2,(.row (W 0 0) (V 1) (cV 7 dM.fC))),
 (p3,(.row (W 0 0) (V 1) (cV 8 dM.fC))),
 (p4,(.call 25 [(.agg [(zL (.var 5 [0,0]))])] (zI (V 9)))),
 (p6,(.row (W 0 0) (V 1) (cV 10 dM.fC))),
 (p10,(.row (.var 5 [0,0]) (V 1) (cV 11 dM.fC))),
 (p12,(.call 24 [(.agg [(zL (.var 5 [0,0]))]),(.agg [(zL (W 0 0))])] (zB (V 12))))],[]⟩
theorem e6 : jU Tryz.prog gu gB rJ (rG kA 6 [] []) 3 200 6 [.agg (cV 0 dK.fC),zI (V 1),.agg (cV 2 dJ.fC)] 3=some R6:=by kernel_rfl
def aq1 : Lo:=
 let p0:Pc:=((V 4),true)::[]
 let p1:Pc:=((qN (V 6) (.li 0)),false)::p0
 let p2:Pc:=((V 5),false)::p1
 let p3:Pc:=((qN (W 8 2) (.li 0)),false)::p2
 let p4:Pc:=((qN (W 7 1) (.li 0)),false)::p3
 let p5:Pc:=((qL (V 10) (.li 40)),true)::p4
 let p6:Pc:=((qL (V 10) (.rlen (V 3))),true)::p5
 let p7:Pc:=((qN (W 14 2) (.li 0)),false)::p6
 let p8:Pc:=((.and (uN (.var 14 [1,0]) (.li 1)) (uN (.var 14 [1,0]) (.li 3))),false)::p7
 let p9:Pc:=((.bin .eql .bool (V 17) (W 15 6)),true)::p8
 let p10:Pc:=((qN (V 16) (.li 0)),false)::p9
 let p11:Pc:=((.and (W 12 0) (.or (.not (W 15 0)) (.not (V 18)))),false)::p10
 let p12:Pc:=((qL (V 20) (.rlen (W 15 5))),true)::p11
 let p13:Pc:=((W 12 0),true)::p12
 .mk [((.and (W 12 0) (.or (.not (W 15 0)) (.not (V 18)))),false),((qN (V 16) (.li 0)),false),((.bin .eql .bool (V 17) (W 15 6)),true),((.and (uN (.var 14 [1,0]) (.li 1)) (uN (.var 14 [1,0]) (.li 3))),false),((qN (W 14 2) (.li 0)),false),((qL (V 10) (.rlen (V 3))),true),((qL (V 10) (.li 40)),true),((qN (W 7 1) (.li 0)),false),((qN (W 8 2) (.li 0)),false),((V 5),false),((qN (V 6) (.li 0)),false),((V 4),true)] 19 2 [(zB (V 9)),(zI (.li 0))] [((.not (qL (V 20) (.rlen (W 15 5)))),1,[(zB (V 19)),(zI (V 20))]),((.and (W 12 0) (.not (V 22))),2,[(zB (.lb false))]),((.lb true),0,[(zB (V 19)),(zI (aI (V 20) (.li 1)))])] [(p13,(.row (W 15 5) (V 20) [(zS (W 21 0)),(zI (W 21 1))])),
 (p13,(.call 28 [(zL (W 12 5)),(.agg [(zS (W 21 0)),(zI (W 21 1))])] (zB (V 22))))] [] [2,1] [(V 3)]
def atJ : Lo:=
 let p0:Pc:=((V 4),true)::[]
 let p1:Pc:=((qN (V 6) (.li 0)),false)::p0
 let p2:Pc:=((V 5),false)::p1
 let p3:Pc:=((qN (W 8 2) (.li 0)),false)::p2
 let p4:Pc:=((qN (W 7 1) (.li 0)),false)::p3
 let p5:Pc:=((qL (V 10) (.li 40)),true)::p4
 let p6:Pc:=((qL (V 10) (.rlen (V 3))),true)::p5
 let p7:Pc:=((qN (W 14 2) (.li 0)),false)::p6
 let p8:Pc:=((qN (V 16) (.li 0)),false)::p7
 let p9:Pc:=((.and (uN (.var 14 [1,0]) (.li 1)) (uN (.var 14 [1,0]) (.li 3))),false)::p7
 let p10:Pc:=((.bin .eql .bool (V 17) (W 15 6)),true)::p9
 let p11:Pc:=((qN (V 16) (.li 0)),false)::p10
 let p12:Pc:=((W 12 0),true)::p11
 let p13:Pc:=((.not (W 15 0)),false)::p12
 let p14:Pc:=((.and (W 12 0) (.or (.not (W 15 0)) (.not (V 18)))),false)::p11
 let p15:Pc:=((qE (V 19) (.li 0)),true)::p14
 let p16:Pc:=((W 12 22),false)::p15
 let p17:Pc:=((W 12 6),true)::p16
 let p18:Pc:=((.or (.or (.not (W 15 6)) (W 15 22)) (.not (.bin .eql .bool (W 15 21) (W 12 21)))),false)::p17
 let p19:Pc:=((.or (.or (.or (.not (W 15 6)) (W 15 22)) (.not (.bin .eql .bool (W 15 21) (W 12 21)))) (.not (.bin .eql .bool (V 24) (V 23)))),false)::p17
 let p20:Pc:=((.and (V 23) (.not (W 12 20))),true)::p19
 let p21:Pc:=((W 15 20),false)::p20
 let p22:Pc:=((.or (.or (.or (.or (.not (W 15 6)) (W 15 22)) (.not (.bin .eql .bool (W 15 21) (W 12 21)))) (.not (.bin .eql .bool (V 24) (V 23)))) (.and (.and (V 23) (.not (W 12 20))) (.or (W 15 20) (.not (V 25))))),false)::p17
 let p23:Pc:=((.not (V 23)),true)::p22
 .mk [((qN (W 7 1) (.li 0)),false),((qN (W 8 2) (.li 0)),false),((V 5),false),((qN (V 6) (.li 0)),false),((V 4),true)] 9 3 [(zB (.lb false)),(zI (.li 0)),(.agg [(zL (W 0 0))])] [((.not (.and (qL (V 10) (.rlen (V 3))) (qL (V 10) (.li 40)))),1,[(zB (V 9)),(.agg [(zL (W 11 0))])]),((qN (W 14 2) (.li 0)),0,[(zB (V 9)),(zI (aI (V 10) (.li 1))),(.agg [(zL (W 11 0))])]),((.or (.or (qN (V 16) (.li 0)) (.not (.bin .eql .bool (V 17) (W 15 6)))) (.and (uN (.var 14 [1,0]) (.li 1)) (uN (.var 14 [1,0]) (.li 3)))),2,[(zB (.lb false)),(.agg [(zL (W 11 0))])]),((.and (W 12 0) (.or (.not (W 15 0)) (.not (V 18)))),2,[(zB (.lb false)),(.agg [(zL (W 11 0))])]),((.not (qE (V 19) (.li 0))),2,[(zB (V 22)),(.agg [(zL (W 11 0))])]),((.and (.and (W 12 6) (.not (W 12 22))) (.or (.or (.or (.or (.or (.not (W 15 6)) (W 15 22)) (.not (.bin .eql .bool (W 15 21) (W 12 21)))) (.not (.bin .eql .bool (V 24) (V 23)))) (.and (.and (V 23) (.not (W 12 20))) (.or (W 15 20) (.not (V 25))))) (.and (.not (V 23)) (.not (V 26))))),2,[(zB (.lb false)),(.agg [(zL (W 11 0))])]),((.and (.and (W 12 6) (.not (W 12 22))) (.and (.and (.and (qE (W 13 1) (V 1)) (.and (sE (W 13 2) (W 2 0)) (qE (W 13 3) (W 2 1)))) (.var 14 [1,5])) (.or (.and (uE (W 13 0) (.li 6)) (.not (W 15 6))) (.and (uE (W 13 0) (.li 10)) (W 15 6))))),2,[(zB (.lb false)),(.agg [(zL (W 11 0))])]),((.and (W 12 6) (.not (W 12 22))),0,[(zB (V 20)),(zI (aI (V 10) (.li 1))),(.agg [(zL (.var 14 [0,0]))])]),((.and (.and (.and (qE (W 13 1) (V 1)) (.and (sE (W 13 2) (W 2 0)) (qE (W 13 3) (W 2 1)))) (.var 14 [1,5])) (.or (.and (uE (W 13 0) (.li 6)) (.not (W 15 6))) (.and (uE (W 13 0) (.li 10)) (W 15 6)))),2,[(zB (.lb false)),(.agg [(zL (W 11 0))])]),((.lb true),0,[(zB (V 20)),(zI (aI (V 10) (.li 1))),(.agg [(zL (.var 14 [0,0]))])])] [(p6,(.call 27 [(.agg [(zL (W 11 0))]),(zI (V 1)),(.agg [(zS (W 2 0)),(zI (W 2 1))])] (.agg (cV 12 zf.fC)))),
 (p6,(.row (V 3) (V 10) (cV 13 iI.fC))),
 (p6,(.call 18 [(.agg [(zL (W 11 0))]),(.agg (cV 13 iI.fC))] (.eG [(.agg [(zL (.var 14 [0,0]))]),(.agg (gX 14 [1] 0 gJ.fC)),(zI (W 14 2))]))),
 (p7,(.call 27 [(.agg [(zL (.var 14 [0,0]))]),(zI (V 1)),(.agg [(zS (W 2 0)),(zI (W 2 1))])] (.agg (cV 15 zf.fC)))),
 (p7,(.call 25 [(.agg [(zL (.var 14 [0,0]))])] (zI (V 16)))),
 (p8,(.call 28 [(zL (W 15 5)),(.agg [(zS (W 2 0)),(zI (W 2 1))])] (zB (V 17)))),
 (p13,(.call 29 [(.agg (cW 12 1 dJ.fC)),(.agg (cW 15 1 dJ.fC))] (zB (V 18)))),
 (p17,(.call 30 [(.agg (cW 12 7 dI.fC))] (zB (V 23)))),
 (p18,(.call 30 [(.agg (cW 15 7 dI.fC))] (zB (V 24)))),
 (p21,(.call 29 [(.agg (cW 15 8 dJ.fC)),(.agg (cW 12 8 dJ.fC))] (zB (V 25)))),
 (p23,(.call 22 [(.agg (cW 15 7 dI.fC)),(.agg (cW 12 7 dI.fC))] (zB (V 26))))] [aq1] [2,2] [(V 3)]
def R7 : iL:=
 let p0:Pc:=((V 4),true)::[]
 let p1:Pc:=((V 5),false)::p0
 let p2:Pc:=((qN (V 6) (.li 0)),false)::p0
 let p3:Pc:=((V 5),false)::p2
 ⟨[((.not (V 4)),(zB (.lb false))),((.or (V 5) (qN (V 6) (.li 0))),(zB (V 4))),((.or (qN (W 7 1) (.li 0)) (qN (W 8 2) (.li 0))),(zB (V 4))),((.not (qE (V 9) (.li 0))),(zB (V 12))),((.lb true),(zB (V 4)))],
 [([],(.call 17 [] (zB (V 4)))),
 (p0,(.call 8 [(.agg [(zL (W 0 0))])] (zB (V 5)))),
 (p1,(.call 25 [(.agg [(zL (W 0 0))])] (zI (V 6)))),
 (p3,(.call 26 [(.agg [(zL (W 0 0))]),(zI (V 1))] (.eG [(.agg (gX 7 [0] 0 dM.fC)),(zI (W 7 1))]))),
 (p3,(.call 18 [(.agg [(zL (W 0 0))]),(.agg [(zU (.li 5)),(zI (V 1)),(zS (W 2 0)),(zI (W 2 1)),(zU (.li 0)),(zU (.li 0)),(zF (.lf 0)),(zS (.ls [])),(zI (.li 0)),(zU (.li 0)),(zF (.lf 0)),(zS (.ls [])),(zI (.li 0)),(zU (.li 0)),(zF (.lf 0)),(zS (.ls [])),(zI (.li 0)),(zB (.lb false)),(zB (.lb false)),(zB (.lb false)),(zU (.li 0)),(zF (.lf 0)),(zS (.ls [])),(zI (.li 0)),(zU (.li 0)),(zF (.lf 0)),(zS (.ls [])),(zI (.li 0)),(.slc [] false)])] (.eG [(.agg [(zL (.var 8 [0,0]))]),(.agg (gX 8 [1] 0 gJ.fC)),(zI (W 8 2))])))],[atJ]⟩
theorem e7 : jU Tryz.prog gu gB rJ (rG kA 7 [62,63,20,8,113,114,115,117,119,120,118,121,122,116,123,221,223,222,224,227,228,231,232,233,235,236,237,234,238,240,241,242,244,245,243,246,239,247,214,207,213,212,209,211,210,208,206,205,23,202,188,201,192,200,199,195,198,197,196,194,193,191,190,189,187,182,186,185,184,183,181,178,176,177,175,174,171,167,170,169,168,166,165,162,161,160,151,150,149,148,135,137,139,138,140,141,136,142,143,22,108,104,107,106,105,103,102,101,98,95,97,96,93,94,92,15] [(0,(.mk [1,3,4,6,9] (.mk [(8,(.sc .bool)),(15,(.sc kI))] [(0,[.sl])] [] 44) [(.normal,(.mk [(8,(.sc .bool))] [(0,[.sl])] [] 44)),(.ret,(.mk [(8,(.sc .bool))] [(0,[.sl])] [] 44))])),(2,(.mk [1,3,4,6,9,15,16,17,18,19,20,21,62,63,92,93,94,95,96,97,98,101,102,103,104,105,106,107,108,113,114,115,116,117,118,119,120,121,122,123] (.mk [(8,(.sc .bool)),(22,(.sc kI))] [] [] 122) [(.normal,(.mk [(8,(.sc .bool)),(22,(.sc kI))] [] [] 122)),(.ret,(.mk [(8,(.sc .bool))] [] [] 122))]))]) 3 200 7 [.agg (cV 0 dK.fC),zI (V 1),.agg (cV 2 dH.fC),zL (V 3)] 4=some R7:=by kernel_rfl
end Go.Fw
end
section
namespace Go.Fw
open Go.Proofs
set_option maxRecDepth 100000
theorem JD : Rd Tryz.prog 27 dJ.enc dJ.wf:=
 (Ai Tryz.underlying27 (by kernel_rfl) (jB (m:=1) rfl (by kernel_rfl) (OD Tryz.underlying5) (jB (m:=1) rfl (by kernel_rfl) (ai_ Tryz.underlying25) (jB (m:=1) rfl (by kernel_rfl) (acK Tryz.underlying9) (jB (m:=1) rfl (by kernel_rfl) (OD Tryz.underlying3) (Ju)))))).to (fun x=>dJ.mk x.1 x.2.1 x.2.2.1 x.2.2.2.1) (fun _=>rfl) (fun _ h=>⟨h.1,h.2.1,h.2.2.1,h.2.2.2.1⟩)
theorem aeU : Rd Tryz.prog 29 dH.enc dH.wf:=
 (Ai Tryz.underlying29 (by kernel_rfl) (jB (m:=1) rfl (by kernel_rfl) (acK Tryz.underlying9) (jB (m:=1) rfl (by kernel_rfl) (OD Tryz.underlying3) (Ju)))).to (fun x=>dH.mk x.1 x.2.1) (fun _=>rfl) (fun _ h=>⟨h.1,h.2.1⟩)
theorem aj8 : Rd Tryz.prog 35 dI.enc dI.wf:=
 (Ai Tryz.underlying35 (by kernel_rfl) (jB (m:=1) rfl (by kernel_rfl) (OD Tryz.underlying5) (jB (m:=4) rfl (by kernel_rfl) JD (jB (m:=4) rfl (by kernel_rfl) JD (jB (m:=4) rfl (by kernel_rfl) JD (jB (m:=1) rfl (by kernel_rfl) (Jt Tryz.underlying4) (jB (m:=1) rfl (by kernel_rfl) (Jt Tryz.underlying4) (jB (m:=1) rfl (by kernel_rfl) (Jt Tryz.underlying4) (Ju))))))))).to (fun x=>dI.mk x.1 x.2.1 x.2.2.1 x.2.2.2.1 x.2.2.2.2.1 x.2.2.2.2.2.1 x.2.2.2.2.2.2.1) (fun _=>rfl) (fun _ h=>⟨h.1,h.2.1,h.2.2.1,h.2.2.2.1⟩)
theorem aj9 : Rd Tryz.prog 98 dL.enc dL.wf:=
 (Ai Tryz.underlying98 (by kernel_rfl) (jB (m:=2) rfl (by kernel_rfl) aeU (jB (m:=16) rfl (by kernel_rfl) aj8 (Ju)))).to (fun x=>dL.mk x.1 x.2.1) (fun _=>rfl) (fun _ h=>⟨h.1,h.2.1⟩)
theorem amv : Rd Tryz.prog 59 dM.enc dM.wf:=
 (Ai Tryz.underlying59 (by kernel_rfl) (jB (m:=1) rfl (by kernel_rfl) (OD Tryz.underlying5) (jB (m:=4) rfl (by kernel_rfl) JD (jB (m:=1) rfl (by kernel_rfl) (Jt Tryz.underlying4) (jB (m:=1) rfl (by kernel_rfl) (aag (m:=18) Tryz.underlying57 (by kernel_rfl) (by decide) (fun _=>rfl) aj9) (jB (m:=4) rfl (by kernel_rfl) JD (jB (m:=4) rfl (by kernel_rfl) JD (jB (m:=1) rfl (by kernel_rfl) (acK Tryz.underlying9) (jB (m:=1) rfl (by kernel_rfl) (Jt Tryz.underlying4) (jB (m:=1) rfl (by kernel_rfl) (Jt Tryz.underlying4) (Ju))))))))))).to (fun x=>dM.mk x.1 x.2.1 x.2.2.1 x.2.2.2.1 x.2.2.2.2.1 x.2.2.2.2.2.1 x.2.2.2.2.2.2.1 x.2.2.2.2.2.2.2.1 x.2.2.2.2.2.2.2.2.1) (fun _=>rfl) (fun _ h=>⟨h.1,h.2.1,h.2.2.2.1,h.2.2.2.2.1,h.2.2.2.2.2.1,h.2.2.2.2.2.2.1⟩)
theorem aj_ : Rd Tryz.prog 24 dK.enc dK.wf:=
 (Ai Tryz.underlying24 (by kernel_rfl) (jB (m:=1) rfl (by kernel_rfl) (aag (m:=18) Tryz.underlying22 (by kernel_rfl) (by decide) (fun _=>rfl) amv) (Ju))).to (fun x=>dK.mk x.1) (fun _=>rfl) (fun _ h=>⟨h.1⟩)
end Go.Fw
end
section
namespace Go.Fw
def U3 (h:dK)(o:dM)(n:Int):Bool:=
 bif (dS o.Kind 6) then tC h o n
 else bif ((((!(o7 o.Target 0))&&(!(((((dS o.Kind 5)&&dP o.Target)&&(decide ((o.Target.Ref:Int)<n)))&&eX h o.Target)&&(dS (h.Objects.getD (o.Target.Ref:Int).toNat default).Kind 6))))||(!(o7 o.Handler 0)))||((sNe o.Text [])&&(iK o.Kind 3))) then false
 else bif ((((iK o.eY.Kind 1)&&(!(dP o.eY)))||(!(eX h o.eY)))||(iK (jG o.Props) 0)) then false
 else bif (!(dS (mZ (jC h o (o.Props.length+1) false 0).1) 0)) then (jC h o (o.Props.length+1) false 0).2.2
 else bif (dS o.Kind 1) then ((!o.Calls)&&(!o.Makes))
 else bif (dS o.Kind 2) then (((!o.Calls)&&(!o.Makes))&&Bc o.Props)
 else bif (dS o.Kind 3) then (((!o.Calls)&&(!o.Makes))&&Bd o.Props o.Text)
 else bif (dS o.Kind 4) then (o.Calls&&o.Makes)
 else bif (dS o.Kind 5) then o.Calls
 else false
theorem JE {h:dK}{n:Int}:kC h n=U3 h (h.Objects.getD n.toNat default) n:=rfl
structure akb (h k:dK):Prop where
 len:h.Objects.length=k.Objects.length
 kind:∀i,(h.Objects.getD i default).Kind=(k.Objects.getD i default).Kind
 calls:∀i,(h.Objects.getD i default).Calls=(k.Objects.getD i default).Calls
 makes:∀i,(h.Objects.getD i default).Makes=(k.Objects.getD i default).Makes
theorem akc {h k:dK}(s:akb h k)(v:dJ):eX h v=eX k v:=by
 unfold eX En
 dsimp only
 rw [ji,ji,s.len,s.calls,s.makes]
theorem anC {h k:dK}(s:akb h k){x2:Int}:∀{n:Nat} {a:Bool} {b:Int} {l:List dJ},kH h x2 n a b l=kH k x2 n a b l
 |0,_,_,_=>rfl
 |n+1,a,b,l=>by simp only [kH,akc s,anC s (n:=n)]
theorem akd {h k:dK}(s:akb h k){o:dM}:∀{n:Nat} {a:Bool} {b:Int},jC h o n a b=jC k o n a b
 |0,_,_=>rfl
 |n+1,a,b=>by simp only [jC,akc s,akd s (n:=n)]
theorem amw {h k:dK}(s:akb h k)(o:dM)(n:Int):U3 h o n=U3 k o n:=by
 unfold U3 tC
 dsimp only
 simp only [akc s,anC s,akd s,s.kind,s.calls,s.makes]
theorem ake {h k:dK}(hk:∀i,CV h i=CV k i)(hr:∀i,Bz h i=Bz k i):∀{n i:Nat},run h n i=run k n i
 |0,_=>rfl
 |n+1,i=>by simp only [run,hk,hr,ake hk hr (n:=n)]
theorem WM {x0:dK}{u4:List Bool}(hP:Yz x0):∀{n:Nat} {u5:Bool} {u6:Int} {m:List (Int×Bool)} {k:Nat},kG x0 u4 n u5 u6 m=true->(∀e∈m,e.2=true/\0<=e.1)->0<=u6->run x0 (k+1) u6.toNat=true->run x0 k u6.toNat=false->
  (∀e∈m,run x0 (k+1) e.1.toNat=false)->(g_ x0 u4 n u5 u6 m).1=true
 |0,_,_,_,_,h,_,_,_,_,_=>by cases h
 |n+1,u5,u6,m,k,h,hm,h0,hr,hl,hb=>by
  simp only [kG] at h
  simp only [g_]
  cases hd:(!(!(u4.getD u6.toNat default))) with
  |true=>rfl
  |false=>
   have hg:(nC false u6 m).2=false:=by
    rw [Uk (fun e he=>(hm e he).1)]
    refine decide_eq_false fun hmem=>?_
    obtain ⟨e,he,hee⟩:=List.mem_map.1 hmem
    have:=hb e he
    rw [hee,hr] at this;cases this
   rw [hg]
   cases hq:dS (x0.Objects.getD u6.toNat default).eY.Kind 1 with
   |true=>rfl
   |false=>
    rw [hd,hg,hq] at h
    simp only [cond_false] at h ⊢
    have hnm:u6∉m.map (·.1):=by
     rw [Uk (fun e he=>(hm e he).1)] at hg
     exact of_decide_eq_false hg
    rw [aaH hnm] at h ⊢
    have hk:dS (CV x0 u6.toNat) 1=false:=hq
    have hr':run x0 k (Bz x0 u6.toNat).toNat=true:=by
     have:run x0 (k+1) u6.toNat=(bif dS (CV x0 u6.toNat) 1 then true else run x0 k (Bz x0 u6.toNat).toNat):=rfl
     rw [this,hk] at hr;exact hr
    match k,hr',hl,hb,hr with
    |0,hr',_,_,_=>cases hr'
    |j+1,hr',hl,hb,hr=>
     have hl':run x0 j (Bz x0 u6.toNat).toNat=false:=by
      have:run x0 (j+1) u6.toNat=(bif dS (CV x0 u6.toNat) 1 then true else run x0 j (Bz x0 u6.toNat).toNat):=rfl
      rw [this,hk] at hl;exact hl
     refine WM hP h (fun e he=>?_) (ajW hP (zh.1 hq)) hr' hl' (fun e he=>?_)
     .rcases List.mem_append.1 he with he|he
      .exact hm e he
      .simp at he;subst he;exact ⟨rfl,h0⟩
     .rcases List.mem_append.1 he with he|he
      .cases hc:run x0 (j+1) e.1.toNat with
       |false=>rfl
       |true=>have:=QB hc;rw [hb e he] at this;cases this
      .simp at he;subst he;exact hl
theorem Uz {x0:dK}(hP:Yz x0)(hB:x0.Objects.length<=4294967296)(ha:Un x0):∀(n j:Nat) (u2:Bool) (u4:List Bool),j<=x0.Objects.length->x0.Objects.length-j<n->(kY x0 n u2 j u4).1=true
 |0,j,_,_,_,h=>by omega
 |n+1,j,u2,u4,hj,hn=>by
  simp only [kY,ji]
  by_cases hlt:j<x0.Objects.length
  .have e1:(!decide ((j:Int)<(x0.Objects.length:Int)))=false:=by rw [decide_eq_true (by omega)];rfl
   rw [e1]
   simp only [cond_false]
   obtain ⟨m,hm⟩:=ha j hlt
   obtain ⟨k,h1,h2⟩:=OY hm
   have hw:=WM hP (OX hP (u4:=u4) (u2:=u2) (u3:=(j:Int))) (by simp) (by omega) (k:=k) (by simpa using h1) (by simpa using h2) (by simp)
   rw [hw]
   have e2:(!dS (mZ true) 0)=false:=rfl
   simp only [e2,cond_false]
   rw [Gq (by omega) (by omega)]
   have e3:((j:Int)+1)=((j+1:Nat):Int):=by omega
   rw [e3]
   exact Uz hP hB ha n (j+1) _ _ (by omega) (by omega)
  .have e1:(!decide ((j:Int)<(x0.Objects.length:Int)))=true:=by rw [decide_eq_false (by omega)];rfl
   rw [e1];rfl
theorem adp {x0:dK}(hP:Yz x0)(hB:x0.Objects.length<=4294967296)(ha:Un x0):rD x0=false:=by
 unfold rD
 dsimp only
 rw [ji,Int.toNat_natCast]
 have:=Uz hP hB ha (x0.Objects.length+1) 0 false (List.replicate x0.Objects.length false) (Nat.zero_le _) (by omega)
 have e0:((0:Nat):Int)=0:=rfl
 rw [e0] at this
 rw [this]
 rfl
theorem akf {α:Type}[Inhabited α]{l:List α}{i j:Nat}{x:α}(hi:i<l.length):(l.set i x).getD j default=if j=i then x else l.getD j default:=by
 rw [List.getD_eq_getElem?_getD,List.getElem?_set]
 by_cases h:i=j
 .subst h;simp [hi]
 .rw [if_neg h,if_neg (fun e=>h e.symm),List.getD_eq_getElem?_getD]
def zx (h:dK)(i:Nat)(o:dM):dK:=⟨h.Objects.set i o⟩
theorem sD {h:dK}{i j:Nat}{o:dM}(hi:i<h.Objects.length):(zx h i o).Objects.getD j default=if j=i then o else h.Objects.getD j default:=akf hi
theorem JF {h:dK}{i:Nat}{o:dM}:(zx h i o).Objects.length=h.Objects.length:=by simp [zx]
theorem apv {h:dK}{i:Nat}{o:dM}(hi:i<h.Objects.length)(hk:o.Kind=(h.Objects.getD i default).Kind)(hc:o.Calls=(h.Objects.getD i default).Calls)(hm:o.Makes=(h.Objects.getD i default).Makes):akb h (zx h i o):=by
 refine ⟨JF.symm,fun j=>?_,fun j=>?_,fun j=>?_⟩<;>
 .rw [sD hi]
  by_cases e:j=i
  .subst e;rw [if_pos rfl];simp [hk,hc,hm]
  .rw [if_neg e]
theorem HOk.set {h:dK}(k:HOk h){i:Nat}(hi:i<h.Objects.length){o:dM}(hk:o.Kind=(h.Objects.getD i default).Kind)(hc:o.Calls=(h.Objects.getD i default).Calls)(hm:o.Makes=(h.Objects.getD i default).Makes)
  (ho:U3 h o (i:Nat)=true) (ha:Un (zx h i o)):HOk (zx h i o):=by
 have s:=apv hi hk hc hm
 have aq2:∀j,j<(zx h i o).Objects.length->kC (zx h i o) (j:Nat)=true:=fun j hj=>by
  rw [JE,<- amw s,Int.toNat_natCast,sD hi]
  by_cases e:j=i
  .subst e;rw [if_pos rfl];exact ho
  .rw [if_neg e]
   have:=k.obj j (by rw [JF] at hj;exact hj)
   rw [JE,Int.toNat_natCast] at this
   exact this
 have hl:(zx h i o).Objects.length<=4096:=by rw [JF];exact k.len
 exact ⟨hl,aq2,adp (Um aq2) (by omega) ha⟩
theorem WO {h:dK}{i:Nat}{o:dM}(hi:i<h.Objects.length)(hp:o.eY=(h.Objects.getD i default).eY)(ha:Un h):Un (zx h i o):=by
 have hk:∀j,CV h j=CV (zx h i o) j:=fun j=>by
  unfold CV;rw [sD hi]
  by_cases e:j=i
  .subst e;rw [if_pos rfl,hp]
  .rw [if_neg e]
 have hr:∀j,Bz h j=Bz (zx h i o) j:=fun j=>by
  unfold Bz;rw [sD hi]
  by_cases e:j=i
  .subst e;rw [if_pos rfl,hp]
  .rw [if_neg e]
 intro j hj
 rw [JF] at hj
 obtain ⟨n,hn⟩:=ha j hj
 exact ⟨n,by rw [<- ake hk hr];exact hn⟩
structure amx (h:dK)(o:dM)(n:Int):Prop where
 tg:((((!(o7 o.Target 0))&&(!(((((dS o.Kind 5)&&dP o.Target)&&(decide ((o.Target.Ref:Int)<n)))&&eX h o.Target)&&(dS (h.Objects.getD (o.Target.Ref:Int).toNat default).Kind 6))))||(!(o7 o.Handler 0)))||((sNe o.Text [])&&(iK o.Kind 3)))=false
 pk:((iK o.eY.Kind 1)&&(!(dP o.eY)))=false
 pin:eX h o.eY=true
 tc:jG o.Props=0
 pv:∀p∈o.Props,eX h p.dR.Value=true/\eX h p.dR.Get=true/\eX h p.dR.Set=true
 kc:(bif (dS o.Kind 1) then ((!o.Calls)&&(!o.Makes)) else bif (dS o.Kind 4) then (o.Calls&&o.Makes) else o.Calls)=true
theorem Gf {l:List dL}(h:jG l=0):l.length<=1024:=by
 by_cases hl:l.length<=1024
 .exact hl
 .unfold jG at h
  dsimp only at h
  rw [ji,decide_eq_true (by omega)] at h
  cases h
open Classical in
theorem adq {h:dK}{o:dM}(hB:o.Props.length<=4294967296):∀(n j:Nat) (a:Bool),j<=o.Props.length->o.Props.length-j<n->jC h o n a j=if ∀p∈o.Props.drop j,eX h p.dR.Value=true/\eX h p.dR.Get=true/\eX h p.dR.Set=true then (true,a,default) else (false,default,false)
 |0,j,_,_,hh=>by omega
 |n+1,j,a,hj,hn=>by
  simp only [jC,ji,Int.toNat_natCast]
  by_cases hlt:j<o.Props.length
  .have e1:(!decide ((j:Int)<(o.Props.length:Int)))=false:=by rw [decide_eq_true (by omega)];rfl
   have e4:o.Props.drop j=o.Props.getD j default::o.Props.drop (j+1):=by
    rw [List.drop_eq_getElem_cons hlt,List.getD_eq_getElem?_getD,List.getElem?_eq_getElem hlt];rfl
   rw [e1,Gq (by omega) (by omega)]
   have e2:((j:Int)+1)=((j+1:Nat):Int):=by omega
   rw [e2]
   simp only [cond_false]
   rw [adq hB n (j+1) a (by omega) (by omega),e4]
   simp only [List.mem_cons,forall_eq_or_imp]
   generalize o.Props.getD j default=p
   cases eX h p.dR.Value<;>cases eX h p.dR.Get<;>cases eX h p.dR.Set<;>simp
  .have e1:(!decide ((j:Int)<(o.Props.length:Int)))=true:=by rw [decide_eq_false (by omega)];rfl
   rw [e1,if_pos (by rw [List.drop_eq_nil_of_le (by omega)];simp)]
   rfl
theorem UA {h:dK}{o:dM}{n:Int}(hk:o.Kind=1\/o.Kind=4\/o.Kind=5):U3 h o n=true↔amx h o n:=by
 have h6:dS o.Kind 6=false:=zh.2 (by omega)
 have h2:dS o.Kind 2=false:=zh.2 (by omega)
 have h3:dS o.Kind 3=false:=zh.2 (by omega)
 have hlast:(bif (dS o.Kind 1) then ((!o.Calls)&&(!o.Makes)) else bif (dS o.Kind 2) then (((!o.Calls)&&(!o.Makes))&&Bc o.Props) else bif (dS o.Kind 3) then (((!o.Calls)&&(!o.Makes))&&Bd o.Props o.Text) else bif (dS o.Kind 4) then (o.Calls&&o.Makes) else bif (dS o.Kind 5) then o.Calls else false)=(bif (dS o.Kind 1) then ((!o.Calls)&&(!o.Makes)) else bif (dS o.Kind 4) then (o.Calls&&o.Makes) else o.Calls):=by
  rw [h2,h3]
  rcases hk with e|e|e<;>rw [e]<;>rfl
 unfold U3
 rw [h6,hlast]
 simp only [cond_false]
 constructor
 .intro q
  obtain ⟨q1,q⟩:=IZ q
  obtain ⟨q2,q⟩:=IZ q
  simp only [Bool.or_eq_false_iff,Bool.not_eq_false'] at q2
  have tc:=uF.1 q2.2
  have e:=adq (h:=h) (o:=o) (by have:=Gf tc;omega) (o.Props.length+1) 0 false (Nat.zero_le _) (by omega)
  have e0:((0:Nat):Int)=0:=rfl
  rw [e0] at e
  rw [e] at q
  split at q<;>rename_i hc
  .exact ⟨q1,q2.1.1,q2.1.2,tc,by simpa using hc,q⟩
  .simp [mZ,dS] at q
 .intro p
  have e:=adq (h:=h) (o:=o) (by have:=Gf p.tc;omega) (o.Props.length+1) 0 false (Nat.zero_le _) (by omega)
  have e0:((0:Nat):Int)=0:=rfl
  rw [e0,if_pos (by simpa using p.pv)] at e
  rw [p.tg,e,p.pk,p.pin,uF.2 p.tc]
  exact p.kc
end Go.Fw
end
section
namespace Go.Fw
structure HWf (h:dK):Prop where
 ps:∀o∈h.Objects,∀p∈o.Props,p.dR.ok
 pr:∀o∈h.Objects,o.eY.ok
theorem hwf {h:dK}(w:h.wf):HWf h:=⟨fun o ho p hp=>dok ((w.Objects.2 o ho).Props.2 p hp).dR,fun o ho=>vok (w.Objects.2 o ho).eY⟩
theorem HWf.at {h:dK}(w:HWf h)(i:Nat):(∀p∈(h.Objects.getD i default).Props,p.dR.ok)/\(h.Objects.getD i default).eY.ok:=by
 by_cases hi:i<h.Objects.length
 .have:h.Objects.getD i default∈h.Objects:=by rw [List.getD_eq_getElem?_getD,List.getElem?_eq_getElem hi];exact List.getElem_mem hi
  exact ⟨w.ps _ this,w.pr _ this⟩
 .rw [List.getD_eq_getElem?_getD,List.getElem?_eq_none (by omega)]
  exact ⟨fun p hp=>(by cases hp),⟨⟨by decide,by decide⟩,by decide⟩⟩
theorem HWf.set {h:dK}(w:HWf h){i:Nat}{o:dM}(h1:∀p∈o.Props,p.dR.ok)(h2:o.eY.ok):HWf (zx h i o):=by
 refine ⟨fun x hx=>?_,fun x hx=>?_⟩
 .rcases List.mem_or_eq_of_mem_set hx with hx|hx
  .exact w.ps x hx
  .subst hx;exact h1
 .rcases List.mem_or_eq_of_mem_set hx with hx|hx
  .exact w.pr x hx
  .subst hx;exact h2
theorem QC {h:dK}{v:dJ}(q:jH h v=true):eX h v=true:=by
 unfold jH at q
 unfold eX En
 dsimp only at q ⊢
 cases ho:dP v with
 |false=>rw [ho] at q;simp at q;simp [q]
 |true=>
  rw [ho] at q
  simp only [Bool.not_true,cond_false] at q
  obtain ⟨q1,q2⟩:=IZ q
  simp only [Bool.or_eq_false_iff,Bool.not_eq_false',decide_eq_false_iff_not] at q1
  rw [q1.1]
  simp only [Bool.not_true,cond_false,Bool.false_or,Bool.and_eq_true,decide_eq_true_eq]
  refine ⟨by omega,?_⟩
  generalize h.Objects.getD v.Ref.toNat default=o at q2 ⊢
  simp only [Bool.or_eq_true,Bool.and_eq_true,Bool.not_eq_true',nO] at q2
  rcases q2 with (⟨a,b⟩|⟨⟨a,b⟩,c⟩)|⟨⟨a,b⟩,c⟩
  .rw [b,a];rfl
  .rw [b,c,a];rfl
  .rw [b,c,a];rfl
structure Asked (h:dK)(a:iI):Prop where
 i0:0<=a.Object
 i1:a.Object.toNat<h.Objects.length
 kind:(h.Objects.getD a.Object.toNat default).Kind=1\/(h.Objects.getD a.Object.toNat default).Kind=4\/(h.Objects.getD a.Object.toNat default).Kind=5
 m2:a.Method=2->jD h a.Value=true
 key:a.Method=5\/a.Method=6\/a.Method=10->mP a.Key=0
 m6:a.Method=6->mQ a.dR=0/\jH h a.dR.Value=true/\jH h a.dR.Get=true/\jH h a.dR.Set=true
 mm:a.Method=1\/a.Method=2\/a.Method=3\/a.Method=4\/a.Method=5\/a.Method=6\/a.Method=10\/a.Method=11
theorem aeV {c:Bool}{n b:Int}(hn:n≠0)(h:(bif c then n else b)=0):c=false/\b=0:=by cases c<;>simp_all
theorem anD {c:Bool}{n b:Int}(h:(bif c&&iK n 0 then n else b)=0):(c=true->n=0)/\b=0:=by
 cases c
 .simpa using h
 .simp only [Bool.true_and] at h
  cases hn:iK n 0 with
  |true=>rw [hn] at h;exact absurd h (J4.1 hn)
  |false=>rw [hn] at h;exact ⟨fun _=>uF.1 hn,h⟩
theorem agP {h:dK}{a:iI}(q:jh h a=0):Asked h a:=by
 unfold jh at q
 dsimp only at q
 obtain ⟨q1,q⟩:=aeV (by decide) q
 obtain ⟨q2,q⟩:=aeV (by decide) q
 obtain ⟨q3,q⟩:=aeV (by decide) q
 rw [ji] at q1
 simp only [Bool.or_eq_false_iff,decide_eq_false_iff_not] at q1
 simp only [Bool.not_eq_false',Bool.or_eq_true,nO] at q2
 have hfin:∀{c:Bool},(bif c then (2:Int) else 0)=0->c=false:=by intro c;cases c<;>simp
 by_cases g:a.Method=1\/a.Method=3\/a.Method=4\/a.Method=11
 .exact ⟨by omega,by omega,q2,fun e=>by omega,fun e=>by omega,fun e=>by omega,by omega⟩
 .have g':(!(dS a.Method 1||(dS a.Method 3||(dS a.Method 4||dS a.Method 11))))=true:=by
   simp only [Bool.not_eq_true',Bool.or_eq_false_iff,zh];omega
  rw [g'] at q q3
  simp only [Bool.true_and] at q q3
  by_cases m2:a.Method=2
  .rw [m2] at q3
   have:jD h a.Value=true:=by simpa [dS] using q3
   exact ⟨by omega,by omega,q2,fun _=>this,fun e=>by omega,fun e=>by omega,by omega⟩
  .have g2:(!(dS a.Method 2))=true:=by simp only [Bool.not_eq_true',zh];exact m2
   rw [g2] at q
   simp only [Bool.true_and] at q
   by_cases m5:a.Method=5\/a.Method=10
   .have:(dS a.Method 5||dS a.Method 10)=true:=by simp only [Bool.or_eq_true,nO];exact m5
    rw [this] at q
    exact ⟨by omega,by omega,q2,fun e=>by omega,fun _=>q,fun e=>by omega,by omega⟩
   .have:(dS a.Method 5||dS a.Method 10)=false:=by simp only [Bool.or_eq_false_iff,zh];omega
    rw [this] at q
    simp only [cond_false] at q
    by_cases m6:a.Method=6
    .have e6:dS a.Method 6=true:=nO.2 m6
     rw [e6] at q
     obtain ⟨k1,q⟩:=anD q
     obtain ⟨k2,q⟩:=anD q
     obtain ⟨k3,q⟩:=aeV (by decide) q
     simp only [Bool.true_and,Bool.or_eq_false_iff,Bool.not_eq_false'] at k3
     exact ⟨by omega,by omega,q2,fun e=>by omega,fun _=>k1 rfl,fun _=>⟨k2 rfl,k3.1.1,k3.1.2,k3.2⟩,by omega⟩
    .have e6:dS a.Method 6=false:=zh.2 m6
     rw [e6] at q
     simp at q
theorem axN {α:Type}{l:List α}{i:Nat}{x y:α}(h:y∈l.set i x):y∈l\/y=x:=List.mem_or_eq_of_mem_set h
theorem amy {l:List dL}{k:dH}{d:dI}:∀p∈(jY l k d).1,p∈l\/p.dR=d:=by
 unfold jY
 dsimp only
 intro p
 cases (iK (mg l k) 0) with
 |true=>intro hp;cases hp
 |false=>
  cases (!qF d) with
  |true=>intro hp;cases hp
  |false=>
   cases (decide (tq l k<0)&&dS (iM dL.enc l) 1024) with
   |true=>intro hp;cases hp
   |false=>
    cases decide (tq l k<0) with
    |true=>
     intro hp
     simp only [cond_true,cond_false] at hp
     rcases List.mem_append.1 hp with hp|hp
     .exact .inl (List.mem_of_mem_drop (List.mem_of_mem_take hp))
     .simp at hp;subst hp;exact .inr rfl
    |false=>
     intro hp
     simp only [cond_false] at hp
     rcases axN (List.mem_of_mem_drop (List.mem_of_mem_take hp)) with hp|hp
     .exact .inl hp
     .subst hp;exact .inr rfl
theorem zin {h:dK}:eX h (dJ.mk 0 0 [] 0)=true:=by
 unfold eX
 dsimp only
 have e1:iJ (dJ.mk 0 0 [] 0)=true:=by decide +kernel
 have e2:dP (dJ.mk 0 0 [] 0)=false:=by decide +kernel
 rw [e1,e2];rfl
theorem Gg {x0:Bool}{x1:dI}{x2:Bool}{x3:dI}(h:(fG x0 x1 x2 x3).2.1=true):gV x0 x1 x2 x3=(true,0):=by
 unfold fG at h
 dsimp only at h
 cases hc:(iK (gV x0 x1 x2 x3).2 0||!(gV x0 x1 x2 x3).1) with
 |true=>rw [hc] at h;cases h
 |false=>
  simp only [Bool.or_eq_false_iff,Bool.not_eq_false',uF] at hc
  exact Prod.ext hc.2 hc.1
theorem akh {h:dK}{x0:Bool}{x1:dI}{x2:Bool}{x3:dI}(h1:x1.ok)(h3:x3.ok)(q:(fG x0 x1 x2 x3).2.1=true)(i1:eX h x1.Value=true/\eX h x1.Get=true/\eX h x1.Set=true)(i3:eX h x3.Value=true/\eX h x3.Get=true/\eX h x3.Set=true) :
  eX h (fG x0 x1 x2 x3).1.Value=true/\eX h (fG x0 x1 x2 x3).1.Get=true/\eX h (fG x0 x1 x2 x3).1.Set=true:=by
 rw [axy h1 h3 (Gg q)]
 dsimp only
 unfold mix l7
 dsimp only
 cases x2
 .exact i1
 .simp only [Bool.not_true,cond_false]
  cases axf x1 x3
  .simp only [cond_false]
   refine ⟨?_,?_,?_⟩
   .cases hb x1.Has 0<;>simp [i1,i3]
   .cases hb x1.Has 2<;>simp [i1,i3]
   .cases hb x1.Has 3<;>simp [i1,i3]
  .exact i1
theorem NH.ofT {l:List dL}(hok:∀p∈l,p.dR.ok)(h:jG l=0):NH l:=by
 have hl:=Gf h
 have:kV l=0:=by rw [<- OW l (by omega) hok];exact h
 exact NH.of (by omega) this
theorem NH.aq3 {l:List dL}(hok:∀p∈l,p.dR.ok)(h:NH l):jG l=0:=by
 rw [OW l h.big hok];exact h.chk
theorem Yt {l:List dL}{k:dH}(h:(pW l k).2.1=true):∃p∈l,p.Key=k/\(pW l k).1=p.dR:=by
 unfold pW at h ⊢
 cases hf:l.find? (isK k) with
 |none=>rw [hf] at h;cases h
 |some p=>
  have:=List.find?_some hf
  exact ⟨p,List.mem_of_find?_eq_some hf,of_decide_eq_true this,rfl⟩
theorem abl {l:List dL}{k:dH}(h:(pW l k).2.1=false):(pW l k).1=d00:=by
 unfold pW at h ⊢
 cases hf:l.find? (isK k) with
 |none=>rfl
 |some p=>rw [hf] at h;cases h
theorem apw : d00.ok:=⟨⟨by decide,by decide⟩,⟨⟨by decide,by decide⟩,by decide⟩,⟨⟨by decide,by decide⟩,by decide⟩,⟨⟨by decide,by decide⟩,by decide⟩⟩
theorem Lr {l:List dL}(hok:∀p∈l,p.dR.ok){k:dH}:(pW l k).1.ok:=by
 cases h:(pW l k).2.1 with
 |true=>obtain ⟨p,hp,-,e⟩:=Yt h;rw [e];exact hok p hp
 |false=>rw [abl h];exact apw
theorem apx {h:dK}{l:List dL}(hv:∀p∈l,eX h p.dR.Value=true/\eX h p.dR.Get=true/\eX h p.dR.Set=true){k:dH}:eX h (pW l k).1.Value=true/\eX h (pW l k).1.Get=true/\eX h (pW l k).1.Set=true:=by
 cases hf:(pW l k).2.1 with
 |true=>obtain ⟨p,hp,-,e⟩:=Yt hf;rw [e];exact hv p hp
 |false=>rw [abl hf];exact ⟨zin,zin,zin⟩
structure Obj (h:dK)(a:iI):Prop where
 ok:HOk h
 wf:HWf h
 ak:Asked h a
 po:amx h (h.Objects.getD a.Object.toNat default) (a.Object.toNat:Nat)
 pp:NH (h.Objects.getD a.Object.toNat default).Props
 pd:∀p∈(h.Objects.getD a.Object.toNat default).Props,p.dR.ok
theorem Obj.mk' {h:dK}{a:iI}(w:HWf h)(e:(jJ h a).2.2=0):Obj h a:=by
 obtain ⟨hC,hw⟩:=Nv e
 have k:=Aj.1 hC
 have A:=agP hw
 have:=k.obj _ A.i1
 rw [JE,Int.toNat_natCast] at this
 have po:=(UA A.kind).1 this
 exact ⟨k,w,A,po,NH.ofT (w.at _).1 po.tc,(w.at _).1⟩
structure Left (h:dK)(a:iI)(x:dK):Prop where
 ok:HOk x
 wf:HWf x
 len:x.Objects.length=h.Objects.length
 el:∀j,j≠a.Object.toNat->x.Objects.getD j default=h.Objects.getD j default
 kd:(x.Objects.getD a.Object.toNat default).Kind=(h.Objects.getD a.Object.toNat default).Kind
theorem Left.refl {h:dK}{a:iI}(B:Obj h a):Left h a h:=⟨B.ok,B.wf,rfl,fun _ _=>rfl,rfl⟩
theorem Left.set {h:dK}{a:iI}(B:Obj h a){o:dM}(hk:o.Kind=(h.Objects.getD a.Object.toNat default).Kind)(hc:o.Calls=(h.Objects.getD a.Object.toNat default).Calls)(hm:o.Makes=(h.Objects.getD a.Object.toNat default).Makes)
  (ho:amx h o (a.Object.toNat:Nat)) (ha:Un (zx h a.Object.toNat o)) (h1:∀p∈o.Props,p.dR.ok) (h2:o.eY.ok):Left h a (zx h a.Object.toNat o):=by
 refine ⟨B.ok.set B.ak.i1 hk hc hm ((UA (by rw [hk];exact B.ak.kind)).2 ho) ha,B.wf.set h1 h2,JF,fun j hj=>?_,?_⟩
 .rw [sD B.ak.i1,if_neg hj]
 .rw [sD B.ak.i1,if_pos rfl,hk]
theorem Left.ext {h:dK}{a:iI}(B:Obj h a)(b:Bool):Left h a (zx h a.Object.toNat {h.Objects.getD a.Object.toNat default with Ext:=b}):=
 .set B rfl rfl rfl ⟨B.po.tg,B.po.pk,B.po.pin,B.po.tc,B.po.pv,B.po.kc⟩ (WO B.ak.i1 rfl B.ok.aml) B.pd (B.wf.at _).2
theorem Left.props {h:dK}{a:iI}(B:Obj h a){l:List dL}(h1:jG l=0)(h2:∀p∈l,eX h p.dR.Value=true/\eX h p.dR.Get=true/\eX h p.dR.Set=true)(h3:∀p∈l,p.dR.ok):Left h a (zx h a.Object.toNat {h.Objects.getD a.Object.toNat default with Props:=l}):=
 .set B rfl rfl rfl ⟨B.po.tg,B.po.pk,B.po.pin,h1,h2,B.po.kc⟩ (WO B.ak.i1 rfl B.ok.aml) h3 (B.wf.at _).2
theorem PY {h:dK}{i:Nat}(k:HOk h){o:dM}(hi:i<h.Objects.length):∀{n:Nat} {u:Bool} {v:dJ},hIn h v->jI h (i:Nat) n u v=true->(bif (dS (mZ (kR h (i:Nat) n u v).1) 0) then false else (kR h (i:Nat) n u v).2.2.2.1)=false->dP v=true->∃m,run (zx h i o) m v.Ref.toNat=true
 |0,_,_,_,h,_,_=>by cases h
 |n+1,u,v,hv,hT,hq,ho=>by
  simp only [jI] at hT
  simp only [kR] at hq
  rw [ho] at hT hq
  simp only [Bool.not_true,cond_false] at hT hq
  have hin:=hv ho
  cases hr:dS v.Ref (i:Nat) with
  |true=>rw [hr] at hq;simp [mZ,dS] at hq
  |false=>
   rw [hr] at hT hq
   simp only [cond_false] at hT hq
   have hne:v.Ref.toNat≠i:=by have:=zh.1 hr;omega
   have hk:CV (zx h i o) v.Ref.toNat=CV h v.Ref.toNat:=by unfold CV;rw [sD hi,if_neg hne]
   have hR:Bz (zx h i o) v.Ref.toNat=Bz h v.Ref.toNat:=by unfold Bz;rw [sD hi,if_neg hne]
   have step:∀m,run (zx h i o) (m+1) v.Ref.toNat=(bif dS (CV h v.Ref.toNat) 1 then true else run (zx h i o) m (Bz h v.Ref.toNat).toNat):=fun m=>by
    show (bif dS (CV (zx h i o) v.Ref.toNat) 1 then true else run (zx h i o) m (Bz (zx h i o) v.Ref.toNat).toNat)=_
    rw [hk,hR]
   cases hn:dS (CV h v.Ref.toNat) 1 with
   |true=>exact ⟨1,by rw [step,hn];rfl⟩
   |false=>
    have hlt:v.Ref.toNat<h.Objects.length:=by omega
    rcases F5 (k.obj _ hlt) with h1|⟨h1,h2⟩
    .simp only [Int.toNat_natCast] at h1
     exact absurd h1 (zh.1 hn)
    .simp only [Int.toNat_natCast] at h1 h2
     cases h6:dS (h.Objects.getD v.Ref.toNat default).Kind 6 with
     |true=>
      exfalso
      have:=k.obj _ hlt
      rw [JE,Int.toNat_natCast] at this
      unfold U3 at this
      rw [h6] at this
      simp only [cond_true] at this
      unfold tC at this
      dsimp only at this
      obtain ⟨hc,-⟩:=IZ this
      simp only [Bool.or_eq_false_iff,Bool.not_eq_false'] at hc
      have hc:=hc.1.1.2
      unfold o7 at hc
      dsimp only at hc
      rw [Bool.and_eq_true] at hc
      have:=hc.1
      unfold CV at hn
      rw [hn] at this;cases this
     |false=>
      rw [h6] at hT hq
      simp only [cond_false] at hT hq
      obtain ⟨m,hm⟩:=PY k hi (Yl h2) hT hq h1
      exact ⟨m+1,by rw [step,hn];exact hm⟩
theorem adr {h:dK}{i:Nat}{v:dJ}(k:HOk h)(hi:i<h.Objects.length)(hv:hIn h v)(hn:v.Kind=1\/dP v=true)(hb:iH h (i:Nat) v=false){o:dM}(ho:o.eY=v):Un (zx h i o):=by
 have kI:CV (zx h i o) i=v.Kind:=by unfold CV;rw [sD hi,if_pos rfl,ho]
 have rI:Bz (zx h i o) i=v.Ref:=by unfold Bz;rw [sD hi,if_pos rfl,ho]
 have atI:∃m,run (zx h i o) m i=true:=by
  by_cases h1:v.Kind=1
  .refine ⟨1,?_⟩
   show (bif dS (CV (zx h i o) i) 1 then true else _)=true
   rw [kI,nO.2 h1];rfl
  .have ho':dP v=true:=by rcases hn with h|h;exact absurd h h1;exact h
   obtain ⟨m,hm⟩:=PY (o:=o) k hi hv (Uo (Aj.2 k) hv (u3:=false) (x1:=(i:Nat))) (by unfold iH at hb;exact hb) ho'
   refine ⟨m+1,?_⟩
   show (bif dS (CV (zx h i o) i) 1 then true else run (zx h i o) m (Bz (zx h i o) i).toNat)=true
   rw [kI,rI,zh.2 h1];exact hm
 have all:∀(n j:Nat),run h n j=true->∃m,run (zx h i o) m j=true:=by
  intro n
  induction n with
  |zero=>intro j hj;cases hj
  |succ n ih=>
   intro j hj
   by_cases e:j=i
   .subst e;exact atI
   .have hk:CV (zx h i o) j=CV h j:=by unfold CV;rw [sD hi,if_neg e]
    have hR:Bz (zx h i o) j=Bz h j:=by unfold Bz;rw [sD hi,if_neg e]
    have step:∀m,run (zx h i o) (m+1) j=(bif dS (CV h j) 1 then true else run (zx h i o) m (Bz h j).toNat):=fun m=>by
     show (bif dS (CV (zx h i o) j) 1 then true else run (zx h i o) m (Bz (zx h i o) j).toNat)=_
     rw [hk,hR]
    have hj':(bif dS (CV h j) 1 then true else run h n (Bz h j).toNat)=true:=hj
    cases hn:dS (CV h j) 1 with
    |true=>exact ⟨1,by rw [step,hn];rfl⟩
    |false=>
     rw [hn] at hj'
     obtain ⟨m,hm⟩:=ih _ hj'
     exact ⟨m+1,by rw [step,hn];exact hm⟩
 intro j hj
 rw [JF] at hj
 obtain ⟨n,hn⟩:=k.aml j hj
 exact all n j hn
theorem UC {h:dK}{v:dJ}(q:jD h v=true):v.Kind=1\/dP v=true:=by
 unfold jD at q
 dsimp only at q
 rw [Bool.and_eq_true,Bool.or_eq_true] at q
 rcases q.1 with h|h
 .exact .inl (nO.1 h)
 .exact .inr h
theorem agQ {h:dK}{v:dJ}(q:jD h v=true):eX h v=true:=by
 unfold jD at q
 dsimp only at q
 rw [Bool.and_eq_true] at q
 exact QC q.2
theorem Left.proto {h:dK}{a:iI}(B:Obj h a)(h2:a.Method=2)(hv:a.Value.ok)(hb:iH h a.Object a.Value=false):Left h a (zx h a.Object.toNat {h.Objects.getD a.Object.toNat default with eY:=a.Value}):=by
 have hp:=B.ak.m2 h2
 have hb':iH h (a.Object.toNat:Nat) a.Value=false:=by
  have:((a.Object.toNat:Nat):Int)=a.Object:=by have:=B.ak.i0;omega
  rw [this];exact hb
 refine .set B rfl rfl rfl ⟨B.po.tg,?_,agQ hp,B.po.tc,B.po.pv,B.po.kc⟩ (adr B.ok B.ak.i1 (aaS hp) (UC hp) hb' rfl) B.pd hv
 show (iK a.Value.Kind 1&&!dP a.Value)=false
 rcases UC hp with h|h
 .rw [h];rfl
 .rw [h];simp
end Go.Fw
end
section
namespace Go.Fw
abbrev oO (h:dK)(a:iI):dM:=h.Objects.getD a.Object.toNat default
theorem Yu {h:dK}{a:iI}(B:Obj h a){k:dH}(hk:mP k=0):fA (oO h a).Props k=pW (oO h a).Props k:=
 B.pp.find B.pd (by rw [<- vW];exact hk)
structure atL (h:dK)(a:iI):Prop where
 pu:ao3 (oO h a).Props a.Key (fG (oO h a).Ext a.dR (pW (oO h a).Props a.Key).2.1 (pW (oO h a).Props a.Key).1).1 (jY (oO h a).Props a.Key (fG (oO h a).Ext a.dR (pW (oO h a).Props a.Key).2.1 (pW (oO h a).Props a.Key).1).1).1
theorem Left.put {h:dK}{a:iI}(B:Obj h a)(m:a.Method=6)(hd:a.dR.ok)(h1:(fG (oO h a).Ext a.dR (pW (oO h a).Props a.Key).2.1 (pW (oO h a).Props a.Key).1).2.1=true)
  (h2:(jY (oO h a).Props a.Key (fG (oO h a).Ext a.dR (pW (oO h a).Props a.Key).2.1 (pW (oO h a).Props a.Key).1).1).2=0) :
  Left h a (zx h a.Object.toNat {oO h a with Props:=(jY (oO h a).Props a.Key (fG (oO h a).Ext a.dR (pW (oO h a).Props a.Key).2.1 (pW (oO h a).Props a.Key).1).1).1})/\atL h a:=by
 have hk:iG a.Key=0:=by rw [<- vW];exact B.ak.key (.inr (.inl m))
 have b:=axJ hd (Lr B.pd) (Gg h1)
 have pf:=agN B.pp B.pd hk b.ok h2
 have m6:=B.ak.m6 m
 have ai:=akh hd (Lr B.pd) h1 ⟨QC m6.2.1,QC m6.2.2.1,QC m6.2.2.2⟩ (apx B.po.pv (k:=a.Key))
 refine ⟨Left.props B (NH.aq3 pf.ok pf.tb) (fun p hp=>?_) pf.ok,⟨pf⟩⟩
 rcases amy p hp with h|h
 .exact B.po.pv p h
 .rw [h];exact ai
theorem Left.drop {h:dK}{a:iI}(B:Obj h a)(m:a.Method=10) :
  Left h a (zx h a.Object.toNat {oO h a with Props:=(rC (oO h a).Props a.Key).1}):=by
 have hk:iG a.Key=0:=by rw [<- vW];exact B.ak.key (.inr (.inr m))
 rw [aeO B.pp B.pd hk]
 have d:=Uj B.pp B.pd (k:=a.Key)
 exact Left.props B (NH.aq3 d.ok d.tb) (fun p hp=>B.po.pv p (List.mem_filter.1 hp).1) d.ok
theorem aki {h:dK}{a:iI}(B:Obj h a)(hv:a.Value.ok)(hd:a.dR.ok):Left h a (GY h a).1:=by
 unfold GY
 dsimp only
 cases m1:dS a.Method 1 with
 |true=>exact .refl B
 |false=>
 cases m2:dS a.Method 2 with
 |true=>
  simp only [cond_false,cond_true]
  cases hc:(fB a.Value (h.Objects.getD a.Object.toNat default).eY||!(h.Objects.getD a.Object.toNat default).Ext||iH h a.Object a.Value) with
  |true=>exact .refl B
  |false=>
   simp only [Bool.or_eq_false_iff] at hc
   exact .proto B (nO.1 m2) hv hc.2
 |false=>
 cases m3:dS a.Method 3 with
 |true=>exact .refl B
 |false=>
 cases m4:dS a.Method 4 with
 |true=>exact .ext B false
 |false=>
 cases m5:dS a.Method 5 with
 |true=>exact .refl B
 |false=>
 cases m6:dS a.Method 6 with
 |true=>
  simp only [cond_false,cond_true]
  rw [Yu B (B.ak.key (.inr (.inl (nO.1 m6))))]
  cases h1:(fG (oO h a).Ext a.dR (pW (oO h a).Props a.Key).2.1 (pW (oO h a).Props a.Key).1).2.1 with
  |false=>exact .refl B
  |true=>
   simp only [Bool.not_true,cond_false]
   cases h2:iK (jY (oO h a).Props a.Key (fG (oO h a).Ext a.dR (pW (oO h a).Props a.Key).2.1 (pW (oO h a).Props a.Key).1).1).2 0 with
   |true=>exact .refl B
   |false=>exact (Left.put B (nO.1 m6) hd h1 (uF.1 h2)).1
 |false=>
 cases m10:dS a.Method 10 with
 |true=>
  simp only [cond_false,cond_true]
  cases (fA (h.Objects.getD a.Object.toNat default).Props a.Key).2.1&&!(fA (h.Objects.getD a.Object.toNat default).Props a.Key).1.Configurable with
  |true=>exact .refl B
  |false=>exact .drop B (nO.1 m10)
 |false=>exact .refl B
theorem amz {h:dK}{a:iI}(h0:0<=a.Object)(h1:a.Object.toNat<h.Objects.length)(hk:(oO h a).Kind=1\/(oO h a).Kind=4\/(oO h a).Kind=5)(hm:a.Method=1\/a.Method=3\/a.Method=4\/a.Method=11\/(a.Method=5/\mP a.Key=0)):jh h a=0:=by
 unfold jh
 dsimp only
 rw [ji]
 have e1:(decide (a.Object<0)||decide (a.Object>=(h.Objects.length:Int)))=false:=by rw [Bool.or_eq_false_iff];exact ⟨decide_eq_false (by omega),decide_eq_false (by omega)⟩
 have e2:(!(dS (h.Objects.getD a.Object.toNat default).Kind 1||(dS (h.Objects.getD a.Object.toNat default).Kind 4||dS (h.Objects.getD a.Object.toNat default).Kind 5)))=false:=by
  rcases hk with e|e|e<;>(unfold oO at e;rw [e];rfl)
 rw [e1,e2]
 simp only [cond_false]
 rcases hm with e|e|e|e|⟨e,e3⟩
 .rw [e];rfl
 .rw [e];rfl
 .rw [e];rfl
 .rw [e];rfl
 .rw [e];simpa [dS] using e3
theorem aq4 {h:dK}{a:iI}(hC:jO h=0)(hw:jh h a=0):(jJ h a).2.2=0:=by
 rw [aeT hC hw]
 unfold GY
 dsimp only
 cases dS a.Method 1 with
 |true=>rfl
 |false=>
 cases dS a.Method 2 with
 |true=>simp only [cond_false,cond_true];cases (fB a.Value (h.Objects.getD a.Object.toNat default).eY||!(h.Objects.getD a.Object.toNat default).Ext||iH h a.Object a.Value)<;>rfl
 |false=>
 cases dS a.Method 3 with
 |true=>rfl
 |false=>
 cases dS a.Method 4 with
 |true=>rfl
 |false=>
 cases dS a.Method 5 with
 |true=>rfl
 |false=>
 cases dS a.Method 6 with
 |true=>
  simp only [cond_false,cond_true]
  generalize (fG (h.Objects.getD a.Object.toNat default).Ext a.dR (fA (h.Objects.getD a.Object.toNat default).Props a.Key).2.1 (fA (h.Objects.getD a.Object.toNat default).Props a.Key).1)=ap
  generalize jY (h.Objects.getD a.Object.toNat default).Props a.Key ap.1=pt
  cases (!ap.2.1)<;>cases (iK pt.2 0)<;>rfl
 |false=>
 cases dS a.Method 10 with
 |true=>simp only [cond_false,cond_true];cases ((fA (h.Objects.getD a.Object.toNat default).Props a.Key).2.1&&!(fA (h.Objects.getD a.Object.toNat default).Props a.Key).1.Configurable)<;>rfl
 |false=>rfl
theorem anE {h:dK}{n:Int}(hC:jO h=0)(h0:0<=n)(h1:n.toNat<h.Objects.length):FX h n=(h.Objects.getD n.toNat default,0):=by
 unfold FX
 dsimp only
 rw [uF.2 hC,ji]
 have e1:(decide (n<0)||decide (n>=(h.Objects.length:Int)))=false:=by rw [Bool.or_eq_false_iff];exact ⟨decide_eq_false (by omega),decide_eq_false (by omega)⟩
 rw [e1];rfl
theorem apy {h:dK}{n:Int}{k:dH}(hC:jO h=0)(h0:0<=n)(h1:n.toNat<h.Objects.length):xu h n k=fA (h.Objects.getD n.toNat default).Props k:=by
 unfold xu
 dsimp only
 rw [anE hC h0 h1]
 rfl
theorem aeW {h:dK}{n:Int}(hC:jO h=0)(h0:0<=n)(h1:n.toNat<h.Objects.length):pR h n=pJ (h.Objects.getD n.toNat default).Props:=by
 unfold pR
 dsimp only
 rw [anE hC h0 h1]
 rfl
theorem amA : CJ=true:=by decide +kernel
theorem ads {x0:dK}{x1:Int}{x2:dH}(w:HWf x0):ni x0 x1 x2=true:=by
 unfold ni
 dsimp only
 rw [amA]
 generalize ha:(iI.mk 4 x1 (dH.mk [] 0) (dI.mk 0 (dJ.mk 0 0 [] 0) (dJ.mk 0 0 [] 0) (dJ.mk 0 0 [] 0) false false false) (dJ.mk 0 0 [] 0) (dJ.mk 0 0 [] 0) [])=a
 have ao:a.Object=x1:=by rw [<- ha]
 have am:a.Method=4:=by rw [<- ha]
 simp only [Bool.not_true,cond_false]
 cases CP x0 with
 |true=>rfl
 |false=>
 simp only [cond_false]
 by_cases e:(jJ x0 a).2.2=0
 .rw [uF.2 e]
  have B:=Obj.mk' w e
  have D:=aeT (Nv e).1 (Nv e).2
  have hB:GY x0 a=(zx x0 a.Object.toNat {oO x0 a with Ext:=false},dX true,0):=by unfold GY;rw [am];rfl
  rw [D,hB]
  have L:=Left.ext B false
  have hC:=Aj.2 L.ok
  have i0:0<=x1:=by rw [<- ao];exact B.ak.i0
  have i1:x1.toNat<x0.Objects.length:=by rw [<- ao];exact B.ak.i1
  have gt:(zx x0 a.Object.toNat {oO x0 a with Ext:=false}).Objects.getD x1.toNat default={oO x0 a with Ext:=false}:=by rw [sD B.ak.i1,if_pos (by rw [ao])]
  rw [show x0.Objects.getD a.Object.toNat default=oO x0 a from rfl] at L hC
  generalize hx:zx x0 a.Object.toNat {oO x0 a with Ext:=false}=x at L hC gt
  have j1:x1.toNat<x.Objects.length:=by rw [L.len];exact i1
  have kd:(x.Objects.getD x1.toNat default).Kind=1\/(x.Objects.getD x1.toNat default).Kind=4\/(x.Objects.getD x1.toNat default).Kind=5:=by rw [gt];exact B.ak.kind
  
  have t3:mW x (iI.mk 3 x1 (dH.mk [] 0) (dI.mk 0 (dJ.mk 0 0 [] 0) (dJ.mk 0 0 [] 0) (dJ.mk 0 0 [] 0) false false false) (dJ.mk 0 0 [] 0) (dJ.mk 0 0 [] 0) [])=(x,dX false):=by
   rw [amn (aq4 hC (amz i0 j1 kd (.inr (.inl rfl))))]
   show (x,dX (x.Objects.getD x1.toNat default).Ext)=_
   rw [gt]
  rw [t3,aeW (Nv e).1 i0 i1,aeW hC i0 j1,apy (Nv e).1 i0 i1,gt]
  have hoo:x0.Objects.getD x1.toNat default=oO x0 a:=by rw [<- ao]
  rw [hoo]
  have e1:iK (iM dH.enc (pJ (oO x0 a).Props).1) (iM dH.enc (pJ (oO x0 a).Props).1)=false:=uF.2 rfl
  simp only [e1,dX,aO,Bool.false_or,Bool.or_false,show iK 1 1=false from rfl,cond_false]
  
  cases hf:(fA (oO x0 a).Props x2).2.1 with
  |true=>simp
  |false=>
   by_cases e9:(jJ x (iI.mk 6 x1 x2 ku (dJ.mk 0 0 [] 0) (dJ.mk 0 0 [] 0) [])).2.2=0
   .rw [aeT (Nv e9).1 (Nv e9).2]
    have:GY x (iI.mk 6 x1 x2 ku (dJ.mk 0 0 [] 0) (dJ.mk 0 0 [] 0) [])=(x,dX false,0):=by
     have hap:(fG false ku false (fA (oO x0 a).Props x2).1).2.1=false:=by
      unfold fG gV
      dsimp only
      cases iK (uZ ku false (fA (oO x0 a).Props x2).1) 0 with
      |true=>rfl
      |false=>rfl
     unfold GY
     dsimp only
     rw [gt]
     show (bif !(fG false ku (fA (oO x0 a).Props x2).2.1 (fA (oO x0 a).Props x2).1).2.1 then (x,dX false,0) else _)=_
     rw [hf,hap];rfl
    rw [this]
    simp [dX,dS]
   .rw [J4.2 e9];simp
 .rw [J4.2 e];rfl
end Go.Fw
end
section
namespace Go.Fw
theorem WQ (v:dJ):vU v v=true:=by
 unfold vU
 have e:KH v.Num v.Num=!fEq v.Num v.Num:=rfl
 have s:DK v.Str v.Str=true:=by simp [DK]
 have i:∀x:Int,dS x x=true:=fun x=>nO.2 rfl
 rw [e,s,i,i]
 cases hf:fEq v.Num v.Num with
 |true=>simp [hf]
 |false=>simp;decide +kernel
theorem anF (b:Bool):NV b b=true:=by simp [NV]
theorem anG (s:List UInt8):DK s s=true:=by simp [DK]
theorem anH (x:Int):dS x x=true:=nO.2 rfl
theorem akj {l:List dL}(hB:l.length<=4294967296):∀(n j:Nat) (u:Bool),j<=l.length->l.length-j<n->lF l l n u j=(true,u,default)
 |0,j,_,_,h=>by omega
 |n+1,j,u,hj,hn=>by
  simp only [lF,ji,WQ,anF,anG,anH,Bool.and_self,aO,cond_false]
  by_cases hlt:j<l.length
  .have e1:(!decide ((j:Int)<(l.length:Int)))=false:=by rw [decide_eq_true (by omega)];rfl
   rw [e1,Gq (by omega) (by omega)]
   have e2:((j:Int)+1)=((j+1:Nat):Int):=by omega
   rw [e2]
   exact akj hB n (j+1) u (by omega) (by omega)
  .have e1:(!decide ((j:Int)<(l.length:Int)))=true:=by rw [decide_eq_false (by omega)];rfl
   rw [e1];rfl
theorem akk {l:List dL}(hB:l.length<=4294967296):qo l l=true:=by
 unfold qo
 dsimp only
 have:=akj hB (l.length+1) 0 false (dD _) (by omega)
 have e0:((0:Nat):Int)=0:=rfl
 rw [e0] at this
 rw [this,uF.2 rfl];rfl
theorem akl {l:List dM}(hB:l.length<=4294967296)(hp:∀o∈l,o.Props.length<=4294967296):∀(n j:Nat) (u:Bool),j<=l.length->l.length-j<n->kN l l n u j=(true,u,default)
 |0,j,_,_,h=>by omega
 |n+1,j,u,hj,hn=>by
  simp only [kN,ji,WQ,anF,anG,anH,Bool.and_self,aO,cond_false,Bool.true_and,aX]
  by_cases hlt:j<l.length
  .have e1:(!decide ((j:Int)<(l.length:Int)))=false:=by rw [decide_eq_true (by omega)];rfl
   have hm:l.getD j default∈l:=by rw [aF,aY hlt];exact List.getElem_mem hlt
   rw [e1,Gq (by omega) (by omega),akk (hp _ hm)]
   have e2:((j:Int)+1)=((j+1:Nat):Int):=by omega
   rw [e2]
   exact akl hB hp n (j+1) u (by omega) (by omega)
  .have e1:(!decide ((j:Int)<(l.length:Int)))=true:=by rw [decide_eq_false (by omega)];rfl
   rw [e1];rfl
theorem adt {h:dK}(hB:h.Objects.length<=4294967296)(hp:∀o∈h.Objects,o.Props.length<=4294967296):OQ h h=true:=by
 unfold OQ uh
 dsimp only
 have:=akl hB hp (h.Objects.length+1) 0 false (dD _) (by omega)
 have e0:((0:Nat):Int)=0:=rfl
 rw [e0] at this
 rw [this,uF.2 rfl];rfl
theorem adu {h:dK}{o:dM}{n:Int}(q:U3 h o n=true):o.Props.length<=1024:=by
 unfold U3 at q
 cases h6:dS o.Kind 6 with
 |true=>
  rw [h6] at q
  simp only [cond_true] at q
  unfold tC at q
  dsimp only at q
  obtain ⟨hc,-⟩:=IZ q
  rw [ji] at hc
  simp only [aQ,decide_eq_false_iff_not] at hc
  have:=hc.1.1.1.1
  omega
 |false=>
  rw [h6] at q
  simp only [cond_false] at q
  obtain ⟨-,q⟩:=IZ q
  obtain ⟨q2,q⟩:=IZ q
  simp only [aQ,Bool.not_eq_false'] at q2
  exact Gf (uF.1 q2.2)
theorem HOk.props {h:dK}(k:HOk h):∀o∈h.Objects,o.Props.length<=1024:=by
 intro o ho
 obtain ⟨i,hi,rfl⟩:=List.getElem_of_mem ho
 have:=k.obj i hi
 rw [JE,aX,aF,aY hi] at this
 exact adu this
theorem HOk.same {h:dK}(k:HOk h):OQ h h=true:=adt (by have:=k.len;omega) fun o ho=>by have:=k.props o ho;omega
end Go.Fw
end
section
namespace Go.Fw
end Go.Fw
end
