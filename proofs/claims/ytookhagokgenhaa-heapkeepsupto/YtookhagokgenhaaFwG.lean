
import Derived.Test.YtookhagokgenhaaFwF
import Derived.Test.YtookhagokgenhaaRows
import Derived.Test.YtookhagokgenhaaProg
import Derived.Test.YtookhagokgenhaaFwE
set_option linter.unusedVariables false
set_option linter.unusedSimpArgs false
set_option linter.unusedSectionVars false
set_option linter.unnecessarySimpa false
section
namespace Go.Fw
set_option maxRecDepth 100000
set_option maxHeartbeats 4000000
open Go.Proofs
instance : Yo dL.enc:=⟨dL.iW⟩
instance {x : dL}:Fz (dL.av x):=⟨dL.fz x⟩
instance : Un dL.enc 4:=⟨dL.len⟩
instance : Yo dI.enc:=⟨dI.iW⟩
instance {x : dI}:Fz (dI.av x):=⟨dI.fz x⟩
instance : Un dI.enc 2:=⟨dI.len⟩
instance : Yo dN.enc:=⟨dN.iW⟩
instance {x : dN}:Fz (dN.av x):=⟨dN.fz x⟩
instance : Un dN.enc 16:=⟨dN.len⟩
instance : Yo dJ.enc:=⟨dJ.iW⟩
instance {x : dJ}:Fz (dJ.av x):=⟨dJ.fz x⟩
instance : Un dJ.enc 18:=⟨dJ.len⟩
instance : Yo dS.enc:=⟨dS.iW⟩
instance {x : dS}:Fz (dS.av x):=⟨dS.fz x⟩
instance : Un dS.enc 18:=⟨dS.len⟩
instance : Yo dK.enc:=⟨dK.iW⟩
instance {x : dK}:Fz (dK.av x):=⟨dK.fz x⟩
instance : Un dK.enc 1:=⟨dK.len⟩
instance : Yo yT.enc:=⟨yT.iW⟩
instance {x : yT}:Fz (yT.av x):=⟨yT.fz x⟩
instance : Un yT.enc 26:=⟨yT.len⟩
instance : Yo uq.enc:=⟨uq.iW⟩
instance {x : uq}:Fz (uq.av x):=⟨uq.fz x⟩
instance : Un uq.enc 32:=⟨uq.len⟩
instance : Yo qQ.enc:=⟨qQ.iW⟩
instance {x : qQ}:Fz (qQ.av x):=⟨qQ.fz x⟩
instance : Un qQ.enc 29:=⟨qQ.len⟩
instance : Yo uw.enc:=⟨uw.iW⟩
instance {x : uw}:Fz (uw.av x):=⟨uw.fz x⟩
instance : Un uw.enc 87:=⟨uw.len⟩
instance : Yo CW.enc:=⟨CW.iW⟩
instance {x : CW}:Fz (CW.av x):=⟨CW.fz x⟩
instance : Un CW.enc 23:=⟨CW.len⟩
instance : Yo nZ.enc:=⟨nZ.iW⟩
instance {x : nZ}:Fz (nZ.av x):=⟨nZ.fz x⟩
instance : Un nZ.enc 24:=⟨nZ.len⟩
instance : Yo GBx.enc:=⟨GBx.iW⟩
instance {x : GBx}:Fz (GBx.av x):=⟨GBx.fz x⟩
instance : Un GBx.enc 1:=⟨GBx.len⟩
instance {r : dN×Int}:Fz (CY r):=⟨(inferInstance:Xk [(dN.av r.1),(.p (.int .i64 r.2))]).h⟩
instance {r : Int×Bool}:Fz (iG r):=⟨(inferInstance:Xk [(.p (.int .i64 r.1)),(.p (.bool r.2))]).h⟩
instance {r : dK×Int×Int}:Fz (abq r):=⟨(inferInstance:Xk [(dK.av r.1),(.p (.int .i64 r.2.1)),(.p (.int .i64 r.2.2))]).h⟩
instance {r : List Int×Int}:Fz (Y1 r):=⟨(inferInstance:Xk [(.sl (List.map kY r.1) false),(.p (.int .i64 r.2))]).h⟩
instance {r : dS×Int}:Fz (pJ r):=⟨(inferInstance:Xk [(dS.av r.1),(.p (.int .i64 r.2))]).h⟩
instance {r : dK×Int}:Fz (aA7 r):=⟨(inferInstance:Xk [(dK.av r.1),(.p (.int .i64 r.2))]).h⟩
noncomputable def fG : qO:=xOr (aun 56 55 53) (agi Try.prog)
theorem dP : ∀σ:List AV,iW σ=true->o7 Try.prog σ fG:=auu (aqi wu yw E8) akk
noncomputable def fH : Gv:=aql (auw Try.prog (ocT [(10,[0],18,false),(12,[0,0],18,false),(13,[0,0],18,false)])) (auB Try.prog (wcT [(100000,[(0,18)]),(100000,[(1,2)]),(100000,[(1,2)]),(100000,[(1,2)]),(100000,[(1,2)]),(100000,[(1,2)]),(41,[]),(22,[]),(25,[]),(47,[])]))
theorem dQ : ∀σ:List AV,iW σ=true->oH Try.prog σ fH:=ah9 aqm aqs
def oU : Md:=mdT 39623752663691372814355398656
def kA : List (List Nat):=[[],[],[],[],[],[],[],[],[],[],[],[],[],[],[],[],[],[],[],[],[],[],[0,1,2,6,7,8,9,14,15,16,17,18,30],[],[],[0,1,2,6,7,8,9,14,15,16,17,18,30],[],[],[],[],[],[],[],[],[],[],[],[],[],[],[],[0,1,4],[],[],[],[],[],[0,1,4,5,7,8,9,16],[],[],[],[],[],[],[],[],[],[],[],[],[],[],[],[],[],[],[],[],[],[],[],[],[],[],[],[],[],[]]
def sT : Dc:=⟨[(19,⟨[(qM (.li 0) (V 1)),(qL (V 1) (.rlen (W 0 0)))],[],[]⟩),
 (8,⟨[],[(qM (.rlen (W 0 0)) (.li 4294967296))],[(.or (qN (V 1) (.li 0)) (qM (.rlen (W 0 0)) (.li 4096)))]⟩),
 (10,⟨[],[(qM (.rlen (W 0 0)) (.li 4294967296))],[(qE (.rlen (W 1 0)) (.rlen (W 0 0))),(qM (.rlen (W 1 0)) (.rlen (W 0 0)))]⟩),
 (9,⟨[],[(qM (.rlen (W 0 0)) (.li 4294967296))],[(.or (qN (W 2 1) (.li 0)) (qM (.li 0) (V 1))),(.or (qN (W 2 1) (.li 0)) (qL (V 1) (.rlen (W 0 0))))]⟩),
 (13,⟨[],[(qM (.rlen (W 0 0)) (.li 4294967296)),(qM (.rlen (W 2 6)) (.li 4294967296))],[(.or (qN (W 3 1) (.li 0)) (qM (.li 0) (V 1))),(.or (qN (W 3 1) (.li 0)) (qL (V 1) (.rlen (W 0 0))))]⟩)],[]⟩
theorem asI (a b:Int):aeq Try.prog 10000 3 (.p (.int .i64 a)) (.p (.int .i64 b))=some (decide (a=b)):=by
 have h:yEq Try.prog 10000 3 (.sc (.int .i64) (.var 0 [])) (.sc (.int .i64) (.var 1 []))=some (.bin .eql (.int .i64) (.var 0 []) (.var 1 [])):=by kernel_rfl
 have h2:=Rl (P:=Try.prog) (ρ:=[.p (.int .i64 a),.p (.int .i64 b)]) h
 refine h2.trans ?_
 show some (a == b)=_
 rw [aD4]
theorem azO (a b:dI):aeq Try.prog 10000 55 (.agg a.enc) (.agg b.enc)=some (decide (a=b)):=by
 have h:yEq Try.prog 10000 55 (.agg (kQ 0 [] 0 dI.kG)) (.agg (kQ 1 [] 0 dI.kG))=some (.and (.bin .eql .str (.var 0 [0]) (.var 1 [0])) (.bin .eql (.int .i64) (.var 0 [1]) (.var 1 [1]))):=by kernel_rfl
 have h2:=Rl (P:=Try.prog) (ρ:=[a.av,b.av]) h
 refine h2.trans ?_
 congr 1
 show (zW a.Str b.Str&&dZ a.Sym b.Sym)=decide (a=b)
 cases a;cases b
 simp [zW,dZ,Nr,Bool.decide_and,aD4]
def R27 : iE:=
 ⟨[((.lb true),(.agg [(zU (.li 1)),(zF (.lf 0)),(zS (.ls [])),(zI (.li 0))]))],
 [],[]⟩
theorem e27 : jo Try.prog fG fH oU (oN kA 27 [] []) 3 200 27 [] 0=some R27:=by kernel_rfl
theorem alG : CT Try.prog sT 27 [] (dL.av aiQ):=
 qY jc dP dQ e27 xC (by kernel_rfl) [] xn
  wn
  ln
  (iY rfl)
def R15 : iE:=
 ⟨[((.lb true),(.agg [(.slc [[(zU (.li 1)),(zU (W 0 0)),(zF (W 0 1)),(zS (W 0 2)),(zI (W 0 3)),(zB (.lb true)),(.slc [[(zS (.ls [97])),(zI (.li 0)),(zU (.li 51)),(zU (.li 3)),(zF (.lf 4619567317775286272)),(zS (.ls [])),(zI (.li 0)),(zU (.li 0)),(zF (.lf 0)),(zS (.ls [])),(zI (.li 0)),(zU (.li 0)),(zF (.lf 0)),(zS (.ls [])),(zI (.li 0)),(zB (.lb true)),(zB (.lb true)),(zB (.lb true))]] false),(zU (.li 0)),(zF (.lf 0)),(zS (.ls [])),(zI (.li 0)),(zU (.li 0)),(zF (.lf 0)),(zS (.ls [])),(zI (.li 0)),(zS (.ls [])),(zB (.lb false)),(zB (.lb false))],[(zU (.li 1)),(zU (.li 6)),(zF (.lf 0)),(zS (.ls [])),(zI (.li 0)),(zB (.lb true)),(.slc [] false),(zU (.li 0)),(zF (.lf 0)),(zS (.ls [])),(zI (.li 0)),(zU (.li 0)),(zF (.lf 0)),(zS (.ls [])),(zI (.li 0)),(zS (.ls [])),(zB (.lb false)),(zB (.lb false))]] false)]))],
 [([],(.call 27 [] (.agg (cV 0 dL.kG))))],[]⟩
theorem e15 : jo Try.prog fG fH oU (oN kA 15 [] []) 3 200 15 [] 0=some R15:=by kernel_rfl
theorem apg : CT Try.prog sT 15 [] (dK.av ab3):=
 qY jc dP dQ e15 xC (by kernel_rfl) [dL.av (aiQ )] xn
  (wC (alG)<|wn)
  ln
  (iY rfl)
def R16 : iE:=
 ⟨[((.lb true),(.agg [(zU (.li 6)),(zU (W 2 0)),(zF (W 2 1)),(zS (W 2 2)),(zI (W 2 3)),(zB (.lb false)),(.slc [] false),(zU (.li 6)),(zF (.lf 0)),(zS (.ls [])),(zI (V 0)),(zU (.li 6)),(zF (.lf 0)),(zS (.ls [])),(zI (V 1)),(zS (.ls [])),(zB (.lb false)),(zB (.lb false))]))],
 [([],(.call 27 [] (.agg (cV 2 dL.kG))))],[]⟩
theorem e16 : jo Try.prog fG fH oU (oN kA 16 [] []) 3 200 16 [zI (V 0),zI (V 1)] 2=some R16:=by kernel_rfl
theorem aro (x0:Int)(x1:Int):CT Try.prog sT 16 [eI x0,eI x1] (dS.av (acd x0 x1)):=
 let v2:dL:=aiQ
 qY jc dP dQ e16 xC (by kernel_rfl) [eI x0,eI x1,dL.av v2] xn
  (wC (alG)<|wn)
  ln
  (show _=dS.av ((dS.mk 6 v2 false [] (dL.mk 6 0 [] x0) (dL.mk 6 0 [] x1) [] false false)) from iY rfl)
def aBv : Lo:=
 let p0:Pc:=((qL (V 3) (.rlen (W 0 0))),true)::[]
 let p1:Pc:=((W 8 0),false)::p0
 let p2:Pc:=((W 9 1),false)::p1
 .mk [((qL (V 3) (.rlen (W 0 0))),true)] 5 3 [(zB (V 2)),(zI (V 3)),(.slc [] false)] [((.not (.not (W 8 0))),1,[(zB (V 5)),(zI (V 6)),(zL (V 7))]),((W 9 1),2,[(zB (.lb true)),(zL (V 7))]),((uE (W 11 1) (.li 1)),1,[(zB (V 5)),(zI (V 6)),(zL (V 10))]),((.lb true),0,[(zB (V 5)),(zI (W 11 4)),(zL (V 10))])] [(p0,(.tm (qM (.li 0) (V 6)))),
 (p0,(.tm (qL (V 6) (.rlen (W 0 0))))),
 (p0,(.rd (false,1) (V 4) (V 6) 0 (zB (W 8 0)))),
 (p1,(.look 3 (.mk false 1 false 1) (V 7) (zI (V 6)) (zB (.lb false)) (W 9 0) (zB (W 9 1)))),
 (p2,(.put 3 (.mk false 1 false 1) (V 7) (zI (V 6)) (zB (.lb true)) (V 10))),
 (p2,(.row (W 0 0) (V 6) (cV 11 dS.kG)))] [] [3,2] []
def aBw : LH:=.mk [(qM (.li 0) (V 6)),(qL (V 6) (.rlen (W 0 0)))] .nl [] [([((uN (W 11 1) (.li 1)),true)],(qM (.li 0) (W 11 4))),([((uN (W 11 1) (.li 1)),true),((qL (V 6) (.rlen (W 0 0))),true),((qM (.li 0) (V 6)),true)],(qL (W 11 4) (.rlen (W 0 0))))] 0 [] []
def vT (r:Bool×Bool×Int×List (Int×Bool)×Bool×List (Int×Bool)):Nat×List AV:=Ny r.1 [eB r.2.1,eI r.2.2.1,eL (BG kY rowB) r.2.2.2.1] [eB r.2.2.2.2.1,eL (BG kY rowB) r.2.2.2.2.2]
theorem Hu (x0:dK)(v1:List Bool)(u2:Bool)(u3:Int)(u4:List Bool):∀(n:Nat) (u5:Bool) (u6:Int) (u7:List (Int×Bool)) (hP:JH x0) (hB:x0.Objects.length<=4294967296) (_:kZ x0 u4 n u5 u6 u7=true),nU Try.prog sT aBv aBw [dK.av x0,eL rowB v1,eB u2,eI u3,eL rowB u4] n [eB u5,eI u6,eL (BG kY rowB) u7] (vT (iP x0 u4 n u5 u6 u7))
 |0,u5,u6,u7,_,_,hE=>absurd (show false=true from hE) Bool.false_ne_true
 |n+1,u5,u6,u7,hP,hB,hE=>
  let v8:Bool:=u4.getD (u6:Int).toNat default
  let v9:Bool×Bool:=n_ false u6 u7
  let v10:List (Int×Bool):=og u6 true u7
  let v11:dS:=x0.Objects.getD (u6:Int).toNat default
  have hE:(bif (!(!v8)) then true
  else bif v9.2 then true
  else bif (dZ v11.eu.Kind 1) then true
  else kZ x0 u4 n u5 v11.eu.Ref v10)=true:=hE
  EU rfl [.agg (rowB v8),.agg (eB v9.1::rowB v9.2),eL (BG kY rowB) v10,dS.av v11] (xp (fun h=>decide_eq_true (ad_ hP (GL.1 (h.at 0 rfl))))<|xp (fun h=>decide_eq_true (aiL hP (GL.1 (h.at 0 rfl)) (of_decide_eq_true (h.at 1 rfl)) (of_decide_eq_true (h.at 2 rfl))))<|xn) (wT <|
  wT <|
  wRd rfl <|
  asn (f:=kY) (g:=rowB) asI u6 false rfl <|
  axg (f:=kY) (g:=rowB) asI u6 true rfl <|
  wR rfl <|
  wn) ln <|
   rcf vT (fun g0=>rx)<|fun g0=>rcf vT (fun g1=>rx)<|fun g1=>rcf vT (fun g2=>rx)<|fun g2=>rl (rg (Hu x0 v1 u2 u3 u4 n _ _ _ hP hB (EW g2 (EW g1 (EW g0 hE)))))
def aBy : Lo:=
 let p0:Pc:=((qL (V 3) (.rlen (W 0 0))),true)::[]
 let p1:Pc:=((qE (V 5) (.li 0)),true)::p0
 .mk [] 2 3 [(zB (.lb false)),(zI (.li 0)),(zL (V 1))] [((.not (qL (V 3) (.rlen (W 0 0)))),1,[(zB (V 2)),(zL (V 4))]),((.not (qE (V 5) (.li 0))),2,[(zB (V 9)),(zL (V 4))]),((.lb true),0,[(zB (V 6)),(zI (aI (V 3) (.li 1))),(zL (V 11))])] [(p1,(.mark (.mk false 1 false 1) (V 8) (V 4) (.rlen (W 0 0)) (V 11)))] [aBv] [2,2] []
def aBz : LH:=.mk [(qM (.li 0) (V 3)),(qE (.rlen (V 4)) (.rlen (V 1)))] (mI (.rlen (W 0 0)) (V 3)) [((.rlen (W 0 0)),1)] [] 1 [aBw] []
def A8 (r:Bool×Bool×List Bool×Bool×List Bool):Nat×List AV:=Ny r.1 [eB r.2.1,eL rowB r.2.2.1] [eB r.2.2.2.1,eL rowB r.2.2.2.2]
theorem Hw (x0:dK)(v1:List Bool):∀(n:Nat) (u2:Bool) (u3:Int) (u4:List Bool) (hP:JH x0) (hB:x0.Objects.length<=4294967296) (k0:0<=u3),nU Try.prog sT aBy aBz [dK.av x0,eL rowB v1] n [eB u2,eI u3,eL rowB u4] (A8 (lN x0 n u2 u3 u4))
 |0,u2,u3,u4,_,_,_=>l0
 |n+1,u2,u3,u4,hP,hB,k0=>
  let r5:Bool×Bool×Int×List (Int×Bool)×Bool×List (Int×Bool):=iP x0 u4 (x0.Objects.length+3) u2 u3 []
  let v11:List Bool:=Qa r5.2.2.2.1 u4
  EU rfl [eI (ji r5.1),eB r5.2.1,eI r5.2.2.1,eL (BG kY rowB) r5.2.2.2.1,eB r5.2.2.2.2.1,eL (BG kY rowB) r5.2.2.2.2.2,eL rowB v11] xn (axf (u:=r5.2.2.2.1) (l:=u4) rfl rfl (by intro h;exact aec hP (fun e he=>absurd he List.not_mem_nil) k0 (of_decide_eq_true (h.at 1 rfl)))<|wn) (Yp (Hu x0 v1 u2 u3 u4 (x0.Objects.length+3) u2 u3 [] hP hB (SI hP)) (hn:=Int.natCast_pos.2 (Nat.succ_pos _)) <|
  ln) <|
   rcf A8 (fun g0=>rx)<|fun g0=>rcf A8 (fun g1=>rx)<|fun g1=>rl (rg (Hw x0 v1 n _ _ _ hP hB (aom hB k0 g0)))
def R20 : iE:=
 ⟨[((.not (qE (V 2) (.li 0))),(zB (V 5))),((.lb true),(zB (.lb false)))],
 [([],(.mk (.rlen (W 0 0)) (.rlen (W 0 0)) [(zB (.lb false))] (V 1)))],[aBy]⟩
def H20 : LH:=.mk [] (.li 0) [] [] 0 [aBz] []
theorem e20 : jo Try.prog fG fH oU (oN kA 20 [4,2,6,5,8,16] [(0,(.mk [1,3,15] (.mk [(2,(.sc .bool)),(16,(.sc kI))] [] [(5,1)] 11 []) [(.normal,(.mk [(2,(.sc .bool))] [] [(5,1)] 11 [])),(.ret,(.mk [(2,(.sc .bool))] [] [(5,1)] 11 []))])),(2,(.mk [1,3,4,5,15,16] (.mk [(2,(.sc .bool)),(6,(.sc kI))] [] [(14,(.map (.mk false 1 false 1)))] 18 []) [(.normal,(.mk [(2,(.sc .bool)),(6,(.sc kI))] [] [(14,(.map (.mk false 1 false 1)))] 18 [])),(.ret,(.mk [(2,(.sc .bool))] [] [(14,(.map (.mk false 1 false 1)))] 18 []))]))]) 3 200 20 [.agg (cV 0 dK.kG)] 1=some R20:=by kernel_rfl
theorem YA (x0:dK)(hP:JH x0)(hB:x0.Objects.length<=4294967296):CT Try.prog sT 20 [dK.av x0] (eB (qW x0)):=
 let v1:List Bool:=List.replicate ((je dS.enc x0.Objects):Int).toNat false
 let r2:Bool×Bool×List Bool×Bool×List Bool:=lN x0 (x0.Objects.length+1) false 0 v1
 qY jc dP dQ e20 H20 (by kernel_rfl) [dK.av x0,eL rowB v1,eI (ji r2.1),eB r2.2.1,eL rowB r2.2.2.1,eB r2.2.2.2.1,eL rowB r2.2.2.2.2] xn
  (wMk (f:=rowB) false rfl<|wn)
  (Yp (Hw x0 v1 (x0.Objects.length+1) false 0 v1 hP hB (Int.le_refl _)) <|
  ln)
  (gW (fun r=>.p (.bool r)) rfl rfl (iY rfl))
def R48 : iE:=
 ⟨[((.lb true),(zF (V 1)))],
 [([],(.call 53 [(zF (V 0))] (zF (V 1))))],[]⟩
theorem e48 : jo Try.prog fG fH oU (oN kA 48 [] []) 3 200 48 [zF (V 0)] 1=some R48:=by kernel_rfl
theorem YB (x0:Nat)(h0:Cb x0):CT Try.prog sT 48 [eF x0] (eF (Ja x0)):=
 let v1:Nat:=jI x0
 qY jc dP dQ e48 xC (by kernel_rfl) [eF x0,eF v1] xn
  (wCp (by intro h;exact ctP (E8 x0 h0))<|wn)
  ln
  (iY rfl)
def R49 : iE:=
 ⟨[((.lb true),(zF (V 2)))],
 [([],(.call 56 [(zF (V 0))] (.sc (.int .u64) (V 1)))),
 ([],(.call 55 [(.sc (.int .u64) (.bin .andNot (.int .u64) (V 1) (.li 9223372036854775808)))] (zF (V 2))))],[]⟩
theorem e49 : jo Try.prog fG fH oU (oN kA 49 [] []) 3 200 49 [zF (V 0)] 1=some R49:=by kernel_rfl
theorem aeE (x0:Nat):CT Try.prog sT 49 [eF x0] (eF (Qc x0)):=
 let v1:Int:=oM x0
 let v2:Nat:=qw (pV .u64 v1 9223372036854775808)
 qY jc dP dQ e49 xC (by kernel_rfl) [eF x0,.p (.int .u64 v1),eF v2] xn
  (wC (ctP (wu x0)) <|
  wC (ctP (yw (pV .u64 v1 9223372036854775808))) <|
  wn)
  ln
  (iY rfl)
def R50 : iE:=
 ⟨[((.lb true),(zB (qL (.conv .i64 (V 1)) (.li 0))))],
 [([],(.call 56 [(zF (V 0))] (.sc (.int .u64) (V 1))))],[]⟩
theorem e50 : jo Try.prog fG fH oU (oN kA 50 [] []) 3 200 50 [zF (V 0)] 1=some R50:=by kernel_rfl
theorem Uw (x0:Nat):CT Try.prog sT 50 [eF x0] (eB (CZ x0)):=
 let v1:Int:=oM x0
 qY jc dP dQ e50 xC (by kernel_rfl) [eF x0,.p (.int .u64 v1)] xn
  (wC (ctP (wu x0))<|wn)
  ln
  (iY rfl)
def R45 : iE:=
 let p0:Pc:=((.bin .neq .kC (V 0) (V 0)),false)::[]
 let p1:Pc:=((.bin .eql .kC (V 1) (V 0)),true)::p0
 let p2:Pc:=((.and (.bin .eql .kC (V 1) (V 0)) (.bin .leq .kC (V 2) (.lf 4845873199050653695))),true)::p0
 let p3:Pc:=((.bin .neq .kC (V 0) (.lf 0)),false)::p2
 ⟨[((.lb true),(zB (.or (.bin .neq .kC (V 0) (V 0)) (.and (.and (.bin .eql .kC (V 1) (V 0)) (.bin .leq .kC (V 2) (.lf 4845873199050653695))) (.or (.bin .neq .kC (V 0) (.lf 0)) (.not (V 3)))))))],
 [(p0,(.call 48 [(zF (V 0))] (zF (V 1)))),
 (p1,(.call 49 [(zF (V 0))] (zF (V 2)))),
 (p3,(.call 50 [(zF (V 0))] (zB (V 3))))],[]⟩
theorem e45 : jo Try.prog fG fH oU (oN kA 45 [] []) 3 200 45 [zF (V 0)] 1=some R45:=by kernel_rfl
theorem O3 (x0:Nat):CT Try.prog sT 45 [eF x0] (eB (wP x0)):=
 let v1:Nat:=Ja x0
 let v2:Nat:=Qc x0
 let v3:Bool:=CZ x0
 qY jc dP dQ e45 xC (by kernel_rfl) [eF x0,eF v1,eF v2,eB v3] xn
  (wCp (by intro h;exact YB x0 (awR (h.at 0 rfl))) <|
  wC (aeE x0) <|
  wC (Uw x0) <|
  wn)
  ln
  (iY rfl)
def R35 : iE:=
 let p0:Pc:=((qG (.slen (W 0 2)) (.li 4096)),false)::[]
 let p1:Pc:=((qL (W 0 3) (.li 0)),false)::p0
 let p2:Pc:=((.bin .gtr kU (W 0 0) (.li 8)),false)::p1
 let p3:Pc:=((uE (W 0 0) (.li 2)),true)::p2
 let p4:Pc:=((.bin .neq .kC (W 0 1) (.lf 4607182418800017408)),true)::p3
 let p5:Pc:=((.bin .neq .kC (W 0 1) (.lf 0)),false)::p4
 let p6:Pc:=((uE (W 0 0) (.li 2)),false)::p2
 let p7:Pc:=((uE (W 0 0) (.li 3)),true)::p6
 let p8:Pc:=((.and (uE (W 0 0) (.li 2)) (.and (.bin .neq .kC (W 0 1) (.lf 4607182418800017408)) (.or (.bin .neq .kC (W 0 1) (.lf 0)) (.not (V 1))))),false)::p2
 let p9:Pc:=((.and (.not (uE (W 0 0) (.li 2))) (.and (uE (W 0 0) (.li 3)) (.not (V 2)))),false)::p8
 let p10:Pc:=((.and (uE (W 0 0) (W 0 0)) (.and (.or (uE (W 0 0) (.li 2)) (.or (uE (W 0 0) (.li 3)) (.bin .eql .kC (W 0 1) (.lf 0)))) (.and (.ite (uE (W 0 0) (.li 2)) (sE (W 0 2) (.ls [])) (.ite (uE (W 0 0) (.li 3)) (sE (W 0 2) (.ls [])) (.or (uE (W 0 0) (.li 4)) (sE (W 0 2) (.ls []))))) (.ite (uE (W 0 0) (.li 2)) (qE (W 0 3) (.li 0)) (.ite (uE (W 0 0) (.li 3)) (qE (W 0 3) (.li 0)) (.ite (uE (W 0 0) (.li 4)) (qE (W 0 3) (.li 0)) (.or (.or (uE (W 0 0) (.li 5)) (.or (uE (W 0 0) (.li 6)) (.or (uE (W 0 0) (.li 7)) (uE (W 0 0) (.li 8))))) (qE (W 0 3) (.li 0))))))))),true)::p9
 ⟨[((.or (.or (.bin .gtr kU (W 0 0) (.li 8)) (qL (W 0 3) (.li 0))) (qG (.slen (W 0 2)) (.li 4096))),(zB (.lb false))),((.and (uE (W 0 0) (.li 2)) (.and (.bin .neq .kC (W 0 1) (.lf 4607182418800017408)) (.or (.bin .neq .kC (W 0 1) (.lf 0)) (.not (V 1))))),(zB (.lb false))),((.and (.not (uE (W 0 0) (.li 2))) (.and (uE (W 0 0) (.li 3)) (.not (V 2)))),(zB (.lb false))),((.lb true),(zB (.and (.and (uE (W 0 0) (W 0 0)) (.and (.or (uE (W 0 0) (.li 2)) (.or (uE (W 0 0) (.li 3)) (.bin .eql .kC (W 0 1) (.lf 0)))) (.and (.ite (uE (W 0 0) (.li 2)) (sE (W 0 2) (.ls [])) (.ite (uE (W 0 0) (.li 3)) (sE (W 0 2) (.ls [])) (.or (uE (W 0 0) (.li 4)) (sE (W 0 2) (.ls []))))) (.ite (uE (W 0 0) (.li 2)) (qE (W 0 3) (.li 0)) (.ite (uE (W 0 0) (.li 3)) (qE (W 0 3) (.li 0)) (.ite (uE (W 0 0) (.li 4)) (qE (W 0 3) (.li 0)) (.or (.or (uE (W 0 0) (.li 5)) (.or (uE (W 0 0) (.li 6)) (.or (uE (W 0 0) (.li 7)) (uE (W 0 0) (.li 8))))) (qE (W 0 3) (.li 0))))))))) (V 3))))],
 [(p5,(.call 45 [(zF (W 0 1))] (zB (V 1)))),
 (p7,(.call 45 [(zF (W 0 1))] (zB (V 2)))),
 (p10,(.call 45 [(zF (.ite (uE (W 0 0) (.li 2)) (.lf 0) (.ite (uE (W 0 0) (.li 3)) (.lf 0) (W 0 1))))] (zB (V 3))))],[]⟩
theorem e35 : jo Try.prog fG fH oU (oN kA 35 [] []) 3 200 35 [.agg (cV 0 dL.kG)] 1=some R35:=by kernel_rfl
theorem vU (x0:dL):CT Try.prog sT 35 [dL.av x0] (eB (iZ x0)):=
 let v1:Bool:=wP x0.Num
 let v2:Bool:=wP x0.Num
 let v3:Bool:=wP (bif (dZ x0.Kind 2) then 0 else (bif (dZ x0.Kind 3) then 0 else x0.Num))
 qY jc dP dQ e35 xC (by kernel_rfl) [dL.av x0,eB v1,eB v2,eB v3] xn
  (wC (O3 x0.Num) <|
  wC (O3 x0.Num) <|
  wC (O3 (bif (dZ x0.Kind 2) then 0 else (bif (dZ x0.Kind 3) then 0 else x0.Num))) <|
  wn)
  ln
  (gW (fun r=>.p (.bool r)) rfl rfl (gW (fun r=>.p (.bool r)) rfl rfl (gW (fun r=>.p (.bool r)) rfl rfl (iY rfl))))
def R30 : iE:=
 let p0:Pc:=((uE (W 0 0) (V 1)),true)::[]
 ⟨[((.lb true),(zB (.and (uE (W 0 0) (V 1)) (V 2))))],
 [(p0,(.call 35 [(.agg (cV 0 dL.kG))] (zB (V 2))))],[]⟩
theorem e30 : jo Try.prog fG fH oU (oN kA 30 [] []) 3 200 30 [.agg (cV 0 dL.kG),zU (V 1)] 2=some R30:=by kernel_rfl
theorem D9 (x0:dL)(x1:Int):CT Try.prog sT 30 [dL.av x0,eU x1] (eB (nR x0 x1)):=
 let v2:Bool:=iZ x0
 qY jc dP dQ e30 xC (by kernel_rfl) [dL.av x0,eU x1,eB v2] xn
  (wC (vU x0)<|wn)
  ln
  (iY rfl)
def R18 : iE:=
 ⟨[((.lb true),(zB (.and (.bin .geq kU (W 0 0) (.li 6)) (.bin .leq kU (W 0 0) (.li 8)))))],
 [],[]⟩
theorem e18 : jo Try.prog fG fH oU (oN kA 18 [] []) 3 200 18 [.agg (cV 0 dL.kG)] 1=some R18:=by kernel_rfl
theorem lZ (x0:dL):CT Try.prog sT 18 [dL.av x0] (eB (dM x0)):=
 qY jc dP dQ e18 xC (by kernel_rfl) [dL.av x0] xn
  wn
  ln
  (iY rfl)
def R36 : iE:=
 ⟨[((W 0 17),(zU (.li 8))),((W 0 16),(zU (.li 7))),((.lb true),(zU (.li 6)))],
 [],[]⟩
theorem e36 : jo Try.prog fG fH oU (oN kA 36 [] []) 3 200 36 [.agg (cV 0 dS.kG)] 1=some R36:=by kernel_rfl
theorem abU (x0:dS):CT Try.prog sT 36 [dS.av x0] (eU (AP x0)):=
 qY jc dP dQ e36 xC (by kernel_rfl) [dS.av x0] xn
  wn
  ln
  (gW (fun r=>.p (.int .u8 r)) rfl rfl (gW (fun r=>.p (.int .u8 r)) rfl rfl (iY rfl)))
def R29 : iE:=
 let p0:Pc:=((V 2),true)::[]
 let p1:Pc:=((.not (V 3)),false)::p0
 let p2:Pc:=((qL (W 1 3) (.rlen (W 0 0))),true)::p1
 ⟨[((.not (V 2)),(zB (.lb false))),((.lb true),(zB (.or (.not (V 3)) (.and (qL (W 1 3) (.rlen (W 0 0))) (uE (V 5) (W 1 0))))))],
 [([],(.call 35 [(.agg (cV 1 dL.kG))] (zB (V 2)))),
 (p0,(.call 18 [(.agg (cV 1 dL.kG))] (zB (V 3)))),
 (p2,(.row (W 0 0) (W 1 3) (cV 4 dS.kG))),
 (p2,(.call 36 [(.agg (cV 4 dS.kG))] (zU (V 5))))],[]⟩
def H29 : LH:=.mk [] (.li 0) [] [([((V 2),true)],(qM (.li 0) (W 1 3)))] 0 [] []
theorem e29 : jo Try.prog fG fH oU (oN kA 29 [] []) 3 200 29 [.agg (cV 0 dK.kG),.agg (cV 1 dL.kG)] 2=some R29:=by kernel_rfl
theorem A_ (x0:dK)(x1:dL):CT Try.prog sT 29 [dK.av x0,dL.av x1] (eB (eH x0 x1)):=
 let v2:Bool:=iZ x1
 let v3:Bool:=dM x1
 let v4:dS:=x0.Objects.getD (x1.Ref:Int).toNat default
 let v5:Int:=AP v4
 qY jc dP dQ e29 H29 (by kernel_rfl) [dK.av x0,dL.av x1,eB v2,eB v3,dS.av v4,eU v5] (xp (fun h=>decide_eq_true (Qx ( (h.at 0 rfl))))<|xn)
  (wC (vU x1) <|
  wC (lZ x1) <|
  wR rfl <|
  wC (abU v4) <|
  wn)
  ln
  (gW (fun r=>.p (.bool r)) rfl rfl (iY rfl))
def aBA : Lo:=
 let p0:Pc:=((.and (W 1 17) (.not (W 1 16))),false)::[]
 let p1:Pc:=((sN (W 1 15) (.ls [])),false)::p0
 let p2:Pc:=((V 3),true)::p1
 let p3:Pc:=((W 1 5),false)::p2
 let p4:Pc:=((qG (.rlen (W 1 6)) (.li 0)),false)::p3
 let p5:Pc:=((.and (V 4) (V 5)),false)::p4
 let p6:Pc:=((qL (V 7) (.li 2)),true)::p5
 let p7:Pc:=((.not (V 10)),false)::p6
 .mk [((.and (V 4) (V 5)),false),((qG (.rlen (W 1 6)) (.li 0)),false),((W 1 5),false),((V 3),true),((sN (W 1 15) (.ls [])),false),((.and (W 1 17) (.not (W 1 16))),false)] 6 3 [(zB (.lb false)),(zI (.li 0)),(.slc [[(zU (W 1 7)),(zF (W 1 8)),(zS (W 1 9)),(zI (W 1 10))],[(zU (W 1 11)),(zF (W 1 12)),(zS (W 1 13)),(zI (W 1 14))]] false)] [((.not (qL (V 7) (.li 2))),1,[(zB (V 6)),(zL (V 8))]),((.or (.or (.not (V 10)) (.not (V 11))) (qH (W 9 3) (V 2))),2,[(zB (.lb false)),(zL (V 8))]),((.lb true),0,[(zB (V 6)),(zI (aI (V 7) (.li 1))),(zL (V 8))])] [(p6,(.tm (qM (.li 0) (V 7)))),
 (p6,(.rd (true,4) (V 8) (V 7) 0 (.agg (cV 9 dL.kG)))),
 (p6,(.call 18 [(.agg (cV 9 dL.kG))] (zB (V 10)))),
 (p7,(.call 29 [(.agg [(zL (W 0 0))]),(.agg (cV 9 dL.kG))] (zB (V 11))))] [] [2,2] []
def aBB : LH:=.mk [(qM (.rlen (W 1 6)) (V 7)),(qE (.rlen (V 8)) (.li 2))] (mI (.li 2) (V 7)) [((.li 2),1)] [] 3 [] []
def Ba (r:Bool×Bool×List dL×Bool×List dL):Nat×List AV:=Ny r.1 [eB r.2.1,eL dL.enc r.2.2.1] [eB r.2.2.2.1,eL dL.enc r.2.2.2.2]
theorem Hy (x0:dK)(x1:dS)(x2:Int)(v3:Bool)(v4:Bool)(v5:Bool):∀(n:Nat) (u6:Bool) (u7:Int) (u8:List dL),nU Try.prog sT aBA aBB [dK.av x0,dS.av x1,eI x2,eB v3,eB v4,eB v5] n [eB u6,eI u7,eL dL.enc u8] (Ba (jJ x0 x2 n u6 u7 u8))
 |0,u6,u7,u8=>l0
 |n+1,u6,u7,u8=>
  let v9:dL:=u8.getD (u7:Int).toNat default
  let v10:Bool:=dM v9
  let v11:Bool:=eH x0 v9
  EU rfl [dL.av v9,eB v10,eB v11] xn (wT <|
  wRd rfl <|
  wC (lZ v9) <|
  wC (A_ x0 v9) <|
  wn) ln <|
   rc Ba rx<|rc Ba rx<|rl (rg (Hy x0 x1 x2 v3 v4 v5 n _ _ _))
def R28 : iE:=
 let p0:Pc:=((.or (qG (.rlen (W 1 6)) (.li 0)) (W 1 5)),false)::[]
 let p1:Pc:=((.and (W 1 17) (.not (W 1 16))),false)::[]
 let p2:Pc:=((sN (W 1 15) (.ls [])),false)::p1
 let p3:Pc:=((V 3),true)::p2
 let p4:Pc:=((W 1 5),false)::p3
 let p5:Pc:=((qG (.rlen (W 1 6)) (.li 0)),false)::p4
 let p6:Pc:=((V 4),true)::p5
 let p7:Pc:=((.and (V 4) (V 5)),false)::p5
 let p8:Pc:=((qE (V 6) (.li 0)),true)::p7
 ⟨[((.or (.or (.or (.or (qG (.rlen (W 1 6)) (.li 0)) (W 1 5)) (.not (V 3))) (sN (W 1 15) (.ls []))) (.and (W 1 17) (.not (W 1 16)))),(zB (.lb false))),((.and (V 4) (V 5)),(zB (.lb true))),((.not (qE (V 6) (.li 0))),(zB (V 9))),((.lb true),(zB (.and (.bin .eql .bool (W 11 16) (W 1 16)) (.bin .eql .bool (W 11 17) (W 1 17)))))],
 [(p0,(.call 30 [(.agg (cW 1 1 dL.kG)),(zU (.li 1))] (zB (V 3)))),
 (p5,(.call 30 [(.agg (cW 1 7 dL.kG)),(zU (.li 1))] (zB (V 4)))),
 (p6,(.call 30 [(.agg (cW 1 11 dL.kG)),(zU (.li 1))] (zB (V 5)))),
 (p8,(.row (W 0 0) (W 1 10) (cV 11 dS.kG)))],[aBA]⟩
def H28 : LH:=.mk [] (.li 0) [] [([((qE (V 6) (.li 0)),true)],(qM (.li 0) (W 1 10))),([((qE (V 6) (.li 0)),true)],(qL (W 1 10) (.rlen (W 0 0))))] 0 [aBB] []
theorem e28 : jo Try.prog fG fH oU (oN kA 28 [61,60,62,63,66,68,67,69,52,6] [(0,(.mk [2,3,4,50,51] (.mk [(6,(.sc .bool)),(52,(.sc kI))] [] [(43,4)] 46 []) [(.normal,(.mk [(6,(.sc .bool))] [] [(43,4)] 46 [])),(.ret,(.mk [(6,(.sc .bool))] [] [(43,4)] 46 []))]))]) 3 200 28 [.agg (cV 0 dK.kG),.agg (cV 1 dS.kG),zI (V 2)] 3=some R28:=by kernel_rfl
theorem YC (x0:dK)(x1:dS)(x2:Int):CT Try.prog sT 28 [dK.av x0,dS.av x1,eI x2] (eB (pK x0 x1 x2)):=
 let v3:Bool:=nR x1.eu 1
 let v4:Bool:=nR x1.Target 1
 let v5:Bool:=nR x1.Handler 1
 let r6:Bool×Bool×List dL×Bool×List dL:=jJ x0 x2 ((2:Int).toNat+1) false 0 [x1.Target,x1.Handler]
 let v11:dS:=x0.Objects.getD (x1.Target.Ref:Int).toNat default
 qY jc dP dQ e28 H28 (by kernel_rfl) [dK.av x0,dS.av x1,eI x2,eB v3,eB v4,eB v5,eI (ji r6.1),eB r6.2.1,eL dL.enc r6.2.2.1,eB r6.2.2.2.1,eL dL.enc r6.2.2.2.2,dS.av v11] (xp (fun h=>decide_eq_true (aok (kP.1 (h.at 0 rfl))))<|xp (fun h=>decide_eq_true (aol (kP.1 (h.at 0 rfl))))<|xn)
  (wC (D9 x1.eu 1) <|
  wC (D9 x1.Target 1) <|
  wC (D9 x1.Handler 1) <|
  wR rfl <|
  wn)
  (Yp (Hy x0 x1 x2 v3 v4 v5 ((2:Int).toNat+1) false 0 [x1.Target,x1.Handler]) <|
  ln)
  (gW (fun r=>.p (.bool r)) rfl rfl (gW (fun r=>.p (.bool r)) rfl rfl (gW (fun r=>.p (.bool r)) rfl rfl (iY rfl))))
def R37 : iE:=
 ⟨[((.or (.or (qL (W 0 1) (.li 0)) (qG (.slen (W 0 0)) (.li 4096))) (.and (qG (W 0 1) (.li 0)) (sN (W 0 0) (.ls [])))),(zI (.li 9))),((.lb true),(zI (.li 0)))],
 [],[]⟩
theorem e37 : jo Try.prog fG fH oU (oN kA 37 [] []) 3 200 37 [.agg (cV 0 dI.kG)] 1=some R37:=by kernel_rfl
theorem QJ (x0:dI):CT Try.prog sT 37 [dI.av x0] (eI (vM x0)):=
 qY jc dP dQ e37 xC (by kernel_rfl) [dI.av x0] xn
  wn
  ln
  (gW (fun r=>.p (.int .i64 r)) rfl rfl (iY rfl))
def R40 : iE:=
 ⟨[((.lb true),(zB (uN (.bin .and kU (W 0 0) (.li 3)) (.li 0))))],
 [],[]⟩
theorem e40 : jo Try.prog fG fH oU (oN kA 40 [] []) 3 200 40 [.agg (cV 0 dN.kG)] 1=some R40:=by kernel_rfl
theorem LU (x0:dN):CT Try.prog sT 40 [dN.av x0] (eB (lH x0)):=
 qY jc dP dQ e40 xC (by kernel_rfl) [dN.av x0] xn
  wn
  ln
  (iY rfl)
def R57 : iE:=
 ⟨[((.lb true),(zB (uN (.bin .and kU (W 0 0) (.li 12)) (.li 0))))],
 [],[]⟩
theorem e57 : jo Try.prog fG fH oU (oN kA 57 [] []) 3 200 57 [.agg (cV 0 dN.kG)] 1=some R57:=by kernel_rfl
theorem Hz (x0:dN):CT Try.prog sT 57 [dN.av x0] (eB (jA x0)):=
 qY jc dP dQ e57 xC (by kernel_rfl) [dN.av x0] xn
  wn
  ln
  (iY rfl)
def R60 : iE:=
 ⟨[((.lb true),(zB (.or (uE (W 0 0) (.li 7)) (uE (W 0 0) (.li 8)))))],
 [],[]⟩
theorem e60 : jo Try.prog fG fH oU (oN kA 60 [] []) 3 200 60 [.agg (cV 0 dL.kG)] 1=some R60:=by kernel_rfl
theorem XR (x0:dL):CT Try.prog sT 60 [dL.av x0] (eB (Lm x0)):=
 qY jc dP dQ e60 xC (by kernel_rfl) [dL.av x0] xn
  wn
  ln
  (iY rfl)
def R58 : iE:=
 let p0:Pc:=((V 1),true)::[]
 let p1:Pc:=((uE (W 0 0) (.li 0)),false)::p0
 ⟨[((.lb true),(zB (.and (V 1) (.or (uE (W 0 0) (.li 0)) (V 2)))))],
 [([],(.call 35 [(.agg (cV 0 dL.kG))] (zB (V 1)))),
 (p1,(.call 60 [(.agg (cV 0 dL.kG))] (zB (V 2))))],[]⟩
theorem e58 : jo Try.prog fG fH oU (oN kA 58 [] []) 3 200 58 [.agg (cV 0 dL.kG)] 1=some R58:=by kernel_rfl
theorem LV (x0:dL):CT Try.prog sT 58 [dL.av x0] (eB (nH x0)):=
 let v1:Bool:=iZ x0
 let v2:Bool:=Lm x0
 qY jc dP dQ e58 xC (by kernel_rfl) [dL.av x0,eB v1,eB v2] xn
  (wC (vU x0) <|
  wC (XR x0) <|
  wn)
  ln
  (iY rfl)
def R51 : iE:=
 let p0:Pc:=((uN (.bin .andNot kU (W 0 0) (.li 63)) (.li 0)),false)::[]
 let p1:Pc:=((V 1),true)::p0
 let p2:Pc:=((.or (uN (.bin .andNot kU (W 0 0) (.li 63)) (.li 0)) (.and (V 1) (V 2))),false)::[]
 let p3:Pc:=((.or (.or (uN (.bin .andNot kU (W 0 0) (.li 63)) (.li 0)) (.and (V 1) (V 2))) (.not (V 3))),false)::[]
 let p4:Pc:=((.or (.or (.or (uN (.bin .andNot kU (W 0 0) (.li 63)) (.li 0)) (.and (V 1) (V 2))) (.not (V 3))) (.not (V 4))),false)::[]
 ⟨[((.or (.or (.or (.or (uN (.bin .andNot kU (W 0 0) (.li 63)) (.li 0)) (.and (V 1) (V 2))) (.not (V 3))) (.not (V 4))) (.not (V 5))),(zI (.li 90))),((.or (.or (.and (uN (.bin .and kU (.com .u8 (W 0 0)) (.li 1)) (.li 0)) (.not (.and (uE (W 0 1) (.li 0)) (.and (.bin .eql .kC (W 0 2) (.lf 0)) (.and (sE (W 0 3) (.ls [])) (qE (W 0 4) (.li 0))))))) (.and (uN (.bin .and kU (.com .u8 (W 0 0)) (.li 4)) (.li 0)) (.not (.and (uE (W 0 5) (.li 0)) (.and (.bin .eql .kC (W 0 6) (.lf 0)) (.and (sE (W 0 7) (.ls [])) (qE (W 0 8) (.li 0)))))))) (.and (uN (.bin .and kU (.com .u8 (W 0 0)) (.li 8)) (.li 0)) (.not (.and (uE (W 0 9) (.li 0)) (.and (.bin .eql .kC (W 0 10) (.lf 0)) (.and (sE (W 0 11) (.ls [])) (qE (W 0 12) (.li 0)))))))),(zI (.li 90))),((.or (.or (.and (uN (.bin .and kU (.com .u8 (W 0 0)) (.li 2)) (.li 0)) (W 0 13)) (.and (uN (.bin .and kU (.com .u8 (W 0 0)) (.li 16)) (.li 0)) (W 0 14))) (.and (uN (.bin .and kU (.com .u8 (W 0 0)) (.li 32)) (.li 0)) (W 0 15))),(zI (.li 90))),((.lb true),(zI (.li 0)))],
 [(p0,(.call 40 [(.agg (cV 0 dN.kG))] (zB (V 1)))),
 (p1,(.call 57 [(.agg (cV 0 dN.kG))] (zB (V 2)))),
 (p2,(.call 35 [(.agg (cW 0 1 dL.kG))] (zB (V 3)))),
 (p3,(.call 58 [(.agg (cW 0 5 dL.kG))] (zB (V 4)))),
 (p4,(.call 58 [(.agg (cW 0 9 dL.kG))] (zB (V 5))))],[]⟩
theorem e51 : jo Try.prog fG fH oU (oN kA 51 [] []) 3 200 51 [.agg (cV 0 dN.kG)] 1=some R51:=by kernel_rfl
theorem YD (x0:dN):CT Try.prog sT 51 [dN.av x0] (eI (uX x0)):=
 let v1:Bool:=lH x0
 let v2:Bool:=jA x0
 let v3:Bool:=iZ x0.Value
 let v4:Bool:=nH x0.Get
 let v5:Bool:=nH x0.Set
 qY jc dP dQ e51 xC (by kernel_rfl) [dN.av x0,eB v1,eB v2,eB v3,eB v4,eB v5] xn
  (wC (LU x0) <|
  wC (Hz x0) <|
  wC (vU x0.Value) <|
  wC (LV x0.Get) <|
  wC (LV x0.Set) <|
  wn)
  ln
  (gW (fun r=>.p (.int .i64 r)) rfl rfl (gW (fun r=>.p (.int .i64 r)) rfl rfl (gW (fun r=>.p (.int .i64 r)) rfl rfl (iY rfl))))
def R52 : iE:=
 ⟨[((.lb true),(.agg [(zU (.ite (V 1) (.bin .or kU (W 0 0) (.li 60)) (.bin .or kU (W 0 0) (.li 51)))),(zU (W 0 1)),(zF (W 0 2)),(zS (W 0 3)),(zI (W 0 4)),(zU (W 0 5)),(zF (W 0 6)),(zS (W 0 7)),(zI (W 0 8)),(zU (W 0 9)),(zF (W 0 10)),(zS (W 0 11)),(zI (W 0 12)),(zB (W 0 13)),(zB (W 0 14)),(zB (W 0 15))]))],
 [([],(.call 57 [(.agg (cV 0 dN.kG))] (zB (V 1))))],[]⟩
theorem e52 : jo Try.prog fG fH oU (oN kA 52 [] []) 3 200 52 [.agg (cV 0 dN.kG)] 1=some R52:=by kernel_rfl
theorem YE (x0:dN):CT Try.prog sT 52 [dN.av x0] (dN.av (m_ x0)):=
 let v1:Bool:=jA x0
 qY jc dP dQ e52 xC (by kernel_rfl) [dN.av x0,eB v1] xn
  (wC (Hz x0)<|wn)
  ln
  (iY rfl)
def R46 : iE:=
 let p0:Pc:=((qN (V 1) (.li 0)),false)::[]
 ⟨[((qN (V 1) (.li 0)),(.fD [(.agg [(zU (.li 0)),(zU (.li 0)),(zF (.lf 0)),(zS (.ls [])),(zI (.li 0)),(zU (.li 0)),(zF (.lf 0)),(zS (.ls [])),(zI (.li 0)),(zU (.li 0)),(zF (.lf 0)),(zS (.ls [])),(zI (.li 0)),(zB (.lb false)),(zB (.lb false)),(zB (.lb false))]),(zI (V 1))])),((.lb true),(.fD [(.agg (cV 2 dN.kG)),(zI (.li 0))]))],
 [([],(.call 51 [(.agg (cV 0 dN.kG))] (zI (V 1)))),
 (p0,(.call 52 [(.agg (cV 0 dN.kG))] (.agg (cV 2 dN.kG))))],[]⟩
theorem e46 : jo Try.prog fG fH oU (oN kA 46 [] []) 3 200 46 [.agg (cV 0 dN.kG)] 1=some R46:=by kernel_rfl
theorem SX (x0:dN):CT Try.prog sT 46 [dN.av x0] (CY (Bj x0)):=
 let v1:Int:=uX x0
 let v2:dN:=m_ x0
 qY jc dP dQ e46 xC (by kernel_rfl) [dN.av x0,eI v1,dN.av v2] xn
  (wC (YD x0) <|
  wC (YE x0) <|
  wn)
  ln
  (gW CY rfl rfl (iY rfl))
def R38 : iE:=
 ⟨[((.lb true),(zB (.and (qE (W 1 1) (.li 0)) (uE (.var 1 [0,0]) (W 0 0)))))],
 [([],(.call 46 [(.agg (cV 0 dN.kG))] (.fD [(.agg (kQ 1 [0] 0 dN.kG)),(zI (W 1 1))])))],[]⟩
theorem e38 : jo Try.prog fG fH oU (oN kA 38 [] []) 3 200 38 [.agg (cV 0 dN.kG)] 1=some R38:=by kernel_rfl
theorem XT (x0:dN):CT Try.prog sT 38 [dN.av x0] (eB (uY x0)):=
 let v1:dN×Int:=Bj x0
 qY jc dP dQ e38 xC (by kernel_rfl) [dN.av x0,CY v1] xn
  (wC (SX x0)<|wn)
  ln
  (iY rfl)
def aBC : Lo:=
 let p0:Pc:=((qG (.rlen (V 0)) (.li 1024)),false)::[]
 let p1:Pc:=((qL (V 2) (.rlen (V 0))),true)::p0
 let p2:Pc:=((qN (V 5) (.li 0)),false)::p1
 let p3:Pc:=((V 6),true)::p2
 let p4:Pc:=((qG (W 7 1) (.li 0)),false)::p3
 .mk [((qG (.rlen (V 0)) (.li 1024)),false)] 1 3 [(zI (.li 0)),(zI (.li 0)),(.slc [] false)] [((.not (qL (V 2) (.rlen (V 0)))),1,[(zI (V 1)),(zL (V 3))]),((qN (V 5) (.li 0)),2,[(zI (V 5)),(zL (V 3))]),((.not (V 6)),2,[(zI (.li 90)),(zL (V 3))]),((qG (W 7 1) (.li 0)),2,[(zI (.li 100)),(zL (V 3))]),((.lb true),0,[(zI (V 1)),(zI (aI (V 2) (.li 1))),(zL (V 8))])] [(p1,(.row (V 0) (V 2) (cV 4 dJ.kG))),
 (p1,(.call 37 [(.agg [(zS (W 4 0)),(zI (W 4 1))])] (zI (V 5)))),
 (p2,(.call 38 [(.agg (cW 4 2 dN.kG))] (zB (V 6)))),
 (p3,(.look 55 (.mk true 2 false 1) (V 3) (.agg [(zS (W 4 0)),(zI (W 4 1))]) (zI (.li 0)) (W 7 0) (zI (W 7 1)))),
 (p4,(.put 55 (.mk true 2 false 1) (V 3) (.agg [(zS (W 4 0)),(zI (W 4 1))]) (zI (aI (V 2) (.li 1))) (V 8)))] [] [2,2] [(V 0)]
def aBD : LH:=.mk [(qM (.li 0) (V 1)),(qM (V 1) (V 2))] (mI (.rlen (V 0)) (V 2)) [((.rlen (V 0)),1)] [] 0 [] []
def qB (r:Bool×Int×List (dI×Int)×Int×List (dI×Int)):Nat×List AV:=Ny r.1 [eI r.2.1,eL (BG dI.enc kY) r.2.2.1] [eI r.2.2.2.1,eL (BG dI.enc kY) r.2.2.2.2]
theorem Fa (x0:List dJ):∀(n:Nat) (u1:Int) (u2:Int) (u3:List (dI×Int)),nU Try.prog sT aBC aBD [eL dJ.enc x0] n [eI u1,eI u2,eL (BG dI.enc kY) u3] (qB (o_ x0 n u1 u2 u3))
 |0,u1,u2,u3=>l0
 |n+1,u1,u2,u3=>
  let v4:dJ:=x0.getD (u2:Int).toNat default
  let v5:Int:=vM v4.Key
  let v6:Bool:=uY v4.dV
  let v7:Bool×Int:=n_ 0 v4.Key u3
  let v8:List (dI×Int):=og v4.Key (dY .i64 u2 1) u3
  EU rfl [dJ.av v4,eI v5,eB v6,.agg (eB v7.1::kY v7.2),eL (BG dI.enc kY) v8] xn (wR rfl <|
  wC (QJ v4.Key) <|
  wC (XT v4.dV) <|
  asn (f:=dI.enc) (g:=kY) azO v4.Key 0 rfl <|
  axg (f:=dI.enc) (g:=kY) azO v4.Key (dY .i64 u2 1) rfl <|
  wn) ln <|
   rc qB rx<|rc qB rx<|rc qB rx<|rc qB rx<|rl (rg (Fa x0 n _ _ _))
def R31 : iE:=
 ⟨[((qG (.rlen (V 0)) (.li 1024)),(zI (.li 4))),((.not (qE (V 1) (.li 0))),(zI (V 4))),((.lb true),(zI (.li 0)))],
 [],[aBC]⟩
def H31 : LH:=.mk [] (.li 0) [] [] 0 [aBD] []
theorem e31 : jo Try.prog fG fH oU (oN kA 31 [15,4,6,2] [(0,(.mk [3,13,14] (.mk [(2,(.sc kI)),(15,(.sc kI))] [] [(6,(.map (.mk true 2 false 1)))] 11 []) [(.normal,(.mk [(2,(.sc kI))] [] [(6,(.map (.mk true 2 false 1)))] 11 [])),(.ret,(.mk [(2,(.sc kI))] [] [(6,(.map (.mk true 2 false 1)))] 11 []))]))]) 3 200 31 [zL (V 0)] 1=some R31:=by kernel_rfl
theorem D_ (x0:List dJ):CT Try.prog sT 31 [eL dJ.enc x0] (eI (jF x0)):=
 let r1:Bool×Int×List (dI×Int)×Int×List (dI×Int):=o_ x0 (x0.length+1) 0 0 []
 qY jc dP dQ e31 H31 (by kernel_rfl) [eL dJ.enc x0,eI (ji r1.1),eI r1.2.1,eL (BG dI.enc kY) r1.2.2.1,eI r1.2.2.2.1,eL (BG dI.enc kY) r1.2.2.2.2] xn
  wn
  (Yp (Fa x0 (x0.length+1) 0 0 []) <|
  ln)
  (gW (fun r=>.p (.int .i64 r)) rfl rfl (gW (fun r=>.p (.int .i64 r)) rfl rfl (iY rfl)))
def R39 : iE:=
 ⟨[((.lb true),(.agg [(zS (V 0)),(zI (.li 0))]))],
 [],[]⟩
theorem e39 : jo Try.prog fG fH oU (oN kA 39 [] []) 3 200 39 [zS (V 0)] 1=some R39:=by kernel_rfl
theorem aan (x0:List UInt8):CT Try.prog sT 39 [eS x0] (dI.av (OY x0)):=
 qY jc dP dQ e39 xC (by kernel_rfl) [eS x0] xn
  wn
  ln
  (iY rfl)
def aBE : Lo:=
 let p0:Pc:=((.and (qG (.slen (W 0 0)) (.li 1)) (uE (.byte (W 0 0) (.li 0)) (.li 48))),false)::[]
 let p1:Pc:=((qG (.slen (W 0 0)) (.li 4)),false)::p0
 let p2:Pc:=((sE (W 0 0) (.ls [])),false)::p1
 let p3:Pc:=((qG (W 0 1) (.li 0)),false)::p2
 let p4:Pc:=((qL (V 4) (.slen (W 0 0))),true)::p3
 let p5:Pc:=((.bin .lss kU (.byte (W 0 0) (V 4)) (.li 48)),false)::p4
 let p6:Pc:=((.bin .gtr kU (.byte (W 0 0) (V 4)) (.li 57)),false)::p4
 let p7:Pc:=((.bin .lss kU (.byte (W 0 0) (V 4)) (.li 48)),false)::p6
 .mk [((qG (W 0 1) (.li 0)),false),((sE (W 0 0) (.ls [])),false),((qG (.slen (W 0 0)) (.li 4)),false),((.and (qG (.slen (W 0 0)) (.li 1)) (uE (.byte (W 0 0) (.li 0)) (.li 48))),false)] 1 4 [(zI (.li 0)),(zB (.lb false)),(zI (.li 0)),(zI (.li 0))] [((.not (qL (V 4) (.slen (W 0 0)))),1,[(zI (V 1)),(zB (V 2)),(zI (V 3))]),((.or (.bin .lss kU (.byte (W 0 0) (V 4)) (.li 48)) (.bin .gtr kU (.byte (W 0 0) (V 4)) (.li 57))),2,[(zI (.li 0)),(zB (.lb false))]),((.lb true),0,[(zI (V 1)),(zB (V 2)),(zI (aI (.bin .mul kI (V 3) (.li 10)) (.conv .i64 (.bin .sub kU (.byte (W 0 0) (V 4)) (.li 48))))),(zI (aI (V 4) (.li 1)))])] [(p4,(.tm (qM (.li 0) (V 4)))),
 (p5,(.tm (qM (.li 0) (V 4)))),
 (p7,(.tm (qM (.li 0) (V 4))))] [] [3,2] []
def aBF : LH:=.mk [(qM (.li 0) (V 4))] (mI (.slen (W 0 0)) (V 4)) [((.slen (W 0 0)),1)] [] 1 [] []
def Cm (r:Bool×Int×Bool×Int×Int×Bool):Nat×List AV:=Ny r.1 [eI r.2.1,eB r.2.2.1,eI r.2.2.2.1] [eI r.2.2.2.2.1,eB r.2.2.2.2.2]
theorem JI (x0:dI):∀(n:Nat) (u1:Int) (u2:Bool) (u3:Int) (u4:Int),nU Try.prog sT aBE aBF [dI.av x0] n [eI u1,eB u2,eI u3,eI u4] (Cm (oh x0 n u1 u2 u3 u4))
 |0,u1,u2,u3,u4=>l0
 |n+1,u1,u2,u3,u4=>
  EU rfl [] xn (wT <|
  wT <|
  wT <|
  wn) ln <|
   rc Cm rx<|rc Cm rx<|rl (rg (JI x0 n _ _ _ _))
def R43 : iE:=
 let p0:Pc:=((.or (.or (qG (W 0 1) (.li 0)) (sE (W 0 0) (.ls []))) (qG (.slen (W 0 0)) (.li 4))),false)::[]
 let p1:Pc:=((qG (.slen (W 0 0)) (.li 1)),true)::p0
 ⟨[((.or (.or (.or (qG (W 0 1) (.li 0)) (sE (W 0 0) (.ls []))) (qG (.slen (W 0 0)) (.li 4))) (.and (qG (.slen (W 0 0)) (.li 1)) (uE (.byte (W 0 0) (.li 0)) (.li 48)))),(.fD [(zI (.li 0)),(zB (.lb false))])),((.not (qE (V 1) (.li 0))),(.fD [(zI (V 5)),(zB (V 6))])),((qH (V 4) (.li 1024)),(.fD [(zI (.li 0)),(zB (.lb false))])),((.lb true),(.fD [(zI (V 4)),(zB (.lb true))]))],
 [(p1,(.tm (qL (.li 0) (.slen (W 0 0)))))],[aBE]⟩
def H43 : LH:=.mk [] (.li 0) [] [] 0 [aBF] []
theorem e43 : jo Try.prog fG fH oU (oN kA 43 [44,46,45,47,48,35,5,4,2,3] [(0,(.mk [1,34] (.mk [(2,(.sc kI)),(3,(.sc .bool)),(4,(.sc kI)),(35,(.sc kI))] [] [] 34 []) [(.normal,(.mk [(2,(.sc kI)),(3,(.sc .bool)),(4,(.sc kI))] [] [] 34 [])),(.ret,(.mk [(2,(.sc kI)),(3,(.sc .bool))] [] [] 34 []))]))]) 3 200 43 [.agg (cV 0 dI.kG)] 1=some R43:=by kernel_rfl
theorem Jm (x0:dI):CT Try.prog sT 43 [dI.av x0] (iG (iI x0)):=
 let r1:Bool×Int×Bool×Int×Int×Bool:=oh x0 (((sLen x0.Str):Int).toNat+1) 0 false 0 0
 qY jc dP dQ e43 H43 (by kernel_rfl) [dI.av x0,eI (ji r1.1),eI r1.2.1,eB r1.2.2.1,eI r1.2.2.2.1,eI r1.2.2.2.2.1,eB r1.2.2.2.2.2] xn
  (wT<|wn)
  (Yp (JI x0 (((sLen x0.Str):Int).toNat+1) 0 false 0 0) <|
  ln)
  (gW iG rfl rfl (gW iG rfl rfl (gW iG rfl rfl (iY rfl))))
def axe : Lo:=
 let p0:Pc:=((qL (V 3) (.rlen (V 1))),true)::[]
 let p1:Pc:=((W 5 1),true)::p0
 .mk [] 2 2 [(zI (.li 0)),(zI (.li 0))] [((.not (qL (V 3) (.rlen (V 1)))),1,[(zI (V 2))]),((.and (W 5 1) (qH (W 5 0) (.UJ (V 0)))),2,[(zI (V 3))]),((.lb true),0,[(zI (V 2)),(zI (aI (V 3) (.li 1)))])] [(p0,(.row (V 1) (V 3) (cV 4 dJ.kG))),
 (p0,(.call 43 [(.agg [(zS (W 4 0)),(zI (W 4 1))])] (.fD [(zI (W 5 0)),(zB (W 5 1))]))),
 (p1,(.num .i64 (V 0) (.UJ (V 0))))] [] [1,1] [(V 1)]
def axj : LH:=.mk [(qM (.li 0) (V 3))] (mI (.rlen (V 1)) (V 3)) [((.rlen (V 1)),1)] [] 0 [] []
def mM (r:Bool×Int×Int):Nat×List AV:=Ny r.1 [eI r.2.1] [eI r.2.2]
theorem qZ (x0:Nat)(x1:List dJ):∀(n:Nat) (u2:Int) (u3:Int) (h0:ag1 x0=true),nU Try.prog sT axe axj [eF x0,eL dJ.enc x1] n [eI u2,eI u3] (mM (iU x0 x1 n u2 u3))
 |0,u2,u3,_=>l0
 |n+1,u2,u3,h0=>
  let v4:dJ:=x1.getD (u3:Int).toNat default
  let v5:Int×Bool:=iI v4.Key
  EU rfl [dJ.av v4,iG v5] xn (wR rfl <|
  wC (Jm v4.Key) <|
  wX (fun _ _=>aoj h0) <|
  wn) ln <|
   rc mM rx<|rc mM rx<|rl (rg (qZ x0 x1 n _ _ h0))
def aB1 : iE:=
 ⟨[((.not (qE (V 2) (.li 0))),(.fD [(zI (V 4))])),((.lb true),(.fD [(zI (.li (-1)))]))],
 [],[axe]⟩
def aB2 : LH:=.mk [] (.li 0) [] [] 0 [axj] []
theorem aB3 : P_ Try.prog fG fH oU (oN kA 47 [8,5,4] [(0,(.mk [0,1,7] (.mk [(4,(.sc kI)),(8,(.sc kI))] [] [] 26 []) [(.normal,(.mk [(4,(.sc kI))] [] [] 26 [])),(.ret,(.mk [(4,(.sc kI))] [] [] 26 []))]))]) 3 200 47 [(zL (V 1)),(.fn 42 [] [(.op 21 1 (.li 0) 0)])] 2 [(21,(.rows 1 [[(zF (V 0))]]))] [] 22=some aB1:=by kernel_rfl
theorem BU (x0:Nat)(x1:List dJ)(h0:ag1 x0=true):CTw Try.prog sT 47 [(.sl (List.map dJ.enc x1) false),(.fn (.func 42) [] [(.op 21 1 0 0)])] [(21,.rows 1 [[(.p (.float .f64 x0))]])] 22 (.p (.int .i64 (mO x0 x1))) [(21,.rows 1 [[(.p (.float .f64 x0))]])]:=
 let r2:Bool×Int×Int:=iU x0 x1 (x1.length+1) 0 0
 mkW (cs:=[]) jc dP dQ aB3 aB2 (by kernel_rfl) [eF x0,eL dJ.enc x1,eI (ji r2.1),eI r2.2.1,eI r2.2.2] xn
  wn
  (Yp (qZ x0 x1 (x1.length+1) 0 0 h0) <|
  ln)
  (gW (fun r=>.fD [(.p (.int .i64 r))]) rfl rfl (iY rfl))
def aB4 : iE:=
 ⟨[((.lb true),(.fD [(zB (qH (V 2) (.li 0)))]))],
 [([],(.qp 47 [(zL (V 1)),(.fn 42 [] [(.op 21 1 (.li 0) 0)])] [(21,(.rows 1 [[(zF (V 0))]]))] 22 (zI (V 2)) [(21,(.rows 1 [[(zF (V 0))]]))]))],[]⟩
theorem aB5 : P_ Try.prog fG fH oU (oN kA 41 [] []) 3 200 41 [(zL (V 1)),(.fn 42 [] [(.op 21 1 (.li 0) 0)])] 2 [(21,(.rows 1 [[(zF (V 0))]]))] [] 22=some aB4:=by kernel_rfl
theorem zl (x0:Nat)(x1:List dJ)(h0:ag1 x0=true):CTw Try.prog sT 41 [(.sl (List.map dJ.enc x1) false),(.fn (.func 42) [] [(.op 21 1 0 0)])] [(21,.rows 1 [[(.p (.float .f64 x0))]])] 22 (.p (.bool (jU x0 x1))) [(21,.rows 1 [[(.p (.float .f64 x0))]])]:=
 let w2:Int:=mO x0 x1
 let r2:Int:=w2
 mkW (cs:=[]) jc dP dQ aB5 xC (by kernel_rfl) [eF x0,eL dJ.enc x1,eI r2] xn
  (wWp (by intro h;exact BU x0 x1 h0)<|wn)
  ln
  (iY rfl)
def R32 : iE:=
 let p0:Pc:=((qE (.rlen (V 0)) (.li 0)),false)::[]
 let p1:Pc:=((qE (W 1 1) (W 2 1)),true)::[]
 let p2:Pc:=((sE (W 1 0) (W 2 0)),true)::p1
 let p3:Pc:=((qE (.rlen (V 0)) (.li 0)),false)::p2
 let p4:Pc:=((.bin .leq .kC (W 3 4) (.lf 4652218415073722368)),true)::p3
 let p5:Pc:=((.bin .geq .kC (W 3 4) (.lf 0)),true)::p4
 let p6:Pc:=((uN (W 3 3) (.li 3)),false)::p5
 let p7:Pc:=((W 3 17),false)::p6
 let p8:Pc:=((W 3 16),false)::p7
 let p9:Pc:=((V 4),true)::p8
 ⟨[((.or (qE (.rlen (V 0)) (.li 0)) (.not (.and (sE (W 1 0) (W 2 0)) (qE (W 1 1) (W 2 1))))),(zB (.lb false))),((.or (.or (.or (.or (.not (V 4)) (W 3 16)) (W 3 17)) (uN (W 3 3) (.li 3))) (.not (.and (.bin .geq .kC (W 3 4) (.lf 0)) (.bin .leq .kC (W 3 4) (.lf 4652218415073722368))))),(zB (.lb false))),((.lb true),(zB (.not (V 5))))],
 [(p0,(.row (V 0) (.li 0) (cV 1 dJ.kG))),
 (p0,(.call 39 [(zS (.ls [108,101,110,103,116,104]))] (.agg [(zS (W 2 0)),(zI (W 2 1))]))),
 (p3,(.row (V 0) (.li 0) (cV 3 dJ.kG))),
 (p3,(.call 40 [(.agg (cW 3 2 dN.kG))] (zB (V 4)))),
 (p9,(.qp 41 [(zL (V 0)),(.fn 42 [] [(.op 21 1 (.li 0) 0)])] [(21,(.rows 1 [[(zF (W 3 4))]]))] 22 (zB (V 5)) [(21,(.rows 1 [[(zF (W 3 4))]]))]))],[]⟩
theorem e32 : jo Try.prog fG fH oU (oN kA 32 [] []) 3 200 32 [zL (V 0)] 1=some R32:=by kernel_rfl
theorem YF (x0:List dJ):CT Try.prog sT 32 [eL dJ.enc x0] (eB (xE x0)):=
 let v1:dJ:=x0.getD (0:Int).toNat default
 let v2:dI:=OY [108,101,110,103,116,104]
 let v3:dJ:=x0.getD (0:Int).toNat default
 let v4:Bool:=lH v3.dV
 let w5:Bool:=jU v3.dV.Value.Num x0
 let r5:Bool:=w5
 qY jc dP dQ e32 xC (by kernel_rfl) [eL dJ.enc x0,dJ.av v1,dI.av v2,dJ.av v3,eB v4,eB r5] xn
  (wR rfl <|
  wC (aan [108,101,110,103,116,104]) <|
  wR rfl <|
  wC (LU v3.dV) <|
  wWp (by intro h;exact zl v3.dV.Value.Num x0 (arb (h.at 4 rfl) (h.at 5 rfl))) <|
  wn)
  ln
  (gW (fun r=>.p (.bool r)) rfl rfl (gW (fun r=>.p (.bool r)) rfl rfl (iY rfl)))
def ax5 : Lo:=
 let p0:Pc:=((qL (V 3) (.rlen (V 0))),true)::[]
 let p1:Pc:=((.and (W 5 1) (qL (W 5 0) (.slen (V 1)))),false)::p0
 .mk [] 2 2 [(zI (.li 0)),(zI (.li 0))] [((.not (qL (V 3) (.rlen (V 0)))),1,[(zI (V 2))]),((.or (.and (W 5 1) (qL (W 5 0) (.slen (V 1)))) (.and (sE (W 4 0) (W 6 0)) (qE (W 4 1) (W 6 1)))),2,[(zI (V 3))]),((.lb true),0,[(zI (V 2)),(zI (aI (V 3) (.li 1)))])] [(p0,(.row (V 0) (V 3) (cV 4 dJ.kG))),
 (p0,(.call 43 [(.agg [(zS (W 4 0)),(zI (W 4 1))])] (.fD [(zI (W 5 0)),(zB (W 5 1))]))),
 (p1,(.call 39 [(zS (.ls [108,101,110,103,116,104]))] (.agg [(zS (W 6 0)),(zI (W 6 1))])))] [] [1,1] [(V 0)]
def ax9 : LH:=.mk [(qM (.li 0) (V 3))] (mI (.rlen (V 0)) (V 3)) [((.rlen (V 0)),1)] [] 0 [] []
def nK (r:Bool×Int×Int):Nat×List AV:=Ny r.1 [eI r.2.1] [eI r.2.2]
theorem rY (x0:List dJ)(x1:List UInt8):∀(n:Nat) (u2:Int) (u3:Int),nU Try.prog sT ax5 ax9 [eL dJ.enc x0,eS x1] n [eI u2,eI u3] (nK (jh x0 x1 n u2 u3))
 |0,u2,u3=>l0
 |n+1,u2,u3=>
  let v4:dJ:=x0.getD (u3:Int).toNat default
  let v5:Int×Bool:=iI v4.Key
  let v6:dI:=OY [108,101,110,103,116,104]
  EU rfl [dJ.av v4,iG v5,dI.av v6] xn (wR rfl <|
  wC (Jm v4.Key) <|
  wC (aan [108,101,110,103,116,104]) <|
  wn) ln <|
   rc nK rx<|rc nK rx<|rl (rg (rY x0 x1 n _ _))
def aCP : iE:=
 ⟨[((.not (qE (V 2) (.li 0))),(.fD [(zI (V 4))])),((.lb true),(.fD [(zI (.li (-1)))]))],
 [],[ax5]⟩
def aCQ : LH:=.mk [] (.li 0) [] [] 0 [ax9] []
theorem aCR : P_ Try.prog fG fH oU (oN kA 47 [8,5,4] [(0,(.mk [0,1,7] (.mk [(4,(.sc kI)),(8,(.sc kI))] [] [] 4 []) [(.normal,(.mk [(4,(.sc kI))] [] [] 4 [])),(.ret,(.mk [(4,(.sc kI))] [] [] 4 []))]))]) 3 200 47 [(zL (V 0)),(.fn 44 [] [(.vp [(zS (V 1))] 0)])] 2 [] [] 0=some aCP:=by kernel_rfl
theorem Di (x0:List dJ)(x1:List UInt8):CTw Try.prog sT 47 [(.sl (List.map dJ.enc x0) false),(.fn (.func 44) [] [(.vp [(.str x1)] 0)])] [] 0 (.p (.int .i64 (nS x0 x1))) []:=
 let r2:Bool×Int×Int:=jh x0 x1 (x0.length+1) 0 0
 mkW (cs:=[]) jc dP dQ aCR aCQ (by kernel_rfl) [eL dJ.enc x0,eS x1,eI (ji r2.1),eI r2.2.1,eI r2.2.2] xn
  wn
  (Yp (rY x0 x1 (x0.length+1) 0 0) <|
  ln)
  (gW (fun r=>.fD [(.p (.int .i64 r))]) rfl rfl (iY rfl))
def aCS : iE:=
 ⟨[((.lb true),(.fD [(zB (qH (V 2) (.li 0)))]))],
 [([],(.qp 47 [(zL (V 0)),(.fn 44 [] [(.vp [(zS (V 1))] 0)])] [] 0 (zI (V 2)) []))],[]⟩
theorem aCT : P_ Try.prog fG fH oU (oN kA 41 [] []) 3 200 41 [(zL (V 0)),(.fn 44 [] [(.vp [(zS (V 1))] 0)])] 2 [] [] 0=some aCS:=by kernel_rfl
theorem Bc (x0:List dJ)(x1:List UInt8):CTw Try.prog sT 41 [(.sl (List.map dJ.enc x0) false),(.fn (.func 44) [] [(.vp [(.str x1)] 0)])] [] 0 (.p (.bool (lU x0 x1))) []:=
 let w2:Int:=nS x0 x1
 let r2:Int:=w2
 mkW (cs:=[]) jc dP dQ aCT xC (by kernel_rfl) [eL dJ.enc x0,eS x1,eI r2] xn
  (wW (Di x0 x1)<|wn)
  ln
  (iY rfl)
def R33 : iE:=
 let p0:Pc:=((qM (.slen (V 1)) (.li 4096)),true)::[]
 ⟨[((.lb true),(zB (.and (qM (.slen (V 1)) (.li 4096)) (.not (V 2)))))],
 [(p0,(.call 41 [(zL (V 0)),(.fn 44 [] [(.vp [(zS (V 1))] 0)])] (zB (V 2))))],[]⟩
theorem e33 : jo Try.prog fG fH oU (oN kA 33 [] []) 3 200 33 [zL (V 0),zS (V 1)] 2=some R33:=by kernel_rfl
theorem YG (x0:List dJ)(x1:List UInt8):CT Try.prog sT 33 [eL dJ.enc x0,eS x1] (eB (xG x0 x1)):=
 let w2:Bool:=lU x0 x1
 let r2:Bool:=w2
 qY jc dP dQ e33 xC (by kernel_rfl) [eL dJ.enc x0,eS x1,eB r2] xn
  (wC (ctW rfl (Bc x0 x1))<|wn)
  ln
  (iY rfl)
def aAE : Lo:=
 let p0:Pc:=((uE (W 2 0) (.li 6)),false)::[]
 let p1:Pc:=((.and (sN (W 2 15) (.ls [])) (uN (W 2 0) (.li 3))),false)::p0
 let p2:Pc:=((V 8),true)::p1
 let p3:Pc:=((.and (.not (V 7)) (.not (.and (.and (.and (.and (uE (W 2 0) (.li 5)) (V 4)) (qL (W 2 10) (V 1))) (V 5)) (uE (W 6 0) (.li 6))))),false)::p2
 let p4:Pc:=((qN (V 11) (.li 0)),false)::p3
 let p5:Pc:=((V 10),true)::p4
 let p6:Pc:=((.and (uN (W 2 1) (.li 1)) (.not (V 9))),false)::p5
 let p7:Pc:=((qL (V 13) (.rlen (W 2 6))),true)::p6
 let p8:Pc:=((.not (V 15)),false)::p7
 let p9:Pc:=((.or (.not (V 15)) (.not (V 16))),false)::p7
 .mk [((.and (uN (W 2 1) (.li 1)) (.not (V 9))),false),((V 10),true),((qN (V 11) (.li 0)),false),((.and (.not (V 7)) (.not (.and (.and (.and (.and (uE (W 2 0) (.li 5)) (V 4)) (qL (W 2 10) (V 1))) (V 5)) (uE (W 6 0) (.li 6))))),false),((V 8),true),((.and (sN (W 2 15) (.ls [])) (uN (W 2 0) (.li 3))),false),((uE (W 2 0) (.li 6)),false)] 12 2 [(zB (.lb false)),(zI (.li 0))] [((.not (qL (V 13) (.rlen (W 2 6)))),1,[(zB (V 12))]),((.or (.or (.not (V 15)) (.not (V 16))) (.not (V 17))),2,[(zB (.lb false))]),((.lb true),0,[(zB (V 12)),(zI (aI (V 13) (.li 1)))])] [(p7,(.row (W 2 6) (V 13) (cV 14 dJ.kG))),
 (p7,(.call 29 [(.agg [(zL (W 0 0))]),(.agg (cW 14 3 dL.kG))] (zB (V 15)))),
 (p8,(.call 29 [(.agg [(zL (W 0 0))]),(.agg (cW 14 7 dL.kG))] (zB (V 16)))),
 (p9,(.call 29 [(.agg [(zL (W 0 0))]),(.agg (cW 14 11 dL.kG))] (zB (V 17))))] [] [1,1] [(W 2 6)]
def aAF : LH:=.mk [(qM (V 11) (V 13))] (mI (.rlen (W 2 6)) (V 13)) [((.rlen (W 2 6)),1)] [] 10 [] []
def xJ (r:Bool×Bool×Bool):Nat×List AV:=Ny r.1 [eB r.2.1] [eB r.2.2]
theorem Ea (x0:dK)(x1:Int)(v2:dS)(v3:Bool)(v4:Bool)(v5:Bool)(v6:dS)(v7:Bool)(v8:Bool)(v9:Bool)(v10:Bool)(v11:Int):∀(n:Nat) (u12:Bool) (u13:Int),nU Try.prog sT aAE aAF [dK.av x0,eI x1,dS.av v2,eB v3,eB v4,eB v5,dS.av v6,eB v7,eB v8,eB v9,eB v10,eI v11] n [eB u12,eI u13] (xJ (ig x0 v2 n u12 u13))
 |0,u12,u13=>l0
 |n+1,u12,u13=>
  let v14:dJ:=v2.Props.getD (u13:Int).toNat default
  let v15:Bool:=eH x0 v14.dV.Value
  let v16:Bool:=eH x0 v14.dV.Get
  let v17:Bool:=eH x0 v14.dV.Set
  EU rfl [dJ.av v14,eB v15,eB v16,eB v17] xn (wR rfl <|
  wC (A_ x0 v14.dV.Value) <|
  wC (A_ x0 v14.dV.Get) <|
  wC (A_ x0 v14.dV.Set) <|
  wn) ln <|
   rc xJ rx<|rc xJ rx<|rl (rg (Ea x0 x1 v2 v3 v4 v5 v6 v7 v8 v9 v10 v11 n _ _))
def R19 : iE:=
 let p0:Pc:=((uE (W 2 0) (.li 6)),true)::[]
 let p1:Pc:=((uE (W 2 0) (.li 6)),false)::[]
 let p2:Pc:=((uE (W 2 0) (.li 5)),true)::p1
 let p3:Pc:=((.and (.and (uE (W 2 0) (.li 5)) (V 4)) (qL (W 2 10) (V 1))),true)::p1
 let p4:Pc:=((.and (.and (.and (uE (W 2 0) (.li 5)) (V 4)) (qL (W 2 10) (V 1))) (V 5)),true)::p1
 let p5:Pc:=((.and (.not (V 7)) (.not (.and (.and (.and (.and (uE (W 2 0) (.li 5)) (V 4)) (qL (W 2 10) (V 1))) (V 5)) (uE (W 6 0) (.li 6))))),false)::p1
 let p6:Pc:=((.and (sN (W 2 15) (.ls [])) (uN (W 2 0) (.li 3))),false)::p1
 let p7:Pc:=((V 8),true)::p6
 let p8:Pc:=((.and (.not (V 7)) (.not (.and (.and (.and (.and (uE (W 2 0) (.li 5)) (V 4)) (qL (W 2 10) (V 1))) (V 5)) (uE (W 6 0) (.li 6))))),false)::p7
 let p9:Pc:=((uN (W 2 1) (.li 1)),true)::p8
 let p10:Pc:=((.and (uN (W 2 1) (.li 1)) (.not (V 9))),false)::p8
 let p11:Pc:=((.or (.and (uN (W 2 1) (.li 1)) (.not (V 9))) (.not (V 10))),false)::p8
 let p12:Pc:=((qN (V 11) (.li 0)),false)::p8
 let p13:Pc:=((V 10),true)::p12
 let p14:Pc:=((.and (uN (W 2 1) (.li 1)) (.not (V 9))),false)::p13
 let p15:Pc:=((qE (V 12) (.li 0)),true)::p14
 let p16:Pc:=((uE (W 2 0) (.li 1)),false)::p15
 let p17:Pc:=((uE (W 2 0) (.li 2)),true)::p16
 let p18:Pc:=((.and (.not (W 2 16)) (.not (W 2 17))),true)::p17
 let p19:Pc:=((uE (W 2 0) (.li 2)),false)::p16
 let p20:Pc:=((uE (W 2 0) (.li 3)),true)::p19
 let p21:Pc:=((.and (.not (W 2 16)) (.not (W 2 17))),true)::p20
 ⟨[((uE (W 2 0) (.li 6)),(zB (V 3))),((.or (.or (.and (.not (V 7)) (.not (.and (.and (.and (.and (uE (W 2 0) (.li 5)) (V 4)) (qL (W 2 10) (V 1))) (V 5)) (uE (W 6 0) (.li 6))))) (.not (V 8))) (.and (sN (W 2 15) (.ls [])) (uN (W 2 0) (.li 3)))),(zB (.lb false))),((.or (.or (.and (uN (W 2 1) (.li 1)) (.not (V 9))) (.not (V 10))) (qN (V 11) (.li 0))),(zB (.lb false))),((.not (qE (V 12) (.li 0))),(zB (V 14))),((uE (W 2 0) (.li 1)),(zB (.and (.not (W 2 16)) (.not (W 2 17))))),((uE (W 2 0) (.li 2)),(zB (.and (.and (.not (W 2 16)) (.not (W 2 17))) (V 15)))),((uE (W 2 0) (.li 3)),(zB (.and (.and (.not (W 2 16)) (.not (W 2 17))) (V 16)))),((uE (W 2 0) (.li 4)),(zB (.and (W 2 16) (W 2 17)))),((uE (W 2 0) (.li 5)),(zB (W 2 16))),((.lb true),(zB (.lb false)))],
 [([],(.row (W 0 0) (V 1) (cV 2 dS.kG))),
 (p0,(.call 28 [(.agg [(zL (W 0 0))]),(.agg (cV 2 dS.kG)),(zI (V 1))] (zB (V 3)))),
 (p2,(.call 18 [(.agg (cW 2 7 dL.kG))] (zB (V 4)))),
 (p3,(.call 29 [(.agg [(zL (W 0 0))]),(.agg (cW 2 7 dL.kG))] (zB (V 5)))),
 (p4,(.row (W 0 0) (W 2 10) (cV 6 dS.kG))),
 (p1,(.call 30 [(.agg (cW 2 7 dL.kG)),(zU (.li 0))] (zB (V 7)))),
 (p5,(.call 30 [(.agg (cW 2 11 dL.kG)),(zU (.li 0))] (zB (V 8)))),
 (p9,(.call 18 [(.agg (cW 2 1 dL.kG))] (zB (V 9)))),
 (p10,(.call 29 [(.agg [(zL (W 0 0))]),(.agg (cW 2 1 dL.kG))] (zB (V 10)))),
 (p11,(.call 31 [(zL (W 2 6))] (zI (V 11)))),
 (p18,(.call 32 [(zL (W 2 6))] (zB (V 15)))),
 (p21,(.call 33 [(zL (W 2 6)),(zS (W 2 15))] (zB (V 16))))],[aAE]⟩
def H19 : LH:=.mk [] (.li 0) [] [([((V 5),true)],(qM (.li 0) (W 2 10))),([((V 5),true),((V 4),true)],(qL (W 2 10) (.rlen (W 0 0))))] 0 [aAF] []
theorem e19 : jo Try.prog fG fH oU (oN kA 19 [115,116,117,114,118,119,123,124,125,122,126,127,103,4] [(0,(.mk [2,5,101,102] (.mk [(4,(.sc .bool)),(103,(.sc kI))] [] [] 96 []) [(.normal,(.mk [(4,(.sc .bool))] [] [] 96 [])),(.ret,(.mk [(4,(.sc .bool))] [] [] 96 []))]))]) 3 200 19 [.agg (cV 0 dK.kG),zI (V 1)] 2=some R19:=by kernel_rfl
theorem XU (x0:dK)(x1:Int):CT Try.prog sT 19 [dK.av x0,eI x1] (eB (jv x0 x1)):=
 let v2:dS:=x0.Objects.getD (x1:Int).toNat default
 let v3:Bool:=pK x0 v2 x1
 let v4:Bool:=dM v2.Target
 let v5:Bool:=eH x0 v2.Target
 let v6:dS:=x0.Objects.getD (v2.Target.Ref:Int).toNat default
 let v7:Bool:=nR v2.Target 0
 let v8:Bool:=nR v2.Handler 0
 let v9:Bool:=dM v2.eu
 let v10:Bool:=eH x0 v2.eu
 let v11:Int:=jF v2.Props
 let r12:Bool×Bool×Bool:=ig x0 v2 (v2.Props.length+1) false 0
 let v15:Bool:=xE v2.Props
 let v16:Bool:=xG v2.Props v2.Text
 qY jc dP dQ e19 H19 (by kernel_rfl) [dK.av x0,eI x1,dS.av v2,eB v3,eB v4,eB v5,dS.av v6,eB v7,eB v8,eB v9,eB v10,eI v11,eI (ji r12.1),eB r12.2.1,eB r12.2.2,eB v15,eB v16] (xp (fun h=>decide_eq_true (aiI ( (h.at 0 rfl))))<|xp (fun h=>decide_eq_true (aiJ ( (h.at 0 rfl)) ( (h.at 1 rfl))))<|xn)
  (wR rfl <|
  wC (YC x0 v2 x1) <|
  wC (lZ v2.Target) <|
  wC (A_ x0 v2.Target) <|
  wR rfl <|
  wC (D9 v2.Target 0) <|
  wC (D9 v2.Handler 0) <|
  wC (lZ v2.eu) <|
  wC (A_ x0 v2.eu) <|
  wC (D_ v2.Props) <|
  wC (YF v2.Props) <|
  wC (YG v2.Props v2.Text) <|
  wn)
  (Yp (Ea x0 x1 v2 v3 v4 v5 v6 v7 v8 v9 v10 v11 (v2.Props.length+1) false 0) <|
  ln)
  (gW (fun r=>.p (.bool r)) rfl rfl (gW (fun r=>.p (.bool r)) rfl rfl (gW (fun r=>.p (.bool r)) rfl rfl (gW (fun r=>.p (.bool r)) rfl rfl (gW (fun r=>.p (.bool r)) rfl rfl (gW (fun r=>.p (.bool r)) rfl rfl (gW (fun r=>.p (.bool r)) rfl rfl (gW (fun r=>.p (.bool r)) rfl rfl (gW (fun r=>.p (.bool r)) rfl rfl (iY rfl))))))))))
def axz : Lo:=
 let p0:Pc:=((qG (.rlen (W 0 0)) (.li 4096)),false)::[]
 let p1:Pc:=((qL (V 2) (.rlen (W 0 0))),true)::p0
 .mk [((qG (.rlen (W 0 0)) (.li 4096)),false)] 1 2 [(zI (.li 0)),(zI (.li 0))] [((.not (qL (V 2) (.rlen (W 0 0)))),1,[(zI (V 1))]),((.not (V 3)),2,[(zI (.li 9))]),((.lb true),0,[(zI (V 1)),(zI (aI (V 2) (.li 1)))])] [(p1,(.call 19 [(.agg [(zL (W 0 0))]),(zI (V 2))] (zB (V 3))))] [] [1,1] []
def axA : LH:=.mk [(qM (.li 0) (V 2))] (mI (.rlen (W 0 0)) (V 2)) [((.rlen (W 0 0)),1)] [] 0 [] []
def Bd (r:Bool×Int×Int):Nat×List AV:=Ny r.1 [eI r.2.1] [eI r.2.2]
theorem HY (x0:dK):∀(n:Nat) (u1:Int) (u2:Int),nU Try.prog sT axz axA [dK.av x0] n [eI u1,eI u2] (Bd (qX x0 n u1 u2))
 |0,u1,u2=>l0
 |n+1,u1,u2=>
  let v3:Bool:=jv x0 u2
  EU rfl [eB v3] xn (wC (XU x0 u2)<|wn) ln <|
   rc Bd rx<|rc Bd rx<|rl (rg (HY x0 n _ _))
def R8 : iE:=
 let p0:Pc:=((qG (.rlen (W 0 0)) (.li 4096)),false)::[]
 let p1:Pc:=((qE (V 1) (.li 0)),true)::p0
 ⟨[((qG (.rlen (W 0 0)) (.li 4096)),(zI (.li 9))),((.not (qE (V 1) (.li 0))),(zI (V 3))),((V 4),(zI (.li 9))),((.lb true),(zI (.li 0)))],
 [(p1,(.call 20 [(.agg [(zL (W 0 0))])] (zB (V 4))))],[axz]⟩
def H8 : LH:=.mk [] (.li 0) [] [] 0 [axA] []
theorem e8 : jo Try.prog fG fH oU (oN kA 8 [3,11,2] [(0,(.mk [1,10] (.mk [(2,(.sc kI)),(11,(.sc kI))] [] [] 10 []) [(.normal,(.mk [(2,(.sc kI))] [] [] 10 [])),(.ret,(.mk [(2,(.sc kI))] [] [] 10 []))]))]) 3 200 8 [.agg (cV 0 dK.kG)] 1=some R8:=by kernel_rfl
theorem YH (x0:dK):CT Try.prog sT 8 [dK.av x0] (eI (kR x0)):=
 let r1:Bool×Int×Int:=qX x0 (x0.Objects.length+1) 0 0
 let v4:Bool:=qW x0
 qY jc dP dQ e8 H8 (by kernel_rfl) [dK.av x0,eI (ji r1.1),eI r1.2.1,eI r1.2.2,eB v4] xn
  (wCp (by intro h;exact YA x0 (ard (LP (h.at 1 rfl)) (kP.1 (h.at 0 rfl))) (LP (h.at 1 rfl)))<|wn)
  (Yp (HY x0 (x0.Objects.length+1) 0 0) <|
  ln)
  (gW (fun r=>.p (.int .i64 r)) rfl rfl (gW (fun r=>.p (.int .i64 r)) rfl rfl (gW (fun r=>.p (.int .i64 r)) rfl rfl (iY rfl))))
def R21 : iE:=
 ⟨[((.lb true),(.agg (cV 0 dS.kG)))],
 [([],(.under [] (.TI 18 (W 0 6)))),
 ([],(.under [] (.len2 0 (W 0 6))))],[]⟩
theorem e21 : jo Try.prog fG fH oU (oN kA 21 [] []) 3 200 21 [.agg (cV 0 dS.kG)] 1=some R21:=by kernel_rfl
theorem aeH (x0:dS):CT Try.prog sT 21 [dS.av x0] (dS.av (Qm x0)):=
 qY jc dP dQ e21 xC (by kernel_rfl) [dS.av x0] xn
  (wU (axd (f:=dJ.enc) rfl wn) <|
  wU (asl wn) <|
  wn)
  ln
  (iY rfl)
def aAG : Lo:=
 let p0:Pc:=((qL (V 3) (.rlen (W 0 0))),true)::[]
 .mk [] 3 2 [(zI (.li 0)),(zL (V 2))] [((.not (qL (V 3) (.rlen (W 0 0)))),1,[(zL (V 4))]),((.lb true),0,[(zI (aI (V 3) (.li 1))),(zL (V 7))])] [(p0,(.tm (qM (.li 0) (V 3)))),
 (p0,(.rd (true,18) (V 4) (V 3) 0 (.agg (cV 5 dS.kG)))),
 (p0,(.call 21 [(.agg (cV 5 dS.kG))] (.agg (cV 6 dS.kG)))),
 (p0,(.tm (qM (.li 0) (V 3)))),
 (p0,(.st (V 4) (V 3) 0 [(zU (W 6 0)),(zU (W 6 1)),(zF (W 6 2)),(zS (W 6 3)),(zI (W 6 4)),(zB (W 6 5)),(zL (W 6 6)),(zU (W 6 7)),(zF (W 6 8)),(zS (W 6 9)),(zI (W 6 10)),(zU (W 6 11)),(zF (W 6 12)),(zS (W 6 13)),(zI (W 6 14)),(zS (W 6 15)),(zB (W 6 16)),(zB (W 6 17))] (V 7)))] [] [1] []
def aBG : LH:=.mk [(qM (.li 0) (V 3)),(qE (.rlen (V 4)) (.rlen (V 2)))] (mI (.rlen (W 0 0)) (V 3)) [((.rlen (W 0 0)),1)] [] 3 [] [[(qE (.rlen (V 3)) (.rlen (V 2)))]]
def alc (r:List dS):Nat×List AV:=(0,[eL dS.enc r])
theorem ald (x0:dK)(v1:List dS)(v2:List dS):∀(n:Nat) (u3:Int) (u4:List dS),nU Try.prog sT aAG aBG [dK.av x0,eL dS.enc v1,eL dS.enc v2] n [eI u3,eL dS.enc u4] (alc (ab1 x0 n u3 u4))
 |0,u3,u4=>l0
 |n+1,u3,u4=>
  let v5:dS:=u4.getD (u3:Int).toNat default
  let v6:dS:=Qm v5
  let v7:List dS:=u4.set (u3:Int).toNat v6
  EU rfl [dS.av v5,dS.av v6,eL dS.enc v7] xn (wT <|
  wRd rfl <|
  wC (aeH v5) <|
  wT <|
  wSt (f:=dS.enc) v6 rfl <|
  wn) ln <|
   rc alc rx<|rl (rg (ald x0 v1 v2 n _ _))
def R10 : iE:=
 ⟨[((.lb true),(.agg [(zL (V 4))]))],
 [([],(.mk (.rlen (W 0 0)) (.rlen (W 0 0)) [(zU (.li 0)),(zU (.li 0)),(zF (.lf 0)),(zS (.ls [])),(zI (.li 0)),(zB (.lb false)),(zL .nl),(zU (.li 0)),(zF (.lf 0)),(zS (.ls [])),(zI (.li 0)),(zU (.li 0)),(zF (.lf 0)),(zS (.ls [])),(zI (.li 0)),(zS (.ls [])),(zB (.lb false)),(zB (.lb false))] (V 1))),
 ([],(.TI 18 (W 0 0))),
 ([],(.cpy (V 1) (.rlen (W 0 0)) (W 0 0) (V 2))),
 ([],(.sub 18 (V 3) none (some (.rlen (W 0 0))) (V 4)))],[aAG]⟩
def H10 : LH:=.mk [] (.li 0) [] [] 0 [aBG] []
theorem e10 : jo Try.prog fG fH oU (oN kA 10 [4,15] [(0,(.mk [2,3,14] (.mk [(15,(.sc kI))] [] [(5,18)] 14 []) [(.normal,(.mk [] [] [(5,18)] 14 []))]))]) 3 200 10 [.agg (cV 0 dK.kG)] 1=some R10:=by kernel_rfl
theorem ayK (x0:dK):CT Try.prog sT 10 [dK.av x0] (dK.av (ak_ x0)):=
 let v1:List dS:=List.replicate ((je dS.enc x0.Objects):Int).toNat (dS.mk 0 (dL.mk 0 0 [] 0) false [] (dL.mk 0 0 [] 0) (dL.mk 0 0 [] 0) [] false false)
 let v2:List dS:=x0.Objects.take ((je dS.enc x0.Objects):Int).toNat++v1.drop (min x0.Objects.length ((je dS.enc x0.Objects):Int).toNat)
 let r3:List dS:=ab1 x0 (x0.Objects.length+1) 0 v2
 let v4:List dS:=(r3.drop (0)).take (((je dS.enc x0.Objects):Int).toNat-0)
 qY jc dP dQ e10 H10 (by kernel_rfl) [dK.av x0,eL dS.enc v1,eL dS.enc v2,eL dS.enc r3,eL dS.enc v4] xn
  (wMk (f:=dS.enc) (dS.mk 0 (dL.mk 0 0 [] 0) false [] (dL.mk 0 0 [] 0) (dL.mk 0 0 [] 0) [] false false) rfl <|
  axd (f:=dS.enc) rfl <|
  aFp (f:=dS.enc) rfl rfl <|
  azn rfl <|
  wn)
  (Z7 (ald x0 v1 v2 (x0.Objects.length+1) 0 v2) <|
  ln)
  (iY rfl)
def aFz : iE:=
 ⟨[((.lb true),(.agg [(zL (V 3))]))],
 [([],(.mk (.rlen (W 0 0)) (.rlen (W 0 0)) [(zU (.li 0)),(zU (.li 0)),(zF (.lf 0)),(zS (.ls [])),(zI (.li 0)),(zB (.lb false)),(zL .nl),(zU (.li 0)),(zF (.lf 0)),(zS (.ls [])),(zI (.li 0)),(zU (.li 0)),(zF (.lf 0)),(zS (.ls [])),(zI (.li 0)),(zS (.ls [])),(zB (.lb false)),(zB (.lb false))] (V 1))),
 ([],(.TI 18 (W 0 0))),
 ([],(.cpy (V 1) (.rlen (W 0 0)) (W 0 0) (V 2))),
 ([],(.tm (qE (.rlen (W 0 0)) (.rlen (V 3)))))],[aAG]⟩
theorem aFA : agm Try.prog fG fH oU (oN kA 10 [4,15] [(0,(.mk [2,3,14] (.mk [(15,(.sc kI))] [] [(5,18)] 14 []) [(.normal,(.mk [] [] [(5,18)] 14 []))]))]) 3 200 10 [.agg (cV 0 dK.kG)] 1 [0] 18=some aFz:=by kernel_rfl
theorem ar_ (x0:dK):CTo Try.prog sT 10 [dK.av x0] (dK.av (alf x0)) [0] 18:=
 let v1:List dS:=List.replicate ((je dS.enc x0.Objects):Int).toNat (dS.mk 0 (dL.mk 0 0 [] 0) false [] (dL.mk 0 0 [] 0) (dL.mk 0 0 [] 0) [] false false)
 let v2:List dS:=x0.Objects.take ((je dS.enc x0.Objects):Int).toNat++v1.drop (min x0.Objects.length ((je dS.enc x0.Objects):Int).toNat)
 let r3:List dS:=ab1 x0 (x0.Objects.length+1) 0 v2
 let v4:List dS:=(r3.drop (0)).take (((je dS.enc x0.Objects):Int).toNat-0)
 mkO jc dP dQ aFA H10 (by kernel_rfl) [dK.av x0,eL dS.enc v1,eL dS.enc v2,eL dS.enc r3,eL dS.enc v4] xn
  (wMk (f:=dS.enc) (dS.mk 0 (dL.mk 0 0 [] 0) false [] (dL.mk 0 0 [] 0) (dL.mk 0 0 [] 0) [] false false) rfl <|
  axd (f:=dS.enc) rfl <|
  aFp (f:=dS.enc) rfl rfl <|
  wT <|
  wn)
  (Z7 (ald x0 v1 v2 (x0.Objects.length+1) 0 v2) <|
  ln)
  (iY rfl)
theorem au6 (x0:dK):CTo Try.prog sT 10 [dK.av x0] (dK.av (ak_ x0)) [0] 18:=
 aA3 (congrArg dK.av (atH x0)) (ar_ x0)
def R12 : iE:=
 let p0:Pc:=((qN (V 2) (.li 0)),false)::[]
 let p1:Pc:=((qE (.rlen (W 0 0)) (.li 4096)),false)::p0
 ⟨[((qN (V 2) (.li 0)),(.fD [(.agg [(.slc [] false)]),(zI (.li 0)),(zI (V 2))])),((qE (.rlen (W 0 0)) (.li 4096)),(.fD [(.agg [(.slc [] false)]),(zI (.li 0)),(zI (.li 4))])),((qN (V 6) (.li 0)),(.fD [(.agg [(.slc [] false)]),(zI (.li 0)),(zI (V 6))])),((.lb true),(.fD [(.agg [(zL (V 5))]),(zI (.rlen (W 0 0))),(zI (.li 0))]))],
 [([],(.call 8 [(.agg [(zL (W 0 0))])] (zI (V 2)))),
 (p1,(.Px 10 [(.agg [(zL (W 0 0))])] (.agg [(zL (W 3 0))]) [0] 18 false)),
 (p1,(.call 21 [(.agg (cV 1 dS.kG))] (.agg (cV 4 dS.kG)))),
 (p1,(.app 18 (W 3 0) [[(zU (W 4 0)),(zU (W 4 1)),(zF (W 4 2)),(zS (W 4 3)),(zI (W 4 4)),(zB (W 4 5)),(zL (W 4 6)),(zU (W 4 7)),(zF (W 4 8)),(zS (W 4 9)),(zI (W 4 10)),(zU (W 4 11)),(zF (W 4 12)),(zS (W 4 13)),(zI (W 4 14)),(zS (W 4 15)),(zB (W 4 16)),(zB (W 4 17))]] (V 5))),
 (p1,(.call 8 [(.agg [(zL (V 5))])] (zI (V 6))))],[]⟩
theorem e12 : jo Try.prog fG fH (mdW [10] oU) (oN kA 12 [] []) 3 200 12 [.agg (cV 0 dK.kG),.agg (cV 1 dS.kG)] 2=some R12:=by kernel_rfl
theorem axC (x0:dK)(x1:dS):CT Try.prog sT 12 [dK.av x0,dS.av x1] (abq (apc x0 x1)):=
 let v2:Int:=kR x0
 let v3:dK:=ak_ x0
 let v4:dS:=Qm x1
 let v5:List dS:=v3.Objects++[v4]
 let v6:Int:=kR (dK.mk v5)
 qY jc dP dQ e12 xC (by kernel_rfl) [dK.av x0,dS.av x1,eI v2,dK.av v3,dS.av v4,eL dS.enc v5,eI v6] xn
  (wC (YH x0) <|
  wO (au6 x0) <|
  wC (aeH x1) <|
  akz (f:=dS.enc) [v4] rfl <|
  wC (YH (dK.mk v5)) <|
  wn)
  ln
  (gW abq rfl rfl (gW abq rfl rfl (gW abq rfl rfl (iY rfl))))
def R5 : iE:=
 let p0:Pc:=((.and (.and (qE (W 2 2) (.li 0)) (qE (W 2 1) (.li 2))) (qE (.rlen (.var 2 [0,0])) (.li 3))),true)::[]
 let p1:Pc:=((.and (.and (.and (qE (W 2 2) (.li 0)) (qE (W 2 1) (.li 2))) (qE (.rlen (.var 2 [0,0])) (.li 3))) (uE (W 3 0) (.li 6))),true)::[]
 ⟨[((.lb true),(zB (.and (.and (.and (.and (qE (W 2 2) (.li 0)) (qE (W 2 1) (.li 2))) (qE (.rlen (.var 2 [0,0])) (.li 3))) (uE (W 3 0) (.li 6))) (qE (V 5) (.li 0)))))],
 [([],(.call 15 [] (.agg [(zL (W 0 0))]))),
 ([],(.call 16 [(zI (.li 0)),(zI (.li 1))] (.agg (cV 1 dS.kG)))),
 ([],(.call 12 [(.agg [(zL (W 0 0))]),(.agg (cV 1 dS.kG))] (.fD [(.agg [(zL (.var 2 [0,0]))]),(zI (W 2 1)),(zI (W 2 2))]))),
 (p0,(.row (.var 2 [0,0]) (.li 2) (cV 3 dS.kG))),
 (p1,(.call 15 [] (.agg [(zL (W 4 0))]))),
 (p1,(.call 8 [(.agg [(zL (W 4 0))])] (zI (V 5))))],[]⟩
theorem e5 : jo Try.prog fG fH oU (oN kA 5 [] []) 3 200 5 [] 0=some R5:=by kernel_rfl
theorem aud : CT Try.prog sT 5 [] (eB aiY):=
 qY jc dP dQ e5 xC (by kernel_rfl) [dK.av (ab3 ),dS.av (acd 0 1),abq (apc (ab3 ) (acd 0 1)),dS.av ((apc (ab3 ) (acd 0 1)).1.Objects.getD (2:Int).toNat default),dK.av (ab3 ),eI (kR (ab3 ))] xn
  (wC (apg) <|
  wC (aro 0 1) <|
  wC (axC (ab3 ) (acd 0 1)) <|
  wR rfl <|
  wC (apg) <|
  wC (YH (ab3 )) <|
  wn)
  ln
  (iY rfl)
def aCV : Lo:=
 let p0:Pc:=((qG (.rlen (W 0 0)) (.li 5000)),false)::[]
 let p1:Pc:=((.and (qG (.rlen (W 0 0)) (.li 60)) (qM (.rlen (W 0 0)) (.li 4096))),false)::p0
 let p2:Pc:=((qL (V 2) (.rlen (W 0 0))),true)::p1
 .mk [((.and (qG (.rlen (W 0 0)) (.li 60)) (qM (.rlen (W 0 0)) (.li 4096))),false),((qG (.rlen (W 0 0)) (.li 5000)),false)] 1 2 [(zB (.lb false)),(zI (.li 0))] [((.not (qL (V 2) (.rlen (W 0 0)))),1,[(zB (V 1))]),((qG (.rlen (W 3 6)) (.li 100)),2,[(zB (.lb true))]),((.lb true),0,[(zB (V 1)),(zI (aI (V 2) (.li 1)))])] [(p2,(.row (W 0 0) (V 2) (cV 3 dS.kG)))] [] [1,1] []
def aCW : LH:=.mk [(qM (.li 0) (V 2))] (mI (.rlen (W 0 0)) (V 2)) [((.rlen (W 0 0)),1)] [] 0 [] []
def afa (r:Bool×Bool×Bool):Nat×List AV:=Ny r.1 [eB r.2.1] [eB r.2.2]
theorem ai3 (x0:dK):∀(n:Nat) (u1:Bool) (u2:Int),nU Try.prog sT aCV aCW [dK.av x0] n [eB u1,eI u2] (afa (ae_ x0 n u1 u2))
 |0,u1,u2=>l0
 |n+1,u1,u2=>
  let v3:dS:=x0.Objects.getD (u2:Int).toNat default
  EU rfl [dS.av v3] xn (wR rfl<|wn) ln <|
   rc afa rx<|rc afa rx<|rl (rg (ai3 x0 n _ _))
def R6 : iE:=
 ⟨[((.or (.and (qG (.rlen (W 0 0)) (.li 60)) (qM (.rlen (W 0 0)) (.li 4096))) (qG (.rlen (W 0 0)) (.li 5000))),(zB (.lb true))),((.not (qE (V 1) (.li 0))),(zB (V 3))),((.lb true),(zB (.lb false)))],
 [],[aCV]⟩
def H6 : LH:=.mk [] (.li 0) [] [] 0 [aCW] []
theorem e6 : jo Try.prog fG fH oU (oN kA 6 [3,2] [(0,(.mk [1] (.mk [(2,(.sc .bool)),(3,(.sc kI))] [] [] 19 []) [(.normal,(.mk [(2,(.sc .bool))] [] [] 19 [])),(.ret,(.mk [(2,(.sc .bool))] [] [] 19 []))]))]) 3 200 6 [.agg (cV 0 dK.kG)] 1=some R6:=by kernel_rfl
theorem auy (x0:dK):CT Try.prog sT 6 [dK.av x0] (eB (ai0 x0)):=
 let r1:Bool×Bool×Bool:=ae_ x0 (x0.Objects.length+1) false 0
 qY jc dP dQ e6 H6 (by kernel_rfl) [dK.av x0,eI (ji r1.1),eB r1.2.1,eB r1.2.2] xn
  wn
  (Yp (ai3 x0 (x0.Objects.length+1) false 0) <|
  ln)
  (gW (fun r=>.p (.bool r)) rfl rfl (gW (fun r=>.p (.bool r)) rfl rfl (iY rfl)))
def aCX : Lo:=
 let p0:Pc:=((qN (V 2) (.li 0)),false)::[]
 let p1:Pc:=((qG (.rlen (V 1)) (.li 4096)),false)::p0
 let p2:Pc:=((qL (V 6) (.rlen (V 1))),true)::p1
 .mk [((qG (.rlen (V 1)) (.li 4096)),false),((qN (V 2) (.li 0)),false)] 4 3 [(.slc [] false),(zI (.li 0)),(zI (.li 0))] [((.not (qL (V 6) (.rlen (V 1)))),1,[(zL (V 4)),(zI (V 5))]),((.or (qL (W 7 0) (.li 0)) (qH (W 7 0) (.rlen (W 0 0)))),2,[(.slc [] false),(zI (.li 2))]),((.lb true),0,[(zL (V 4)),(zI (V 5)),(zI (aI (V 6) (.li 1)))])] [(p2,(.row (V 1) (V 6) [(zI (W 7 0))]))] [] [2,2] [(V 1)]
def aCY : LH:=.mk [(qM (.rlen (V 4)) (V 6))] (mI (.rlen (V 1)) (V 6)) [((.rlen (V 1)),1)] [] 2 [] []
def ahv (r:Bool×List Int×Int×List Int×Int):Nat×List AV:=Ny r.1 [eL kY r.2.1,eI r.2.2.1] [eL kY r.2.2.2.1,eI r.2.2.2.2]
theorem ala (x0:dK)(x1:List Int)(v2:Int)(v3:List Bool):∀(n:Nat) (u4:List Int) (u5:Int) (u6:Int),nU Try.prog sT aCX aCY [dK.av x0,eL kY x1,eI v2,eL rowB v3] n [eL kY u4,eI u5,eI u6] (ahv (dF x0 x1 n u4 u5 u6))
 |0,u4,u5,u6=>l0
 |n+1,u4,u5,u6=>
  let v7:Int:=x1.getD (u6:Int).toNat default
  EU rfl [.agg (kY v7)] xn (wR rfl<|wn) ln <|
   rc ahv rx<|rc ahv rx<|rl (rg (ala x0 x1 v2 v3 n _ _ _))
def aCZ : Lo:=
 let p0:Pc:=((qN (V 2) (.li 0)),false)::[]
 let p1:Pc:=((qG (.rlen (V 1)) (.li 4096)),false)::p0
 let p2:Pc:=((qE (V 4) (.li 0)),true)::p1
 let p3:Pc:=((qL (V 9) (.rlen (V 1))),true)::p2
 let p4:Pc:=((W 13 0),false)::p3
 .mk [((qE (V 4) (.li 0)),true),((qG (.rlen (V 1)) (.li 4096)),false),((qN (V 2) (.li 0)),false)] 9 3 [(zI (.li 0)),(zL (V 3)),(.agg [(zL .nl)])] [((.not (qL (V 9) (.rlen (V 1)))),1,[(zL (V 10)),(.agg [(zL (W 11 0))])]),((.not (W 13 0)),0,[(zI (aI (V 9) (.li 1))),(zL (V 14)),(.agg [(zL (V 15))])]),((.lb true),0,[(zI (aI (V 9) (.li 1))),(zL (V 10)),(.agg [(zL (W 11 0))])])] [(p3,(.row (V 1) (V 9) [(zI (W 12 0))])),
 (p3,(.tm (qM (.li 0) (W 12 0)))),
 (p3,(.tm (qL (W 12 0) (.rlen (W 0 0))))),
 (p3,(.rd (false,1) (V 10) (W 12 0) 0 (zB (W 13 0)))),
 (p4,(.tm (qM (.li 0) (W 12 0)))),
 (p4,(.tm (qL (W 12 0) (.rlen (W 0 0))))),
 (p4,(.st (V 10) (W 12 0) 0 [(zB (.lb true))] (V 14))),
 (p4,(.app 1 (W 11 0) [[(zI (W 12 0))]] (V 15)))] [] [2] [(V 5),(V 1)]
def aC0 : LH:=.mk [(qM (.li 0) (V 9)),(qE (.rlen (V 10)) (.rlen (W 0 0)))] (mI (.rlen (V 1)) (V 9)) [((.rlen (V 1)),1)] [([((qL (V 9) (.rlen (V 1))),true),((qM (.li 0) (V 9)),true)],(qM (.li 0) (W 12 0))),([((qL (V 9) (.rlen (V 1))),true),((qM (.li 0) (V 9)),true)],(qL (W 12 0) (.rlen (W 0 0)))),([],(qE (.rlen (V 14)) (.rlen (V 10)))),([],(qM (.rlen (W 11 0)) (.rlen (W 0 0))))] 2 [] [[(qE (.rlen (V 9)) (.rlen (V 3)))]]
def ahy (r:List Bool×GBx):Nat×List AV:=(0,[eL rowB r.1,GBx.av r.2])
theorem ahW (x0:dK)(x1:List Int)(v2:Int)(v3:List Bool)(r4:Bool×List Int×Int×List Int×Int):∀(n:Nat) (u9:Int) (u10:List Bool) (u11:GBx) (hR:Rng x0 x1) (hW:RInv x0 u10 u11) (k0:0<=u9) (hB:x1.length<=4294967296),nU Try.prog sT aCZ aC0 [dK.av x0,eL kY x1,eI v2,eL rowB v3,eI (ji r4.1),eL kY r4.2.1,eI r4.2.2.1,eL kY r4.2.2.2.1,eI r4.2.2.2.2] n [eI u9,eL rowB u10,GBx.av u11] (ahy (Y2 x1 n u9 u10 u11))
 |0,u9,u10,u11,_,_,_,_=>l0
 |n+1,u9,u10,u11,hR,hW,k0,hB=>
  let v12:Int:=x1.getD (u9:Int).toNat default
  let v13:Bool:=u10.getD (v12:Int).toNat default
  let v14:List Bool:=u10.set (v12:Int).toNat true
  let v15:List Int:=u11.v++[v12]
  EU rfl [.agg (kY v12),.agg (rowB v13),eL rowB v14,eL kY v15] (xp (fun h=>decide_eq_true (aCE hR (of_decide_eq_true (h.at 0 rfl)) (of_decide_eq_true (h.at 1 rfl))))<|xp (fun h=>decide_eq_true (aCF hR (of_decide_eq_true (h.at 0 rfl)) (of_decide_eq_true (h.at 1 rfl))))<|xc (kP.2 (aoi))<|xc (decide_eq_true (atI hW))<|xn) (wR rfl <|
  wT <|
  wT <|
  wRd rfl <|
  wT <|
  wT <|
  wSt (f:=rowB) true rfl <|
  akz (f:=kY) [v12] rfl <|
  wn) ln <|
   rcf ahy (fun g0=>rx)<|fun g0=>rcf ahy (fun g1=>rg (ahW x0 x1 v2 v3 r4 n _ _ _ hR (aFu hR hW k0 g0 g1) (aCL hB k0 g0) hB))<|fun g1=>rl (rg (ahW x0 x1 v2 v3 r4 n _ _ _ hR hW (aCL hB k0 g0) hB))
def aBH : Lo:=
 let p0:Pc:=((qN (V 2) (.li 0)),false)::[]
 let p1:Pc:=((qG (.rlen (V 1)) (.li 4096)),false)::p0
 let p2:Pc:=((qE (V 4) (.li 0)),true)::p1
 let p3:Pc:=((qG (.rlen (W 12 0)) (.li 0)),true)::p2
 let p4:Pc:=((qL (V 16) (.rlen (W 14 6))),true)::p3
 .mk [((qG (.rlen (W 12 0)) (.li 0)),true),((qE (V 4) (.li 0)),true),((qG (.rlen (V 1)) (.li 4096)),false),((qN (V 2) (.li 0)),false)] 15 3 [(.slc [[(zU (W 14 1)),(zF (W 14 2)),(zS (W 14 3)),(zI (W 14 4))],[(zU (W 14 7)),(zF (W 14 8)),(zS (W 14 9)),(zI (W 14 10))],[(zU (W 14 11)),(zF (W 14 12)),(zS (W 14 13)),(zI (W 14 14))]] false),(zI (.li 0)),(.agg [(zL (.alb 1 (W 12 0)))])] [((.not (qL (V 16) (.rlen (W 14 6)))),1,[(zL (V 15)),(.agg [(zL (W 17 0))])]),((.lb true),0,[(zL (V 19)),(zI (aI (V 16) (.li 1))),(.agg [(zL (W 17 0))])])] [(p4,(.row (W 14 6) (V 16) (cV 18 dJ.kG))),
 (p4,(.app 4 (V 15) [[(zU (W 18 3)),(zF (W 18 4)),(zS (W 18 5)),(zI (W 18 6))],[(zU (W 18 7)),(zF (W 18 8)),(zS (W 18 9)),(zI (W 18 10))],[(zU (W 18 11)),(zF (W 18 12)),(zS (W 18 13)),(zI (W 18 14))]] (V 19)))] [] [2] [(V 5),(W 14 6)]
def aBI : LH:=.mk [(qM (.li 0) (V 16)),(qM (.rlen (V 15)) (aI (aI (aI (V 16) (V 16)) (V 16)) (.li 3))),(qM (V 16) (.rlen (W 14 6)))] (mI (.rlen (W 14 6)) (V 16)) [((.rlen (W 14 6)),1)] [] 9 [] [[(qM (.rlen (V 15)) (.li 4096))]]
def ajX (r:List dL×GBx):Nat×List AV:=(0,[eL dL.enc r.1,GBx.av r.2])
theorem akb (x0:dK)(x1:List Int)(v2:Int)(v3:List Bool)(r4:Bool×List Int×Int×List Int×Int)(r9:List Bool×GBx)(u11:List Bool)(u12:GBx)(v13:Int)(v14:dS):∀(n:Nat) (u15:List dL) (u16:Int) (u17:GBx),nU Try.prog sT aBH aBI [dK.av x0,eL kY x1,eI v2,eL rowB v3,eI (ji r4.1),eL kY r4.2.1,eI r4.2.2.1,eL kY r4.2.2.2.1,eI r4.2.2.2.2,eL rowB r9.1,GBx.av r9.2,eL rowB u11,GBx.av u12,.agg (kY v13),dS.av v14] n [eL dL.enc u15,eI u16,GBx.av u17] (ajX (lC v14 n u15 u16 u17))
 |0,u15,u16,u17=>l0
 |n+1,u15,u16,u17=>
  let v18:dJ:=v14.Props.getD (u16:Int).toNat default
  let v19:List dL:=u15++[v18.dV.Value,v18.dV.Get,v18.dV.Set]
  EU rfl [dJ.av v18,eL dL.enc v19] xn (wR rfl <|
  akz (f:=dL.enc) [v18.dV.Value,v18.dV.Get,v18.dV.Set] rfl <|
  wn) ln <|
   rc ajX rx<|rl (rg (akb x0 x1 v2 v3 r4 r9 u11 u12 v13 v14 n _ _ _))
def aBJ : Lo:=
 let p0:Pc:=((qN (V 2) (.li 0)),false)::[]
 let p1:Pc:=((qG (.rlen (V 1)) (.li 4096)),false)::p0
 let p2:Pc:=((qE (V 4) (.li 0)),true)::p1
 let p3:Pc:=((qG (.rlen (W 12 0)) (.li 0)),true)::p2
 let p4:Pc:=((qL (V 17) (.rlen (V 15))),true)::p3
 let p5:Pc:=((V 21),true)::p4
 let p6:Pc:=((W 22 0),false)::p5
 .mk [((qG (.rlen (W 12 0)) (.li 0)),true),((qE (V 4) (.li 0)),true),((qG (.rlen (V 1)) (.li 4096)),false),((qN (V 2) (.li 0)),false)] 17 3 [(zI (.li 0)),(zL (V 11)),(.agg [(zL (W 16 0))])] [((.not (qL (V 17) (.rlen (V 15)))),1,[(zL (V 18)),(.agg [(zL (W 19 0))])]),((.and (V 21) (.not (W 22 0))),0,[(zI (aI (V 17) (.li 1))),(zL (V 23)),(.agg [(zL (V 24))])]),((.lb true),0,[(zI (aI (V 17) (.li 1))),(zL (V 18)),(.agg [(zL (W 19 0))])])] [(p4,(.tm (qM (.li 0) (V 17)))),
 (p4,(.rd (true,4) (V 15) (V 17) 0 (.agg (cV 20 dL.kG)))),
 (p4,(.call 18 [(.agg (cV 20 dL.kG))] (zB (V 21)))),
 (p5,(.tm (qM (.li 0) (W 20 3)))),
 (p5,(.tm (qL (W 20 3) (.rlen (W 0 0))))),
 (p5,(.rd (false,1) (V 18) (W 20 3) 0 (zB (W 22 0)))),
 (p6,(.tm (qM (.li 0) (W 20 3)))),
 (p6,(.tm (qL (W 20 3) (.rlen (W 0 0))))),
 (p6,(.st (V 18) (W 20 3) 0 [(zB (.lb true))] (V 23))),
 (p6,(.app 1 (W 19 0) [[(zI (W 20 3))]] (V 24)))] [] [2] [(V 5),(V 15)]
def aBK : LH:=.mk [(qM (.li 0) (V 17)),(qE (.rlen (V 18)) (.rlen (W 0 0)))] (mI (.rlen (V 15)) (V 17)) [((.rlen (V 15)),1)] [([((V 21),true),((qL (V 17) (.rlen (V 15))),true),((qM (.li 0) (V 17)),true)],(qM (.li 0) (W 20 3))),([((V 21),true),((qL (V 17) (.rlen (V 15))),true),((qM (.li 0) (V 17)),true)],(qL (W 20 3) (.rlen (W 0 0)))),([],(qE (.rlen (V 23)) (.rlen (V 18)))),([],(qM (.rlen (W 19 0)) (.rlen (W 0 0))))] 9 [] [[(qE (.rlen (V 17)) (.rlen (V 11)))]]
def afb (r:List Bool×GBx):Nat×List AV:=(0,[eL rowB r.1,GBx.av r.2])
theorem afu (x0:dK)(x1:List Int)(v2:Int)(v3:List Bool)(r4:Bool×List Int×Int×List Int×Int)(r9:List Bool×GBx)(u11:List Bool)(u12:GBx)(v13:Int)(v14:dS)(r15:List dL×GBx):∀(n:Nat) (u17:Int) (u18:List Bool) (u19:GBx) (hV:avY x0 r15.1) (hX:RInv x0 u18 u19) (k0:0<=u17) (hL:r15.1.length<=4294967296),nU Try.prog sT aBJ aBK [dK.av x0,eL kY x1,eI v2,eL rowB v3,eI (ji r4.1),eL kY r4.2.1,eI r4.2.2.1,eL kY r4.2.2.2.1,eI r4.2.2.2.2,eL rowB r9.1,GBx.av r9.2,eL rowB u11,GBx.av u12,.agg (kY v13),dS.av v14,eL dL.enc r15.1,GBx.av r15.2] n [eI u17,eL rowB u18,GBx.av u19] (afb (lX r15 n u17 u18 u19))
 |0,u17,u18,u19,_,_,_,_=>l0
 |n+1,u17,u18,u19,hV,hX,k0,hL=>
  let v20:dL:=r15.1.getD (u17:Int).toNat default
  let v21:Bool:=dM v20
  let v22:Bool:=u18.getD (v20.Ref:Int).toNat default
  let v23:List Bool:=u18.set (v20.Ref:Int).toNat true
  let v24:List Int:=u19.v++[v20.Ref]
  EU rfl [dL.av v20,eB v21,.agg (rowB v22),eL rowB v23,eL kY v24] (xp (fun h=>decide_eq_true (aCI hV ( (h.at 0 rfl)) (of_decide_eq_true (h.at 1 rfl)) (of_decide_eq_true (h.at 2 rfl))))<|xp (fun h=>decide_eq_true (aCJ hV ( (h.at 0 rfl)) (of_decide_eq_true (h.at 1 rfl)) (of_decide_eq_true (h.at 2 rfl))))<|xc (kP.2 (aoi))<|xc (decide_eq_true (atI hX))<|xn) (wT <|
  wRd rfl <|
  wC (lZ v20) <|
  wT <|
  wT <|
  wRd rfl <|
  wT <|
  wT <|
  wSt (f:=rowB) true rfl <|
  akz (f:=kY) [v20.Ref] rfl <|
  wn) ln <|
   rcf afb (fun g0=>rx)<|fun g0=>rcf afb (fun g1=>rg (afu x0 x1 v2 v3 r4 r9 u11 u12 v13 v14 r15 n _ _ _ hV (aCM hV hX k0 g0 g1) (aBu hL k0 g0) hL))<|fun g1=>rl (rg (afu x0 x1 v2 v3 r4 r9 u11 u12 v13 v14 r15 n _ _ _ hV hX (aBu hL k0 g0) hL))
def aBL : Lo:=
 let p0:Pc:=((qN (V 2) (.li 0)),false)::[]
 let p1:Pc:=((qG (.rlen (V 1)) (.li 4096)),false)::p0
 let p2:Pc:=((qE (V 4) (.li 0)),true)::p1
 let p3:Pc:=((qG (.rlen (W 12 0)) (.li 0)),true)::p2
 .mk [((qE (V 4) (.li 0)),true),((qG (.rlen (V 1)) (.li 4096)),false),((qN (V 2) (.li 0)),false)] 11 2 [(zL (V 9)),(.agg [(zL (W 10 0))])] [((.not (qG (.rlen (W 12 0)) (.li 0))),1,[(zL (V 11)),(.agg [(zL (W 12 0))])]),((.lb true),0,[(zL (V 17)),(.agg [(zL (W 18 0))])])] [(p3,(.tm (qL (.li 0) (.rlen (W 12 0))))),
 (p3,(.rd (false,1) (W 12 0) (.li 0) 0 (zI (W 13 0)))),
 (p3,(.row (W 0 0) (W 13 0) (cV 14 dS.kG))),
 (p3,(.tm (qM (.rlen (W 12 0)) (.li 4294967296)))),
 (p3,(.tm (qM (.li 0) (.rlen (W 12 0))))),
 (p3,(.tm (qM (.li 1) (.rlen (W 12 0))))),
 (p3,(.tm (qM (.rlen (W 12 0)) (.rlen (W 12 0))))),
 (p3,(.tm (qM (.li 1) (.rlen (W 12 0))))),
 (p3,(.tm (qM (.rlen (W 12 0)) (.li 4294967296))))] [aBH,aBJ] [2] [(V 5)]
def aBM : LH:=.mk [(qE (.rlen (V 11)) (.rlen (V 9)))] .nl [] [([((qG (.rlen (W 12 0)) (.li 0)),true)],(qM (.li 0) (W 13 0))),([((qG (.rlen (W 12 0)) (.li 0)),true)],(qL (W 13 0) (.rlen (W 0 0)))),([((qG (.rlen (W 12 0)) (.li 0)),true)],(qM (.rlen (W 14 6)) (.li 1024))),([],(qM (.rlen (W 12 0)) (.rlen (W 0 0))))] 2 [aBI,aBK] [[(qE (.rlen (V 11)) (.rlen (W 0 0)))]]
def akg (r:List Bool×GBx):Nat×List AV:=(0,[eL rowB r.1,GBx.av r.2])
theorem aks (x0:dK)(x1:List Int)(v2:Int)(v3:List Bool)(r4:Bool×List Int×Int×List Int×Int)(r9:List Bool×GBx):∀(n:Nat) (u11:List Bool) (u12:GBx) (hC:kR x0=0) (hW:RInv x0 u11 u12) (_:abZ x0 n u11 u12=true),nU Try.prog sT aBL aBM [dK.av x0,eL kY x1,eI v2,eL rowB v3,eI (ji r4.1),eL kY r4.2.1,eI r4.2.2.1,eL kY r4.2.2.2.1,eI r4.2.2.2.2,eL rowB r9.1,GBx.av r9.2] n [eL rowB u11,GBx.av u12] (akg (aaG x0 n u11 u12))
 |0,u11,u12,_,_,hE=>absurd (show false=true from hE) Bool.false_ne_true
 |n+1,u11,u12,hC,hW,hE=>
  let v13:Int:=u12.v.getD (0:Int).toNat default
  let v14:dS:=x0.Objects.getD (v13:Int).toNat default
  let r15:List dL×GBx:=lC v14 (v14.Props.length+1) [v14.eu,v14.Target,v14.Handler] 0 (GBx.mk (u12.v.drop 1))
  let r17:List Bool×GBx:=lX r15 (r15.1.length+1) 0 u11 r15.2
  have hE:(bif (!(decide (((je kY u12.v):Int) > 0))) then true
  else abZ x0 n r17.1 r17.2)=true:=hE
  EU rfl [.agg (kY v13),dS.av v14,eL dL.enc r15.1,GBx.av r15.2,eL rowB r17.1,GBx.av r17.2] (xp (fun h=>decide_eq_true (aCG hW (of_decide_eq_true (h.at 0 rfl))))<|xp (fun h=>decide_eq_true (aCH hW (of_decide_eq_true (h.at 0 rfl))))<|xp (fun h=>decide_eq_true (axJ hC hW (of_decide_eq_true (h.at 0 rfl))))<|xc (decide_eq_true (atI hW))<|xn) (wT <|
  wRd rfl <|
  wR rfl <|
  wT <|
  wT <|
  wT <|
  wT <|
  wT <|
  wT <|
  wn) (Z7 (hv:=by exact congrArg (fun z=>[eL dL.enc [v14.eu,v14.Target,v14.Handler],eI 0,AV.agg [AV.sl z false]]) (aA5 (l:=u12.v))) (akb x0 x1 v2 v3 r4 r9 u11 u12 v13 v14 (v14.Props.length+1) [v14.eu,v14.Target,v14.Handler] 0 (GBx.mk (u12.v.drop 1))) <|
  azt (fun h=>afu x0 x1 v2 v3 r4 r9 u11 u12 v13 v14 r15 (r15.1.length+1) 0 u11 r15.2 (azm hC hW (of_decide_eq_true (h.at 0 rfl))).1 (azp hC hW (h.at 0 rfl)) (Int.le_refl _) (aA4 hC hW (h.at 0 rfl))) <|
  ln) <|
   rcf akg (fun g0=>rx)<|fun g0=>rl (rg (aks x0 x1 v2 v3 r4 r9 n _ _ hC (ayF hC hW g0) (EW g0 hE)))
def aBN : Lo:=
 let p0:Pc:=((qN (V 2) (.li 0)),false)::[]
 let p1:Pc:=((qG (.rlen (V 1)) (.li 4096)),false)::p0
 let p2:Pc:=((qE (V 4) (.li 0)),true)::p1
 let p3:Pc:=((qL (V 14) (.rlen (W 0 0))),true)::p2
 let p4:Pc:=((W 15 0),true)::p3
 .mk [((qE (V 4) (.li 0)),true),((qG (.rlen (V 1)) (.li 4096)),false),((qN (V 2) (.li 0)),false)] 13 2 [(zL .nl),(zI (.li 0))] [((.not (qL (V 14) (.rlen (W 0 0)))),1,[(zL (V 13))]),((W 15 0),0,[(zL (V 16)),(zI (aI (V 14) (.li 1)))]),((.lb true),0,[(zL (V 13)),(zI (aI (V 14) (.li 1)))])] [(p3,(.tm (qM (.li 0) (V 14)))),
 (p3,(.rd (false,1) (V 11) (V 14) 0 (zB (W 15 0)))),
 (p4,(.app 1 (V 13) [[(zI (V 14))]] (V 16)))] [] [1] [(V 5)]
def aBO : LH:=.mk [(qM (.rlen (V 13)) (V 14))] (mI (.rlen (W 0 0)) (V 14)) [((.rlen (W 0 0)),1)] [] 2 [] []
def afz (r:List Int):Nat×List AV:=(0,[eL kY r])
theorem agA (x0:dK)(x1:List Int)(v2:Int)(v3:List Bool)(r4:Bool×List Int×Int×List Int×Int)(r9:List Bool×GBx)(r11:List Bool×GBx):∀(n:Nat) (u13:List Int) (u14:Int),nU Try.prog sT aBN aBO [dK.av x0,eL kY x1,eI v2,eL rowB v3,eI (ji r4.1),eL kY r4.2.1,eI r4.2.2.1,eL kY r4.2.2.2.1,eI r4.2.2.2.2,eL rowB r9.1,GBx.av r9.2,eL rowB r11.1,GBx.av r11.2] n [eL kY u13,eI u14] (afz (abY x0 r11 n u13 u14))
 |0,u13,u14=>l0
 |n+1,u13,u14=>
  let v15:Bool:=r11.1.getD (u14:Int).toNat default
  let v16:List Int:=u13++[u14]
  EU rfl [.agg (rowB v15),eL kY v16] xn (wT <|
  wRd rfl <|
  akz (f:=kY) [u14] rfl <|
  wn) ln <|
   rc afz rx<|rc afz (rg (agA x0 x1 v2 v3 r4 r9 r11 n _ _))<|rl (rg (agA x0 x1 v2 v3 r4 r9 r11 n _ _))
def R7 : iE:=
 let p0:Pc:=((qN (V 2) (.li 0)),false)::[]
 let p1:Pc:=((qG (.rlen (V 1)) (.li 4096)),false)::p0
 ⟨[((qN (V 2) (.li 0)),(.fD [(.slc [] false),(zI (V 2))])),((qG (.rlen (V 1)) (.li 4096)),(.fD [(.slc [] false),(zI (.li 4))])),((.not (qE (V 4) (.li 0))),(.fD [(zL (V 7)),(zI (V 8))])),((.lb true),(.fD [(zL (V 13)),(zI (.li 0))]))],
 [([],(.call 8 [(.agg [(zL (W 0 0))])] (zI (V 2)))),
 (p1,(.mk (.rlen (W 0 0)) (.rlen (W 0 0)) [(zB (.lb false))] (V 3)))],[aCX,aCZ,aBL,aBN]⟩
def H7 : LH:=.mk [] (.li 0) [] [] 0 [aCY,aC0,aBM,aBO] []
theorem e7 : jo Try.prog fG fH oU (oN kA 7 [1,2,4,5,6,7,8,9,11,13,14,15,17,19,20,21,22,26,30,36,37,38,39,45,46,47,48,49,51,52,53,54,63,81,82,83,84,100,101,102,103,107,113,114,115,116,120] [(10,(.mk [4,5,113,114] (.mk [(20,(.os 32 1)),(115,(.sc kI))] [] [] 33 []) [(.normal,(.mk [(20,(.os 32 1))] [] [] 33 []))])),(4,(.mk [2,4,5,7,8,9] (.mk [] [] [(14,1)] 28 [(17,(.mk [] 27 1 []))]) [(.normal,(.mk [] [] [(14,1)] 28 [(17,(.mk [] 27 1 []))]))])),(8,(.mk [2,4,5,7,8,9,15,100,101] (.mk [(102,(.sc kI))] [] [(14,1)] 61 [(17,(.mk [] 60 1 []))]) [(.normal,(.mk [] [] [(14,1)] 61 [(17,(.mk [] 60 1 []))]))])),(6,(.mk [2,4,5,7,8,9,81,82] (.mk [(15,(.os 55 4)),(83,(.sc kI))] [] [] 57 [(17,(.mk [] 56 1 []))]) [(.normal,(.mk [(15,(.os 55 4))] [] [] 57 [(17,(.mk [] 56 1 []))]))])),(2,(.mk [2,4,5,7,8,9,51,52] (.mk [(53,(.sc kI))] [] [(14,1)] 27 [(17,(.mk [] 26 1 []))]) [(.normal,(.mk [] [] [(14,1)] 27 [(17,(.mk [] 26 1 []))]))])),(0,(.mk [1,2,7,8,9,36,37] (.mk [(4,(.sc .sl)),(5,(.sc kI)),(38,(.sc kI))] [] [] 23 []) [(.normal,(.mk [(4,(.sc .sl)),(5,(.sc kI))] [] [] 23 [])),(.ret,(.mk [(4,(.sc .sl)),(5,(.sc kI))] [] [] 23 []))]))]) 3 200 7 [.agg (cV 0 dK.kG),zL (V 1)] 2=some R7:=by kernel_rfl
theorem alH (x0:dK)(x1:List Int):CT Try.prog sT 7 [dK.av x0,eL kY x1] (Y1 (lM x0 x1)):=
 let v2:Int:=kR x0
 let v3:List Bool:=List.replicate ((je dS.enc x0.Objects):Int).toNat false
 let r4:Bool×List Int×Int×List Int×Int:=dF x0 x1 (x1.length+1) [] 0 0
 let r9:List Bool×GBx:=Y2 x1 (x1.length+1) 0 v3 (GBx.mk [])
 let r11:List Bool×GBx:=aaG x0 (x0.Objects.length+1) r9.1 r9.2
 let r13:List Int:=abY x0 r11 (x0.Objects.length+1) [] 0
 qY jc dP dQ e7 H7 (by kernel_rfl) [dK.av x0,eL kY x1,eI v2,eL rowB v3,eI (ji r4.1),eL kY r4.2.1,eI r4.2.2.1,eL kY r4.2.2.2.1,eI r4.2.2.2.2,eL rowB r9.1,GBx.av r9.2,eL rowB r11.1,GBx.av r11.2,eL kY r13] xn
  (wC (YH x0) <|
  wMk (f:=rowB) false rfl <|
  wn)
  (Yp (ala x0 x1 v2 v3 (x1.length+1) [] 0 0) <|
  azt (fun h=>ahW x0 x1 v2 v3 r4 (x1.length+1) 0 v3 (GBx.mk []) (av8 (h.at 1 rfl) (h.at 0 rfl)) ax4 (Int.le_refl _) (azq (h.at 1 rfl))) <|
  azt (fun h=>aks x0 x1 v2 v3 r4 r9 (x0.Objects.length+1) r9.1 r9.2 (wF.1 (h.at 2 rfl)) (axH (av8 (h.at 1 rfl) (h.at 0 rfl)) (h.at 1 rfl) ax4) (ayE (wF.1 (h.at 2 rfl)) (axH (av8 (h.at 1 rfl) (h.at 0 rfl)) (h.at 1 rfl) ax4))) (hn:=Int.natCast_pos.2 (Nat.succ_pos _)) <|
  Z7 (agA x0 x1 v2 v3 r4 r9 r11 (x0.Objects.length+1) [] 0) <|
  ln)
  (gW Y1 rfl rfl (gW Y1 rfl rfl (gW Y1 rfl rfl (iY rfl))))
def aBP : Lo:=
 let p0:Pc:=((V 3),true)::[]
 let p1:Pc:=((V 4),false)::p0
 let p2:Pc:=((qN (W 6 1) (.li 0)),false)::p1
 let p3:Pc:=((qN (W 5 1) (.li 0)),false)::p2
 let p4:Pc:=((qL (V 11) (.rlen (W 5 0))),true)::p3
 let p5:Pc:=((qL (V 14) (.rlen (W 6 0))),true)::p4
 let p6:Pc:=((V 13),false)::p5
 .mk [((qL (V 11) (.rlen (W 5 0))),true),((qN (W 5 1) (.li 0)),false),((qN (W 6 1) (.li 0)),false),((V 4),false),((V 3),true)] 13 2 [(zB (.lb false)),(zI (.li 0))] [((.not (qL (V 14) (.rlen (W 6 0)))),1,[(zB (V 13)),(zI (V 14))]),((.lb true),0,[(zB (.or (V 13) (qE (W 15 0) (W 16 0)))),(zI (aI (V 14) (.li 1)))])] [(p6,(.row (W 6 0) (V 14) [(zI (W 15 0))])),
 (p6,(.row (W 5 0) (V 11) [(zI (W 16 0))]))] [] [2] [(W 5 0),(W 6 0)]
def aC1 : Lo:=
 let p0:Pc:=((V 3),true)::[]
 let p1:Pc:=((V 4),false)::p0
 let p2:Pc:=((qN (W 6 1) (.li 0)),false)::p1
 let p3:Pc:=((qN (W 5 1) (.li 0)),false)::p2
 let p4:Pc:=((qL (V 11) (.rlen (W 5 0))),true)::p3
 let p5:Pc:=((V 10),false)::p4
 .mk [((qN (W 5 1) (.li 0)),false),((qN (W 6 1) (.li 0)),false),((V 4),false),((V 3),true)] 9 3 [(zB (.lb false)),(zB (.or (uE (W 7 1) (.li 1)) (uE (W 8 0) (.li 6)))),(zI (.li 0))] [((.not (qL (V 11) (.rlen (W 5 0)))),1,[(zB (V 9)),(zB (V 10))]),((.not (V 13)),2,[(zB (.lb false))]),((.lb true),0,[(zB (V 9)),(zB (.or (V 10) (qE (W 12 0) (W 7 4)))),(zI (aI (V 11) (.li 1)))])] [(p5,(.row (W 5 0) (V 11) [(zI (W 12 0))]))] [aBP] [2,1] [(W 5 0),(W 6 0)]
def R3 : iE:=
 let p0:Pc:=((V 3),true)::[]
 let p1:Pc:=((V 4),false)::p0
 let p2:Pc:=((qN (W 6 1) (.li 0)),false)::p1
 let p3:Pc:=((qN (W 5 1) (.li 0)),false)::p2
 let p4:Pc:=((uE (W 7 1) (.li 1)),false)::p3
 ⟨[((.not (V 3)),(zB (.lb false))),((V 4),(zB (V 3))),((.or (qN (W 5 1) (.li 0)) (qN (W 6 1) (.li 0))),(zB (.and (.or (qE (.rlen (W 5 0)) (.li 0)) (qE (W 5 1) (.li 0))) (qE (.rlen (W 6 0)) (.li 0))))),((.not (qE (V 9) (.li 0))),(zB (V 12))),((.lb true),(zB (V 11)))],
 [([],(.call 5 [] (zB (V 3)))),
 (p0,(.call 6 [(.agg [(zL (W 0 0))])] (zB (V 4)))),
 (p1,(.call 7 [(.agg [(zL (W 0 0))]),(.slc [[(zI (V 1))]] false)] (.fD [(zL (W 5 0)),(zI (W 5 1))]))),
 (p1,(.call 7 [(.agg [(zL (W 0 0))]),(.slc [[(zI (V 1))],[(zI (V 2))]] false)] (.fD [(zL (W 6 0)),(zI (W 6 1))]))),
 (p3,(.row (W 0 0) (V 1) (cV 7 dS.kG))),
 (p4,(.row (W 0 0) (V 1) (cV 8 dS.kG)))],[aC1]⟩
theorem e3 : jo Try.prog fG fH oU (oN kA 3 [13,86,85,87,89,90,88,91,16,109,104,108,107,105,106,14,103,101,102,15,6] [(0,(.mk [7,8,10,12] (.mk [(6,(.sc .bool)),(13,(.sc .bool)),(14,(.sc kI))] [] [] 55 []) [(.normal,(.mk [(6,(.sc .bool)),(13,(.sc .bool))] [] [] 55 [])),(.ret,(.mk [(6,(.sc .bool))] [] [] 55 []))])),(2,(.mk [6,7,8,10,12,13,14,85,86,87,88,89,90,91] (.mk [(15,(.sc .bool)),(16,(.sc kI))] [] [] 72 []) [(.normal,(.mk [(15,(.sc .bool)),(16,(.sc kI))] [] [] 72 []))]))]) 3 200 3 [.agg (cV 0 dK.kG),zI (V 1),zI (V 2)] 3=some R3:=by kernel_rfl
def R9 : iE:=
 let p0:Pc:=((qN (V 2) (.li 0)),false)::[]
 let p1:Pc:=((qH (V 1) (.rlen (W 0 0))),false)::p0
 let p2:Pc:=((qL (V 1) (.li 0)),false)::p1
 ⟨[((qN (V 2) (.li 0)),(.fD [(.agg [(zU (.li 0)),(zU (.li 0)),(zF (.lf 0)),(zS (.ls [])),(zI (.li 0)),(zB (.lb false)),(.slc [] false),(zU (.li 0)),(zF (.lf 0)),(zS (.ls [])),(zI (.li 0)),(zU (.li 0)),(zF (.lf 0)),(zS (.ls [])),(zI (.li 0)),(zS (.ls [])),(zB (.lb false)),(zB (.lb false))]),(zI (V 2))])),((.or (qL (V 1) (.li 0)) (qH (V 1) (.rlen (W 0 0)))),(.fD [(.agg [(zU (.li 0)),(zU (.li 0)),(zF (.lf 0)),(zS (.ls [])),(zI (.li 0)),(zB (.lb false)),(.slc [] false),(zU (.li 0)),(zF (.lf 0)),(zS (.ls [])),(zI (.li 0)),(zU (.li 0)),(zF (.lf 0)),(zS (.ls [])),(zI (.li 0)),(zS (.ls [])),(zB (.lb false)),(zB (.lb false))]),(zI (.li 2))])),((.lb true),(.fD [(.agg (cV 4 dS.kG)),(zI (.li 0))]))],
 [([],(.call 8 [(.agg [(zL (W 0 0))])] (zI (V 2)))),
 (p2,(.row (W 0 0) (V 1) (cV 3 dS.kG))),
 (p2,(.call 21 [(.agg (cV 3 dS.kG))] (.agg (cV 4 dS.kG))))],[]⟩
theorem e9 : jo Try.prog fG fH oU (oN kA 9 [] []) 3 200 9 [.agg (cV 0 dK.kG),zI (V 1)] 2=some R9:=by kernel_rfl
theorem O4 (x0:dK)(x1:Int):CT Try.prog sT 9 [dK.av x0,eI x1] (pJ (Bo x0 x1)):=
 let v2:Int:=kR x0
 let v3:dS:=x0.Objects.getD (x1:Int).toNat default
 let v4:dS:=Qm v3
 qY jc dP dQ e9 xC (by kernel_rfl) [dK.av x0,eI x1,eI v2,dS.av v3,dS.av v4] xn
  (wC (YH x0) <|
  wR rfl <|
  wC (aeH v3) <|
  wn)
  ln
  (gW pJ rfl rfl (gW pJ rfl rfl (iY rfl)))
def R24 : iE:=
 ⟨[((.lb true),(zB (.and (uE (W 0 0) (W 1 0)) (.and (.bin .eql .kC (.ite (.and (.bin .neq .kC (W 0 1) (W 0 1)) (.bin .neq .kC (W 1 1) (W 1 1))) (.lf 0) (W 0 1)) (.ite (.and (.bin .neq .kC (W 0 1) (W 0 1)) (.bin .neq .kC (W 1 1) (W 1 1))) (.lf 0) (W 1 1))) (.and (sE (W 0 2) (W 1 2)) (qE (W 0 3) (W 1 3)))))))],
 [],[]⟩
theorem e24 : jo Try.prog fG fH oU (oN kA 24 [] []) 3 200 24 [.agg (cV 0 dL.kG),.agg (cV 1 dL.kG)] 2=some R24:=by kernel_rfl
theorem awp (x0:dL)(x1:dL):CT Try.prog sT 24 [dL.av x0,dL.av x1] (eB (yc x0 x1)):=
 qY jc dP dQ e24 xC (by kernel_rfl) [dL.av x0,dL.av x1] xn
  wn
  ln
  (iY rfl)
def aAM : Lo:=
 let p0:Pc:=((qN (.rlen (V 0)) (.rlen (V 1))),false)::[]
 let p1:Pc:=((qL (V 3) (.rlen (V 0))),true)::p0
 let p2:Pc:=((.and (.and (.and (.and (.and (sE (W 4 0) (W 5 0)) (qE (W 4 1) (W 5 1))) (uE (W 4 2) (W 5 2))) (.bin .eql .bool (W 4 15) (W 5 15))) (.bin .eql .bool (W 4 16) (W 5 16))) (.bin .eql .bool (W 4 17) (W 5 17))),true)::p1
 let p3:Pc:=((.and (.and (.and (.and (.and (.and (sE (W 4 0) (W 5 0)) (qE (W 4 1) (W 5 1))) (uE (W 4 2) (W 5 2))) (.bin .eql .bool (W 4 15) (W 5 15))) (.bin .eql .bool (W 4 16) (W 5 16))) (.bin .eql .bool (W 4 17) (W 5 17))) (V 6)),true)::p1
 let p4:Pc:=((.and (.and (.and (.and (.and (.and (.and (sE (W 4 0) (W 5 0)) (qE (W 4 1) (W 5 1))) (uE (W 4 2) (W 5 2))) (.bin .eql .bool (W 4 15) (W 5 15))) (.bin .eql .bool (W 4 16) (W 5 16))) (.bin .eql .bool (W 4 17) (W 5 17))) (V 6)) (V 7)),true)::p1
 .mk [((qN (.rlen (V 0)) (.rlen (V 1))),false)] 2 2 [(zB (.lb false)),(zI (.li 0))] [((.not (qL (V 3) (.rlen (V 0)))),1,[(zB (V 2))]),((.not (.and (.and (.and (.and (.and (.and (.and (.and (sE (W 4 0) (W 5 0)) (qE (W 4 1) (W 5 1))) (uE (W 4 2) (W 5 2))) (.bin .eql .bool (W 4 15) (W 5 15))) (.bin .eql .bool (W 4 16) (W 5 16))) (.bin .eql .bool (W 4 17) (W 5 17))) (V 6)) (V 7)) (V 8))),2,[(zB (.lb false))]),((.lb true),0,[(zB (V 2)),(zI (aI (V 3) (.li 1)))])] [(p1,(.row (V 0) (V 3) (cV 4 dJ.kG))),
 (p1,(.row (V 1) (V 3) (cV 5 dJ.kG))),
 (p2,(.call 24 [(.agg (cW 4 3 dL.kG)),(.agg (cW 5 3 dL.kG))] (zB (V 6)))),
 (p3,(.call 24 [(.agg (cW 4 7 dL.kG)),(.agg (cW 5 7 dL.kG))] (zB (V 7)))),
 (p4,(.call 24 [(.agg (cW 4 11 dL.kG)),(.agg (cW 5 11 dL.kG))] (zB (V 8))))] [] [1,1] [(V 1),(V 0)]
def aAN : LH:=.mk [(qM (.li 0) (V 3))] (mI (.rlen (V 0)) (V 3)) [((.rlen (V 0)),1)] [] 0 [] []
def avU (r:Bool×Bool×Bool):Nat×List AV:=Ny r.1 [eB r.2.1] [eB r.2.2]
theorem av6 (x0:List dJ)(x1:List dJ):∀(n:Nat) (u2:Bool) (u3:Int),nU Try.prog sT aAM aAN [eL dJ.enc x0,eL dJ.enc x1] n [eB u2,eI u3] (avU (lV x0 x1 n u2 u3))
 |0,u2,u3=>l0
 |n+1,u2,u3=>
  let v4:dJ:=x0.getD (u3:Int).toNat default
  let v5:dJ:=x1.getD (u3:Int).toNat default
  let v6:Bool:=yc v4.dV.Value v5.dV.Value
  let v7:Bool:=yc v4.dV.Get v5.dV.Get
  let v8:Bool:=yc v4.dV.Set v5.dV.Set
  EU rfl [dJ.av v4,dJ.av v5,eB v6,eB v7,eB v8] xn (wR rfl <|
  wR rfl <|
  wC (awp v4.dV.Value v5.dV.Value) <|
  wC (awp v4.dV.Get v5.dV.Get) <|
  wC (awp v4.dV.Set v5.dV.Set) <|
  wn) ln <|
   rc avU rx<|rc avU rx<|rl (rg (av6 x0 x1 n _ _))
def aFa : iE:=
 ⟨[((qN (.rlen (V 0)) (.rlen (V 1))),(.fD [(zB (.lb false))])),((.not (qE (V 2) (.li 0))),(.fD [(zB (V 4))])),((.lb true),(.fD [(zB (.lb true))]))],
 [],[aAM]⟩
def aFb : LH:=.mk [] (.li 0) [] [] 0 [aAN] []
theorem aFc : P_ Try.prog fG fH oU (oN kA 25 [7,17,6] [(0,(.mk [1,2,15,16] (.mk [(6,(.sc .bool)),(17,(.sc kI))] [] [] 9 []) [(.normal,(.mk [(6,(.sc .bool))] [] [] 9 [])),(.ret,(.mk [(6,(.sc .bool))] [] [] 9 []))]))]) 3 200 25 [(zL (V 0)),(zL (V 1)),(.fn 26 [] [])] 2 [] [] 0=some aFa:=by kernel_rfl
theorem axG (x0:List dJ)(x1:List dJ):CTw Try.prog sT 25 [(.sl (List.map dJ.enc x0) false),(.sl (List.map dJ.enc x1) false),(.fn (.func 26) [] [])] [] 0 (.p (.bool (rH x0 x1))) []:=
 let r2:Bool×Bool×Bool:=lV x0 x1 (x0.length+1) false 0
 mkW (cs:=[]) jc dP dQ aFc aFb (by kernel_rfl) [eL dJ.enc x0,eL dJ.enc x1,eI (ji r2.1),eB r2.2.1,eB r2.2.2] xn
  wn
  (Yp (av6 x0 x1 (x0.length+1) false 0) <|
  ln)
  (gW (fun r=>.fD [(.p (.bool r))]) rfl rfl (gW (fun r=>.fD [(.p (.bool r))]) rfl rfl (iY rfl)))
def aAO : Lo:=
 let p0:Pc:=((qN (.rlen (V 0)) (.rlen (V 1))),false)::[]
 let p1:Pc:=((qL (V 3) (.rlen (V 0))),true)::p0
 let p2:Pc:=((uE (W 4 0) (W 5 0)),true)::p1
 let p3:Pc:=((.and (.and (uE (W 4 0) (W 5 0)) (V 6)) (.bin .eql .bool (W 4 5) (W 5 5))),true)::p1
 let p4:Pc:=((.and (.and (.and (uE (W 4 0) (W 5 0)) (V 6)) (.bin .eql .bool (W 4 5) (W 5 5))) (V 7)),true)::p1
 let p5:Pc:=((.and (.and (.and (.and (.and (.and (.and (uE (W 4 0) (W 5 0)) (V 6)) (.bin .eql .bool (W 4 5) (W 5 5))) (V 7)) (V 8)) (sE (W 4 15) (W 5 15))) (.bin .eql .bool (W 4 16) (W 5 16))) (.bin .eql .bool (W 4 17) (W 5 17))),true)::p1
 .mk [((qN (.rlen (V 0)) (.rlen (V 1))),false)] 2 2 [(zB (.lb false)),(zI (.li 0))] [((.not (qL (V 3) (.rlen (V 0)))),1,[(zB (V 2))]),((.not (.and (.and (.and (.and (.and (.and (.and (.and (uE (W 4 0) (W 5 0)) (V 6)) (.bin .eql .bool (W 4 5) (W 5 5))) (V 7)) (V 8)) (sE (W 4 15) (W 5 15))) (.bin .eql .bool (W 4 16) (W 5 16))) (.bin .eql .bool (W 4 17) (W 5 17))) (V 9))),2,[(zB (.lb false))]),((.lb true),0,[(zB (V 2)),(zI (aI (V 3) (.li 1)))])] [(p1,(.row (V 0) (V 3) (cV 4 dS.kG))),
 (p1,(.row (V 1) (V 3) (cV 5 dS.kG))),
 (p2,(.call 24 [(.agg (cW 4 1 dL.kG)),(.agg (cW 5 1 dL.kG))] (zB (V 6)))),
 (p3,(.call 24 [(.agg (cW 4 7 dL.kG)),(.agg (cW 5 7 dL.kG))] (zB (V 7)))),
 (p4,(.call 24 [(.agg (cW 4 11 dL.kG)),(.agg (cW 5 11 dL.kG))] (zB (V 8)))),
 (p5,(.call 25 [(zL (W 4 6)),(zL (W 5 6)),(.fn 26 [] [])] (zB (V 9))))] [] [1,1] [(V 1),(V 0)]
def aAP : LH:=.mk [(qM (.li 0) (V 3))] (mI (.rlen (V 0)) (V 3)) [((.rlen (V 0)),1)] [] 0 [] []
def auY (r:Bool×Bool×Bool):Nat×List AV:=Ny r.1 [eB r.2.1] [eB r.2.2]
theorem av4 (x0:List dS)(x1:List dS):∀(n:Nat) (u2:Bool) (u3:Int),nU Try.prog sT aAO aAP [eL dS.enc x0,eL dS.enc x1] n [eB u2,eI u3] (auY (aaF x0 x1 n u2 u3))
 |0,u2,u3=>l0
 |n+1,u2,u3=>
  let v4:dS:=x0.getD (u3:Int).toNat default
  let v5:dS:=x1.getD (u3:Int).toNat default
  let v6:Bool:=yc v4.eu v5.eu
  let v7:Bool:=yc v4.Target v5.Target
  let v8:Bool:=yc v4.Handler v5.Handler
  let w9:Bool:=rH v4.Props v5.Props
  let r9:Bool:=w9
  EU rfl [dS.av v4,dS.av v5,eB v6,eB v7,eB v8,eB r9] xn (wR rfl <|
  wR rfl <|
  wC (awp v4.eu v5.eu) <|
  wC (awp v4.Target v5.Target) <|
  wC (awp v4.Handler v5.Handler) <|
  wC (ctW rfl (axG v4.Props v5.Props)) <|
  wn) ln <|
   rc auY rx<|rc auY rx<|rl (rg (av4 x0 x1 n _ _))
def aFd : iE:=
 ⟨[((qN (.rlen (V 0)) (.rlen (V 1))),(.fD [(zB (.lb false))])),((.not (qE (V 2) (.li 0))),(.fD [(zB (V 4))])),((.lb true),(.fD [(zB (.lb true))]))],
 [],[aAO]⟩
def aFe : LH:=.mk [] (.li 0) [] [] 0 [aAP] []
theorem aFf : P_ Try.prog fG fH oU (oN kA 22 [7,17,6] [(0,(.mk [1,2,15,16] (.mk [(6,(.sc .bool)),(17,(.sc kI))] [] [] 9 []) [(.normal,(.mk [(6,(.sc .bool))] [] [] 9 [])),(.ret,(.mk [(6,(.sc .bool))] [] [] 9 []))]))]) 3 200 22 [(zL (V 0)),(zL (V 1)),(.fn 23 [] [])] 2 [] [] 0=some aFd:=by kernel_rfl
theorem axE (x0:List dS)(x1:List dS):CTw Try.prog sT 22 [(.sl (List.map dS.enc x0) false),(.sl (List.map dS.enc x1) false),(.fn (.func 23) [] [])] [] 0 (.p (.bool (vW x0 x1))) []:=
 let r2:Bool×Bool×Bool:=aaF x0 x1 (x0.length+1) false 0
 mkW (cs:=[]) jc dP dQ aFf aFe (by kernel_rfl) [eL dS.enc x0,eL dS.enc x1,eI (ji r2.1),eB r2.2.1,eB r2.2.2] xn
  wn
  (Yp (av4 x0 x1 (x0.length+1) false 0) <|
  ln)
  (gW (fun r=>.fD [(.p (.bool r))]) rfl rfl (gW (fun r=>.fD [(.p (.bool r))]) rfl rfl (iY rfl)))
def R11 : iE:=
 ⟨[((.lb true),(zB (V 2)))],
 [([],(.qp 22 [(zL (W 0 0)),(zL (W 1 0)),(.fn 23 [] [])] [] 0 (zB (V 2)) []))],[]⟩
theorem e11 : jo Try.prog fG fH oU (oN kA 11 [] []) 3 200 11 [.agg (cV 0 dK.kG),.agg (cV 1 dK.kG)] 2=some R11:=by kernel_rfl
theorem awU (x0:dK)(x1:dK):CT Try.prog sT 11 [dK.av x0,dK.av x1] (eB (SA x0 x1)):=
 let w2:Bool:=vW x0.Objects x1.Objects
 let r2:Bool:=w2
 qY jc dP dQ e11 xC (by kernel_rfl) [dK.av x0,dK.av x1,eB r2] xn
  (wW (axE x0.Objects x1.Objects)<|wn)
  ln
  (iY rfl)
def R13 : iE:=
 let p0:Pc:=((qN (W 3 1) (.li 0)),false)::[]
 let p1:Pc:=((qN (V 8) (.li 0)),false)::p0
 ⟨[((qN (W 3 1) (.li 0)),(.fD [(.agg [(.slc [] false)]),(zI (W 3 1))])),((qN (V 8) (.li 0)),(.fD [(.agg [(.slc [] false)]),(zI (V 8))])),((.lb true),(.fD [(.agg [(zL (V 9))]),(zI (.li 0))]))],
 [([],(.call 9 [(.agg [(zL (W 0 0))]),(zI (V 1))] (.fD [(.agg (kQ 3 [0] 0 dS.kG)),(zI (W 3 1))]))),
 (p0,(.Px 10 [(.agg [(zL (W 0 0))])] (.agg [(zL (W 4 0))]) [0] 18 false)),
 (p0,(.call 21 [(.agg (cV 2 dS.kG))] (.agg (cV 5 dS.kG)))),
 (p0,(.tm (qM (.li 0) (V 1)))),
 (p0,(.tm (qL (V 1) (.rlen (W 4 0))))),
 (p0,(.st (W 4 0) (V 1) 0 [(zU (W 5 0)),(zU (W 5 1)),(zF (W 5 2)),(zS (W 5 3)),(zI (W 5 4)),(zB (W 5 5)),(zL (W 5 6)),(zU (W 5 7)),(zF (W 5 8)),(zS (W 5 9)),(zI (W 5 10)),(zU (W 5 11)),(zF (W 5 12)),(zS (W 5 13)),(zI (W 5 14)),(zS (W 5 15)),(zB (W 5 16)),(zB (W 5 17))] (V 6))),
 (p0,(.sub 18 (V 6) none (some (.rlen (W 4 0))) (V 7))),
 (p0,(.call 8 [(.agg [(zL (V 7))])] (zI (V 8)))),
 (p1,(.sub 18 (V 6) none (some (.rlen (W 4 0))) (V 9)))],[]⟩
theorem e13 : jo Try.prog fG fH (mdW [10] oU) (oN kA 13 [] []) 3 200 13 [.agg (cV 0 dK.kG),zI (V 1),.agg (cV 2 dS.kG)] 3=some R13:=by kernel_rfl
theorem axT (x0:dK)(x1:Int)(x2:dS):CT Try.prog sT 13 [dK.av x0,eI x1,dS.av x2] (aA7 (awz x0 x1 x2)):=
 let v3:dS×Int:=Bo x0 x1
 let v4:dK:=ak_ x0
 let v5:dS:=Qm x2
 let v6:List dS:=v4.Objects.set (x1:Int).toNat v5
 let v7:List dS:=(v6.drop (0)).take (((je dS.enc v4.Objects):Int).toNat-0)
 let v8:Int:=kR (dK.mk v7)
 let v9:List dS:=(v6.drop (0)).take (((je dS.enc v4.Objects):Int).toNat-0)
 qY jc dP dQ e13 xC (by kernel_rfl) [dK.av x0,eI x1,dS.av x2,pJ v3,dK.av v4,dS.av v5,eL dS.enc v6,eL dS.enc v7,eI v8,eL dS.enc v9] xn
  (wC (O4 x0 x1) <|
  wO (au6 x0) <|
  wC (aeH x2) <|
  wT <|
  wT <|
  wSt (f:=dS.enc) v5 rfl <|
  azn rfl <|
  wC (YH (dK.mk v7)) <|
  azn rfl <|
  wn)
  ln
  (gW aA7 rfl rfl (gW aA7 rfl rfl (iY rfl)))
def aCB : Lo:=
 let p0:Pc:=((qN (W 2 1) (.li 0)),false)::[]
 let p1:Pc:=((qN (.rlen (W 3 0)) (.rlen (W 2 0))),false)::p0
 let p2:Pc:=((qN (W 3 1) (.li 0)),false)::p1
 let p3:Pc:=((qL (V 6) (.rlen (W 2 0))),true)::p2
 let p4:Pc:=((qN (W 7 0) (W 8 0)),false)::p3
 let p5:Pc:=((qG (V 6) (.li 0)),true)::p4
 let p6:Pc:=((.and (qG (V 6) (.li 0)) (qM (W 9 0) (W 10 0))),false)::p3
 let p7:Pc:=((qN (W 7 0) (W 8 0)),false)::p6
 let p8:Pc:=((V 5),false)::p7
 .mk [((qN (W 3 1) (.li 0)),false),((qN (.rlen (W 3 0)) (.rlen (W 2 0))),false),((qN (W 2 1) (.li 0)),false)] 4 3 [(zB (.lb false)),(zB (.lb false)),(zI (.li 0))] [((.not (qL (V 6) (.rlen (W 2 0)))),1,[(zB (V 4)),(zB (V 5))]),((.or (qN (W 7 0) (W 8 0)) (.and (qG (V 6) (.li 0)) (qM (W 9 0) (W 10 0)))),2,[(zB (.lb false))]),((.lb true),0,[(zB (V 4)),(zB (.or (V 5) (qE (W 11 0) (V 1)))),(zI (aI (V 6) (.li 1)))])] [(p3,(.row (W 3 0) (V 6) [(zI (W 7 0))])),
 (p3,(.row (W 2 0) (V 6) [(zI (W 8 0))])),
 (p5,(.row (W 2 0) (V 6) [(zI (W 9 0))])),
 (p5,(.row (W 2 0) (mI (V 6) (.li 1)) [(zI (W 10 0))])),
 (p8,(.row (W 2 0) (V 6) [(zI (W 11 0))]))] [] [2,1] [(W 2 0),(W 3 0)]
def aCC : LH:=.mk [(qM (W 2 1) (V 6))] (mI (.rlen (W 2 0)) (V 6)) [((.rlen (W 2 0)),1)] [] 2 [] []
def awy (r:Bool×Bool×Bool×Bool):Nat×List AV:=Ny r.1 [eB r.2.1,eB r.2.2.1] [eB r.2.2.2]
theorem axF (x0:dK)(x1:Int)(v2:List Int×Int)(v3:List Int×Int):∀(n:Nat) (u4:Bool) (u5:Bool) (u6:Int),nU Try.prog sT aCB aCC [dK.av x0,eI x1,Y1 v2,Y1 v3] n [eB u4,eB u5,eI u6] (awy (av3 x1 v2 v3 n u4 u5 u6))
 |0,u4,u5,u6=>l0
 |n+1,u4,u5,u6=>
  let v7:Int:=v3.1.getD (u6:Int).toNat default
  let v8:Int:=v2.1.getD (u6:Int).toNat default
  let v9:Int:=v2.1.getD (u6:Int).toNat default
  let v10:Int:=v2.1.getD ((iq .i64 u6 1):Int).toNat default
  let v11:Int:=v2.1.getD (u6:Int).toNat default
  EU rfl [.agg (kY v7),.agg (kY v8),.agg (kY v9),.agg (kY v10),.agg (kY v11)] xn (wR rfl <|
  wR rfl <|
  wR rfl <|
  wR rfl <|
  wR rfl <|
  wn) ln <|
   rc awy rx<|rc awy rx<|rl (rg (axF x0 x1 v2 v3 n _ _ _))
def R14 : iE:=
 let p0:Pc:=((qN (W 2 1) (.li 0)),false)::[]
 ⟨[((qN (W 2 1) (.li 0)),(zB (.or (qL (V 1) (.li 0)) (qH (V 1) (.rlen (W 0 0)))))),((.or (qN (W 3 1) (.li 0)) (qN (.rlen (W 3 0)) (.rlen (W 2 0)))),(zB (.lb false))),((.not (qE (V 4) (.li 0))),(zB (V 7))),((.lb true),(zB (V 6)))],
 [([],(.call 7 [(.agg [(zL (W 0 0))]),(.slc [[(zI (V 1))]] false)] (.fD [(zL (W 2 0)),(zI (W 2 1))]))),
 (p0,(.call 7 [(.agg [(zL (W 0 0))]),(zL (W 2 0))] (.fD [(zL (W 3 0)),(zI (W 3 1))])))],[aCB]⟩
def H14 : LH:=.mk [] (.li 0) [] [] 0 [aCC] []
theorem e14 : jo Try.prog fG fH oU (oN kA 14 [60,61,64,63,65,68,69,67,70,71,66,72,62,73,10,82,80,81,79,77,78,9,4] [(0,(.mk [1,5,7] (.mk [(4,(.sc .bool)),(9,(.sc .bool)),(10,(.sc kI))] [] [] 32 []) [(.normal,(.mk [(4,(.sc .bool)),(9,(.sc .bool))] [] [] 32 [])),(.ret,(.mk [(4,(.sc .bool))] [] [] 32 []))]))]) 3 200 14 [.agg (cV 0 dK.kG),zI (V 1)] 2=some R14:=by kernel_rfl
theorem axR (x0:dK)(x1:Int):CT Try.prog sT 14 [dK.av x0,eI x1] (eB (awI x0 x1)):=
 let v2:List Int×Int:=lM x0 [x1]
 let v3:List Int×Int:=lM x0 v2.1
 let r4:Bool×Bool×Bool×Bool:=av3 x1 v2 v3 (v2.1.length+1) false false 0
 qY jc dP dQ e14 H14 (by kernel_rfl) [dK.av x0,eI x1,Y1 v2,Y1 v3,eI (ji r4.1),eB r4.2.1,eB r4.2.2.1,eB r4.2.2.2] xn
  (wC (alH x0 [x1]) <|
  wC (alH x0 v2.1) <|
  wn)
  (Yp (axF x0 x1 v2 v3 (v2.1.length+1) false false 0) <|
  ln)
  (gW (fun r=>.p (.bool r)) rfl rfl (gW (fun r=>.p (.bool r)) rfl rfl (gW (fun r=>.p (.bool r)) rfl rfl (iY rfl))))
def R4 : iE:=
 let p0:Pc:=((V 3),true)::[]
 let p1:Pc:=((qG (.rlen (W 1 6)) (.li 100)),false)::p0
 let p2:Pc:=((V 4),false)::p1
 let p3:Pc:=((qN (V 5) (.li 0)),true)::p2
 let p4:Pc:=((qN (V 5) (.li 0)),false)::p2
 let p5:Pc:=((.not (V 8)),false)::p4
 let p6:Pc:=((qN (V 9) (.li 0)),false)::p4
 let p7:Pc:=((V 8),true)::p6
 let p8:Pc:=((qE (W 10 2) (.li 0)),true)::p7
 let p9:Pc:=((.or (qN (W 10 1) (.rlen (W 0 0))) (qN (.rlen (.var 10 [0,0])) (aI (W 10 1) (.li 1)))),false)::p8
 let p10:Pc:=((.or (.or (qN (W 10 1) (.rlen (W 0 0))) (qN (.rlen (.var 10 [0,0])) (aI (W 10 1) (.li 1)))) (qN (V 11) (.li 0))),false)::p8
 let p11:Pc:=((.or (.or (.or (qN (W 10 1) (.rlen (W 0 0))) (qN (.rlen (.var 10 [0,0])) (aI (W 10 1) (.li 1)))) (qN (V 11) (.li 0))) (.not (V 13))),false)::p8
 let p12:Pc:=((V 13),true)::p8
 let p13:Pc:=((qN (V 11) (.li 0)),false)::p12
 let p14:Pc:=((qN (.rlen (.var 10 [0,0])) (aI (W 10 1) (.li 1))),false)::p13
 let p15:Pc:=((qN (W 10 1) (.rlen (W 0 0))),false)::p14
 let p16:Pc:=((.and (qE (W 10 2) (.li 0)) (.or (.or (.or (qN (W 10 1) (.rlen (W 0 0))) (qN (.rlen (.var 10 [0,0])) (aI (W 10 1) (.li 1)))) (qN (V 11) (.li 0))) (.not (V 13)))),false)::p7
 let p17:Pc:=((.and (qE (W 10 2) (.li 0)) (.not (V 15))),false)::p16
 let p18:Pc:=((qE (W 16 1) (.li 0)),true)::p17
 let p19:Pc:=((qN (W 17 1) (.li 0)),false)::p18
 let p20:Pc:=((.or (.not (V 20)) (qN (.rlen (.var 16 [0,0])) (.rlen (W 0 0)))),false)::p19
 let p21:Pc:=((qE (W 19 1) (.li 0)),true)::p20
 let p22:Pc:=((.and (qE (W 16 1) (.li 0)) (qN (W 17 1) (.li 0))),false)::p17
 let p23:Pc:=((.and (qE (W 16 1) (.li 0)) (.or (.or (.not (V 20)) (qN (.rlen (.var 16 [0,0])) (.rlen (W 0 0)))) (.and (qE (W 19 1) (.li 0)) (.not (V 21))))),false)::p22
 ⟨[((.not (V 3)),(zB (.lb false))),((.or (V 4) (qG (.rlen (W 1 6)) (.li 100))),(zB (V 3))),((qN (V 5) (.li 0)),(zB (qE (W 6 1) (.li 9)))),((.or (.not (V 8)) (qN (V 9) (.li 0))),(zB (.lb false))),((.and (qE (W 10 2) (.li 0)) (.or (.or (.or (qN (W 10 1) (.rlen (W 0 0))) (qN (.rlen (.var 10 [0,0])) (aI (W 10 1) (.li 1)))) (qN (V 11) (.li 0))) (.not (V 13)))),(zB (.lb false))),((.and (qE (W 10 2) (.li 0)) (.not (V 15))),(zB (.lb false))),((.and (qE (W 16 1) (.li 0)) (qN (W 17 1) (.li 0))),(zB (.lb false))),((.and (qE (W 16 1) (.li 0)) (.or (.or (.not (V 20)) (qN (.rlen (.var 16 [0,0])) (.rlen (W 0 0)))) (.and (qE (W 19 1) (.li 0)) (.not (V 21))))),(zB (.lb false))),((.lb true),(zB (V 22)))],
 [([],(.call 5 [] (zB (V 3)))),
 (p0,(.call 6 [(.agg [(zL (W 0 0))])] (zB (V 4)))),
 (p2,(.call 8 [(.agg [(zL (W 0 0))])] (zI (V 5)))),
 (p3,(.call 9 [(.agg [(zL (W 0 0))]),(zI (V 2))] (.fD [(.agg (kQ 6 [0] 0 dS.kG)),(zI (W 6 1))]))),
 (p4,(.call 10 [(.agg [(zL (W 0 0))])] (.agg [(zL (W 7 0))]))),
 (p4,(.call 11 [(.agg [(zL (W 7 0))]),(.agg [(zL (W 0 0))])] (zB (V 8)))),
 (p5,(.call 8 [(.agg [(zL (W 7 0))])] (zI (V 9)))),
 (p7,(.call 12 [(.agg [(zL (W 0 0))]),(.agg (cV 1 dS.kG))] (.fD [(.agg [(zL (.var 10 [0,0]))]),(zI (W 10 1)),(zI (W 10 2))]))),
 (p9,(.call 8 [(.agg [(zL (.var 10 [0,0]))])] (zI (V 11)))),
 (p10,(.sub 18 (.var 10 [0,0]) (some (.li 0)) (some (W 10 1)) (V 12))),
 (p10,(.call 11 [(.agg [(zL (V 12))]),(.agg [(zL (W 0 0))])] (zB (V 13)))),
 (p11,(.sub 18 (.var 10 [0,0]) (some (W 10 1)) (some (.rlen (.var 10 [0,0]))) (V 14))),
 (p15,(.call 11 [(.agg [(zL (V 14))]),(.agg [(.slc [[(zU (W 1 0)),(zU (W 1 1)),(zF (W 1 2)),(zS (W 1 3)),(zI (W 1 4)),(zB (W 1 5)),(zL (W 1 6)),(zU (W 1 7)),(zF (W 1 8)),(zS (W 1 9)),(zI (W 1 10)),(zU (W 1 11)),(zF (W 1 12)),(zS (W 1 13)),(zI (W 1 14)),(zS (W 1 15)),(zB (W 1 16)),(zB (W 1 17))]] false)])] (zB (V 15)))),
 (p17,(.call 13 [(.agg [(zL (W 0 0))]),(zI (V 2)),(.agg (cV 1 dS.kG))] (.fD [(.agg [(zL (.var 16 [0,0]))]),(zI (W 16 1))]))),
 (p18,(.call 9 [(.agg [(zL (.var 16 [0,0]))]),(zI (V 2))] (.fD [(.agg (kQ 17 [0] 0 dS.kG)),(zI (W 17 1))]))),
 (p18,(.row (W 7 0) (V 2) (cV 18 dS.kG))),
 (p18,(.call 13 [(.agg [(zL (.var 16 [0,0]))]),(zI (V 2)),(.agg (cV 18 dS.kG))] (.fD [(.agg [(zL (.var 19 [0,0]))]),(zI (W 19 1))]))),
 (p19,(.call 11 [(.agg [(.slc [[(zU (.var 17 [0,0])),(zU (.var 17 [0,1])),(zF (.var 17 [0,2])),(zS (.var 17 [0,3])),(zI (.var 17 [0,4])),(zB (.var 17 [0,5])),(zL (.var 17 [0,6])),(zU (.var 17 [0,7])),(zF (.var 17 [0,8])),(zS (.var 17 [0,9])),(zI (.var 17 [0,10])),(zU (.var 17 [0,11])),(zF (.var 17 [0,12])),(zS (.var 17 [0,13])),(zI (.var 17 [0,14])),(zS (.var 17 [0,15])),(zB (.var 17 [0,16])),(zB (.var 17 [0,17]))]] false)]),(.agg [(.slc [[(zU (W 1 0)),(zU (W 1 1)),(zF (W 1 2)),(zS (W 1 3)),(zI (W 1 4)),(zB (W 1 5)),(zL (W 1 6)),(zU (W 1 7)),(zF (W 1 8)),(zS (W 1 9)),(zI (W 1 10)),(zU (W 1 11)),(zF (W 1 12)),(zS (W 1 13)),(zI (W 1 14)),(zS (W 1 15)),(zB (W 1 16)),(zB (W 1 17))]] false)])] (zB (V 20)))),
 (p21,(.call 11 [(.agg [(zL (.var 19 [0,0]))]),(.agg [(zL (W 0 0))])] (zB (V 21)))),
 (p23,(.call 14 [(.agg [(zL (W 0 0))]),(zI (V 2))] (zB (V 22))))],[]⟩
theorem e4 : jo Try.prog fG fH oU (oN kA 4 [] []) 3 200 4 [.agg (cV 0 dK.kG),.agg (cV 1 dS.kG),zI (V 2)] 3=some R4:=by kernel_rfl
theorem axL (x0:dK)(x1:dS)(x2:Int):CT Try.prog sT 4 [dK.av x0,dS.av x1,eI x2] (eB (av7 x0 x1 x2)):=
 let v3:Bool:=aiY
 let v4:Bool:=ai0 x0
 let v5:Int:=kR x0
 let v6:dS×Int:=Bo x0 x2
 let v7:dK:=ak_ x0
 let v8:Bool:=SA v7 x0
 let v9:Int:=kR v7
 let v10:dK×Int×Int:=apc x0 x1
 let v11:Int:=kR v10.1
 let v12:List dS:=(v10.1.Objects.drop ((0:Int).toNat)).take ((v10.2.1:Int).toNat-(0:Int).toNat)
 let v13:Bool:=SA (dK.mk v12) x0
 let v14:List dS:=(v10.1.Objects.drop ((v10.2.1:Int).toNat)).take (((je dS.enc v10.1.Objects):Int).toNat-(v10.2.1:Int).toNat)
 let v15:Bool:=SA (dK.mk v14) (dK.mk [x1])
 let v16:dK×Int:=awz x0 x2 x1
 let v17:dS×Int:=Bo v16.1 x2
 let v18:dS:=v7.Objects.getD (x2:Int).toNat default
 let v19:dK×Int:=awz v16.1 x2 v18
 let v20:Bool:=SA (dK.mk [v17.1]) (dK.mk [x1])
 let v21:Bool:=SA v19.1 x0
 let v22:Bool:=awI x0 x2
 qY jc dP dQ e4 xC (by kernel_rfl) [dK.av x0,dS.av x1,eI x2,eB v3,eB v4,eI v5,pJ v6,dK.av v7,eB v8,eI v9,abq v10,eI v11,eL dS.enc v12,eB v13,eL dS.enc v14,eB v15,aA7 v16,pJ v17,dS.av v18,aA7 v19,eB v20,eB v21,eB v22] xn
  (wC (aud) <|
  wC (auy x0) <|
  wC (YH x0) <|
  wC (O4 x0 x2) <|
  wC (ayK x0) <|
  wC (awU v7 x0) <|
  wC (YH v7) <|
  wC (axC x0 x1) <|
  wC (YH v10.1) <|
  azn rfl <|
  wC (awU (dK.mk v12) x0) <|
  azn rfl <|
  wC (awU (dK.mk v14) (dK.mk [x1])) <|
  wC (axT x0 x2 x1) <|
  wC (O4 v16.1 x2) <|
  wR rfl <|
  wC (axT v16.1 x2 v18) <|
  wC (awU (dK.mk [v17.1]) (dK.mk [x1])) <|
  wC (awU v19.1 x0) <|
  wC (axR x0 x2) <|
  wn)
  ln
  (show _=eB (bif (!v3) then false else bif (v4||(decide (((je dJ.enc x1.Props):Int) > 100))) then v3 else bif (jC v5 0) then (dZ v6.2 9) else bif ((!v8)||(jC v9 0)) then false else bif ((dZ v10.2.2 0)&&((((jC v10.2.1 (je dS.enc x0.Objects))||(jC (je dS.enc v10.1.Objects) (dY .i64 v10.2.1 1)))||(jC v11 0))||(!v13))) then false else bif ((dZ v10.2.2 0)&&(!v15)) then false else bif ((dZ v16.2 0)&&(jC v17.2 0)) then false else bif ((dZ v16.2 0)&&(((!v20)||(jC (je dS.enc v16.1.Objects) (je dS.enc x0.Objects)))||((dZ v19.2 0)&&(!v21)))) then false else v22) from gW (fun r=>.p (.bool r)) rfl rfl (gW (fun r=>.p (.bool r)) rfl rfl (gW (fun r=>.p (.bool r)) rfl rfl (gW (fun r=>.p (.bool r)) rfl rfl (gW (fun r=>.p (.bool r)) rfl rfl (gW (fun r=>.p (.bool r)) rfl rfl (gW (fun r=>.p (.bool r)) rfl rfl (gW (fun r=>.p (.bool r)) rfl rfl (iY rfl)))))))))
theorem axN (x0:dK)(x1:dS)(x2:Int):PC Try.prog 4 [dK.av x0,dS.av x1,eI x2] (eB (av7 x0 x1 x2)):=(axL x0 x1 x2 trivial).1
end Go.Fw
end
section
namespace Go.Fw
open Go.Proofs
set_option maxRecDepth 100000
theorem Jr : Rd Try.prog 33 dL.enc dL.wf:=
 (Dw Try.underlying33 (by kernel_rfl) (jT (m:=1) rfl (by kernel_rfl) (Si Try.underlying5) (jT (m:=1) rfl (by kernel_rfl) (ani Try.underlying31) (jT (m:=1) rfl (by kernel_rfl) (ags Try.underlying9) (jT (m:=1) rfl (by kernel_rfl) (Si Try.underlying3) (MW)))))).to (fun x=>dL.mk x.1 x.2.1 x.2.2.1 x.2.2.2.1) (fun _=>rfl) (fun _ h=>⟨h.1,h.2.1,h.2.2.1,h.2.2.2.1⟩)
theorem aiU : Rd Try.prog 55 dI.enc dI.wf:=
 (Dw Try.underlying55 (by kernel_rfl) (jT (m:=1) rfl (by kernel_rfl) (ags Try.underlying9) (jT (m:=1) rfl (by kernel_rfl) (Si Try.underlying3) (MW)))).to (fun x=>dI.mk x.1 x.2.1) (fun _=>rfl) (fun _ h=>⟨h.1,h.2.1⟩)
theorem ao7 : Rd Try.prog 57 dN.enc dN.wf:=
 (Dw Try.underlying57 (by kernel_rfl) (jT (m:=1) rfl (by kernel_rfl) (Si Try.underlying5) (jT (m:=4) rfl (by kernel_rfl) Jr (jT (m:=4) rfl (by kernel_rfl) Jr (jT (m:=4) rfl (by kernel_rfl) Jr (jT (m:=1) rfl (by kernel_rfl) (MV Try.underlying4) (jT (m:=1) rfl (by kernel_rfl) (MV Try.underlying4) (jT (m:=1) rfl (by kernel_rfl) (MV Try.underlying4) (MW))))))))).to (fun x=>dN.mk x.1 x.2.1 x.2.2.1 x.2.2.2.1 x.2.2.2.2.1 x.2.2.2.2.2.1 x.2.2.2.2.2.2.1) (fun _=>rfl) (fun _ h=>⟨h.1,h.2.1,h.2.2.1,h.2.2.2.1⟩)
theorem ao8 : Rd Try.prog 59 dJ.enc dJ.wf:=
 (Dw Try.underlying59 (by kernel_rfl) (jT (m:=2) rfl (by kernel_rfl) aiU (jT (m:=16) rfl (by kernel_rfl) ao7 (MW)))).to (fun x=>dJ.mk x.1 x.2.1) (fun _=>rfl) (fun _ h=>⟨h.1,h.2.1⟩)
theorem arJ : Rd Try.prog 36 dS.enc dS.wf:=
 (Dw Try.underlying36 (by kernel_rfl) (jT (m:=1) rfl (by kernel_rfl) (Si Try.underlying5) (jT (m:=4) rfl (by kernel_rfl) Jr (jT (m:=1) rfl (by kernel_rfl) (MV Try.underlying4) (jT (m:=1) rfl (by kernel_rfl) (adG (m:=18) Try.underlying34 (by kernel_rfl) (by decide) (fun _=>rfl) ao8) (jT (m:=4) rfl (by kernel_rfl) Jr (jT (m:=4) rfl (by kernel_rfl) Jr (jT (m:=1) rfl (by kernel_rfl) (ags Try.underlying9) (jT (m:=1) rfl (by kernel_rfl) (MV Try.underlying4) (jT (m:=1) rfl (by kernel_rfl) (MV Try.underlying4) (MW))))))))))).to (fun x=>dS.mk x.1 x.2.1 x.2.2.1 x.2.2.2.1 x.2.2.2.2.1 x.2.2.2.2.2.1 x.2.2.2.2.2.2.1 x.2.2.2.2.2.2.2.1 x.2.2.2.2.2.2.2.2.1) (fun _=>rfl) (fun _ h=>⟨h.1,h.2.1,h.2.2.2.1,h.2.2.2.2.1,h.2.2.2.2.2.1,h.2.2.2.2.2.2.1⟩)
theorem ao9 : Rd Try.prog 24 dK.enc dK.wf:=
 (Dw Try.underlying24 (by kernel_rfl) (jT (m:=1) rfl (by kernel_rfl) (adG (m:=18) Try.underlying22 (by kernel_rfl) (by decide) (fun _=>rfl) arJ) (MW))).to (fun x=>dK.mk x.1) (fun _=>rfl) (fun _ h=>⟨h.1⟩)
end Go.Fw
end
section
namespace Go.Fw
def Lead (h:dK)(i j:Nat):Prop:=(j:Int)∈aq1 (alC (h.Objects.getD i default))
inductive Rch (h:dK)(from':List Int):Nat->Prop
 |base {i:Nat} (hi:(i:Int)∈from'):Rch h from' i
 |step {i j:Nat} (hi:Rch h from' i) (hj:Lead h i j):Rch h from' j
def Mk (m:List Bool)(k:Nat):Prop:=m.getD k default=true
theorem av_ {s:List Bool×List Int}{j:Int}(h0:0<=j)(h1:j.toNat<s.1.length):(∀k,Mk (ab2 s j).1 k↔Mk s.1 k\/(k:Int)=j)/\(∀k:Nat,(k:Int)∈(ab2 s j).2↔(k:Int)∈s.2\/((k:Int)=j/\¬Mk s.1 k)):=by
 unfold ab2 Mk
 cases hc:s.1.getD j.toNat default with
 |true=>
  simp only [cond_true]
  refine ⟨fun k=>⟨.inl,fun h=>?_⟩,fun k=>⟨.inl,fun h=>?_⟩⟩
  .rcases h with h|h
   .exact h
   .have:k=j.toNat:=by omega
    rw [this];exact hc
  .rcases h with h|⟨h,h'⟩
   .exact h
   .have:k=j.toNat:=by omega
    rw [this] at h';exact absurd hc h'
 |false=>
  simp only [cond_false]
  refine ⟨fun k=>?_,fun k=>?_⟩
  .rw [BN h1]
   split
   .rename_i e;subst e;simp;omega
   .rename_i e;constructor
    .exact .inl
    .rintro (h|h)
     .exact h
     .omega
  .rw [List.mem_append]
   simp only [List.mem_singleton]
   constructor
   .rintro (h|h)
    .exact .inl h
    .refine .inr ⟨h,?_⟩
     have:k=j.toNat:=by omega
     rw [this,hc];simp
   .rintro (h|h)
    .exact .inl h
    .exact .inr h.1
theorem auK {s:List Bool×List Int}{j:Int}:(ab2 s j).1.length=s.1.length:=by
 unfold ab2
 cases s.1.getD j.toNat default<;>simp
theorem awd {h:dK}:∀{l:List Int} {s:List Bool×List Int},Rng h l->s.1.length=h.Objects.length->(∀k,Mk (l.foldl ab2 s).1 k↔Mk s.1 k\/(k:Int)∈l)/\(∀k:Nat,(k:Int)∈s.2->(k:Int)∈(l.foldl ab2 s).2)/\(∀k:Nat,Mk (l.foldl ab2 s).1 k->Mk s.1 k\/(k:Int)∈(l.foldl ab2 s).2)
 |[],s,_,_=>⟨fun k=>by simp,fun k h=>h,fun k h=>.inl h⟩
 |j::l,s,hl,hs=>by
  simp only [List.foldl_cons]
  have hj:=hl j (by simp)
  obtain ⟨a1,a2⟩:=av_ (s:=s) (j:=j) hj.1 (by omega)
  obtain ⟨b1,b2,b3⟩:=awd (l:=l) (s:=ab2 s j) (fun y hy=>hl y (by simp [hy])) (by rw [auK,hs])
  refine ⟨fun k=>?_,fun k hk=>b2 k ((a2 k).2 (.inl hk)),fun k hk=>?_⟩
  .rw [b1,a1,List.mem_cons,or_assoc]
  .rcases b3 k hk with h|h
   .by_cases hm:Mk s.1 k
    .exact .inl hm
    .rcases (a1 k).1 h with h|h
     .exact absurd h hm
     .exact .inr (b2 k ((a2 k).2 (.inr ⟨h,hm⟩)))
   .exact .inr h
structure aAH (h:dK)(f:List Int)(m:List Bool)(t:GBx):Prop where
 r:RInv h m t
 fr:∀k:Nat,(k:Int)∈f->Mk m k
 rc:∀k,Mk m k->Rch h f k
 td:∀k:Nat,(k:Int)∈t.v->Mk m k
 cl:∀i j,Mk m i->Lead h i j->Mk m j\/(i:Int)∈t.v
theorem aA8 {x0:dK}(hC:kR x0=0){f:List Int}{m:List Bool}{t:GBx}(w:aAH x0 f m t)(h1:0<t.v.length):aAH x0 f (ak9 x0 m t.v).1 ⟨(ak9 x0 m t.v).2⟩:=by
 obtain ⟨r1,r2⟩:=aHa hC w.r h1
 have h1':0<mZ (List.map kY t.v):=by rw [LM];omega
 have hm0:=aG9 (l:=t.v) (Int.le_refl _) h1'
 have e0:(0:Int).toNat=0:=rfl
 rw [e0] at hm0
 obtain ⟨a,b⟩:=w.r.rg _ hm0
 have k:=aqM hC (i:=(t.v.getD 0 default).toNat) (by omega)
 have hR:=at1 (ape k)
 obtain ⟨f1,f2,f3⟩:=awd (s:=(m,t.v.drop 1)) hR w.r.ml
 have hat:Mk m (t.v.getD 0 default).toNat:=w.td _ (by rw [show (((t.v.getD 0 default).toNat:Nat):Int)=t.v.getD 0 default by omega];exact hm0)
 have hsplit:t.v=t.v.getD 0 default::t.v.drop 1:=by
  cases hv:t.v with
  |nil=>rw [hv] at h1;simp at h1
  |cons x r=>simp
 refine ⟨r2,fun q hq=>(f1 q).2 (.inl (w.fr q hq)),fun q hq=>?_,fun q hq=>?_,fun i j hi hj=>?_⟩
 .rcases (f1 q).1 hq with h|h
  .exact w.rc q h
  .exact .step (w.rc _ hat) h
 .have hm:(q:Int)∈(ak9 x0 m t.v).2:=hq
  
  have:∀{l:List Int} {s:List Bool×List Int},Rng x0 l->s.1.length=x0.Objects.length->(∀q:Nat,(q:Int)∈s.2->Mk s.1 q)->∀q:Nat,(q:Int)∈(l.foldl ab2 s).2->Mk (l.foldl ab2 s).1 q:=by
   intro l
   induction l with
   |nil=>intro s _ _ hs q hq;exact hs q hq
   |cons j l ih=>
    intro s hl hs ht q hq
    simp only [List.foldl_cons] at hq ⊢
    have hj:=hl j (by simp)
    obtain ⟨a1,a2⟩:=av_ (s:=s) (j:=j) hj.1 (by omega)
    refine ih (fun y hy=>hl y (by simp [hy])) (by rw [auK,hs]) (fun q hq=>?_) q hq
    rcases (a2 q).1 hq with h|h
    .exact (a1 q).2 (.inl (ht q h))
    .exact (a1 q).2 (.inr h.1)
  exact this hR w.r.ml (fun q hq=>w.td q (List.mem_of_mem_drop hq)) q hm
 .rcases f3 i hi with h|h
  .rcases w.cl i j h hj with h' | h'
   .exact .inl ((f1 j).2 (.inl h'))
   .rw [hsplit] at h'
    rcases bC.1 h' with h' | h'
    .refine .inl ((f1 j).2 (.inr ?_))
     have:i=(t.v.getD 0 default).toNat:=by omega
     rw [<- this];exact hj
    .exact .inr (f2 i h')
  .exact .inr h
theorem aBR {x0:dK}(hC:kR x0=0){f:List Int}:∀(n:Nat) {m:List Bool} {t:GBx},aAH x0 f m t->t.v.length+cF m<n->aAH x0 f (aaG x0 n m t).1 (aaG x0 n m t).2/\(aaG x0 n m t).2.v=[]
 |0,_,_,_,h=>by omega
 |n+1,m,t,w,hn=>by
  simp only [aaG,iL]
  by_cases h1:0<t.v.length
  .have e1:(!decide ((t.v.length:Int) > 0))=false:=by rw [decide_eq_true (by omega)];rfl
   rw [e1]
   simp only [cond_false]
   obtain ⟨r1,r2⟩:=aHa hC w.r h1
   rw [r1]
   have:=axa hC w.r h1
   exact aBR hC n (aA8 hC w h1) (by dsimp only;omega)
  .have e1:(!decide ((t.v.length:Int) > 0))=true:=by rw [decide_eq_false (by omega)];rfl
   rw [e1]
   simp only [cond_true]
   exact ⟨w,List.length_eq_zero_iff.1 (by omega)⟩
theorem aFB {x0:dK}{x1:List Int}(hR:Rng x0 x1)(h1:decide ((je kY x1:Int) > 4096)=false) :
  let r:=Y2 x1 (x1.length+1) 0 (List.replicate ((je dS.enc x0.Objects):Int).toNat false) (GBx.mk [])
  aAH x0 x1 r.1 r.2:=by
 have hi:=axH hR h1 (ax4 (h:=x0))
 have h1:=of_decide_eq_false h1
 rw [iL] at h1
 have e0:((0:Nat):Int)=0:=rfl
 have e:=ash (x1:=x1) (by omega) (x1.length+1) 0 (m:=List.replicate ((je dS.enc x0.Objects):Int).toNat false) (t:=GBx.mk []) (dB _) (by omega)
 rw [e0] at e
 dsimp only
 rw [e] at hi ⊢
 rw [List.drop_zero] at hi ⊢
 have hz:∀k,¬Mk (List.replicate ((je dS.enc x0.Objects):Int).toNat false) k:=fun k=>by unfold Mk;rw [aon];simp
 have hl:(List.replicate ((je dS.enc x0.Objects):Int).toNat false).length=x0.Objects.length:=by rw [iL];simp
 obtain ⟨f1,f2,f3⟩:=awd (s:=(List.replicate ((je dS.enc x0.Objects):Int).toNat false,[])) hR hl
 have hall:∀k:Nat,Mk (x1.foldl ab2 (List.replicate ((je dS.enc x0.Objects):Int).toNat false,[])).1 k->(k:Int)∈(x1.foldl ab2 (List.replicate ((je dS.enc x0.Objects):Int).toNat false,[])).2:=fun k hk=>(f3 k hk).resolve_left (hz k)
 refine ⟨hi,fun k hk=>(f1 k).2 (.inr hk),fun k hk=>.base (((f1 k).1 hk).resolve_left (hz k)),fun k hk=>?_,fun i j hi hj=>.inr (hall i hi)⟩
 have:∀{l:List Int} {s:List Bool×List Int},Rng x0 l->s.1.length=x0.Objects.length->(∀q:Nat,(q:Int)∈s.2->Mk s.1 q)->∀q:Nat,(q:Int)∈(l.foldl ab2 s).2->Mk (l.foldl ab2 s).1 q:=by
  intro l
  induction l with
  |nil=>intro s _ _ hs q hq;exact hs q hq
  |cons j l ih=>
   intro s hl hs ht q hq
   simp only [List.foldl_cons] at hq ⊢
   have hj:=hl j (by simp)
   obtain ⟨a1,a2⟩:=av_ (s:=s) (j:=j) hj.1 (by omega)
   refine ih (fun y hy=>hl y (by simp [hy])) (by rw [auK,hs]) (fun q hq=>?_) q hq
   rcases (a2 q).1 hq with h|h
   .exact (a1 q).2 (.inl (ht q h))
   .exact (a1 q).2 (.inr h.1)
 exact this hR hl (fun q hq=>(by cases hq)) k hk
theorem axK {x0:dK}(hB:x0.Objects.length<=4294967296){r:List Bool×GBx}:∀(n j:Nat) {u:List Int},j<=x0.Objects.length->x0.Objects.length-j<n->abY x0 r n u j=u++((List.range' j (x0.Objects.length-j)).filter (fun k=>r.1.getD k default)).map (fun k:Nat=>(k:Int))
 |0,j,_,_,h=>by omega
 |n+1,j,u,hj,hn=>by
  simp only [abY,iL]
  by_cases hlt:j<x0.Objects.length
  .have e1:(!decide ((j:Int)<(x0.Objects.length:Int)))=false:=by rw [decide_eq_true (by omega)];rfl
   rw [e1,nG (by omega) (by omega)]
   have e3:((j:Int)+1)=((j+1:Nat):Int):=by omega
   have e4:List.range' j (x0.Objects.length-j)=j::List.range' (j+1) (x0.Objects.length-(j+1)):=by
    rw [show x0.Objects.length-j=(x0.Objects.length-(j+1))+1 by omega,List.range'_succ]
   rw [e3,e4]
   simp only [cond_false,aV]
   cases hc:r.1.getD j default with
   |true=>
    simp only [cond_true]
    rw [axK hB n (j+1) (by omega) (by omega),List.filter_cons_of_pos (by rw [hc])]
    simp
   |false=>
    simp only [cond_false]
    rw [axK hB n (j+1) (by omega) (by omega),List.filter_cons_of_neg (by rw [hc];simp)]
  .have e1:(!decide ((j:Int)<(x0.Objects.length:Int)))=true:=by rw [decide_eq_false (by omega)];rfl
   rw [e1,show x0.Objects.length-j=0 by omega]
   simp
theorem auQ {x0:dK}{x1:List Int}(hC:kR x0=0)(hl:x1.length<=4096)(hR:Rng x0 x1):∃p:Nat->Bool,lM x0 x1=(((List.range x0.Objects.length).filter p).map (fun k:Nat=>(k:Int)),0)/\∀k,p k=true↔Rch x0 x1 k:=by
 have h1:decide ((je kY x1:Int) > 4096)=false:=by rw [iL];exact decide_eq_false (by omega)
 have hlen:=(Hl.1 hC).len
 have h4:(dF x0 x1 (x1.length+1) [] 0 0).1=true:=by
  have:∀(n j:Nat) (a:List Int) (b:Int),j<=x1.length->x1.length-j<n->(dF x0 x1 n a b j).1=true:=by
   intro n
   induction n with
   |zero=>intro j a b _ h;omega
   |succ n ih=>
    intro j a b hj hn
    simp only [dF,iL]
    by_cases hlt:j<x1.length
    .have e1:(!decide ((j:Int)<(x1.length:Int)))=false:=by rw [decide_eq_true (by omega)];rfl
     obtain ⟨q1,q2⟩:=hR _ (aD8 (l:=x1) hlt)
     have hc:((decide (x1.getD (j:Int).toNat default<0))||(decide (x1.getD (j:Int).toNat default>=(x0.Objects.length:Int))))=false:=by
      rw [aV,decide_eq_false (by omega),decide_eq_false (by omega)];rfl
     rw [e1,hc]
     simp only [cond_false]
     rw [nG (by omega) (by omega)]
     have e3:((j:Int)+1)=((j+1:Nat):Int):=by omega
     rw [e3]
     exact ih (j+1) a b (by omega) (by omega)
    .have e1:(!decide ((j:Int)<(x1.length:Int)))=true:=by rw [decide_eq_false (by omega)];rfl
     rw [e1];rfl
  have e0:((0:Nat):Int)=0:=rfl
  have:=this (x1.length+1) 0 [] 0 (dB _) (by omega)
  rw [e0] at this;exact this
 have w9:=aFB hR h1
 dsimp only at w9
 unfold lM
 dsimp only
 rw [wF.2 hC,h1,h4]
 have e2:(!dZ (ji true) 0)=false:=rfl
 simp only [e2,cond_false]
 generalize Y2 x1 (x1.length+1) 0 (List.replicate ((je dS.enc x0.Objects):Int).toNat false) (GBx.mk [])=r9 at w9 ⊢
 obtain ⟨w,hnil⟩:=aBR hC (x0.Objects.length+1) w9 (by have:=w9.r.sz;omega)
 generalize aaG x0 (x0.Objects.length+1) r9.1 r9.2=r11 at w hnil ⊢
 have e13:=axK (r:=r11) (x0:=x0) (by omega) (x0.Objects.length+1) 0 (u:=[]) (dB _) (by omega)
 have e0:((0:Nat):Int)=0:=rfl
 rw [e0] at e13
 rw [e13]
 refine ⟨fun k=>r11.1.getD k default,?_,fun k=>⟨w.rc k,fun h=>?_⟩⟩
 .rw [List.range_eq_range'];simp
 .induction h with
  |base hi=>exact w.fr _ hi
  |step hi hj ih=>
   rcases w.cl _ _ ih hj with h|h
   .exact h
   .rw [hnil] at h;cases h
theorem aC9 {h:dK}(hC:kR h=0){f:List Int}(hR:Rng h f):∀{k:Nat},Rch h f k->k<h.Objects.length:=by
 intro k hk
 induction hk with
 |base hi=>have:=hR _ hi;omega
 |step hi hj ih=>
  have:=at1 (ape (aqM hC ih)) _ hj
  omega
theorem aA0 {h:dK}{f g:List Int}(hs:∀y:Nat,(y:Int)∈f->Rch h g y){k:Nat}(hk:Rch h f k):Rch h g k:=by
 induction hk with
 |base hi=>exact hs _ hi
 |step _ hj ih=>exact .step ih hj
theorem arO {n:Nat}{p:Nat->Bool}{y:Int}:y∈((List.range n).filter p).map (fun k:Nat=>(k:Int))↔∃k,k<n/\p k=true/\(k:Int)=y:=by
 simp only [aU,List.mem_filter,List.mem_range]
 constructor
 .rintro ⟨k,⟨a,b⟩,c⟩;exact ⟨k,a,b,c⟩
 .rintro ⟨k,a,b,c⟩;exact ⟨k,⟨a,b⟩,c⟩
end Go.Fw
end
section
namespace Go.Fw
theorem aA9 : aiY=true:=by decide +kernel
theorem aHb {α:Type}[Inhabited α]{l:List α}{j:Nat}(h:j<l.length):l.drop j=l.getD j default::l.drop (j+1):=by
 rw [List.drop_eq_getElem_cons h,aB,aW h];rfl
theorem av2 {n:Nat}{p:Nat->Bool}:(((List.range n).filter p).map (fun k:Nat=>(k:Int))).length<=n:=by
 rw [dh]
 exact bW (List.length_filter_le _ _) (by simp)
theorem aHX {n:Nat}{p:Nat->Bool}{j:Nat}(h:j+1<(((List.range n).filter p).map (fun k:Nat=>(k:Int))).length):(((List.range n).filter p).map (fun k:Nat=>(k:Int))).getD j default<(((List.range n).filter p).map (fun k:Nat=>(k:Int))).getD (j+1) default:=by
 have hs:(((List.range n).filter p).map (fun k:Nat=>(k:Int))).Pairwise (· < ·):=by
  rw [List.pairwise_map]
  exact ((List.pairwise_lt_range (n:=n)).filter p).imp fun h=>by omega
 rw [aB,aB,aW (by omega),aW h]
 exact List.pairwise_iff_getElem.1 hs j (j+1) (by omega) h (by omega)
theorem axZ {x1:Int}{v:List Int×Int}(hB:v.1.length<=4294967296)(hs:∀j,j+1<v.1.length->v.1.getD j default<v.1.getD (j+1) default):∀(n j:Nat) {a b:Bool},j<=v.1.length->v.1.length-j<n->av3 x1 v v n a b j=(true,a,(b||(v.1.drop j).any fun y=>dZ y x1),default)
 |0,j,_,_,_,h=>by omega
 |n+1,j,a,b,hj,hn=>by
  simp only [av3,iL]
  by_cases hlt:j<v.1.length
  .have e1:(!decide ((j:Int)<(v.1.length:Int)))=false:=by rw [decide_eq_true (by omega)];rfl
   have c:(jC (v.1.getD (j:Int).toNat default) (v.1.getD (j:Int).toNat default)||(decide ((j:Int) > 0)&&decide (v.1.getD (j:Int).toNat default<=v.1.getD (iq .i64 (j:Int) 1).toNat default)))=false:=by
    rw [wF.2 rfl,Bool.false_or]
    by_cases hz:j=0
    .subst hz;rfl
    .rw [uV (by omega) (by omega)]
     have:=hs (j-1) (by omega)
     rw [show j-1+1=j by omega] at this
     have e5:((j:Int)-1).toNat=j-1:=by omega
     rw [e5,aV,decide_eq_false (p:=v.1.getD j default<=v.1.getD (j-1) default) (by omega),Bool.and_false]
   rw [e1,c,nG (by omega) (by omega)]
   have e3:((j:Int)+1)=((j+1:Nat):Int):=by omega
   rw [e3,aHb hlt]
   simp only [cond_false,aV,List.any_cons]
   rw [axZ hB hs n (j+1) (by omega) (by omega),Bool.or_assoc]
  .have e1:(!decide ((j:Int)<(v.1.length:Int)))=true:=by rw [decide_eq_false (by omega)];rfl
   rw [e1,List.drop_eq_nil_of_le (by omega)]
   simp
theorem ayL {x0:dK}{x1:Int}(hC:kR x0=0):awI x0 x1=true:=by
 have hlen:=(Hl.1 hC).len
 unfold awI
 dsimp only
 by_cases hr:0<=x1/\x1<x0.Objects.length
 .have hR:Rng x0 [x1]:=fun y hy=>by simp at hy;rw [hy];exact hr
  obtain ⟨p,e2,hp⟩:=auQ hC (by simp) hR
  have l2:=av2 (n:=x0.Objects.length) (p:=p)
  have hR3:Rng x0 (((List.range x0.Objects.length).filter p).map (fun k:Nat=>(k:Int))):=fun y hy=>by
   obtain ⟨k,a,b,c⟩:=arO.1 hy
   omega
  obtain ⟨q,e3,hq⟩:=auQ hC (by omega) hR3
  have hpq:∀k,q k=p k:=by
   intro k
   rw [Bool.eq_iff_iff,hq,hp]
   constructor
   .exact aA0 fun y hy=>by
     obtain ⟨k',a,b,c⟩:=arO.1 hy
     have:k'=y:=by omega
     subst this
     exact (hp _).1 b
   .intro h
    exact .base (arO.2 ⟨k,aC9 hC hR h,(hp k).2 h,rfl⟩)
  have e4:lM x0 (lM x0 [x1]).1=lM x0 [x1]:=by
   rw [e2,e3,show q=p from funext hpq]
  rw [e4,e2]
  have z:jC (0:Int) 0=false:=rfl
  have h4:=axZ (x1:=x1) (v:=(((List.range x0.Objects.length).filter p).map (fun k:Nat=>(k:Int)),(0:Int))) (by dsimp only;omega) (fun j hj=>aHX hj) ((((List.range x0.Objects.length).filter p).map (fun k:Nat=>(k:Int))).length+1) 0 (a:=false) (b:=false) (dB _) (by dsimp only;omega)
  have e0:((0:Nat):Int)=0:=rfl
  rw [e0] at h4
  have e5:(!dZ (ji true) 0)=false:=rfl
  simp only [z,cond_false,Bool.false_or,wF.2 (rfl:je kY (((List.range x0.Objects.length).filter p).map (fun k:Nat=>(k:Int)))=_),h4,e5,List.drop_zero]
  rw [List.any_eq_true]
  exact ⟨x1,arO.2 ⟨x1.toNat,by omega,(hp _).2 (.base (by simp;omega)),by omega⟩,kP.2 rfl⟩
 .have h2:(lM x0 [x1]).2≠0:=fun h=>hr ((auc h).2.2 x1 (by simp))
  rw [GL.2 h2]
  simp only [cond_true,iL]
  by_cases h0:x1<0
  .rw [decide_eq_true h0];rfl
  .rw [decide_eq_true (p:=x1>=(x0.Objects.length:Int)) (by omega),Bool.or_true]
theorem aCn {h:dK}:kR h≠0->kR h=9:=by
 unfold kR
 dsimp only
 cases hl:decide (((je dS.enc h.Objects):Int) > 4096) with
 |true=>exact fun _=>rfl
 |false=>
  have e:=Qy (x0:=h) (LP hl) (h.Objects.length+1) 0 0 (dB _) (by omega)
  have e0:((0:Nat):Int)=0:=rfl
  rw [e0] at e
  rw [e]
  simp only [cond_false]
  split
  .have e2:(!dZ (ji true) 0)=false:=rfl
   simp only [e2,cond_false]
   cases qW h with
   |true=>exact fun _=>rfl
   |false=>exact fun h=>absurd rfl h
  .have e2:(!dZ (ji false) 0)=true:=rfl
   simp only [e2,cond_true]
   intros;trivial
theorem ayS {o:dS}(h:o.Props.length<=1024):SA ⟨[o]⟩ ⟨[o]⟩=true:=ag5 (by simp) fun x hx=>by simp at hx;subst hx;omega
theorem aBZ {h:dK}{n:Int}{o:dS}(hC:kR h=0)(hp:(awz h n o).2=0):0<=n/\n<h.Objects.length/\awz h n o=(dK.mk (h.Objects.set n.toNat o),0)/\kR (dK.mk (h.Objects.set n.toNat o))=0:=by
 have hlen:=(Hl.1 hC).len
 have hT:∀(l:List dS) (m:Int),m.toNat=l.length->((l.drop 0).take (m.toNat-0))=l:=fun l m h=>by rw [h];simp
 unfold awz at hp ⊢
 dsimp only [Qm] at hp ⊢
 by_cases hi:0<=n/\n<h.Objects.length
 .rw [aCA hC hi.1 (by omega),ayl (by omega),hT (h.Objects.set n.toNat o) (je dS.enc h.Objects) (by rw [iL];simp)] at hp ⊢
  have z:jC (0:Int) 0=false:=rfl
  simp only [z,cond_false] at hp ⊢
  by_cases hq:kR (dK.mk (h.Objects.set n.toNat o))=0
  .rw [wF.2 hq];exact ⟨hi.1,hi.2,rfl,hq⟩
  .rw [GL.2 hq] at hp;exact absurd hp hq
 .exfalso
  have:(Bo h n).2=2:=by
   unfold Bo
   dsimp only
   rw [wF.2 hC]
   have:((decide ((n:Int)<0))||(decide ((n:Int)>=(je dS.enc h.Objects))))=true:=by
    rw [iL]
    by_cases h0:n<0
    .rw [decide_eq_true h0];rfl
    .rw [decide_eq_true (p:=n>=(h.Objects.length:Int)) (by omega),Bool.or_true]
   rw [this];rfl
  rw [this] at hp
  cases hp
theorem ayM {x0:dK}{x1:dS}{x2:Int}:av7 x0 x1 x2=true:=by
 unfold av7
 dsimp only
 rw [aA9]
 cases hl:(ai0 x0||decide ((je dJ.enc x1.Props:Int) > 100)) with
 |true=>rfl
 |false=>
  simp only [aK,cond_false]
  by_cases hC:kR x0=0
  .have k:=Hl.1 hC
   have hlen:=k.len
   rw [wF.2 hC,ayL hC,ayl (by omega),k.same,wF.2 hC]
   simp only [cond_false,aK,Bool.or_self]
   
   have hN:∀c:Bool,(bif ((dZ (apc x0 x1).2.2 0)&&((((jC (apc x0 x1).2.1 (je dS.enc x0.Objects))||(jC (je dS.enc (apc x0 x1).1.Objects) (dY .i64 (apc x0 x1).2.1 1)))||(jC (kR (apc x0 x1).1) 0))||(!(SA (dK.mk (((apc x0 x1).1.Objects.drop ((0:Int).toNat)).take (((apc x0 x1).2.1:Int).toNat-(0:Int).toNat))) x0)))) then false else bif ((dZ (apc x0 x1).2.2 0)&&(!(SA (dK.mk (((apc x0 x1).1.Objects.drop (((apc x0 x1).2.1:Int).toNat)).take (((je dS.enc (apc x0 x1).1.Objects):Int).toNat-((apc x0 x1).2.1:Int).toNat))) (dK.mk [x1])))) then false else c)=c:=by
    intro c
    unfold apc
    dsimp only [Qm]
    rw [ayl (by omega),wF.2 hC]
    simp only [cond_false]
    cases h4:dZ (je dS.enc x0.Objects) 4096 with
    |true=>rfl
    |false=>
     simp only [cond_false]
     by_cases hn:kR (dK.mk (x0.Objects++[x1]))=0
     .have kn:=Hl.1 hn
      rw [wF.2 hn]
      simp only [cond_false]
      have hx:x1.Props.length<=1024:=kn.props x1 (by simp)
      have t1:((x0.Objects++[x1]).drop ((0:Int).toNat)).take ((je dS.enc x0.Objects:Int).toNat-(0:Int).toNat)=x0.Objects:=by rw [iL];simp
      have t2:((x0.Objects++[x1]).drop ((je dS.enc x0.Objects:Int).toNat)).take ((je dS.enc (x0.Objects++[x1]):Int).toNat-(je dS.enc x0.Objects:Int).toNat)=[x1]:=by rw [iL,iL];simp
      rw [t1,t2,wF.2 hn,wF.2 rfl,ayS hx]
      have e:SA (dK.mk x0.Objects) x0=true:=k.same
      rw [e]
      have e2:jC (je dS.enc (x0.Objects++[x1])) (dY .i64 (je dS.enc x0.Objects) 1)=false:=by
       rw [iL,iL,nG (by omega) (by omega)]
       exact wF.2 (by simp)
      rw [e2]
      simp
     .rw [GL.2 hn]
      simp only [cond_true]
      have:dZ (kR (dK.mk (x0.Objects++[x1]))) 0=false:=tK.2 hn
      rw [this]
      simp
   rw [hN]
   by_cases hp:(awz x0 x2 x1).2=0
   .obtain ⟨i0,i1,e,hp⟩:=aBZ hC hp
    have kp:=Hl.1 hp
    have hlt:x2.toNat<x0.Objects.length:=by omega
    have hx:x1.Props.length<=1024:=kp.props x1 (List.mem_set hlt x1)
    have eo:Bo (dK.mk (x0.Objects.set x2.toNat x1)) x2=(x1,0):=by
     rw [aCA hp i0 (by simpa using hlt)]
     dsimp only
     rw [BN hlt,if_pos rfl]
    have ln:je dS.enc (x0.Objects.set x2.toNat x1)=je dS.enc x0.Objects:=by rw [iL,iL,List.length_set]
    rw [e]
    dsimp only
    rw [eo]
    dsimp only
    rw [ayS hx,ln,wF.2 rfl,wF.2 rfl,kP.2 rfl]
    by_cases hq:(awz (dK.mk (x0.Objects.set x2.toNat x1)) x2 (x0.Objects.getD x2.toNat default)).2=0
    .obtain ⟨-,-,e2,-⟩:=aBZ hp hq
     rw [e2]
     dsimp only
     have back:(x0.Objects.set x2.toNat x1).set x2.toNat (x0.Objects.getD x2.toNat default)=x0.Objects:=by
      rw [List.set_set,aB,aW hlt]
      simp
     rw [back]
     have e:SA (dK.mk x0.Objects) x0=true:=k.same
     rw [e]
     simp
    .rw [tK.2 hq];rfl
   .rw [tK.2 hp];rfl
  .rw [GL.2 hC]
   simp only [cond_true]
   unfold Bo
   dsimp only
   rw [GL.2 hC]
   simp only [cond_true]
   exact kP.2 (aCn hC)
end Go.Fw
end
