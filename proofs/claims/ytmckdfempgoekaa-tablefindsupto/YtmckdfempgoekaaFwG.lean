/- Machinery of this seat's proofs (THF, RQ, LTA, LD, LE, LTF): lemmas that the last text uses; no statement of its own. -/
import Derived.Test.YtmckdfempgoekaaFwF
import Derived.Test.YtmckdfempgoekaaRows
import Derived.Test.YtmckdfempgoekaaFwE
section
set_option linter.unusedVariables false
set_option linter.unusedSimpArgs false
set_option linter.unusedSectionVars false
namespace Go.Fw
set_option linter.unusedVariables false
set_option linter.unusedSimpArgs false
set_option maxRecDepth 100000
set_option maxHeartbeats 4000000
open Go.Proofs
instance : FzR GVal.enc:=⟨GVal.fzL⟩
instance {x : GVal}:Fz (GVal.av x):=⟨GVal.fz x⟩
instance : Rok GVal.enc 4:=⟨GVal.len⟩
instance : FzR GKey.enc:=⟨GKey.fzL⟩
instance {x : GKey}:Fz (GKey.av x):=⟨GKey.fz x⟩
instance : Rok GKey.enc 2:=⟨GKey.len⟩
instance : FzR GDesc.enc:=⟨GDesc.fzL⟩
instance {x : GDesc}:Fz (GDesc.av x):=⟨GDesc.fz x⟩
instance : Rok GDesc.enc 16:=⟨GDesc.len⟩
instance : FzR GProp.enc:=⟨GProp.fzL⟩
instance {x : GProp}:Fz (GProp.av x):=⟨GProp.fz x⟩
instance : Rok GProp.enc 18:=⟨GProp.len⟩
instance : FzR GObj.enc:=⟨GObj.fzL⟩
instance {x : GObj}:Fz (GObj.av x):=⟨GObj.fz x⟩
instance : Rok GObj.enc 18:=⟨GObj.len⟩
instance : FzR GHeap.enc:=⟨GHeap.fzL⟩
instance {x : GHeap}:Fz (GHeap.av x):=⟨GHeap.fz x⟩
instance : Rok GHeap.enc 1:=⟨GHeap.len⟩
instance : FzR GOut.enc:=⟨GOut.fzL⟩
instance {x : GOut}:Fz (GOut.av x):=⟨GOut.fz x⟩
instance : Rok GOut.enc 26:=⟨GOut.len⟩
instance : FzR GSeen.enc:=⟨GSeen.fzL⟩
instance {x : GSeen}:Fz (GSeen.av x):=⟨GSeen.fz x⟩
instance : Rok GSeen.enc 32:=⟨GSeen.len⟩
instance : FzR GAsk.enc:=⟨GAsk.fzL⟩
instance {x : GAsk}:Fz (GAsk.av x):=⟨GAsk.fz x⟩
instance : Rok GAsk.enc 29:=⟨GAsk.len⟩
instance : FzR GWant.enc:=⟨GWant.fzL⟩
instance {x : GWant}:Fz (GWant.av x):=⟨GWant.fz x⟩
instance : Rok GWant.enc 87:=⟨GWant.len⟩
instance : FzR GFacts.enc:=⟨GFacts.fzL⟩
instance {x : GFacts}:Fz (GFacts.av x):=⟨GFacts.fz x⟩
instance : Rok GFacts.enc 24:=⟨GFacts.len⟩
instance {r : GDesc×Int}:Fz (eR_Desc_ii64 r):=⟨(inferInstance:FzL [(GDesc.av r.1),(.p (.int .i64 r.2))]).h⟩
instance {r : List GProp×Int}:Fz (eR_sProp_ii64 r):=⟨(inferInstance:FzL [(.sl (List.map GProp.enc r.1) false),(.p (.int .i64 r.2))]).h⟩
instance {r : GDesc×Bool×Int}:Fz (eR_Desc_bool_ii64 r):=⟨(inferInstance:FzL [(GDesc.av r.1),(.p (.bool r.2.1)),(.p (.int .i64 r.2.2))]).h⟩
instance {r : Int×Bool}:Fz (eR_ii64_bool r):=⟨(inferInstance:FzL [(.p (.int .i64 r.1)),(.p (.bool r.2))]).h⟩
instance {r : Int×Int}:Fz (eR_ii64_ii64 r):=⟨(inferInstance:FzL [(.p (.int .i64 r.1)),(.p (.int .i64 r.2))]).h⟩
instance {r : List GKey×Int}:Fz (eR_sKey_ii64 r):=⟨(inferInstance:FzL [(.sl (List.map GKey.enc r.1) false),(.p (.int .i64 r.2))]).h⟩
instance {r : Bool×Int}:Fz (eR_bool_ii64 r):=⟨(inferInstance:FzL [(.p (.bool r.1)),(.p (.int .i64 r.2))]).h⟩
noncomputable def xBase : Ext':=xOr (xNum 161 160 158) (xClone Try.prog)
theorem xBase_ok : ∀σ:List AV,fzL σ=true→ExtOk Try.prog σ xBase:=xOr_ok (xNum_ok pc_math_Float64bits pc_math_Float64frombits pc_math_archTrunc) xClone_ok
noncomputable def iBase : Inl:=inOr (inlRefT Try.prog refCfg) (inOr (inlO Try.prog (ocT [(13,[0],18,true),(15,[0],18,true),(54,[0],18,false),(40,[0],18,false),(42,[0,0],18,false),(46,[0,0],18,false),(20,[],2,true),(56,[0],1,true),(21,[],2,true)])) (notF [115,116] (inlW Try.prog (wcT [(19,[(0,18)]),(95,[(1,2)]),(124,[(1,2)]),(125,[(1,2)]),(146,[(1,2)]),(154,[(1,2)]),(138,[]),(83,[]),(86,[]),(151,[])]))))
theorem iBase_ok : ∀σ:List AV,fzL σ=true→InlOk Try.prog σ iBase:=inOr_ok (inlRefT_ok refOk) (inOr_ok inlO_ok (notF_ok inlW_ok))
def mdI : Md:=mdT 5871356456934584128998323772304836953465305039137907605078317279422907571424627691949337275146424997092786176
def kA : List (List Nat):=[[],[],[],[],[],[],[],[],[],[],[],[],[],[],[],[],[],[],[],[],[],[],[],[],[],[],[],[],[],[],[],[],[],[],[],[],[],[],[],[],[],[],[],[],[],[],[],[],[],[],[],[],[],[],[],[],[],[],[],[],[],[],[],[],[0,1,2,5,6,7,8,9,30,31,32,33,34,35,36,37],[],[0,1,4,5],[],[],[],[],[],[],[],[],[],[],[],[],[],[],[],[],[0,1,2,6,7,8,9,14,15,16,17,18,30],[],[],[0,1,2,6,7,8,9,14,15,16,17,18,30],[],[],[],[],[],[],[],[],[1,2,4,5,6,7,11,26,31,49],[],[],[],[],[],[],[],[],[],[],[],[],[],[],[],[],[],[],[],[],[],[],[],[],[],[],[],[],[1,2,3,6,7,12,20,21,22,23,24,25,26],[1,2,3,4,8,9,10,11,12,13,14,15,16,17,18,19,20,21,22,26,31,42,50,62,67,79,86,106,117,131,142,143,144,145,155,156,157,158,168,169,170,171],[],[],[],[],[],[],[],[],[],[],[],[],[0,1,4],[],[],[],[],[],[],[],[1,2,3,4,8,9,18,21],[],[],[],[],[0,1,4,5,7,8,9,16],[],[],[1,2,3,4,8,11],[],[],[],[],[],[],[],[],[],[],[],[],[],[],[],[],[],[],[],[],[],[],[],[],[],[],[],[]]
def sT : SpT:=⟨[(23,⟨[],[(qM (.rlen (V 0)) (.li 4294967296))],[(.or (qN (V 1) (.li 0)) (qM (.rlen (V 0)) (.li 1024)))]⟩),
 (58,⟨[],[(qM (.rlen (V 0)) (.li 4294967296))],[(.or (qN (V 2) (.li 0)) (qM (.rlen (V 0)) (.li 1024)))]⟩),
 (59,⟨[],[(qM (.rlen (V 0)) (.li 4294967296))],[(qL (V 2) (.rlen (V 0)))]⟩)],[(124,4,⟨[(qM (.li 0) (V 1)),(qM (.li 0) (V 2)),(qM (V 2) (.rlen (V 4))),(qM (V 1) (.rlen (V 4)))],[(qM (.rlen (V 4)) (.li 4294967296))],[(qE (.rlen (V 7)) (.rlen (V 4)))]⟩),
 (154,4,⟨[(qM (V 1) (mI (.rlen (V 5)) (V 3))),(qM (V 2) (mI (.rlen (V 5)) (V 3))),(qM (.li 0) (V 1)),(qM (.li 0) (V 2)),(qM (.li 0) (V 3)),(qM (V 1) (.rlen (V 5))),(qM (V 2) (.rlen (V 5))),(qM (V 3) (.rlen (V 5)))],[(qM (.rlen (V 5)) (.li 4294967296))],[(qE (.rlen (V 8)) (.rlen (V 5)))]⟩),
 (146,4,⟨[(qM (.li 0) (V 1)),(qL (V 1) (V 2)),(qL (V 2) (V 3)),(qM (V 3) (.rlen (V 5)))],[(qM (.rlen (V 5)) (.li 4294967296))],[(qE (.rlen (V 8)) (.rlen (V 5)))]⟩),
 (125,4,⟨[(qM (.li 0) (V 1)),(qL (V 1) (V 2)),(qL (V 2) (V 3)),(qM (V 3) (.li 4294967296)),(qM (V 3) (.rlen (V 5)))],[(qM (.rlen (V 5)) (.li 4294967296))],[(qE (.rlen (V 8)) (.rlen (V 5)))]⟩),
 (95,4,⟨[(qM (.li 0) (V 1)),(qM (V 1) (.rlen (V 3)))],[(qM (.rlen (V 3)) (.li 4294967296))],[(qE (.rlen (V 6)) (.rlen (V 3)))]⟩)]⟩
theorem aeq_24 (a b:GKey):aeq Try.prog 10000 24 (.agg a.enc) (.agg b.enc)=some (decide (a=b)):=by
 have h:yEq Try.prog 10000 24 (.agg (cellsV 0 [] 0 GKey.kds)) (.agg (cellsV 1 [] 0 GKey.kds))=some (.and (.bin .eql .str (.var 0 [0]) (.var 1 [0])) (.bin .eql (.int .i64) (.var 0 [1]) (.var 1 [1]))):=by kernel_rfl
 have h2:=yEq_ok (P:=Try.prog) (ρ:=[a.av,b.av]) h
 refine h2.trans ?_
 congr 1
 show (sEq a.Str b.Str&&iEq a.Sym b.Sym)=decide (a=b)
 cases a;cases b
 simp [sEq,iEq,bEq,Bool.decide_and,eq_int]
def R71 : PRes:=
 ⟨[((.lb true),(.agg [(zS (V 0)),(zI (.li 0))]))],
 [],[]⟩
theorem e71 : sFnI Try.prog xBase iBase mdI (fcI kA 71 [] []) 3 200 71 [zS (V 0)] 1=some R71:=by kernel_rfl
theorem ct_key_Of (x0:List UInt8):CT Try.prog sT 71 [eS x0] (GKey.av (key_Of x0)):=
 mkH hmix xBase_ok iBase_ok e71 lh0 (by kernel_rfl) [eS x0] xn
  wn
  ln
  (selL rfl)
def R73 : PRes:=
 ⟨[((.lb true),(.agg [(zU (.li 3)),(zF (V 0)),(zS (.ls [])),(zI (.li 0))]))],
 [],[]⟩
theorem e73 : sFnI Try.prog xBase iBase mdI (fcI kA 73 [] []) 3 200 73 [zF (V 0)] 1=some R73:=by kernel_rfl
theorem ct_value_Num (x0:Nat):CT Try.prog sT 73 [eF x0] (GVal.av (value_Num x0)):=
 mkH hmix xBase_ok iBase_ok e73 lh0 (by kernel_rfl) [eF x0] xn
  wn
  ln
  (selL rfl)
def R72 : PRes:=
 ⟨[((.lb true),(.agg [(zU (.li 51)),(zU (W 0 0)),(zF (W 0 1)),(zS (W 0 2)),(zI (W 0 3)),(zU (.li 0)),(zF (.lf 0)),(zS (.ls [])),(zI (.li 0)),(zU (.li 0)),(zF (.lf 0)),(zS (.ls [])),(zI (.li 0)),(zB (.lb true)),(zB (.lb true)),(zB (.lb true))]))],
 [],[]⟩
theorem e72 : sFnI Try.prog xBase iBase mdI (fcI kA 72 [] []) 3 200 72 [.agg (cV 0 GVal.kds)] 1=some R72:=by kernel_rfl
theorem ct_desc_Data (x0:GVal):CT Try.prog sT 72 [GVal.av x0] (GDesc.av (desc_Data x0)):=
 mkH hmix xBase_ok iBase_ok e72 lh0 (by kernel_rfl) [GVal.av x0] xn
  wn
  ln
  (selL rfl)
def R37 : PRes:=
 ⟨[((.or (.or (qL (W 0 1) (.li 0)) (qG (.slen (W 0 0)) (.li 4096))) (.and (qG (W 0 1) (.li 0)) (sN (W 0 0) (.ls [])))),(zI (.li 9))),((.lb true),(zI (.li 0)))],
 [],[]⟩
theorem e37 : sFnI Try.prog xBase iBase mdI (fcI kA 37 [] []) 3 200 37 [.agg (cV 0 GKey.kds)] 1=some R37:=by kernel_rfl
theorem ct_key_Check (x0:GKey):CT Try.prog sT 37 [GKey.av x0] (eI (key_Check x0)):=
 mkH hmix xBase_ok iBase_ok e37 lh0 (by kernel_rfl) [GKey.av x0] xn
  wn
  ln
  (selE (fun r=>.p (.int .i64 r)) rfl rfl (selL rfl))
def R137 : PRes:=
 ⟨[((.lb true),(zB (uN (.bin .and kU (W 0 0) (.li 3)) (.li 0))))],
 [],[]⟩
theorem e137 : sFnI Try.prog xBase iBase mdI (fcI kA 137 [] []) 3 200 137 [.agg (cV 0 GDesc.kds)] 1=some R137:=by kernel_rfl
theorem ct_desc_IsData (x0:GDesc):CT Try.prog sT 137 [GDesc.av x0] (eB (desc_IsData x0)):=
 mkH hmix xBase_ok iBase_ok e137 lh0 (by kernel_rfl) [GDesc.av x0] xn
  wn
  ln
  (selL rfl)
def R141 : PRes:=
 ⟨[((.lb true),(zB (uN (.bin .and kU (W 0 0) (.li 12)) (.li 0))))],
 [],[]⟩
theorem e141 : sFnI Try.prog xBase iBase mdI (fcI kA 141 [] []) 3 200 141 [.agg (cV 0 GDesc.kds)] 1=some R141:=by kernel_rfl
theorem ct_desc_IsAccess (x0:GDesc):CT Try.prog sT 141 [GDesc.av x0] (eB (desc_IsAccess x0)):=
 mkH hmix xBase_ok iBase_ok e141 lh0 (by kernel_rfl) [GDesc.av x0] xn
  wn
  ln
  (selL rfl)
def R155 : PRes:=
 ⟨[((.lb true),(zF (V 1)))],
 [([],(.call 158 [(zF (V 0))] (zF (V 1))))],[]⟩
theorem e155 : sFnI Try.prog xBase iBase mdI (fcI kA 155 [] []) 3 200 155 [zF (V 0)] 1=some R155:=by kernel_rfl
theorem ct_math_Trunc (x0:Nat)(h0:notNan x0):CT Try.prog sT 155 [eF x0] (eF (math_Trunc x0)):=
 let v1:Nat:=math_archTrunc x0
 mkH hmix xBase_ok iBase_ok e155 lh0 (by kernel_rfl) [eF x0,eF v1] xn
  (wCp (fun h=>ctP (pc_math_archTrunc x0 h0))<|wn)
  ln
  (selL rfl)
def R156 : PRes:=
 ⟨[((.lb true),(zF (V 2)))],
 [([],(.call 161 [(zF (V 0))] (.sc (.int .u64) (V 1)))),
 ([],(.call 160 [(.sc (.int .u64) (.bin .andNot (.int .u64) (V 1) (.li 9223372036854775808)))] (zF (V 2))))],[]⟩
theorem e156 : sFnI Try.prog xBase iBase mdI (fcI kA 156 [] []) 3 200 156 [zF (V 0)] 1=some R156:=by kernel_rfl
theorem ct_math_Abs (x0:Nat):CT Try.prog sT 156 [eF x0] (eF (math_Abs x0)):=
 let v1:Int:=math_Float64bits x0
 let v2:Nat:=math_Float64frombits (iAndNot .u64 v1 9223372036854775808)
 mkH hmix xBase_ok iBase_ok e156 lh0 (by kernel_rfl) [eF x0,.p (.int .u64 v1),eF v2] xn
  (wC (ctP (pc_math_Float64bits x0)) <|
  wC (ctP (pc_math_Float64frombits (iAndNot .u64 v1 9223372036854775808))) <|
  wn)
  ln
  (selL rfl)
def R157 : PRes:=
 ⟨[((.lb true),(zB (qL (.conv .i64 (V 1)) (.li 0))))],
 [([],(.call 161 [(zF (V 0))] (.sc (.int .u64) (V 1))))],[]⟩
theorem e157 : sFnI Try.prog xBase iBase mdI (fcI kA 157 [] []) 3 200 157 [zF (V 0)] 1=some R157:=by kernel_rfl
theorem ct_math_Signbit (x0:Nat):CT Try.prog sT 157 [eF x0] (eB (math_Signbit x0)):=
 let v1:Int:=math_Float64bits x0
 mkH hmix xBase_ok iBase_ok e157 lh0 (by kernel_rfl) [eF x0,.p (.int .u64 v1)] xn
  (wC (ctP (pc_math_Float64bits x0))<|wn)
  ln
  (selL rfl)
def R150 : PRes:=
 let p0:Pc:=((.bin .neq .flt (V 0) (V 0)),false)::[]
 let p1:Pc:=((.bin .eql .flt (V 1) (V 0)),true)::p0
 let p2:Pc:=((.and (.bin .eql .flt (V 1) (V 0)) (.bin .leq .flt (V 2) (.lf 4845873199050653695))),true)::p0
 let p3:Pc:=((.bin .neq .flt (V 0) (.lf 0)),false)::p2
 ⟨[((.lb true),(zB (.or (.bin .neq .flt (V 0) (V 0)) (.and (.and (.bin .eql .flt (V 1) (V 0)) (.bin .leq .flt (V 2) (.lf 4845873199050653695))) (.or (.bin .neq .flt (V 0) (.lf 0)) (.not (V 3)))))))],
 [(p0,(.call 155 [(zF (V 0))] (zF (V 1)))),
 (p1,(.call 156 [(zF (V 0))] (zF (V 2)))),
 (p3,(.call 157 [(zF (V 0))] (zB (V 3))))],[]⟩
theorem e150 : sFnI Try.prog xBase iBase mdI (fcI kA 150 [] []) 3 200 150 [zF (V 0)] 1=some R150:=by kernel_rfl
theorem ct_num_May (x0:Nat):CT Try.prog sT 150 [eF x0] (eB (num_May x0)):=
 let v1:Nat:=math_Trunc x0
 let v2:Nat:=math_Abs x0
 let v3:Bool:=math_Signbit x0
 mkH hmix xBase_ok iBase_ok e150 lh0 (by kernel_rfl) [eF x0,eF v1,eF v2,eB v3] xn
  (wCp (fun h=>ct_math_Trunc x0 (fnn3 (h.at 0 rfl))) <|
  wC (ct_math_Abs x0) <|
  wC (ct_math_Signbit x0) <|
  wn)
  ln
  (selL rfl)
def R135 : PRes:=
 let p0:Pc:=((qG (.slen (W 0 2)) (.li 4096)),false)::[]
 let p1:Pc:=((qL (W 0 3) (.li 0)),false)::p0
 let p2:Pc:=((.bin .gtr kU (W 0 0) (.li 8)),false)::p1
 let p3:Pc:=((uE (W 0 0) (.li 2)),true)::p2
 let p4:Pc:=((.bin .neq .flt (W 0 1) (.lf 4607182418800017408)),true)::p3
 let p5:Pc:=((.bin .neq .flt (W 0 1) (.lf 0)),false)::p4
 let p6:Pc:=((uE (W 0 0) (.li 2)),false)::p2
 let p7:Pc:=((uE (W 0 0) (.li 3)),true)::p6
 let p8:Pc:=((.and (uE (W 0 0) (.li 2)) (.and (.bin .neq .flt (W 0 1) (.lf 4607182418800017408)) (.or (.bin .neq .flt (W 0 1) (.lf 0)) (.not (V 1))))),false)::p2
 let p9:Pc:=((.and (.not (uE (W 0 0) (.li 2))) (.and (uE (W 0 0) (.li 3)) (.not (V 2)))),false)::p8
 let p10:Pc:=((.and (uE (W 0 0) (W 0 0)) (.and (.or (uE (W 0 0) (.li 2)) (.or (uE (W 0 0) (.li 3)) (.bin .eql .flt (W 0 1) (.lf 0)))) (.and (.ite (uE (W 0 0) (.li 2)) (sE (W 0 2) (.ls [])) (.ite (uE (W 0 0) (.li 3)) (sE (W 0 2) (.ls [])) (.or (uE (W 0 0) (.li 4)) (sE (W 0 2) (.ls []))))) (.ite (uE (W 0 0) (.li 2)) (qE (W 0 3) (.li 0)) (.ite (uE (W 0 0) (.li 3)) (qE (W 0 3) (.li 0)) (.ite (uE (W 0 0) (.li 4)) (qE (W 0 3) (.li 0)) (.or (.or (uE (W 0 0) (.li 5)) (.or (uE (W 0 0) (.li 6)) (.or (uE (W 0 0) (.li 7)) (uE (W 0 0) (.li 8))))) (qE (W 0 3) (.li 0))))))))),true)::p9
 ⟨[((.or (.or (.bin .gtr kU (W 0 0) (.li 8)) (qL (W 0 3) (.li 0))) (qG (.slen (W 0 2)) (.li 4096))),(zB (.lb false))),((.and (uE (W 0 0) (.li 2)) (.and (.bin .neq .flt (W 0 1) (.lf 4607182418800017408)) (.or (.bin .neq .flt (W 0 1) (.lf 0)) (.not (V 1))))),(zB (.lb false))),((.and (.not (uE (W 0 0) (.li 2))) (.and (uE (W 0 0) (.li 3)) (.not (V 2)))),(zB (.lb false))),((.lb true),(zB (.and (.and (uE (W 0 0) (W 0 0)) (.and (.or (uE (W 0 0) (.li 2)) (.or (uE (W 0 0) (.li 3)) (.bin .eql .flt (W 0 1) (.lf 0)))) (.and (.ite (uE (W 0 0) (.li 2)) (sE (W 0 2) (.ls [])) (.ite (uE (W 0 0) (.li 3)) (sE (W 0 2) (.ls [])) (.or (uE (W 0 0) (.li 4)) (sE (W 0 2) (.ls []))))) (.ite (uE (W 0 0) (.li 2)) (qE (W 0 3) (.li 0)) (.ite (uE (W 0 0) (.li 3)) (qE (W 0 3) (.li 0)) (.ite (uE (W 0 0) (.li 4)) (qE (W 0 3) (.li 0)) (.or (.or (uE (W 0 0) (.li 5)) (.or (uE (W 0 0) (.li 6)) (.or (uE (W 0 0) (.li 7)) (uE (W 0 0) (.li 8))))) (qE (W 0 3) (.li 0))))))))) (V 3))))],
 [(p5,(.call 150 [(zF (W 0 1))] (zB (V 1)))),
 (p7,(.call 150 [(zF (W 0 1))] (zB (V 2)))),
 (p10,(.call 150 [(zF (.ite (uE (W 0 0) (.li 2)) (.lf 0) (.ite (uE (W 0 0) (.li 3)) (.lf 0) (W 0 1))))] (zB (V 3))))],[]⟩
theorem e135 : sFnI Try.prog xBase iBase mdI (fcI kA 135 [] []) 3 200 135 [.agg (cV 0 GVal.kds)] 1=some R135:=by kernel_rfl
theorem ct_value_May (x0:GVal):CT Try.prog sT 135 [GVal.av x0] (eB (value_May x0)):=
 let v1:Bool:=num_May x0.Num
 let v2:Bool:=num_May x0.Num
 let v3:Bool:=num_May (bif (iEq x0.Kind 2) then 0 else (bif (iEq x0.Kind 3) then 0 else x0.Num))
 mkH hmix xBase_ok iBase_ok e135 lh0 (by kernel_rfl) [GVal.av x0,eB v1,eB v2,eB v3] xn
  (wC (ct_num_May x0.Num) <|
  wC (ct_num_May x0.Num) <|
  wC (ct_num_May (bif (iEq x0.Kind 2) then 0 else (bif (iEq x0.Kind 3) then 0 else x0.Num))) <|
  wn)
  ln
  (selE (fun r=>.p (.bool r)) rfl rfl (selE (fun r=>.p (.bool r)) rfl rfl (selE (fun r=>.p (.bool r)) rfl rfl (selL rfl))))
def R152 : PRes:=
 ⟨[((.lb true),(zB (.or (uE (W 0 0) (.li 7)) (uE (W 0 0) (.li 8)))))],
 [],[]⟩
theorem e152 : sFnI Try.prog xBase iBase mdI (fcI kA 152 [] []) 3 200 152 [.agg (cV 0 GVal.kds)] 1=some R152:=by kernel_rfl
theorem ct_value_Calls (x0:GVal):CT Try.prog sT 152 [GVal.av x0] (eB (value_Calls x0)):=
 mkH hmix xBase_ok iBase_ok e152 lh0 (by kernel_rfl) [GVal.av x0] xn
  wn
  ln
  (selL rfl)
def R142 : PRes:=
 let p0:Pc:=((V 1),true)::[]
 let p1:Pc:=((uE (W 0 0) (.li 0)),false)::p0
 ⟨[((.lb true),(zB (.and (V 1) (.or (uE (W 0 0) (.li 0)) (V 2)))))],
 [([],(.call 135 [(.agg (cV 0 GVal.kds))] (zB (V 1)))),
 (p1,(.call 152 [(.agg (cV 0 GVal.kds))] (zB (V 2))))],[]⟩
theorem e142 : sFnI Try.prog xBase iBase mdI (fcI kA 142 [] []) 3 200 142 [.agg (cV 0 GVal.kds)] 1=some R142:=by kernel_rfl
theorem ct_desc_called (x0:GVal):CT Try.prog sT 142 [GVal.av x0] (eB (desc_called x0)):=
 let v1:Bool:=value_May x0
 let v2:Bool:=value_Calls x0
 mkH hmix xBase_ok iBase_ok e142 lh0 (by kernel_rfl) [GVal.av x0,eB v1,eB v2] xn
  (wC (ct_value_May x0) <|
  wC (ct_value_Calls x0) <|
  wn)
  ln
  (selL rfl)
def R109 : PRes:=
 let p0:Pc:=((uN (.bin .andNot kU (W 0 0) (.li 63)) (.li 0)),false)::[]
 let p1:Pc:=((V 1),true)::p0
 let p2:Pc:=((.or (uN (.bin .andNot kU (W 0 0) (.li 63)) (.li 0)) (.and (V 1) (V 2))),false)::[]
 let p3:Pc:=((.or (.or (uN (.bin .andNot kU (W 0 0) (.li 63)) (.li 0)) (.and (V 1) (V 2))) (.not (V 3))),false)::[]
 let p4:Pc:=((.or (.or (.or (uN (.bin .andNot kU (W 0 0) (.li 63)) (.li 0)) (.and (V 1) (V 2))) (.not (V 3))) (.not (V 4))),false)::[]
 ⟨[((.or (.or (.or (.or (uN (.bin .andNot kU (W 0 0) (.li 63)) (.li 0)) (.and (V 1) (V 2))) (.not (V 3))) (.not (V 4))) (.not (V 5))),(zI (.li 90))),((.or (.or (.and (uN (.bin .and kU (.com .u8 (W 0 0)) (.li 1)) (.li 0)) (.not (.and (uE (W 0 1) (.li 0)) (.and (.bin .eql .flt (W 0 2) (.lf 0)) (.and (sE (W 0 3) (.ls [])) (qE (W 0 4) (.li 0))))))) (.and (uN (.bin .and kU (.com .u8 (W 0 0)) (.li 4)) (.li 0)) (.not (.and (uE (W 0 5) (.li 0)) (.and (.bin .eql .flt (W 0 6) (.lf 0)) (.and (sE (W 0 7) (.ls [])) (qE (W 0 8) (.li 0)))))))) (.and (uN (.bin .and kU (.com .u8 (W 0 0)) (.li 8)) (.li 0)) (.not (.and (uE (W 0 9) (.li 0)) (.and (.bin .eql .flt (W 0 10) (.lf 0)) (.and (sE (W 0 11) (.ls [])) (qE (W 0 12) (.li 0)))))))),(zI (.li 90))),((.or (.or (.and (uN (.bin .and kU (.com .u8 (W 0 0)) (.li 2)) (.li 0)) (W 0 13)) (.and (uN (.bin .and kU (.com .u8 (W 0 0)) (.li 16)) (.li 0)) (W 0 14))) (.and (uN (.bin .and kU (.com .u8 (W 0 0)) (.li 32)) (.li 0)) (W 0 15))),(zI (.li 90))),((.lb true),(zI (.li 0)))],
 [(p0,(.call 137 [(.agg (cV 0 GDesc.kds))] (zB (V 1)))),
 (p1,(.call 141 [(.agg (cV 0 GDesc.kds))] (zB (V 2)))),
 (p2,(.call 135 [(.agg (cW 0 1 GVal.kds))] (zB (V 3)))),
 (p3,(.call 142 [(.agg (cW 0 5 GVal.kds))] (zB (V 4)))),
 (p4,(.call 142 [(.agg (cW 0 9 GVal.kds))] (zB (V 5))))],[]⟩
theorem e109 : sFnI Try.prog xBase iBase mdI (fcI kA 109 [] []) 3 200 109 [.agg (cV 0 GDesc.kds)] 1=some R109:=by kernel_rfl
theorem ct_desc_Check (x0:GDesc):CT Try.prog sT 109 [GDesc.av x0] (eI (desc_Check x0)):=
 let v1:Bool:=desc_IsData x0
 let v2:Bool:=desc_IsAccess x0
 let v3:Bool:=value_May x0.Value
 let v4:Bool:=desc_called x0.Get
 let v5:Bool:=desc_called x0.Set
 mkH hmix xBase_ok iBase_ok e109 lh0 (by kernel_rfl) [GDesc.av x0,eB v1,eB v2,eB v3,eB v4,eB v5] xn
  (wC (ct_desc_IsData x0) <|
  wC (ct_desc_IsAccess x0) <|
  wC (ct_value_May x0.Value) <|
  wC (ct_desc_called x0.Get) <|
  wC (ct_desc_called x0.Set) <|
  wn)
  ln
  (selE (fun r=>.p (.int .i64 r)) rfl rfl (selE (fun r=>.p (.int .i64 r)) rfl rfl (selE (fun r=>.p (.int .i64 r)) rfl rfl (selL rfl))))
def R110 : PRes:=
 ⟨[((.lb true),(.agg [(zU (.ite (V 1) (.bin .or kU (W 0 0) (.li 60)) (.bin .or kU (W 0 0) (.li 51)))),(zU (W 0 1)),(zF (W 0 2)),(zS (W 0 3)),(zI (W 0 4)),(zU (W 0 5)),(zF (W 0 6)),(zS (W 0 7)),(zI (W 0 8)),(zU (W 0 9)),(zF (W 0 10)),(zS (W 0 11)),(zI (W 0 12)),(zB (W 0 13)),(zB (W 0 14)),(zB (W 0 15))]))],
 [([],(.call 141 [(.agg (cV 0 GDesc.kds))] (zB (V 1))))],[]⟩
theorem e110 : sFnI Try.prog xBase iBase mdI (fcI kA 110 [] []) 3 200 110 [.agg (cV 0 GDesc.kds)] 1=some R110:=by kernel_rfl
theorem ct_desc_whole (x0:GDesc):CT Try.prog sT 110 [GDesc.av x0] (GDesc.av (desc_whole x0)):=
 let v1:Bool:=desc_IsAccess x0
 mkH hmix xBase_ok iBase_ok e110 lh0 (by kernel_rfl) [GDesc.av x0,eB v1] xn
  (wC (ct_desc_IsAccess x0)<|wn)
  ln
  (selL rfl)
def R90 : PRes:=
 let p0:Pc:=((qN (V 1) (.li 0)),false)::[]
 ⟨[((qN (V 1) (.li 0)),(.tup [(.agg [(zU (.li 0)),(zU (.li 0)),(zF (.lf 0)),(zS (.ls [])),(zI (.li 0)),(zU (.li 0)),(zF (.lf 0)),(zS (.ls [])),(zI (.li 0)),(zU (.li 0)),(zF (.lf 0)),(zS (.ls [])),(zI (.li 0)),(zB (.lb false)),(zB (.lb false)),(zB (.lb false))]),(zI (V 1))])),((.lb true),(.tup [(.agg (cV 2 GDesc.kds)),(zI (.li 0))]))],
 [([],(.call 109 [(.agg (cV 0 GDesc.kds))] (zI (V 1)))),
 (p0,(.call 110 [(.agg (cV 0 GDesc.kds))] (.agg (cV 2 GDesc.kds))))],[]⟩
theorem e90 : sFnI Try.prog xBase iBase mdI (fcI kA 90 [] []) 3 200 90 [.agg (cV 0 GDesc.kds)] 1=some R90:=by kernel_rfl
theorem ct_desc_Complete (x0:GDesc):CT Try.prog sT 90 [GDesc.av x0] (eR_Desc_ii64 (desc_Complete x0)):=
 let v1:Int:=desc_Check x0
 let v2:GDesc:=desc_whole x0
 mkH hmix xBase_ok iBase_ok e90 lh0 (by kernel_rfl) [GDesc.av x0,eI v1,GDesc.av v2] xn
  (wC (ct_desc_Check x0) <|
  wC (ct_desc_whole x0) <|
  wn)
  ln
  (selE eR_Desc_ii64 rfl rfl (selL rfl))
def R60 : PRes:=
 ⟨[((.lb true),(zB (.and (qE (W 1 1) (.li 0)) (uE (.var 1 [0,0]) (W 0 0)))))],
 [([],(.call 90 [(.agg (cV 0 GDesc.kds))] (.tup [(.agg (cellsV 1 [0] 0 GDesc.kds)),(zI (W 1 1))])))],[]⟩
theorem e60 : sFnI Try.prog xBase iBase mdI (fcI kA 60 [] []) 3 200 60 [.agg (cV 0 GDesc.kds)] 1=some R60:=by kernel_rfl
theorem ct_table_whole (x0:GDesc):CT Try.prog sT 60 [GDesc.av x0] (eB (table_whole x0)):=
 let v1:GDesc×Int:=desc_Complete x0
 mkH hmix xBase_ok iBase_ok e60 lh0 (by kernel_rfl) [GDesc.av x0,eR_Desc_ii64 v1] xn
  (wC (ct_desc_Complete x0)<|wn)
  ln
  (selL rfl)
def L23_1 : Lo:=
 let p0:Pc:=((qG (.rlen (V 0)) (.li 1024)),false)::[]
 let p1:Pc:=((qL (V 2) (.rlen (V 0))),true)::p0
 let p2:Pc:=((qN (V 5) (.li 0)),false)::p1
 let p3:Pc:=((V 6),true)::p2
 let p4:Pc:=((qG (W 7 1) (.li 0)),false)::p3
 .mk [((qG (.rlen (V 0)) (.li 1024)),false)] 1 3 [(zI (.li 0)),(zI (.li 0)),(.slc [] false)] [((.not (qL (V 2) (.rlen (V 0)))),1,[(zI (V 1)),(zL (V 3))]),((qN (V 5) (.li 0)),2,[(zI (V 5)),(zL (V 3))]),((.not (V 6)),2,[(zI (.li 90)),(zL (V 3))]),((qG (W 7 1) (.li 0)),2,[(zI (.li 100)),(zL (V 3))]),((.lb true),0,[(zI (V 1)),(zI (aI (V 2) (.li 1))),(zL (V 8))])] [(p1,(.row (V 0) (V 2) (cV 4 GProp.kds))),
 (p1,(.call 37 [(.agg [(zS (W 4 0)),(zI (W 4 1))])] (zI (V 5)))),
 (p2,(.call 60 [(.agg (cW 4 2 GDesc.kds))] (zB (V 6)))),
 (p3,(.look 24 (.mk true 2 false 1) (V 3) (.agg [(zS (W 4 0)),(zI (W 4 1))]) (zI (.li 0)) (W 7 0) (zI (W 7 1)))),
 (p4,(.put 24 (.mk true 2 false 1) (V 3) (.agg [(zS (W 4 0)),(zI (W 4 1))]) (zI (aI (V 2) (.li 1))) (V 8)))] [] [2,2] [(V 0)]
def H23_1 : LH:=.mk [(qM (.li 0) (V 1)),(qM (V 1) (V 2))] (mI (.rlen (V 0)) (V 2)) [((.rlen (V 0)),1)] [] 0 [] []
def rk_table_Check_l1 (r:Bool×Int×List (GKey×Int)×Int×List (GKey×Int)):Nat×List AV:=rk2 r.1 [eI r.2.1,eL (rowM GKey.enc rowI) r.2.2.1] [eI r.2.2.2.1,eL (rowM GKey.enc rowI) r.2.2.2.2]
theorem lp_table_Check_l1 (x0:List GProp):∀(n:Nat) (u1:Int) (u2:Int) (u3:List (GKey×Int)),RunL Try.prog sT L23_1 H23_1 [eL GProp.enc x0] n [eI u1,eI u2,eL (rowM GKey.enc rowI) u3] (rk_table_Check_l1 (table_Check_l1 x0 n u1 u2 u3))
 |0,u1,u2,u3=>l0
 |n+1,u1,u2,u3=>
  let v4:GProp:=x0.getD (u2:Int).toNat default
  let v5:Int:=key_Check v4.Key
  let v6:Bool:=table_whole v4.Desc
  let v7:Bool×Int:=mapGet 0 v4.Key u3
  let v8:List (GKey×Int):=mapPut v4.Key (iAdd .i64 u2 1) u3
  lmk rfl [GProp.av v4,eI v5,eB v6,.agg (eB v7.1::rowI v7.2),eL (rowM GKey.enc rowI) v8] xn (wR rfl <|
  wC (ct_key_Check v4.Key) <|
  wC (ct_table_whole v4.Desc) <|
  wLook (f:=GKey.enc) (g:=rowI) aeq_24 v4.Key 0 rfl <|
  wPut (f:=GKey.enc) (g:=rowI) aeq_24 v4.Key (iAdd .i64 u2 1) rfl <|
  wn) ln <|
   rc rk_table_Check_l1 rx<|rc rk_table_Check_l1 rx<|rc rk_table_Check_l1 rx<|rc rk_table_Check_l1 rx<|rl (rg (lp_table_Check_l1 x0 n _ _ _))
def R23 : PRes:=
 ⟨[((qG (.rlen (V 0)) (.li 1024)),(zI (.li 4))),((.not (qE (V 1) (.li 0))),(zI (V 4))),((.lb true),(zI (.li 0)))],
 [],[L23_1]⟩
def H23 : LH:=.mk [] (.li 0) [] [] 0 [H23_1] []
theorem e23 : sFnI Try.prog xBase iBase mdI (fcI kA 23 [15,4,6,2] [(0,(.mk [3,13,14] (.mk [(2,(.sc kI)),(15,(.sc kI))] [] [(6,(.map (.mk true 2 false 1)))] 11) [(.normal,(.mk [(2,(.sc kI))] [] [(6,(.map (.mk true 2 false 1)))] 11)),(.ret,(.mk [(2,(.sc kI))] [] [(6,(.map (.mk true 2 false 1)))] 11))]))]) 3 200 23 [zL (V 0)] 1=some R23:=by kernel_rfl
theorem ct_table_Check (x0:List GProp):CT Try.prog sT 23 [eL GProp.enc x0] (eI (table_Check x0)):=
 let r1:Bool×Int×List (GKey×Int)×Int×List (GKey×Int):=table_Check_l1 x0 (x0.length+1) 0 0 []
 mkH hmix xBase_ok iBase_ok e23 H23 (by kernel_rfl) [eL GProp.enc x0,eI (selB r1.1),eI r1.2.1,eL (rowM GKey.enc rowI) r1.2.2.1,eI r1.2.2.2.1,eL (rowM GKey.enc rowI) r1.2.2.2.2] xn
  wn
  (lc2 (lp_table_Check_l1 x0 (x0.length+1) 0 0 []) <|
  ln)
  (selE (fun r=>.p (.int .i64 r)) rfl rfl (selE (fun r=>.p (.int .i64 r)) rfl rfl (selL rfl)))
def R58 : PRes:=
 let p0:Pc:=((qN (V 2) (.li 0)),false)::[]
 ⟨[((qN (V 2) (.li 0)),(zI (V 2))),((.lb true),(zI (V 3)))],
 [([],(.call 23 [(zL (V 0))] (zI (V 2)))),
 (p0,(.call 37 [(.agg [(zS (W 1 0)),(zI (W 1 1))])] (zI (V 3))))],[]⟩
theorem e58 : sFnI Try.prog xBase iBase mdI (fcI kA 58 [] []) 3 200 58 [zL (V 0),.agg (cV 1 GKey.kds)] 2=some R58:=by kernel_rfl
theorem ct_table_asked (x0:List GProp)(x1:GKey):CT Try.prog sT 58 [eL GProp.enc x0,GKey.av x1] (eI (table_asked x0 x1)):=
 let v2:Int:=table_Check x0
 let v3:Int:=key_Check x1
 mkH hmix xBase_ok iBase_ok e58 lh0 (by kernel_rfl) [eL GProp.enc x0,GKey.av x1,eI v2,eI v3] xn
  (wC (ct_table_Check x0) <|
  wC (ct_key_Check x1) <|
  wn)
  ln
  (selE (fun r=>.p (.int .i64 r)) rfl rfl (selL rfl))
def L59_2 : Lo:=
 let p0:Pc:=((qL (V 3) (.rlen (V 0))),true)::[]
 .mk [] 2 2 [(zI (.li 0)),(zI (.li 0))] [((.not (qL (V 3) (.rlen (V 0)))),1,[(zI (V 2))]),((.and (sE (W 4 0) (W 1 0)) (qE (W 4 1) (W 1 1))),2,[(zI (V 3))]),((.lb true),0,[(zI (V 2)),(zI (aI (V 3) (.li 1)))])] [(p0,(.row (V 0) (V 3) (cV 4 GProp.kds)))] [] [1,1] [(V 0)]
def H59_2 : LH:=.mk [(qM (.li 0) (V 3))] (mI (.rlen (V 0)) (V 3)) [((.rlen (V 0)),1)] [] 0 [] [[],[(qL (V 2) (.rlen (V 0)))]]
def rk_table_at_l2 (r:Bool×Int×Int):Nat×List AV:=rk2 r.1 [eI r.2.1] [eI r.2.2]
theorem lp_table_at_l2 (x0:List GProp)(x1:GKey):∀(n:Nat) (u2:Int) (u3:Int),RunL Try.prog sT L59_2 H59_2 [eL GProp.enc x0,GKey.av x1] n [eI u2,eI u3] (rk_table_at_l2 (table_at_l2 x0 x1 n u2 u3))
 |0,u2,u3=>l0
 |n+1,u2,u3=>
  let v4:GProp:=x0.getD (u3:Int).toNat default
  lmk rfl [GProp.av v4] xn (wR rfl<|wn) ln <|
   rc rk_table_at_l2 rx<|rc rk_table_at_l2 rx<|rl (rg (lp_table_at_l2 x0 x1 n _ _))
def R59 : PRes:=
 ⟨[((.not (qE (V 2) (.li 0))),(zI (V 4))),((.lb true),(zI (.li (-1))))],
 [],[L59_2]⟩
def H59 : LH:=.mk [] (.li 0) [] [] 0 [H59_2] []
theorem e59 : sFnI Try.prog xBase iBase mdI (fcI kA 59 [8,5,4] [(0,(.mk [0,3,7] (.mk [(4,(.sc kI)),(8,(.sc kI))] [] [] 5) [(.normal,(.mk [(4,(.sc kI))] [] [] 5)),(.ret,(.mk [(4,(.sc kI))] [] [] 5))]))]) 3 200 59 [zL (V 0),.agg (cV 1 GKey.kds)] 2=some R59:=by kernel_rfl
theorem ct_table_at (x0:List GProp)(x1:GKey):CT Try.prog sT 59 [eL GProp.enc x0,GKey.av x1] (eI (table_at x0 x1)):=
 let r2:Bool×Int×Int:=table_at_l2 x0 x1 (x0.length+1) 0 0
 mkH hmix xBase_ok iBase_ok e59 H59 (by kernel_rfl) [eL GProp.enc x0,GKey.av x1,eI (selB r2.1),eI r2.2.1,eI r2.2.2] xn
  wn
  (lc2 (lp_table_at_l2 x0 x1 (x0.length+1) 0 0) <|
  ln)
  (selE (fun r=>.p (.int .i64 r)) rfl rfl (selL rfl))
def R13 : PRes:=
 let p0:Pc:=((qN (V 3) (.li 0)),false)::[]
 let p1:Pc:=((V 5),true)::p0
 let p2:Pc:=((.and (qL (V 4) (.li 0)) (qE (.rlen (V 0)) (.li 1024))),false)::p1
 let p3:Pc:=((qL (V 4) (.li 0)),true)::p2
 let p4:Pc:=((qL (V 4) (.li 0)),false)::p2
 ⟨[((qN (V 3) (.li 0)),(.tup [(.slc [] false),(zI (V 3))])),((.not (V 5)),(.tup [(.slc [] false),(zI (.li 90))])),((.and (qL (V 4) (.li 0)) (qE (.rlen (V 0)) (.li 1024))),(.tup [(.slc [] false),(zI (.li 100))])),((qL (V 4) (.li 0)),(.tup [(zL (V 7)),(zI (.li 0))])),((.lb true),(.tup [(zL (V 9)),(zI (.li 0))]))],
 [([],(.call 58 [(zL (V 0)),(.agg [(zS (W 1 0)),(zI (W 1 1))])] (zI (V 3)))),
 (p0,(.call 59 [(zL (V 0)),(.agg [(zS (W 1 0)),(zI (W 1 1))])] (zI (V 4)))),
 (p0,(.call 60 [(.agg (cV 2 GDesc.kds))] (zB (V 5)))),
 (p3,(.sub 18 (V 0) none (some (.rlen (V 0))) (V 6))),
 (p3,(.app 18 (V 6) [[(zS (W 1 0)),(zI (W 1 1)),(zU (W 2 0)),(zU (W 2 1)),(zF (W 2 2)),(zS (W 2 3)),(zI (W 2 4)),(zU (W 2 5)),(zF (W 2 6)),(zS (W 2 7)),(zI (W 2 8)),(zU (W 2 9)),(zF (W 2 10)),(zS (W 2 11)),(zI (W 2 12)),(zB (W 2 13)),(zB (W 2 14)),(zB (W 2 15))]] (V 7))),
 (p4,(.sub 18 (V 0) none (some (.li 0)) .nl)),
 (p4,(.rok 18 (V 0))),
 (p4,(.len2 0 (V 0))),
 (p4,(.tm (qM (.li 0) (V 4)))),
 (p4,(.tm (qL (V 4) (.rlen (V 0))))),
 (p4,(.st (V 0) (V 4) 2 [(zU (W 2 0)),(zU (W 2 1)),(zF (W 2 2)),(zS (W 2 3)),(zI (W 2 4)),(zU (W 2 5)),(zF (W 2 6)),(zS (W 2 7)),(zI (W 2 8)),(zU (W 2 9)),(zF (W 2 10)),(zS (W 2 11)),(zI (W 2 12)),(zB (W 2 13)),(zB (W 2 14)),(zB (W 2 15))] (V 8))),
 (p4,(.sub 18 (V 8) none (some (.rlen (V 0))) (V 9)))],[]⟩
theorem e13 : sFnI Try.prog xBase iBase mdI (fcI kA 13 [] []) 3 200 13 [zL (V 0),.agg (cV 1 GKey.kds),.agg (cV 2 GDesc.kds)] 3=some R13:=by kernel_rfl
theorem ct_table_Put (x0:List GProp)(x1:GKey)(x2:GDesc):CT Try.prog sT 13 [eL GProp.enc x0,GKey.av x1,GDesc.av x2] (eR_sProp_ii64 (table_Put x0 x1 x2)):=
 let v3:Int:=table_asked x0 x1
 let v4:Int:=table_at x0 x1
 let v5:Bool:=table_whole x2
 let v6:List GProp:=(x0.drop (0)).take (((mLen GProp.enc x0):Int).toNat-0)
 let v7:List GProp:=v6++[(GProp.mk x1 x2)]
 let v8:List GProp:=x0.set (v4:Int).toNat (GProp.mk (x0.getD (v4:Int).toNat default).Key x2)
 let v9:List GProp:=(v8.drop (0)).take (((mLen GProp.enc x0):Int).toNat-0)
 mkH hmix xBase_ok iBase_ok e13 lh0 (by kernel_rfl) [eL GProp.enc x0,GKey.av x1,GDesc.av x2,eI v3,eI v4,eB v5,eL GProp.enc v6,eL GProp.enc v7,eL GProp.enc v8,eL GProp.enc v9] xn
  (wC (ct_table_asked x0 x1) <|
  wC (ct_table_at x0 x1) <|
  wC (ct_table_whole x2) <|
  wSub rfl <|
  wApp (f:=GProp.enc) [(GProp.mk x1 x2)] rfl <|
  wSub rfl <|
  wRok (f:=GProp.enc) rfl <|
  wLen2 <|
  wT <|
  wT <|
  wSt (f:=GProp.enc) (GProp.mk (x0.getD (v4:Int).toNat default).Key x2) rfl <|
  wSub rfl <|
  wn)
  ln
  (selE eR_sProp_ii64 rfl rfl (selE eR_sProp_ii64 rfl rfl (selE eR_sProp_ii64 rfl rfl (selE eR_sProp_ii64 rfl rfl (selL rfl)))))
def R25 : PRes:=
 let p0:Pc:=((qN (V 2) (.li 0)),false)::[]
 let p1:Pc:=((qH (V 3) (.li 0)),true)::p0
 ⟨[((qN (V 2) (.li 0)),(.tup [(.agg [(zU (.li 0)),(zU (.li 0)),(zF (.lf 0)),(zS (.ls [])),(zI (.li 0)),(zU (.li 0)),(zF (.lf 0)),(zS (.ls [])),(zI (.li 0)),(zU (.li 0)),(zF (.lf 0)),(zS (.ls [])),(zI (.li 0)),(zB (.lb false)),(zB (.lb false)),(zB (.lb false))]),(zB (.lb false)),(zI (V 2))])),((qH (V 3) (.li 0)),(.tup [(.agg (cW 4 2 GDesc.kds)),(zB (.lb true)),(zI (.li 0))])),((.lb true),(.tup [(.agg [(zU (.li 0)),(zU (.li 0)),(zF (.lf 0)),(zS (.ls [])),(zI (.li 0)),(zU (.li 0)),(zF (.lf 0)),(zS (.ls [])),(zI (.li 0)),(zU (.li 0)),(zF (.lf 0)),(zS (.ls [])),(zI (.li 0)),(zB (.lb false)),(zB (.lb false)),(zB (.lb false))]),(zB (.lb false)),(zI (.li 0))]))],
 [([],(.call 58 [(zL (V 0)),(.agg [(zS (W 1 0)),(zI (W 1 1))])] (zI (V 2)))),
 (p0,(.call 59 [(zL (V 0)),(.agg [(zS (W 1 0)),(zI (W 1 1))])] (zI (V 3)))),
 (p1,(.row (V 0) (V 3) (cV 4 GProp.kds)))],[]⟩
theorem e25 : sFnI Try.prog xBase iBase mdI (fcI kA 25 [] []) 3 200 25 [zL (V 0),.agg (cV 1 GKey.kds)] 2=some R25:=by kernel_rfl
theorem ct_table_Find (x0:List GProp)(x1:GKey):CT Try.prog sT 25 [eL GProp.enc x0,GKey.av x1] (eR_Desc_bool_ii64 (table_Find x0 x1)):=
 let v2:Int:=table_asked x0 x1
 let v3:Int:=table_at x0 x1
 let v4:GProp:=x0.getD (v3:Int).toNat default
 mkH hmix xBase_ok iBase_ok e25 lh0 (by kernel_rfl) [eL GProp.enc x0,GKey.av x1,eI v2,eI v3,GProp.av v4] xn
  (wC (ct_table_asked x0 x1) <|
  wC (ct_table_at x0 x1) <|
  wR rfl <|
  wn)
  ln
  (selE eR_Desc_bool_ii64 rfl rfl (selE eR_Desc_bool_ii64 rfl rfl (selL rfl)))
def R36 : PRes:=
 let p0:Pc:=((.and (.and (.and (.and (qE (W 3 1) (.li 0)) (qE (.rlen (W 3 0)) (.li 1))) (qE (W 5 2) (.li 0))) (W 5 1)) (.bin .eql .flt (.var 5 [0,2]) (.lf 4607182418800017408))),true)::[]
 ⟨[((.lb true),(zB (.and (.and (.and (.and (.and (qE (W 3 1) (.li 0)) (qE (.rlen (W 3 0)) (.li 1))) (qE (W 5 2) (.li 0))) (W 5 1)) (.bin .eql .flt (.var 5 [0,2]) (.lf 4607182418800017408))) (qE (V 6) (.li 0)))))],
 [([],(.call 71 [(zS (.ls [97]))] (.agg [(zS (W 0 0)),(zI (W 0 1))]))),
 ([],(.call 73 [(zF (.lf 4607182418800017408))] (.agg (cV 1 GVal.kds)))),
 ([],(.call 72 [(.agg (cV 1 GVal.kds))] (.agg (cV 2 GDesc.kds)))),
 ([],(.call 13 [(.slc [] false),(.agg [(zS (W 0 0)),(zI (W 0 1))]),(.agg (cV 2 GDesc.kds))] (.tup [(zL (W 3 0)),(zI (W 3 1))]))),
 ([],(.call 71 [(zS (.ls [97]))] (.agg [(zS (W 4 0)),(zI (W 4 1))]))),
 ([],(.call 25 [(zL (W 3 0)),(.agg [(zS (W 4 0)),(zI (W 4 1))])] (.tup [(.agg (cellsV 5 [0] 0 GDesc.kds)),(zB (W 5 1)),(zI (W 5 2))]))),
 (p0,(.call 23 [(zL (W 3 0))] (zI (V 6))))],[]⟩
theorem e36 : sFnI Try.prog xBase iBase mdI (fcI kA 36 [] []) 3 200 36 [] 0=some R36:=by kernel_rfl
theorem ct_law10_alive : CT Try.prog sT 36 [] (eB law10_alive):=
 mkH hmix xBase_ok iBase_ok e36 lh0 (by kernel_rfl) [GKey.av (key_Of [97]),GVal.av (value_Num 4607182418800017408),GDesc.av (desc_Data (value_Num 4607182418800017408)),eR_sProp_ii64 (table_Put [] (key_Of [97]) (desc_Data (value_Num 4607182418800017408))),GKey.av (key_Of [97]),eR_Desc_bool_ii64 (table_Find (table_Put [] (key_Of [97]) (desc_Data (value_Num 4607182418800017408))).1 (key_Of [97])),eI (table_Check (table_Put [] (key_Of [97]) (desc_Data (value_Num 4607182418800017408))).1)] xn
  (wC (ct_key_Of [97]) <|
  wC (ct_value_Num 4607182418800017408) <|
  wC (ct_desc_Data (value_Num 4607182418800017408)) <|
  wC (ct_table_Put [] (key_Of [97]) (desc_Data (value_Num 4607182418800017408))) <|
  wC (ct_key_Of [97]) <|
  wC (ct_table_Find (table_Put [] (key_Of [97]) (desc_Data (value_Num 4607182418800017408))).1 (key_Of [97])) <|
  wC (ct_table_Check (table_Put [] (key_Of [97]) (desc_Data (value_Num 4607182418800017408))).1) <|
  wn)
  ln
  (selL rfl)
def R11 : PRes:=
 ⟨[((.lb true),(zB (.or (.and (qG (.rlen (V 0)) (.li 200)) (qL (.rlen (V 0)) (.li 1020))) (qG (.rlen (V 0)) (.li 1100)))))],
 [],[]⟩
theorem e11 : sFnI Try.prog xBase iBase mdI (fcI kA 11 [] []) 3 200 11 [zL (V 0)] 1=some R11:=by kernel_rfl
theorem ct_law10_long (x0:List GProp):CT Try.prog sT 11 [eL GProp.enc x0] (eB (law10_long x0)):=
 mkH hmix xBase_ok iBase_ok e11 lh0 (by kernel_rfl) [eL GProp.enc x0] xn
  wn
  ln
  (selL rfl)
def R89 : PRes:=
 ⟨[((.lb true),(zB (.and (.bin .geq kU (W 0 0) (.li 6)) (.bin .leq kU (W 0 0) (.li 8)))))],
 [],[]⟩
theorem e89 : sFnI Try.prog xBase iBase mdI (fcI kA 89 [] []) 3 200 89 [.agg (cV 0 GVal.kds)] 1=some R89:=by kernel_rfl
theorem ct_value_IsObject (x0:GVal):CT Try.prog sT 89 [GVal.av x0] (eB (value_IsObject x0)):=
 mkH hmix xBase_ok iBase_ok e89 lh0 (by kernel_rfl) [GVal.av x0] xn
  wn
  ln
  (selL rfl)
def R100 : PRes:=
 let p0:Pc:=((V 2),true)::[]
 ⟨[((.and (V 2) (V 3)),(zB (qE (W 0 3) (W 1 3)))),((uN (W 0 0) (W 1 0)),(zB (.lb false))),((.or (uE (W 0 0) (.li 0)) (uE (W 0 0) (.li 1))),(zB (.lb true))),((.or (uE (W 0 0) (.li 2)) (uE (W 0 0) (.li 3))),(zB (.bin .eql .flt (W 0 1) (W 1 1)))),((uE (W 0 0) (.li 4)),(zB (sE (W 0 2) (W 1 2)))),((uE (W 0 0) (.li 5)),(zB (qE (W 0 3) (W 1 3)))),((.lb true),(zB (.lb false)))],
 [([],(.call 89 [(.agg (cV 0 GVal.kds))] (zB (V 2)))),
 (p0,(.call 89 [(.agg (cV 1 GVal.kds))] (zB (V 3))))],[]⟩
theorem e100 : sFnI Try.prog xBase iBase mdI (fcI kA 100 [] []) 3 200 100 [.agg (cV 0 GVal.kds),.agg (cV 1 GVal.kds)] 2=some R100:=by kernel_rfl
theorem ct_value_Strict (x0:GVal)(x1:GVal):CT Try.prog sT 100 [GVal.av x0,GVal.av x1] (eB (value_Strict x0 x1)):=
 let v2:Bool:=value_IsObject x0
 let v3:Bool:=value_IsObject x1
 mkH hmix xBase_ok iBase_ok e100 lh0 (by kernel_rfl) [GVal.av x0,GVal.av x1,eB v2,eB v3] xn
  (wC (ct_value_IsObject x0) <|
  wC (ct_value_IsObject x1) <|
  wn)
  ln
  (selE (fun r=>.p (.bool r)) rfl rfl (selE (fun r=>.p (.bool r)) rfl rfl (selE (fun r=>.p (.bool r)) rfl rfl (selE (fun r=>.p (.bool r)) rfl rfl (selE (fun r=>.p (.bool r)) rfl rfl (selE (fun r=>.p (.bool r)) rfl rfl (selL rfl)))))))
def R74 : PRes:=
 let p0:Pc:=((.and (.and (uE (W 0 0) (.li 3)) (uE (W 1 0) (.li 3))) (.bin .neq .flt (W 0 1) (W 0 1))),false)::[]
 ⟨[((.and (.and (uE (W 0 0) (.li 3)) (uE (W 1 0) (.li 3))) (.bin .neq .flt (W 0 1) (W 0 1))),(zB (.bin .neq .flt (W 1 1) (W 1 1)))),((.lb true),(zB (V 2)))],
 [(p0,(.call 100 [(.agg (cV 0 GVal.kds)),(.agg (cV 1 GVal.kds))] (zB (V 2))))],[]⟩
theorem e74 : sFnI Try.prog xBase iBase mdI (fcI kA 74 [] []) 3 200 74 [.agg (cV 0 GVal.kds),.agg (cV 1 GVal.kds)] 2=some R74:=by kernel_rfl
theorem ct_value_Same (x0:GVal)(x1:GVal):CT Try.prog sT 74 [GVal.av x0,GVal.av x1] (eB (value_Same x0 x1)):=
 let v2:Bool:=value_Strict x0 x1
 mkH hmix xBase_ok iBase_ok e74 lh0 (by kernel_rfl) [GVal.av x0,GVal.av x1,eB v2] xn
  (wC (ct_value_Strict x0 x1)<|wn)
  ln
  (selE (fun r=>.p (.bool r)) rfl rfl (selL rfl))
def R38 : PRes:=
 let p0:Pc:=((uN (W 0 0) (W 1 0)),false)::[]
 let p1:Pc:=((uN (.bin .and kU (W 0 0) (.li 1)) (.li 0)),true)::p0
 let p2:Pc:=((.and (uN (.bin .and kU (W 0 0) (.li 1)) (.li 0)) (.not (V 2))),false)::p0
 let p3:Pc:=((uN (.bin .and kU (W 0 0) (.li 4)) (.li 0)),true)::p2
 let p4:Pc:=((.and (uN (.bin .and kU (W 0 0) (.li 4)) (.li 0)) (.not (V 3))),false)::p2
 let p5:Pc:=((uN (.bin .and kU (W 0 0) (.li 8)) (.li 0)),true)::p4
 ⟨[((.or (uN (W 0 0) (W 1 0)) (.or (.and (uN (.bin .and kU (W 0 0) (.li 1)) (.li 0)) (.not (V 2))) (.or (.and (uN (.bin .and kU (W 0 0) (.li 4)) (.li 0)) (.not (V 3))) (.or (.and (uN (.bin .and kU (W 0 0) (.li 8)) (.li 0)) (.not (V 4))) (.or (.and (uN (.bin .and kU (W 0 0) (.li 2)) (.li 0)) (.not (.bin .eql .bool (W 0 13) (W 1 13)))) (.or (.and (uN (.bin .and kU (W 0 0) (.li 16)) (.li 0)) (.not (.bin .eql .bool (W 0 14) (W 1 14)))) (.and (uN (.bin .and kU (W 0 0) (.li 32)) (.li 0)) (.not (.bin .eql .bool (W 0 15) (W 1 15)))))))))),(zB (.lb false))),((.lb true),(zB (.lb true)))],
 [(p1,(.call 74 [(.agg (cW 0 1 GVal.kds)),(.agg (cW 1 1 GVal.kds))] (zB (V 2)))),
 (p3,(.call 74 [(.agg (cW 0 5 GVal.kds)),(.agg (cW 1 5 GVal.kds))] (zB (V 3)))),
 (p5,(.call 74 [(.agg (cW 0 9 GVal.kds)),(.agg (cW 1 9 GVal.kds))] (zB (V 4))))],[]⟩
theorem e38 : sFnI Try.prog xBase iBase mdI (fcI kA 38 [] []) 3 200 38 [.agg (cV 0 GDesc.kds),.agg (cV 1 GDesc.kds)] 2=some R38:=by kernel_rfl
theorem ct_desc_Same (x0:GDesc)(x1:GDesc):CT Try.prog sT 38 [GDesc.av x0,GDesc.av x1] (eB (desc_Same x0 x1)):=
 let v2:Bool:=value_Same x0.Value x1.Value
 let v3:Bool:=value_Same x0.Get x1.Get
 let v4:Bool:=value_Same x0.Set x1.Set
 mkH hmix xBase_ok iBase_ok e38 lh0 (by kernel_rfl) [GDesc.av x0,GDesc.av x1,eB v2,eB v3,eB v4] xn
  (wC (ct_value_Same x0.Value x1.Value) <|
  wC (ct_value_Same x0.Get x1.Get) <|
  wC (ct_value_Same x0.Set x1.Set) <|
  wn)
  ln
  (selE (fun r=>.p (.bool r)) rfl rfl (selL rfl))
def R15 : PRes:=
 let p0:Pc:=((qN (V 2) (.li 0)),false)::[]
 let p1:Pc:=((qL (V 3) (.li 0)),true)::p0
 let p2:Pc:=((qL (V 3) (.li 0)),false)::p0
 ⟨[((qN (V 2) (.li 0)),(.tup [(.slc [] false),(zI (V 2))])),((qL (V 3) (.li 0)),(.tup [(zL (V 0)),(zI (.li 0))])),((.lb true),(.tup [(zL (V 6)),(zI (.li 0))]))],
 [([],(.call 58 [(zL (V 0)),(.agg [(zS (W 1 0)),(zI (W 1 1))])] (zI (V 2)))),
 (p0,(.call 59 [(zL (V 0)),(.agg [(zS (W 1 0)),(zI (W 1 1))])] (zI (V 3)))),
 (p1,(.sub 18 (V 0) none (some (.li 0)) .nl)),
 (p1,(.rok 18 (V 0))),
 (p1,(.len2 0 (V 0))),
 (p2,(.sub 18 (V 0) none (some (.li 0)) .nl)),
 (p2,(.sub 18 (V 0) (some (.li 0)) (some (V 3)) (V 4))),
 (p2,(.rok 18 (V 4))),
 (p2,(.len2 0 (V 4))),
 (p2,(.sub 18 (V 0) (some (aI (V 3) (.li 1))) (some (.rlen (V 0))) (V 5))),
 (p2,(.rok 18 (V 5))),
 (p2,(.app2 18 (V 4) (V 5) (V 6)))],[]⟩
theorem e15 : sFnI Try.prog xBase iBase mdI (fcI kA 15 [] []) 3 200 15 [zL (V 0),.agg (cV 1 GKey.kds)] 2=some R15:=by kernel_rfl
theorem ct_table_Drop (x0:List GProp)(x1:GKey):CT Try.prog sT 15 [eL GProp.enc x0,GKey.av x1] (eR_sProp_ii64 (table_Drop x0 x1)):=
 let v2:Int:=table_asked x0 x1
 let v3:Int:=table_at x0 x1
 let v4:List GProp:=(x0.drop ((0:Int).toNat)).take ((v3:Int).toNat-(0:Int).toNat)
 let v5:List GProp:=(x0.drop (((iAdd .i64 v3 1):Int).toNat)).take (((mLen GProp.enc x0):Int).toNat-((iAdd .i64 v3 1):Int).toNat)
 let v6:List GProp:=v4++v5
 mkH hmix xBase_ok iBase_ok e15 lh0 (by kernel_rfl) [eL GProp.enc x0,GKey.av x1,eI v2,eI v3,eL GProp.enc v4,eL GProp.enc v5,eL GProp.enc v6] xn
  (wC (ct_table_asked x0 x1) <|
  wC (ct_table_at x0 x1) <|
  wSub rfl <|
  wRok (f:=GProp.enc) rfl <|
  wLen2 <|
  wSub rfl <|
  wSub rfl <|
  wRok (f:=GProp.enc) rfl <|
  wLen2 <|
  wSub rfl <|
  wRok (f:=GProp.enc) rfl <|
  wApp2 (f:=GProp.enc) (l:=v4) (q:=v5) rfl rfl <|
  wn)
  ln
  (selE eR_sProp_ii64 rfl rfl (selE eR_sProp_ii64 rfl rfl (selL rfl)))
def L92_1 : Lo:=
 let p0:Pc:=((.and (qG (.slen (W 0 0)) (.li 1)) (uE (.byte (W 0 0) (.li 0)) (.li 48))),false)::[]
 let p1:Pc:=((qG (.slen (W 0 0)) (.li 4)),false)::p0
 let p2:Pc:=((sE (W 0 0) (.ls [])),false)::p1
 let p3:Pc:=((qG (W 0 1) (.li 0)),false)::p2
 let p4:Pc:=((qL (V 4) (.slen (W 0 0))),true)::p3
 let p5:Pc:=((.bin .lss kU (.byte (W 0 0) (V 4)) (.li 48)),false)::p4
 let p6:Pc:=((.bin .gtr kU (.byte (W 0 0) (V 4)) (.li 57)),false)::p4
 let p7:Pc:=((.bin .lss kU (.byte (W 0 0) (V 4)) (.li 48)),false)::p6
 .mk [((qG (W 0 1) (.li 0)),false),((sE (W 0 0) (.ls [])),false),((qG (.slen (W 0 0)) (.li 4)),false),((.and (qG (.slen (W 0 0)) (.li 1)) (uE (.byte (W 0 0) (.li 0)) (.li 48))),false)] 1 4 [(zI (.li 0)),(zB (.lb false)),(zI (.li 0)),(zI (.li 0))] [((.not (qL (V 4) (.slen (W 0 0)))),1,[(zI (V 1)),(zB (V 2)),(zI (V 3))]),((.or (.bin .lss kU (.byte (W 0 0) (V 4)) (.li 48)) (.bin .gtr kU (.byte (W 0 0) (V 4)) (.li 57))),2,[(zI (.li 0)),(zB (.lb false))]),((.lb true),0,[(zI (V 1)),(zB (V 2)),(zI (aI (.bin .mul kI (V 3) (.li 10)) (.conv .i64 (.bin .sub kU (.byte (W 0 0) (V 4)) (.li 48))))),(zI (aI (V 4) (.li 1)))])] [(p4,(.tm (qM (.li 0) (V 4)))),
 (p5,(.tm (qM (.li 0) (V 4)))),
 (p7,(.tm (qM (.li 0) (V 4))))] [] [3,2] []
def H92_1 : LH:=.mk [(qM (.li 0) (V 4))] (mI (.slen (W 0 0)) (V 4)) [((.slen (W 0 0)),1)] [] 1 [] []
def rk_key_Index_l1 (r:Bool×Int×Bool×Int×Int×Bool):Nat×List AV:=rk2 r.1 [eI r.2.1,eB r.2.2.1,eI r.2.2.2.1] [eI r.2.2.2.2.1,eB r.2.2.2.2.2]
theorem lp_key_Index_l1 (x0:GKey):∀(n:Nat) (u1:Int) (u2:Bool) (u3:Int) (u4:Int),RunL Try.prog sT L92_1 H92_1 [GKey.av x0] n [eI u1,eB u2,eI u3,eI u4] (rk_key_Index_l1 (key_Index_l1 x0 n u1 u2 u3 u4))
 |0,u1,u2,u3,u4=>l0
 |n+1,u1,u2,u3,u4=>
  lmk rfl [] xn (wT <|
  wT <|
  wT <|
  wn) ln <|
   rc rk_key_Index_l1 rx<|rc rk_key_Index_l1 rx<|rl (rg (lp_key_Index_l1 x0 n _ _ _ _))
def R92 : PRes:=
 let p0:Pc:=((.or (.or (qG (W 0 1) (.li 0)) (sE (W 0 0) (.ls []))) (qG (.slen (W 0 0)) (.li 4))),false)::[]
 let p1:Pc:=((qG (.slen (W 0 0)) (.li 1)),true)::p0
 ⟨[((.or (.or (.or (qG (W 0 1) (.li 0)) (sE (W 0 0) (.ls []))) (qG (.slen (W 0 0)) (.li 4))) (.and (qG (.slen (W 0 0)) (.li 1)) (uE (.byte (W 0 0) (.li 0)) (.li 48)))),(.tup [(zI (.li 0)),(zB (.lb false))])),((.not (qE (V 1) (.li 0))),(.tup [(zI (V 5)),(zB (V 6))])),((qH (V 4) (.li 1024)),(.tup [(zI (.li 0)),(zB (.lb false))])),((.lb true),(.tup [(zI (V 4)),(zB (.lb true))]))],
 [(p1,(.tm (qL (.li 0) (.slen (W 0 0)))))],[L92_1]⟩
def H92 : LH:=.mk [] (.li 0) [] [] 0 [H92_1] []
theorem e92 : sFnI Try.prog xBase iBase mdI (fcI kA 92 [44,46,45,47,48,35,5,4,2,3] [(0,(.mk [1,34] (.mk [(2,(.sc kI)),(3,(.sc .bool)),(4,(.sc kI)),(35,(.sc kI))] [] [] 34) [(.normal,(.mk [(2,(.sc kI)),(3,(.sc .bool)),(4,(.sc kI))] [] [] 34)),(.ret,(.mk [(2,(.sc kI)),(3,(.sc .bool))] [] [] 34))]))]) 3 200 92 [.agg (cV 0 GKey.kds)] 1=some R92:=by kernel_rfl
theorem ct_key_Index (x0:GKey):CT Try.prog sT 92 [GKey.av x0] (eR_ii64_bool (key_Index x0)):=
 let r1:Bool×Int×Bool×Int×Int×Bool:=key_Index_l1 x0 (((sLen x0.Str):Int).toNat+1) 0 false 0 0
 mkH hmix xBase_ok iBase_ok e92 H92 (by kernel_rfl) [GKey.av x0,eI (selB r1.1),eI r1.2.1,eB r1.2.2.1,eI r1.2.2.2.1,eI r1.2.2.2.2.1,eB r1.2.2.2.2.2] xn
  (wT<|wn)
  (lc2 (lp_key_Index_l1 x0 (((sLen x0.Str):Int).toNat+1) 0 false 0 0) <|
  ln)
  (selE eR_ii64_bool rfl rfl (selE eR_ii64_bool rfl rfl (selE eR_ii64_bool rfl rfl (selL rfl))))
def R65 : PRes:=
 ⟨[((W 1 1),(.tup [(zI (.li 0)),(zI (W 1 0))])),((qG (W 0 1) (.li 0)),(.tup [(zI (.li 2)),(zI (.li 0))])),((.lb true),(.tup [(zI (.li 1)),(zI (.li 0))]))],
 [([],(.call 92 [(.agg [(zS (W 0 0)),(zI (W 0 1))])] (.tup [(zI (W 1 0)),(zB (W 1 1))])))],[]⟩
theorem e65 : sFnI Try.prog xBase iBase mdI (fcI kA 65 [] []) 3 200 65 [.agg (cV 0 GKey.kds)] 1=some R65:=by kernel_rfl
theorem ct_key_place (x0:GKey):CT Try.prog sT 65 [GKey.av x0] (eR_ii64_ii64 (key_place x0)):=
 let v1:Int×Bool:=key_Index x0
 mkH hmix xBase_ok iBase_ok e65 lh0 (by kernel_rfl) [GKey.av x0,eR_ii64_bool v1] xn
  (wC (ct_key_Index x0)<|wn)
  ln
  (selE eR_ii64_ii64 rfl rfl (selE eR_ii64_ii64 rfl rfl (selL rfl)))
def L124w4_5 : Lo:=
 let p0:Pc:=((qL (V 3) (V 2)),true)::[]
 let p1:Pc:=((qG (V 5) (V 1)),true)::p0
 let p2:Pc:=((.and (qG (V 5) (V 1)) (.not (.or (qL (W 8 0) (W 10 0)) (.and (qE (W 8 0) (W 10 0)) (qL (W 8 1) (W 10 1)))))),false)::p0
 let p3:Pc:=((qG (V 5) (V 1)),true)::p2
 .mk [((qL (V 3) (V 2)),true)] 5 2 [(zI (V 3)),(zL (V 4))] [((.and (qG (V 5) (V 1)) (.not (.or (qL (W 8 0) (W 10 0)) (.and (qE (W 8 0) (W 10 0)) (qL (W 8 1) (W 10 1)))))),1,[(zI (V 5)),(zL (V 6))]),((.not (qG (V 5) (V 1))),1,[(zI (V 5)),(zL (V 6))]),((.lb true),0,[(zI (mI (V 5) (.li 1))),(zL (V 14))])] [(p1,(.tm (qM (.li 0) (V 5)))),
 (p1,(.tm (qL (V 5) (.rlen (V 0))))),
 (p1,(.rd (true,2) (V 6) (V 5) 0 (.agg [(zS (W 7 0)),(zI (W 7 1))]))),
 (p1,(.call 65 [(.agg [(zS (W 7 0)),(zI (W 7 1))])] (.tup [(zI (W 8 0)),(zI (W 8 1))]))),
 (p1,(.tm (qM (.li 0) (mI (V 5) (.li 1))))),
 (p1,(.tm (qL (mI (V 5) (.li 1)) (.rlen (V 0))))),
 (p1,(.rd (true,2) (V 6) (mI (V 5) (.li 1)) 0 (.agg [(zS (W 9 0)),(zI (W 9 1))]))),
 (p1,(.call 65 [(.agg [(zS (W 9 0)),(zI (W 9 1))])] (.tup [(zI (W 10 0)),(zI (W 10 1))]))),
 (p3,(.tm (qM (.li 0) (V 5)))),
 (p3,(.tm (qL (V 5) (.rlen (V 6))))),
 (p3,(.tm (qM (.li 0) (mI (V 5) (.li 1))))),
 (p3,(.tm (qL (mI (V 5) (.li 1)) (.rlen (V 6))))),
 (p3,(.row (V 6) (V 5) [(zS (W 11 0)),(zI (W 11 1))])),
 (p3,(.row (V 6) (mI (V 5) (.li 1)) [(zS (W 12 0)),(zI (W 12 1))])),
 (p3,(.st (V 6) (V 5) 0 [(zS (W 12 0)),(zI (W 12 1))] (V 13))),
 (p3,(.st (V 13) (mI (V 5) (.li 1)) 0 [(zS (W 11 0)),(zI (W 11 1))] (V 14))),
 (p3,(.tm (qE (.rlen (V 0)) (.rlen (V 6)))))] [] [2] []
def H124w4_5 : LH:=.mk [(qM (V 5) (V 3)),(qE (.rlen (V 6)) (.rlen (V 4)))] (mI (V 5) (V 1)) [((V 3),1),((V 1),(-1))] [] 0 [] [[(qE (.rlen (V 6)) (.rlen (V 4)))]]
def rk_sort_insertionSort_func_w3_2_l5 (r:Int×List GKey):Nat×List AV:=(0,[eI r.1,eL GKey.enc r.2])
theorem lp_sort_insertionSort_func_w3_2_l5 (x0:List GKey)(x1:Int)(x2:Int)(u3:Int)(u4:List GKey):∀(n:Nat) (u5:Int) (u6:List GKey),RunL Try.prog sT L124w4_5 H124w4_5 [eL GKey.enc x0,eI x1,eI x2,eI u3,eL GKey.enc u4] n [eI u5,eL GKey.enc u6] (rk_sort_insertionSort_func_w3_2_l5 (sort_insertionSort_func_w3_2_l5 x1 n u5 u6))
 |0,u5,u6=>l0
 |n+1,u5,u6=>
  let v7:GKey:=u6.getD (u5:Int).toNat default
  let v8:Int×Int:=key_place v7
  let v9:GKey:=u6.getD ((iSub .i64 u5 1):Int).toNat default
  let v10:Int×Int:=key_place v9
  let v11:GKey:=u6.getD (u5:Int).toNat default
  let v12:GKey:=u6.getD ((iSub .i64 u5 1):Int).toNat default
  let v13:List GKey:=u6.set (u5:Int).toNat v12
  let v14:List GKey:=v13.set ((iSub .i64 u5 1):Int).toNat v11
  lmk rfl [GKey.av v7,eR_ii64_ii64 v8,GKey.av v9,eR_ii64_ii64 v10,GKey.av v11,GKey.av v12,eL GKey.enc v13,eL GKey.enc v14] xn (wT <|
  wT <|
  wRd rfl <|
  wC (ct_key_place v7) <|
  wT <|
  wT <|
  wRd rfl <|
  wC (ct_key_place v9) <|
  wT <|
  wT <|
  wT <|
  wT <|
  wR rfl <|
  wR rfl <|
  wSt (f:=GKey.enc) v12 rfl <|
  wSt (f:=GKey.enc) v11 rfl <|
  wT <|
  wn) ln <|
   rc rk_sort_insertionSort_func_w3_2_l5 rx<|rc rk_sort_insertionSort_func_w3_2_l5 rx<|rl (rg (lp_sort_insertionSort_func_w3_2_l5 x0 x1 x2 u3 u4 n _ _))
def L124w4_3 : Lo:=
 .mk [] 3 2 [(zI (aI (V 1) (.li 1))),(zL (V 0))] [((.not (qL (V 3) (V 2))),1,[(zL (V 4))]),((.lb true),0,[(zI (aI (V 3) (.li 1))),(zL (V 6))])] [] [L124w4_5] [1] []
def H124w4_3 : LH:=.mk [(qM (aI (V 1) (.li 1)) (V 3)),(qE (.rlen (V 4)) (.rlen (V 0)))] (mI (V 2) (V 3)) [((V 2),1)] [] 0 [H124w4_5] [[(qE (.rlen (V 3)) (.rlen (V 0)))]]
def rk_sort_insertionSort_func_w3_2_l3 (r:List GKey):Nat×List AV:=(0,[eL GKey.enc r])
theorem lp_sort_insertionSort_func_w3_2_l3 (x0:List GKey)(x1:Int)(x2:Int):∀(n:Nat) (u3:Int) (u4:List GKey),RunL Try.prog sT L124w4_3 H124w4_3 [eL GKey.enc x0,eI x1,eI x2] n [eI u3,eL GKey.enc u4] (rk_sort_insertionSort_func_w3_2_l3 (sort_insertionSort_func_w3_2_l3 x1 x2 n u3 u4))
 |0,u3,u4=>l0
 |n+1,u3,u4=>
  let r5:Int×List GKey:=sort_insertionSort_func_w3_2_l5 x1 ((u3-x1).toNat+1) u3 u4
  lmk rfl [eI r5.1,eL GKey.enc r5.2] xn wn (lc1 (lp_sort_insertionSort_func_w3_2_l5 x0 x1 x2 u3 u4 ((u3-x1).toNat+1) u3 u4) (hn:=(show ((1)*(u3)+((-1)*(x1)+(0)):Int)<_ by first|omega|(simp only [lens];omega))) <|
  ln) <|
   rc rk_sort_insertionSort_func_w3_2_l3 rx<|rl (rg (lp_sort_insertionSort_func_w3_2_l3 x0 x1 x2 n _ _))
def R124w4 : PRes:=
 ⟨[((.lb true),(.tup [(.tup []),(zL (V 3))]))],
 [],[L124w4_3]⟩
def H124w4 : LH:=.mk [] (.li 0) [] [] 0 [H124w4_3] []
theorem e124w4 : sFnW Try.prog xBase iBase mdI (fcI kA 124 [7,6,25,21,22,24,23,20] [(0,(.mk [1,2,3] (.mk [(6,(.sc kI))] [] [(2,2)] 8) [(.normal,(.mk [] [] [(2,2)] 8))])),(2,(.mk [1,2,3,6] (.mk [(7,(.sc kI))] [] [(2,2)] 13) [(.normal,(.mk [(7,(.sc kI))] [] [(2,2)] 13))]))]) 3 200 124 [(.agg [(.fn 64 [] [(.op 3 1 (.li 0) 0)]),(.fn 123 [] [(.os 2 2 0 (.rlen (V 0))),(.c (.at 1 24))])]),(zI (V 1)),(zI (V 2))] 3 [(3,(.rows 1 [[(.os 2 2 0 (.rlen (V 0)))]])),(2,(.rowsT 2 (V 0)))] [(2,2)] 4=some R124w4:=by kernel_rfl
theorem ctw_sort_insertionSort_func_w3_2 (x0:List GKey)(x1:Int)(x2:Int){L:Nat}(hL:L=(List.map GKey.enc x0).length):CTw Try.prog sT 124 [(.agg [(.fn (.func 64) [] [(.op 3 1 0 0)]),(.fn (.func 123) [] [(.os 2 2 0 L),(.p (Cv.val (.at 1 24)))])]),(.p (.int .i64 x1)),(.p (.int .i64 x2))] [(3,.rows 1 [[(.os 2 2 0 L)]]),(2,.rows 2 (List.map GKey.enc x0))] 4 (.tup []) [(3,.rows 1 [[(.os 2 2 0 L)]]),(2,.rows 2 (List.map GKey.enc (sort_insertionSort_func_w3_2 x0 x1 x2)))]:=by subst hL;exact (
 let r3:List GKey:=sort_insertionSort_func_w3_2_l3 x1 x2 ((x2:Int).toNat+1) (iAdd .i64 x1 1) x0
 mkW (cs:=[eL GKey.enc (sort_insertionSort_func_w3_2 x0 x1 x2)]) hmix xBase_ok iBase_ok e124w4 H124w4 (by kernel_rfl) [eL GKey.enc x0,eI x1,eI x2,eL GKey.enc r3] xn
  wn
  (lc1 (lp_sort_insertionSort_func_w3_2_l3 x0 x1 x2 ((x2:Int).toNat+1) (iAdd .i64 x1 1) x0) <|
  ln)
  (selL rfl))
def L154w4_4 : Lo:=
 let p0:Pc:=((qL (V 4) (V 3)),true)::[]
 .mk [] 4 2 [(zI (.li 0)),(zL (V 0))] [((.not (qL (V 4) (V 3))),1,[(zL (V 5))]),((.lb true),0,[(zI (aI (V 4) (.li 1))),(zL (V 9))])] [(p0,(.tm (qM (.li 0) (aI (V 1) (V 4))))),
 (p0,(.tm (qL (aI (V 1) (V 4)) (.rlen (V 5))))),
 (p0,(.tm (qM (.li 0) (aI (V 2) (V 4))))),
 (p0,(.tm (qL (aI (V 2) (V 4)) (.rlen (V 5))))),
 (p0,(.row (V 5) (aI (V 1) (V 4)) [(zS (W 6 0)),(zI (W 6 1))])),
 (p0,(.row (V 5) (aI (V 2) (V 4)) [(zS (W 7 0)),(zI (W 7 1))])),
 (p0,(.st (V 5) (aI (V 1) (V 4)) 0 [(zS (W 7 0)),(zI (W 7 1))] (V 8))),
 (p0,(.st (V 8) (aI (V 2) (V 4)) 0 [(zS (W 6 0)),(zI (W 6 1))] (V 9))),
 (p0,(.tm (qE (.rlen (V 0)) (.rlen (V 5)))))] [] [1] []
def H154w4_4 : LH:=.mk [(qE (.rlen (V 5)) (.rlen (V 0))),(qM (.li 0) (V 4))] (mI (V 3) (V 4)) [((V 3),1)] [] 0 [] [[(qE (.rlen (V 4)) (.rlen (V 0)))]]
def rk_sort_swapRange_func_w3_2_l4 (r:List GKey):Nat×List AV:=(0,[eL GKey.enc r])
theorem lp_sort_swapRange_func_w3_2_l4 (x0:List GKey)(x1:Int)(x2:Int)(x3:Int):∀(n:Nat) (u4:Int) (u5:List GKey),RunL Try.prog sT L154w4_4 H154w4_4 [eL GKey.enc x0,eI x1,eI x2,eI x3] n [eI u4,eL GKey.enc u5] (rk_sort_swapRange_func_w3_2_l4 (sort_swapRange_func_w3_2_l4 x1 x2 x3 n u4 u5))
 |0,u4,u5=>l0
 |n+1,u4,u5=>
  let v6:GKey:=u5.getD ((iAdd .i64 x1 u4):Int).toNat default
  let v7:GKey:=u5.getD ((iAdd .i64 x2 u4):Int).toNat default
  let v8:List GKey:=u5.set ((iAdd .i64 x1 u4):Int).toNat v7
  let v9:List GKey:=v8.set ((iAdd .i64 x2 u4):Int).toNat v6
  lmk rfl [GKey.av v6,GKey.av v7,eL GKey.enc v8,eL GKey.enc v9] xn (wT <|
  wT <|
  wT <|
  wT <|
  wR rfl <|
  wR rfl <|
  wSt (f:=GKey.enc) v7 rfl <|
  wSt (f:=GKey.enc) v6 rfl <|
  wT <|
  wn) ln <|
   rc rk_sort_swapRange_func_w3_2_l4 rx<|rl (rg (lp_sort_swapRange_func_w3_2_l4 x0 x1 x2 x3 n _ _))
def R154w4 : PRes:=
 ⟨[((.lb true),(.tup [(.tup []),(zL (V 4))]))],
 [],[L154w4_4]⟩
def H154w4 : LH:=.mk [] (.li 0) [] [] 0 [H154w4_4] []
theorem e154w4 : sFnW Try.prog xBase iBase mdI (fcI kA 154 [8] [(0,(.mk [1,2,3,4] (.mk [(8,(.sc kI))] [] [(2,2)] 6) [(.normal,(.mk [] [] [(2,2)] 6))]))]) 3 200 154 [(.agg [(.fn 64 [] [(.op 3 1 (.li 0) 0)]),(.fn 123 [] [(.os 2 2 0 (.rlen (V 0))),(.c (.at 1 24))])]),(zI (V 1)),(zI (V 2)),(zI (V 3))] 4 [(3,(.rows 1 [[(.os 2 2 0 (.rlen (V 0)))]])),(2,(.rowsT 2 (V 0)))] [(2,2)] 4=some R154w4:=by kernel_rfl
theorem ctw_sort_swapRange_func_w3_2 (x0:List GKey)(x1:Int)(x2:Int)(x3:Int){L:Nat}(hL:L=(List.map GKey.enc x0).length):CTw Try.prog sT 154 [(.agg [(.fn (.func 64) [] [(.op 3 1 0 0)]),(.fn (.func 123) [] [(.os 2 2 0 L),(.p (Cv.val (.at 1 24)))])]),(.p (.int .i64 x1)),(.p (.int .i64 x2)),(.p (.int .i64 x3))] [(3,.rows 1 [[(.os 2 2 0 L)]]),(2,.rows 2 (List.map GKey.enc x0))] 4 (.tup []) [(3,.rows 1 [[(.os 2 2 0 L)]]),(2,.rows 2 (List.map GKey.enc (sort_swapRange_func_w3_2 x0 x1 x2 x3)))]:=by subst hL;exact (
 let r4:List GKey:=sort_swapRange_func_w3_2_l4 x1 x2 x3 ((x3:Int).toNat+1) 0 x0
 mkW (cs:=[eL GKey.enc (sort_swapRange_func_w3_2 x0 x1 x2 x3)]) hmix xBase_ok iBase_ok e154w4 H154w4 (by kernel_rfl) [eL GKey.enc x0,eI x1,eI x2,eI x3,eL GKey.enc r4] xn
  wn
  (lc1 (lp_sort_swapRange_func_w3_2_l4 x0 x1 x2 x3 ((x3:Int).toNat+1) 0 x0) <|
  ln)
  (selL rfl))
def L146w4_4 : Lo:=
 let p0:Pc:=((qN (V 4) (V 5)),true)::[]
 let p1:Pc:=((qG (V 4) (V 5)),true)::p0
 let p2:Pc:=((qG (V 4) (V 5)),false)::p0
 .mk [] 4 3 [(zI (mI (V 2) (V 1))),(zI (mI (V 3) (V 2))),(zL (V 0))] [((.not (qN (V 4) (V 5))),1,[(zI (V 4)),(zL (V 6))]),((qG (V 4) (V 5)),0,[(zI (mI (V 4) (V 5))),(zI (V 5)),(zL (V 7))]),((.lb true),0,[(zI (V 4)),(zI (mI (V 5) (V 4))),(zL (V 9))])] [(p1,(.callw 154 [(.agg [(.fn 64 [] [(.op 3 1 (.li 0) 0)]),(.fn 123 [] [(.os 2 2 0 (.rlen (V 0))),(.c (.at 1 24))])]),(zI (mI (V 2) (V 4))),(zI (V 2)),(zI (V 5))] [(3,(.rows 1 [[(.os 2 2 0 (.rlen (V 0)))]])),(2,(.rowsT 2 (V 6)))] 4 (.tup []) [(3,(.rows 1 [[(.os 2 2 0 (.rlen (V 0)))]])),(2,(.rowsT 2 (V 7)))])),
 (p2,(.callw 154 [(.agg [(.fn 64 [] [(.op 3 1 (.li 0) 0)]),(.fn 123 [] [(.os 2 2 0 (.rlen (V 0))),(.c (.at 1 24))])]),(zI (mI (V 2) (V 4))),(zI (mI (aI (V 2) (V 5)) (V 4))),(zI (V 4))] [(3,(.rows 1 [[(.os 2 2 0 (.rlen (V 0)))]])),(2,(.rowsT 2 (V 6)))] 4 (.tup []) [(3,(.rows 1 [[(.os 2 2 0 (.rlen (V 0)))]])),(2,(.rowsT 2 (V 9)))]))] [] [2] []
def H146w4_4 : LH:=.mk [(qL (.li 0) (V 4)),(qL (.li 0) (V 5)),(qM (V 4) (mI (V 2) (V 1))),(qM (V 5) (mI (V 3) (V 2))),(qE (.rlen (V 6)) (.rlen (V 0)))] (aI (V 4) (V 5)) [((V 3),1),((V 1),(-1))] [] 0 [] [[(qM (.li 0) (V 4)),(qM (V 4) (mI (V 2) (V 1))),(qM (V 4) (mI (V 3) (V 2))),(qE (.rlen (V 5)) (.rlen (V 0)))]]
def rk_sort_rotate_func_w3_2_l4 (r:Int×List GKey):Nat×List AV:=(0,[eI r.1,eL GKey.enc r.2])
theorem lp_sort_rotate_func_w3_2_l4 (x0:List GKey)(x1:Int)(x2:Int)(x3:Int):∀(n:Nat) (u4:Int) (u5:Int) (u6:List GKey),RunL Try.prog sT L146w4_4 H146w4_4 [eL GKey.enc x0,eI x1,eI x2,eI x3] n [eI u4,eI u5,eL GKey.enc u6] (rk_sort_rotate_func_w3_2_l4 (sort_rotate_func_w3_2_l4 x2 n u4 u5 u6))
 |0,u4,u5,u6=>l0
 |n+1,u4,u5,u6=>
  let w7:List GKey:=sort_swapRange_func_w3_2 u6 (iSub .i64 x2 u4) x2 u5
  let v7:List GKey:=w7
  let w9:List GKey:=sort_swapRange_func_w3_2 u6 (iSub .i64 x2 u4) (iSub .i64 (iAdd .i64 x2 u5) u4) u4
  let v9:List GKey:=w9
  lmk rfl [eL GKey.enc v7,undefA,eL GKey.enc v9,undefA] xn (wWL (fun hL=>ctw_sort_swapRange_func_w3_2 u6 (iSub .i64 x2 u4) x2 u5 hL) <|
  wWL (fun hL=>ctw_sort_swapRange_func_w3_2 u6 (iSub .i64 x2 u4) (iSub .i64 (iAdd .i64 x2 u5) u4) u4 hL) <|
  wn) ln <|
   rc rk_sort_rotate_func_w3_2_l4 rx<|rc rk_sort_rotate_func_w3_2_l4 (rg (lp_sort_rotate_func_w3_2_l4 x0 x1 x2 x3 n _ _ _))<|rl (rg (lp_sort_rotate_func_w3_2_l4 x0 x1 x2 x3 n _ _ _))
def R146w4 : PRes:=
 ⟨[((.lb true),(.tup [(.tup []),(zL (V 6))]))],
 [([],(.callw 154 [(.agg [(.fn 64 [] [(.op 3 1 (.li 0) 0)]),(.fn 123 [] [(.os 2 2 0 (.rlen (V 0))),(.c (.at 1 24))])]),(zI (mI (V 2) (V 4))),(zI (V 2)),(zI (V 4))] [(3,(.rows 1 [[(.os 2 2 0 (.rlen (V 0)))]])),(2,(.rowsT 2 (V 5)))] 4 (.tup []) [(3,(.rows 1 [[(.os 2 2 0 (.rlen (V 0)))]])),(2,(.rowsT 2 (V 6)))]))],[L146w4_4]⟩
def H146w4 : LH:=.mk [] (.li 0) [] [] 0 [H146w4_4] []
theorem e146w4 : sFnW Try.prog xBase iBase mdI (fcI kA 146 [1,2,3,4,8,9,18,21] [(0,(.mk [2,4] (.mk [(8,(.sc kI)),(9,(.sc kI))] [] [(2,2)] 13) [(.normal,(.mk [(8,(.sc kI))] [] [(2,2)] 13))]))]) 3 200 146 [(.agg [(.fn 64 [] [(.op 3 1 (.li 0) 0)]),(.fn 123 [] [(.os 2 2 0 (.rlen (V 0))),(.c (.at 1 24))])]),(zI (V 1)),(zI (V 2)),(zI (V 3))] 4 [(3,(.rows 1 [[(.os 2 2 0 (.rlen (V 0)))]])),(2,(.rowsT 2 (V 0)))] [(2,2)] 4=some R146w4:=by kernel_rfl
theorem ctw_sort_rotate_func_w3_2 (x0:List GKey)(x1:Int)(x2:Int)(x3:Int){L:Nat}(hL:L=(List.map GKey.enc x0).length):CTw Try.prog sT 146 [(.agg [(.fn (.func 64) [] [(.op 3 1 0 0)]),(.fn (.func 123) [] [(.os 2 2 0 L),(.p (Cv.val (.at 1 24)))])]),(.p (.int .i64 x1)),(.p (.int .i64 x2)),(.p (.int .i64 x3))] [(3,.rows 1 [[(.os 2 2 0 L)]]),(2,.rows 2 (List.map GKey.enc x0))] 4 (.tup []) [(3,.rows 1 [[(.os 2 2 0 L)]]),(2,.rows 2 (List.map GKey.enc (sort_rotate_func_w3_2 x0 x1 x2 x3)))]:=by subst hL;exact (
 let r4:Int×List GKey:=sort_rotate_func_w3_2_l4 x2 ((x3-x1).toNat+1) (iSub .i64 x2 x1) (iSub .i64 x3 x2) x0
 let w6:List GKey:=sort_swapRange_func_w3_2 r4.2 (iSub .i64 x2 r4.1) x2 r4.1
 let v6:List GKey:=w6
 mkW (cs:=[eL GKey.enc (sort_rotate_func_w3_2 x0 x1 x2 x3)]) hmix xBase_ok iBase_ok e146w4 H146w4 (by kernel_rfl) [eL GKey.enc x0,eI x1,eI x2,eI x3,eI r4.1,eL GKey.enc r4.2,eL GKey.enc v6,undefA] xn
  (wWL (fun hL=>ctw_sort_swapRange_func_w3_2 r4.2 (iSub .i64 x2 r4.1) x2 r4.1 hL)<|wn)
  (lc1 (lp_sort_rotate_func_w3_2_l4 x0 x1 x2 x3 ((x3-x1).toNat+1) (iSub .i64 x2 x1) (iSub .i64 x3 x2) x0) (hn:=(show ((1)*(x3)+((-1)*(x1)+(0)):Int)<_ by first|omega|(simp only [lens];omega))) <|
  ln)
  (selL rfl))
def L125w4_4 : Lo:=
 let p0:Pc:=((qE (mI (V 2) (V 1)) (.li 1)),true)::[]
 let p1:Pc:=((qL (V 4) (V 5)),true)::p0
 .mk [((qE (mI (V 2) (V 1)) (.li 1)),true)] 4 2 [(zI (V 2)),(zI (V 3))] [((.not (qL (V 4) (V 5))),1,[(zI (V 4))]),((.lb true),0,[(zI (.ite (.or (qL (W 7 0) (W 9 0)) (.and (qE (W 7 0) (W 9 0)) (qL (W 7 1) (W 9 1)))) (aI (.conv .i64 (.bin .shr (.int .u64) (.conv .u64 (aI (V 4) (V 5))) (.li 1))) (.li 1)) (V 4))),(zI (.ite (.or (qL (W 7 0) (W 9 0)) (.and (qE (W 7 0) (W 9 0)) (qL (W 7 1) (W 9 1)))) (V 5) (.conv .i64 (.bin .shr (.int .u64) (.conv .u64 (aI (V 4) (V 5))) (.li 1)))))])] [(p1,(.tm (qM (.li 0) (.conv .i64 (.bin .shr (.int .u64) (.conv .u64 (aI (V 4) (V 5))) (.li 1)))))),
 (p1,(.tm (qL (.conv .i64 (.bin .shr (.int .u64) (.conv .u64 (aI (V 4) (V 5))) (.li 1))) (.rlen (V 0))))),
 (p1,(.rd (true,2) (V 0) (.conv .i64 (.bin .shr (.int .u64) (.conv .u64 (aI (V 4) (V 5))) (.li 1))) 0 (.agg [(zS (W 6 0)),(zI (W 6 1))]))),
 (p1,(.call 65 [(.agg [(zS (W 6 0)),(zI (W 6 1))])] (.tup [(zI (W 7 0)),(zI (W 7 1))]))),
 (p1,(.tm (qM (.li 0) (V 1)))),
 (p1,(.tm (qL (V 1) (.rlen (V 0))))),
 (p1,(.rd (true,2) (V 0) (V 1) 0 (.agg [(zS (W 8 0)),(zI (W 8 1))]))),
 (p1,(.call 65 [(.agg [(zS (W 8 0)),(zI (W 8 1))])] (.tup [(zI (W 9 0)),(zI (W 9 1))])))] [] [1] []
def H125w4_4 : LH:=.mk [(qM (V 2) (V 4)),(qM (V 4) (V 5)),(qM (V 5) (V 3)),(qM (.li 0) (V 4))] (mI (V 5) (V 4)) [((V 3),1),((V 2),(-1))] [] 0 [] [[(qM (V 2) (V 4)),(qM (V 4) (V 3))]]
def rk_sort_symMerge_func_w3_2_l4 (r:Int):Nat×List AV:=(0,[eI r])
theorem lp_sort_symMerge_func_w3_2_l4 (x0:List GKey)(x1:Int)(x2:Int)(x3:Int):∀(n:Nat) (u4:Int) (u5:Int),RunL Try.prog sT L125w4_4 H125w4_4 [eL GKey.enc x0,eI x1,eI x2,eI x3] n [eI u4,eI u5] (rk_sort_symMerge_func_w3_2_l4 (sort_symMerge_func_w3_2_l4 x0 x1 n u4 u5))
 |0,u4,u5=>l0
 |n+1,u4,u5=>
  let v6:GKey:=x0.getD ((IntKind.wrap .i64 (iShr .u64 (IntKind.wrap .u64 (iAdd .i64 u4 u5)) 1)):Int).toNat default
  let v7:Int×Int:=key_place v6
  let v8:GKey:=x0.getD (x1:Int).toNat default
  let v9:Int×Int:=key_place v8
  lmk rfl [GKey.av v6,eR_ii64_ii64 v7,GKey.av v8,eR_ii64_ii64 v9] xn (wT <|
  wT <|
  wRd rfl <|
  wC (ct_key_place v6) <|
  wT <|
  wT <|
  wRd rfl <|
  wC (ct_key_place v8) <|
  wn) ln <|
   rc rk_sort_symMerge_func_w3_2_l4 rx<|rl (rg (lp_sort_symMerge_func_w3_2_l4 x0 x1 x2 x3 n _ _))
def L125w4_5 : Lo:=
 let p0:Pc:=((qE (mI (V 2) (V 1)) (.li 1)),true)::[]
 let p1:Pc:=((qL (V 5) (mI (V 4) (.li 1))),true)::p0
 .mk [((qE (mI (V 2) (V 1)) (.li 1)),true)] 5 2 [(zI (V 1)),(zL (V 0))] [((.not (qL (V 5) (mI (V 4) (.li 1)))),1,[(zL (V 6))]),((.lb true),0,[(zI (aI (V 5) (.li 1))),(zL (V 10))])] [(p1,(.tm (qM (.li 0) (V 5)))),
 (p1,(.tm (qL (V 5) (.rlen (V 6))))),
 (p1,(.tm (qM (.li 0) (aI (V 5) (.li 1))))),
 (p1,(.tm (qL (aI (V 5) (.li 1)) (.rlen (V 6))))),
 (p1,(.row (V 6) (V 5) [(zS (W 7 0)),(zI (W 7 1))])),
 (p1,(.row (V 6) (aI (V 5) (.li 1)) [(zS (W 8 0)),(zI (W 8 1))])),
 (p1,(.st (V 6) (V 5) 0 [(zS (W 8 0)),(zI (W 8 1))] (V 9))),
 (p1,(.st (V 9) (aI (V 5) (.li 1)) 0 [(zS (W 7 0)),(zI (W 7 1))] (V 10))),
 (p1,(.tm (qE (.rlen (V 0)) (.rlen (V 6)))))] [] [1] []
def H125w4_5 : LH:=.mk [(qM (V 1) (V 5)),(qE (.rlen (V 6)) (.rlen (V 0)))] (mI (mI (V 4) (.li 1)) (V 5)) [((mI (V 4) (.li 1)),1)] [] 0 [] [[(qE (.rlen (V 5)) (.rlen (V 0)))]]
def rk_sort_symMerge_func_w3_2_l5 (r:List GKey):Nat×List AV:=(0,[eL GKey.enc r])
theorem lp_sort_symMerge_func_w3_2_l5 (x0:List GKey)(x1:Int)(x2:Int)(x3:Int)(r4:Int):∀(n:Nat) (u5:Int) (u6:List GKey),RunL Try.prog sT L125w4_5 H125w4_5 [eL GKey.enc x0,eI x1,eI x2,eI x3,eI r4] n [eI u5,eL GKey.enc u6] (rk_sort_symMerge_func_w3_2_l5 (sort_symMerge_func_w3_2_l5 r4 n u5 u6))
 |0,u5,u6=>l0
 |n+1,u5,u6=>
  let v7:GKey:=u6.getD (u5:Int).toNat default
  let v8:GKey:=u6.getD ((iAdd .i64 u5 1):Int).toNat default
  let v9:List GKey:=u6.set (u5:Int).toNat v8
  let v10:List GKey:=v9.set ((iAdd .i64 u5 1):Int).toNat v7
  lmk rfl [GKey.av v7,GKey.av v8,eL GKey.enc v9,eL GKey.enc v10] xn (wT <|
  wT <|
  wT <|
  wT <|
  wR rfl <|
  wR rfl <|
  wSt (f:=GKey.enc) v8 rfl <|
  wSt (f:=GKey.enc) v7 rfl <|
  wT <|
  wn) ln <|
   rc rk_sort_symMerge_func_w3_2_l5 rx<|rl (rg (lp_sort_symMerge_func_w3_2_l5 x0 x1 x2 x3 r4 n _ _))
def L125w4_6 : Lo:=
 let p0:Pc:=((qE (mI (V 2) (V 1)) (.li 1)),false)::[]
 let p1:Pc:=((qE (mI (V 3) (V 2)) (.li 1)),true)::p0
 let p2:Pc:=((qL (V 6) (V 7)),true)::p1
 .mk [((qE (mI (V 3) (V 2)) (.li 1)),true),((qE (mI (V 2) (V 1)) (.li 1)),false)] 6 2 [(zI (V 1)),(zI (V 2))] [((.not (qL (V 6) (V 7))),1,[(zI (V 6))]),((.lb true),0,[(zI (.ite (.or (qL (W 9 0) (W 11 0)) (.and (qE (W 9 0) (W 11 0)) (qL (W 9 1) (W 11 1)))) (V 6) (aI (.conv .i64 (.bin .shr (.int .u64) (.conv .u64 (aI (V 6) (V 7))) (.li 1))) (.li 1)))),(zI (.ite (.or (qL (W 9 0) (W 11 0)) (.and (qE (W 9 0) (W 11 0)) (qL (W 9 1) (W 11 1)))) (.conv .i64 (.bin .shr (.int .u64) (.conv .u64 (aI (V 6) (V 7))) (.li 1))) (V 7)))])] [(p2,(.tm (qM (.li 0) (V 2)))),
 (p2,(.tm (qL (V 2) (.rlen (V 0))))),
 (p2,(.rd (true,2) (V 0) (V 2) 0 (.agg [(zS (W 8 0)),(zI (W 8 1))]))),
 (p2,(.call 65 [(.agg [(zS (W 8 0)),(zI (W 8 1))])] (.tup [(zI (W 9 0)),(zI (W 9 1))]))),
 (p2,(.tm (qM (.li 0) (.conv .i64 (.bin .shr (.int .u64) (.conv .u64 (aI (V 6) (V 7))) (.li 1)))))),
 (p2,(.tm (qL (.conv .i64 (.bin .shr (.int .u64) (.conv .u64 (aI (V 6) (V 7))) (.li 1))) (.rlen (V 0))))),
 (p2,(.rd (true,2) (V 0) (.conv .i64 (.bin .shr (.int .u64) (.conv .u64 (aI (V 6) (V 7))) (.li 1))) 0 (.agg [(zS (W 10 0)),(zI (W 10 1))]))),
 (p2,(.call 65 [(.agg [(zS (W 10 0)),(zI (W 10 1))])] (.tup [(zI (W 11 0)),(zI (W 11 1))])))] [] [1] []
def H125w4_6 : LH:=.mk [(qM (V 1) (V 6)),(qM (V 7) (V 2)),(qM (V 6) (V 2))] (mI (V 7) (V 6)) [((V 2),1),((V 1),(-1))] [] 0 [] [[(qM (V 6) (V 2)),(qM (V 1) (V 6))]]
def rk_sort_symMerge_func_w3_2_l6 (r:Int):Nat×List AV:=(0,[eI r])
theorem lp_sort_symMerge_func_w3_2_l6 (x0:List GKey)(x1:Int)(x2:Int)(x3:Int)(r4:Int)(r5:List GKey):∀(n:Nat) (u6:Int) (u7:Int),RunL Try.prog sT L125w4_6 H125w4_6 [eL GKey.enc x0,eI x1,eI x2,eI x3,eI r4,eL GKey.enc r5] n [eI u6,eI u7] (rk_sort_symMerge_func_w3_2_l6 (sort_symMerge_func_w3_2_l6 x0 x2 n u6 u7))
 |0,u6,u7=>l0
 |n+1,u6,u7=>
  let v8:GKey:=x0.getD (x2:Int).toNat default
  let v9:Int×Int:=key_place v8
  let v10:GKey:=x0.getD ((IntKind.wrap .i64 (iShr .u64 (IntKind.wrap .u64 (iAdd .i64 u6 u7)) 1)):Int).toNat default
  let v11:Int×Int:=key_place v10
  lmk rfl [GKey.av v8,eR_ii64_ii64 v9,GKey.av v10,eR_ii64_ii64 v11] xn (wT <|
  wT <|
  wRd rfl <|
  wC (ct_key_place v8) <|
  wT <|
  wT <|
  wRd rfl <|
  wC (ct_key_place v10) <|
  wn) ln <|
   rc rk_sort_symMerge_func_w3_2_l6 rx<|rl (rg (lp_sort_symMerge_func_w3_2_l6 x0 x1 x2 x3 r4 r5 n _ _))
def L125w4_7 : Lo:=
 let p0:Pc:=((qE (mI (V 2) (V 1)) (.li 1)),false)::[]
 let p1:Pc:=((qE (mI (V 3) (V 2)) (.li 1)),true)::p0
 let p2:Pc:=((qG (V 7) (V 6)),true)::p1
 .mk [((qE (mI (V 3) (V 2)) (.li 1)),true),((qE (mI (V 2) (V 1)) (.li 1)),false)] 7 2 [(zI (V 2)),(zL (V 0))] [((.not (qG (V 7) (V 6))),1,[(zL (V 8))]),((.lb true),0,[(zI (mI (V 7) (.li 1))),(zL (V 12))])] [(p2,(.tm (qM (.li 0) (V 7)))),
 (p2,(.tm (qL (V 7) (.rlen (V 8))))),
 (p2,(.tm (qM (.li 0) (mI (V 7) (.li 1))))),
 (p2,(.tm (qL (mI (V 7) (.li 1)) (.rlen (V 8))))),
 (p2,(.row (V 8) (V 7) [(zS (W 9 0)),(zI (W 9 1))])),
 (p2,(.row (V 8) (mI (V 7) (.li 1)) [(zS (W 10 0)),(zI (W 10 1))])),
 (p2,(.st (V 8) (V 7) 0 [(zS (W 10 0)),(zI (W 10 1))] (V 11))),
 (p2,(.st (V 11) (mI (V 7) (.li 1)) 0 [(zS (W 9 0)),(zI (W 9 1))] (V 12))),
 (p2,(.tm (qE (.rlen (V 0)) (.rlen (V 8)))))] [] [1] []
def H125w4_7 : LH:=.mk [(qM (V 7) (V 2)),(qE (.rlen (V 8)) (.rlen (V 0)))] (mI (V 7) (V 6)) [((V 2),1),((V 1),(-1))] [] 0 [] [[(qE (.rlen (V 7)) (.rlen (V 0)))]]
def rk_sort_symMerge_func_w3_2_l7 (r:List GKey):Nat×List AV:=(0,[eL GKey.enc r])
theorem lp_sort_symMerge_func_w3_2_l7 (x0:List GKey)(x1:Int)(x2:Int)(x3:Int)(r4:Int)(r5:List GKey)(r6:Int):∀(n:Nat) (u7:Int) (u8:List GKey),RunL Try.prog sT L125w4_7 H125w4_7 [eL GKey.enc x0,eI x1,eI x2,eI x3,eI r4,eL GKey.enc r5,eI r6] n [eI u7,eL GKey.enc u8] (rk_sort_symMerge_func_w3_2_l7 (sort_symMerge_func_w3_2_l7 r6 n u7 u8))
 |0,u7,u8=>l0
 |n+1,u7,u8=>
  let v9:GKey:=u8.getD (u7:Int).toNat default
  let v10:GKey:=u8.getD ((iSub .i64 u7 1):Int).toNat default
  let v11:List GKey:=u8.set (u7:Int).toNat v10
  let v12:List GKey:=v11.set ((iSub .i64 u7 1):Int).toNat v9
  lmk rfl [GKey.av v9,GKey.av v10,eL GKey.enc v11,eL GKey.enc v12] xn (wT <|
  wT <|
  wT <|
  wT <|
  wR rfl <|
  wR rfl <|
  wSt (f:=GKey.enc) v10 rfl <|
  wSt (f:=GKey.enc) v9 rfl <|
  wT <|
  wn) ln <|
   rc rk_sort_symMerge_func_w3_2_l7 rx<|rl (rg (lp_sort_symMerge_func_w3_2_l7 x0 x1 x2 x3 r4 r5 r6 n _ _))
def L125w4_8 : Lo:=
 let p0:Pc:=((qE (mI (V 2) (V 1)) (.li 1)),false)::[]
 let p1:Pc:=((qE (mI (V 3) (V 2)) (.li 1)),false)::p0
 let p2:Pc:=((qL (V 8) (V 9)),true)::p1
 .mk [((qE (mI (V 3) (V 2)) (.li 1)),false),((qE (mI (V 2) (V 1)) (.li 1)),false)] 8 2 [(zI (.ite (qG (V 2) (.conv .i64 (.bin .shr (.int .u64) (.conv .u64 (aI (V 1) (V 3))) (.li 1)))) (mI (aI (.conv .i64 (.bin .shr (.int .u64) (.conv .u64 (aI (V 1) (V 3))) (.li 1))) (V 2)) (V 3)) (V 1))),(zI (.ite (qG (V 2) (.conv .i64 (.bin .shr (.int .u64) (.conv .u64 (aI (V 1) (V 3))) (.li 1)))) (.conv .i64 (.bin .shr (.int .u64) (.conv .u64 (aI (V 1) (V 3))) (.li 1))) (V 2)))] [((.not (qL (V 8) (V 9))),1,[(zI (V 8))]),((.lb true),0,[(zI (.ite (.or (qL (W 11 0) (W 13 0)) (.and (qE (W 11 0) (W 13 0)) (qL (W 11 1) (W 13 1)))) (V 8) (aI (.conv .i64 (.bin .shr (.int .u64) (.conv .u64 (aI (V 8) (V 9))) (.li 1))) (.li 1)))),(zI (.ite (.or (qL (W 11 0) (W 13 0)) (.and (qE (W 11 0) (W 13 0)) (qL (W 11 1) (W 13 1)))) (.conv .i64 (.bin .shr (.int .u64) (.conv .u64 (aI (V 8) (V 9))) (.li 1))) (V 9)))])] [(p2,(.tm (qM (.li 0) (mI (mI (aI (.conv .i64 (.bin .shr (.int .u64) (.conv .u64 (aI (V 1) (V 3))) (.li 1))) (V 2)) (.li 1)) (.conv .i64 (.bin .shr (.int .u64) (.conv .u64 (aI (V 8) (V 9))) (.li 1))))))),
 (p2,(.tm (qL (mI (mI (aI (.conv .i64 (.bin .shr (.int .u64) (.conv .u64 (aI (V 1) (V 3))) (.li 1))) (V 2)) (.li 1)) (.conv .i64 (.bin .shr (.int .u64) (.conv .u64 (aI (V 8) (V 9))) (.li 1)))) (.rlen (V 0))))),
 (p2,(.rd (true,2) (V 0) (mI (mI (aI (.conv .i64 (.bin .shr (.int .u64) (.conv .u64 (aI (V 1) (V 3))) (.li 1))) (V 2)) (.li 1)) (.conv .i64 (.bin .shr (.int .u64) (.conv .u64 (aI (V 8) (V 9))) (.li 1)))) 0 (.agg [(zS (W 10 0)),(zI (W 10 1))]))),
 (p2,(.call 65 [(.agg [(zS (W 10 0)),(zI (W 10 1))])] (.tup [(zI (W 11 0)),(zI (W 11 1))]))),
 (p2,(.tm (qM (.li 0) (.conv .i64 (.bin .shr (.int .u64) (.conv .u64 (aI (V 8) (V 9))) (.li 1)))))),
 (p2,(.tm (qL (.conv .i64 (.bin .shr (.int .u64) (.conv .u64 (aI (V 8) (V 9))) (.li 1))) (.rlen (V 0))))),
 (p2,(.rd (true,2) (V 0) (.conv .i64 (.bin .shr (.int .u64) (.conv .u64 (aI (V 8) (V 9))) (.li 1))) 0 (.agg [(zS (W 12 0)),(zI (W 12 1))]))),
 (p2,(.call 65 [(.agg [(zS (W 12 0)),(zI (W 12 1))])] (.tup [(zI (W 13 0)),(zI (W 13 1))])))] [] [1] []
def H125w4_8 : LH:=.mk [(qM (V 1) (V 8)),(qM (V 9) (V 2)),(qM (V 9) (.conv .i64 (.bin .shr (.int .u64) (.conv .u64 (aI (V 1) (V 3))) (.li 1)))),(qM (mI (aI (.conv .i64 (.bin .shr (.int .u64) (.conv .u64 (aI (V 1) (V 3))) (.li 1))) (V 2)) (V 3)) (V 8))] (mI (V 9) (V 8)) [((V 3),1),((V 1),(-1))] [] 0 [] [[(qM (.ite (qG (V 2) (.conv .i64 (.bin .shr (.int .u64) (.conv .u64 (aI (V 1) (V 3))) (.li 1)))) (mI (aI (.conv .i64 (.bin .shr (.int .u64) (.conv .u64 (aI (V 1) (V 3))) (.li 1))) (V 2)) (V 3)) (V 1)) (V 8))]]
def rk_sort_symMerge_func_w3_2_l8 (r:Int):Nat×List AV:=(0,[eI r])
theorem lp_sort_symMerge_func_w3_2_l8 (x0:List GKey)(x1:Int)(x2:Int)(x3:Int)(r4:Int)(r5:List GKey)(r6:Int)(r7:List GKey):∀(n:Nat) (u8:Int) (u9:Int),RunL Try.prog sT L125w4_8 H125w4_8 [eL GKey.enc x0,eI x1,eI x2,eI x3,eI r4,eL GKey.enc r5,eI r6,eL GKey.enc r7] n [eI u8,eI u9] (rk_sort_symMerge_func_w3_2_l8 (sort_symMerge_func_w3_2_l8 x0 x1 x2 x3 n u8 u9))
 |0,u8,u9=>l0
 |n+1,u8,u9=>
  let v10:GKey:=x0.getD ((iSub .i64 (iSub .i64 (iAdd .i64 (IntKind.wrap .i64 (iShr .u64 (IntKind.wrap .u64 (iAdd .i64 x1 x3)) 1)) x2) 1) (IntKind.wrap .i64 (iShr .u64 (IntKind.wrap .u64 (iAdd .i64 u8 u9)) 1))):Int).toNat default
  let v11:Int×Int:=key_place v10
  let v12:GKey:=x0.getD ((IntKind.wrap .i64 (iShr .u64 (IntKind.wrap .u64 (iAdd .i64 u8 u9)) 1)):Int).toNat default
  let v13:Int×Int:=key_place v12
  lmk rfl [GKey.av v10,eR_ii64_ii64 v11,GKey.av v12,eR_ii64_ii64 v13] xn (wT <|
  wT <|
  wRd rfl <|
  wC (ct_key_place v10) <|
  wT <|
  wT <|
  wRd rfl <|
  wC (ct_key_place v12) <|
  wn) ln <|
   rc rk_sort_symMerge_func_w3_2_l8 rx<|rl (rg (lp_sort_symMerge_func_w3_2_l8 x0 x1 x2 x3 r4 r5 r6 r7 n _ _))
def R125w4 : PRes:=
 let p0:Pc:=((qE (mI (V 2) (V 1)) (.li 1)),false)::[]
 let p1:Pc:=((qE (mI (V 3) (V 2)) (.li 1)),false)::p0
 let p2:Pc:=((qL (V 2) (mI (aI (.conv .i64 (.bin .shr (.int .u64) (.conv .u64 (aI (V 1) (V 3))) (.li 1))) (V 2)) (V 8))),true)::p1
 let p3:Pc:=((qL (V 8) (V 2)),true)::p2
 let p4:Pc:=((qL (V 8) (.conv .i64 (.bin .shr (.int .u64) (.conv .u64 (aI (V 1) (V 3))) (.li 1)))),true)::p3
 let p5:Pc:=((qL (V 1) (V 8)),true)::p4
 let p6:Pc:=((qL (mI (aI (.conv .i64 (.bin .shr (.int .u64) (.conv .u64 (aI (V 1) (V 3))) (.li 1))) (V 2)) (V 8)) (V 3)),true)::p5
 let p7:Pc:=((qL (.conv .i64 (.bin .shr (.int .u64) (.conv .u64 (aI (V 1) (V 3))) (.li 1))) (mI (aI (.conv .i64 (.bin .shr (.int .u64) (.conv .u64 (aI (V 1) (V 3))) (.li 1))) (V 2)) (V 8))),true)::p6
 let p8:Pc:=((.and (qL (V 1) (V 8)) (qL (V 8) (.conv .i64 (.bin .shr (.int .u64) (.conv .u64 (aI (V 1) (V 3))) (.li 1))))),false)::p3
 let p9:Pc:=((qL (mI (aI (.conv .i64 (.bin .shr (.int .u64) (.conv .u64 (aI (V 1) (V 3))) (.li 1))) (V 2)) (V 8)) (V 3)),true)::p8
 let p10:Pc:=((qL (.conv .i64 (.bin .shr (.int .u64) (.conv .u64 (aI (V 1) (V 3))) (.li 1))) (mI (aI (.conv .i64 (.bin .shr (.int .u64) (.conv .u64 (aI (V 1) (V 3))) (.li 1))) (V 2)) (V 8))),true)::p9
 let p11:Pc:=((.and (qL (V 8) (V 2)) (qL (V 2) (mI (aI (.conv .i64 (.bin .shr (.int .u64) (.conv .u64 (aI (V 1) (V 3))) (.li 1))) (V 2)) (V 8)))),false)::p1
 let p12:Pc:=((qL (V 8) (.conv .i64 (.bin .shr (.int .u64) (.conv .u64 (aI (V 1) (V 3))) (.li 1)))),true)::p11
 let p13:Pc:=((qL (V 1) (V 8)),true)::p12
 let p14:Pc:=((qL (mI (aI (.conv .i64 (.bin .shr (.int .u64) (.conv .u64 (aI (V 1) (V 3))) (.li 1))) (V 2)) (V 8)) (V 3)),true)::p13
 let p15:Pc:=((qL (.conv .i64 (.bin .shr (.int .u64) (.conv .u64 (aI (V 1) (V 3))) (.li 1))) (mI (aI (.conv .i64 (.bin .shr (.int .u64) (.conv .u64 (aI (V 1) (V 3))) (.li 1))) (V 2)) (V 8))),true)::p14
 let p16:Pc:=((.and (qL (V 1) (V 8)) (qL (V 8) (.conv .i64 (.bin .shr (.int .u64) (.conv .u64 (aI (V 1) (V 3))) (.li 1))))),false)::p11
 let p17:Pc:=((qL (mI (aI (.conv .i64 (.bin .shr (.int .u64) (.conv .u64 (aI (V 1) (V 3))) (.li 1))) (V 2)) (V 8)) (V 3)),true)::p16
 let p18:Pc:=((qL (.conv .i64 (.bin .shr (.int .u64) (.conv .u64 (aI (V 1) (V 3))) (.li 1))) (mI (aI (.conv .i64 (.bin .shr (.int .u64) (.conv .u64 (aI (V 1) (V 3))) (.li 1))) (V 2)) (V 8))),true)::p17
 ⟨[((qE (mI (V 2) (V 1)) (.li 1)),(.tup [(.tup []),(zL (V 5))])),((qE (mI (V 3) (V 2)) (.li 1)),(.tup [(.tup []),(zL (V 7))])),((.and (.and (qL (V 8) (V 2)) (qL (V 2) (mI (aI (.conv .i64 (.bin .shr (.int .u64) (.conv .u64 (aI (V 1) (V 3))) (.li 1))) (V 2)) (V 8)))) (.and (.and (qL (V 1) (V 8)) (qL (V 8) (.conv .i64 (.bin .shr (.int .u64) (.conv .u64 (aI (V 1) (V 3))) (.li 1))))) (.and (qL (.conv .i64 (.bin .shr (.int .u64) (.conv .u64 (aI (V 1) (V 3))) (.li 1))) (mI (aI (.conv .i64 (.bin .shr (.int .u64) (.conv .u64 (aI (V 1) (V 3))) (.li 1))) (V 2)) (V 8))) (qL (mI (aI (.conv .i64 (.bin .shr (.int .u64) (.conv .u64 (aI (V 1) (V 3))) (.li 1))) (V 2)) (V 8)) (V 3))))),(.tup [(.tup []),(zL (V 13))])),((.and (.and (qL (V 8) (V 2)) (qL (V 2) (mI (aI (.conv .i64 (.bin .shr (.int .u64) (.conv .u64 (aI (V 1) (V 3))) (.li 1))) (V 2)) (V 8)))) (.and (qL (V 1) (V 8)) (qL (V 8) (.conv .i64 (.bin .shr (.int .u64) (.conv .u64 (aI (V 1) (V 3))) (.li 1)))))),(.tup [(.tup []),(zL (V 11))])),((.and (.and (qL (V 8) (V 2)) (qL (V 2) (mI (aI (.conv .i64 (.bin .shr (.int .u64) (.conv .u64 (aI (V 1) (V 3))) (.li 1))) (V 2)) (V 8)))) (.and (qL (.conv .i64 (.bin .shr (.int .u64) (.conv .u64 (aI (V 1) (V 3))) (.li 1))) (mI (aI (.conv .i64 (.bin .shr (.int .u64) (.conv .u64 (aI (V 1) (V 3))) (.li 1))) (V 2)) (V 8))) (qL (mI (aI (.conv .i64 (.bin .shr (.int .u64) (.conv .u64 (aI (V 1) (V 3))) (.li 1))) (V 2)) (V 8)) (V 3)))),(.tup [(.tup []),(zL (V 15))])),((.and (qL (V 8) (V 2)) (qL (V 2) (mI (aI (.conv .i64 (.bin .shr (.int .u64) (.conv .u64 (aI (V 1) (V 3))) (.li 1))) (V 2)) (V 8)))),(.tup [(.tup []),(zL (V 9))])),((.and (.and (qL (V 1) (V 8)) (qL (V 8) (.conv .i64 (.bin .shr (.int .u64) (.conv .u64 (aI (V 1) (V 3))) (.li 1))))) (.and (qL (.conv .i64 (.bin .shr (.int .u64) (.conv .u64 (aI (V 1) (V 3))) (.li 1))) (mI (aI (.conv .i64 (.bin .shr (.int .u64) (.conv .u64 (aI (V 1) (V 3))) (.li 1))) (V 2)) (V 8))) (qL (mI (aI (.conv .i64 (.bin .shr (.int .u64) (.conv .u64 (aI (V 1) (V 3))) (.li 1))) (V 2)) (V 8)) (V 3)))),(.tup [(.tup []),(zL (V 19))])),((.and (qL (V 1) (V 8)) (qL (V 8) (.conv .i64 (.bin .shr (.int .u64) (.conv .u64 (aI (V 1) (V 3))) (.li 1))))),(.tup [(.tup []),(zL (V 17))])),((.and (qL (.conv .i64 (.bin .shr (.int .u64) (.conv .u64 (aI (V 1) (V 3))) (.li 1))) (mI (aI (.conv .i64 (.bin .shr (.int .u64) (.conv .u64 (aI (V 1) (V 3))) (.li 1))) (V 2)) (V 8))) (qL (mI (aI (.conv .i64 (.bin .shr (.int .u64) (.conv .u64 (aI (V 1) (V 3))) (.li 1))) (V 2)) (V 8)) (V 3))),(.tup [(.tup []),(zL (V 21))])),((.lb true),(.tup [(.tup []),(zL (V 0))]))],
 [(p3,(.callw 146 [(.agg [(.fn 64 [] [(.op 3 1 (.li 0) 0)]),(.fn 123 [] [(.os 2 2 0 (.rlen (V 0))),(.c (.at 1 24))])]),(zI (V 8)),(zI (V 2)),(zI (mI (aI (.conv .i64 (.bin .shr (.int .u64) (.conv .u64 (aI (V 1) (V 3))) (.li 1))) (V 2)) (V 8)))] [(3,(.rows 1 [[(.os 2 2 0 (.rlen (V 0)))]])),(2,(.rowsT 2 (V 0)))] 4 (.tup []) [(3,(.rows 1 [[(.os 2 2 0 (.rlen (V 0)))]])),(2,(.rowsT 2 (V 9)))])),
 (p5,(.callw 125 [(.agg [(.fn 64 [] [(.op 3 1 (.li 0) 0)]),(.fn 123 [] [(.os 2 2 0 (.rlen (V 0))),(.c (.at 1 24))])]),(zI (V 1)),(zI (V 8)),(zI (.conv .i64 (.bin .shr (.int .u64) (.conv .u64 (aI (V 1) (V 3))) (.li 1))))] [(3,(.rows 1 [[(.os 2 2 0 (.rlen (V 0)))]])),(2,(.rowsT 2 (V 9)))] 4 (.tup []) [(3,(.rows 1 [[(.os 2 2 0 (.rlen (V 0)))]])),(2,(.rowsT 2 (V 11)))])),
 (p7,(.callw 125 [(.agg [(.fn 64 [] [(.op 3 1 (.li 0) 0)]),(.fn 123 [] [(.os 2 2 0 (.rlen (V 0))),(.c (.at 1 24))])]),(zI (.conv .i64 (.bin .shr (.int .u64) (.conv .u64 (aI (V 1) (V 3))) (.li 1)))),(zI (mI (aI (.conv .i64 (.bin .shr (.int .u64) (.conv .u64 (aI (V 1) (V 3))) (.li 1))) (V 2)) (V 8))),(zI (V 3))] [(3,(.rows 1 [[(.os 2 2 0 (.rlen (V 0)))]])),(2,(.rowsT 2 (V 11)))] 4 (.tup []) [(3,(.rows 1 [[(.os 2 2 0 (.rlen (V 0)))]])),(2,(.rowsT 2 (V 13)))])),
 (p10,(.callw 125 [(.agg [(.fn 64 [] [(.op 3 1 (.li 0) 0)]),(.fn 123 [] [(.os 2 2 0 (.rlen (V 0))),(.c (.at 1 24))])]),(zI (.conv .i64 (.bin .shr (.int .u64) (.conv .u64 (aI (V 1) (V 3))) (.li 1)))),(zI (mI (aI (.conv .i64 (.bin .shr (.int .u64) (.conv .u64 (aI (V 1) (V 3))) (.li 1))) (V 2)) (V 8))),(zI (V 3))] [(3,(.rows 1 [[(.os 2 2 0 (.rlen (V 0)))]])),(2,(.rowsT 2 (V 9)))] 4 (.tup []) [(3,(.rows 1 [[(.os 2 2 0 (.rlen (V 0)))]])),(2,(.rowsT 2 (V 15)))])),
 (p13,(.callw 125 [(.agg [(.fn 64 [] [(.op 3 1 (.li 0) 0)]),(.fn 123 [] [(.os 2 2 0 (.rlen (V 0))),(.c (.at 1 24))])]),(zI (V 1)),(zI (V 8)),(zI (.conv .i64 (.bin .shr (.int .u64) (.conv .u64 (aI (V 1) (V 3))) (.li 1))))] [(3,(.rows 1 [[(.os 2 2 0 (.rlen (V 0)))]])),(2,(.rowsT 2 (V 0)))] 4 (.tup []) [(3,(.rows 1 [[(.os 2 2 0 (.rlen (V 0)))]])),(2,(.rowsT 2 (V 17)))])),
 (p15,(.callw 125 [(.agg [(.fn 64 [] [(.op 3 1 (.li 0) 0)]),(.fn 123 [] [(.os 2 2 0 (.rlen (V 0))),(.c (.at 1 24))])]),(zI (.conv .i64 (.bin .shr (.int .u64) (.conv .u64 (aI (V 1) (V 3))) (.li 1)))),(zI (mI (aI (.conv .i64 (.bin .shr (.int .u64) (.conv .u64 (aI (V 1) (V 3))) (.li 1))) (V 2)) (V 8))),(zI (V 3))] [(3,(.rows 1 [[(.os 2 2 0 (.rlen (V 0)))]])),(2,(.rowsT 2 (V 17)))] 4 (.tup []) [(3,(.rows 1 [[(.os 2 2 0 (.rlen (V 0)))]])),(2,(.rowsT 2 (V 19)))])),
 (p18,(.callw 125 [(.agg [(.fn 64 [] [(.op 3 1 (.li 0) 0)]),(.fn 123 [] [(.os 2 2 0 (.rlen (V 0))),(.c (.at 1 24))])]),(zI (.conv .i64 (.bin .shr (.int .u64) (.conv .u64 (aI (V 1) (V 3))) (.li 1)))),(zI (mI (aI (.conv .i64 (.bin .shr (.int .u64) (.conv .u64 (aI (V 1) (V 3))) (.li 1))) (V 2)) (V 8))),(zI (V 3))] [(3,(.rows 1 [[(.os 2 2 0 (.rlen (V 0)))]])),(2,(.rowsT 2 (V 0)))] 4 (.tup []) [(3,(.rows 1 [[(.os 2 2 0 (.rlen (V 0)))]])),(2,(.rowsT 2 (V 21)))]))],[L125w4_4,L125w4_5,L125w4_6,L125w4_7,L125w4_8]⟩
def H125w4 : LH:=.mk [] (.li 0) [] [] 0 [H125w4_4,H125w4_5,H125w4_6,H125w4_7,H125w4_8] []
theorem e125w4 : sFnW Try.prog xBase iBase mdI (fcI kA 125 [1,2,3,4,8,9,10,11,12,13,14,15,16,17,18,19,20,21,22,26,31,42,50,62,67,79,86,106,117,131,142,143,144,145,155,156,157,158,168,169,170,171] [(8,(.mk [1,2,3,4,16,17,20] (.mk [(18,(.sc kI)),(19,(.sc kI))] [] [] 38) [(.normal,(.mk [(18,(.sc kI))] [] [] 38))])),(6,(.mk [4,12] (.mk [(15,(.sc kI))] [] [(2,2)] 19) [(.normal,(.mk [] [] [(2,2)] 19))])),(4,(.mk [2,4] (.mk [(12,(.sc kI)),(13,(.sc kI))] [] [] 17) [(.normal,(.mk [(12,(.sc kI))] [] [] 17))])),(2,(.mk [4,8] (.mk [(11,(.sc kI))] [] [(2,2)] 15) [(.normal,(.mk [] [] [(2,2)] 15))])),(0,(.mk [1,4] (.mk [(8,(.sc kI)),(9,(.sc kI))] [] [] 13) [(.normal,(.mk [(8,(.sc kI))] [] [] 13))]))]) 3 200 125 [(.agg [(.fn 64 [] [(.op 3 1 (.li 0) 0)]),(.fn 123 [] [(.os 2 2 0 (.rlen (V 0))),(.c (.at 1 24))])]),(zI (V 1)),(zI (V 2)),(zI (V 3))] 4 [(3,(.rows 1 [[(.os 2 2 0 (.rlen (V 0)))]])),(2,(.rowsT 2 (V 0)))] [(2,2)] 4=some R125w4:=by kernel_rfl
theorem ctw_sort_symMerge_func_w3_2 : ∀(n:Nat) (x0:List GKey) (x1:Int) (x2:Int) (x3:Int) {L:Nat},(x3-x1).toNat<n→L=(List.map GKey.enc x0).length→CTw Try.prog sT 125 [(.agg [(.fn (.func 64) [] [(.op 3 1 0 0)]),(.fn (.func 123) [] [(.os 2 2 0 L),(.p (Cv.val (.at 1 24)))])]),(.p (.int .i64 x1)),(.p (.int .i64 x2)),(.p (.int .i64 x3))] [(3,.rows 1 [[(.os 2 2 0 L)]]),(2,.rows 2 (List.map GKey.enc x0))] 4 (.tup []) [(3,.rows 1 [[(.os 2 2 0 L)]]),(2,.rows 2 (List.map GKey.enc (sort_symMerge_func_w3_2 n x0 x1 x2 x3)))]
 |0,x0,x1,x2,x3,L,hm,_=>absurd hm (Nat.not_lt_zero _)
 |n+1,x0,x1,x2,x3,L,hm,hL=>by subst hL;exact (fun hp=>(fun hd=>
 let r4:Int:=sort_symMerge_func_w3_2_l4 x0 x1 ((x3-x2).toNat+1) x2 x3
 let r5:List GKey:=sort_symMerge_func_w3_2_l5 r4 (((iSub .i64 r4 1):Int).toNat+1) x1 x0
 let r6:Int:=sort_symMerge_func_w3_2_l6 x0 x2 ((x2-x1).toNat+1) x1 x2
 let r7:List GKey:=sort_symMerge_func_w3_2_l7 r6 ((x2-x1).toNat+1) x2 x0
 let r8:Int:=sort_symMerge_func_w3_2_l8 x0 x1 x2 x3 ((x3-x1).toNat+1) (bif (decide ((x2:Int) > (IntKind.wrap .i64 (iShr .u64 (IntKind.wrap .u64 (iAdd .i64 x1 x3)) 1)))) then (iSub .i64 (iAdd .i64 (IntKind.wrap .i64 (iShr .u64 (IntKind.wrap .u64 (iAdd .i64 x1 x3)) 1)) x2) x3) else x1) (bif (decide ((x2:Int) > (IntKind.wrap .i64 (iShr .u64 (IntKind.wrap .u64 (iAdd .i64 x1 x3)) 1)))) then (IntKind.wrap .i64 (iShr .u64 (IntKind.wrap .u64 (iAdd .i64 x1 x3)) 1)) else x2)
 let w9:List GKey:=sort_rotate_func_w3_2 x0 r8 x2 (iSub .i64 (iAdd .i64 (IntKind.wrap .i64 (iShr .u64 (IntKind.wrap .u64 (iAdd .i64 x1 x3)) 1)) x2) r8)
 let v9:List GKey:=w9
 let w11:List GKey:=sort_symMerge_func_w3_2 n v9 x1 r8 (IntKind.wrap .i64 (iShr .u64 (IntKind.wrap .u64 (iAdd .i64 x1 x3)) 1))
 let v11:List GKey:=w11
 let w13:List GKey:=sort_symMerge_func_w3_2 n v11 (IntKind.wrap .i64 (iShr .u64 (IntKind.wrap .u64 (iAdd .i64 x1 x3)) 1)) (iSub .i64 (iAdd .i64 (IntKind.wrap .i64 (iShr .u64 (IntKind.wrap .u64 (iAdd .i64 x1 x3)) 1)) x2) r8) x3
 let v13:List GKey:=w13
 let w15:List GKey:=sort_symMerge_func_w3_2 n v9 (IntKind.wrap .i64 (iShr .u64 (IntKind.wrap .u64 (iAdd .i64 x1 x3)) 1)) (iSub .i64 (iAdd .i64 (IntKind.wrap .i64 (iShr .u64 (IntKind.wrap .u64 (iAdd .i64 x1 x3)) 1)) x2) r8) x3
 let v15:List GKey:=w15
 let w17:List GKey:=sort_symMerge_func_w3_2 n x0 x1 r8 (IntKind.wrap .i64 (iShr .u64 (IntKind.wrap .u64 (iAdd .i64 x1 x3)) 1))
 let v17:List GKey:=w17
 let w19:List GKey:=sort_symMerge_func_w3_2 n v17 (IntKind.wrap .i64 (iShr .u64 (IntKind.wrap .u64 (iAdd .i64 x1 x3)) 1)) (iSub .i64 (iAdd .i64 (IntKind.wrap .i64 (iShr .u64 (IntKind.wrap .u64 (iAdd .i64 x1 x3)) 1)) x2) r8) x3
 let v19:List GKey:=w19
 let w21:List GKey:=sort_symMerge_func_w3_2 n x0 (IntKind.wrap .i64 (iShr .u64 (IntKind.wrap .u64 (iAdd .i64 x1 x3)) 1)) (iSub .i64 (iAdd .i64 (IntKind.wrap .i64 (iShr .u64 (IntKind.wrap .u64 (iAdd .i64 x1 x3)) 1)) x2) r8) x3
 let v21:List GKey:=w21
 (mkW (cs:=[eL GKey.enc (sort_symMerge_func_w3_2 (n+1) x0 x1 x2 x3)]) hmix xBase_ok iBase_ok e125w4 H125w4 (by kernel_rfl) [eL GKey.enc x0,eI x1,eI x2,eI x3,eI r4,eL GKey.enc r5,eI r6,eL GKey.enc r7,eI r8,eL GKey.enc v9,undefA,eL GKey.enc v11,undefA,eL GKey.enc v13,undefA,eL GKey.enc v15,undefA,eL GKey.enc v17,undefA,eL GKey.enc v19,undefA,eL GKey.enc v21,undefA] xn
  (wWL (fun hL=>ctw_sort_rotate_func_w3_2 x0 r8 x2 (iSub .i64 (iAdd .i64 (IntKind.wrap .i64 (iShr .u64 (IntKind.wrap .u64 (iAdd .i64 x1 x3)) 1)) x2) r8) hL) <|
  wWL (fun hL=>ctw_sort_symMerge_func_w3_2 n v9 x1 r8 (IntKind.wrap .i64 (iShr .u64 (IntKind.wrap .u64 (iAdd .i64 x1 x3)) 1)) hd.1 hL) <|
  wWL (fun hL=>ctw_sort_symMerge_func_w3_2 n v11 (IntKind.wrap .i64 (iShr .u64 (IntKind.wrap .u64 (iAdd .i64 x1 x3)) 1)) (iSub .i64 (iAdd .i64 (IntKind.wrap .i64 (iShr .u64 (IntKind.wrap .u64 (iAdd .i64 x1 x3)) 1)) x2) r8) x3 hd.2 hL) <|
  wWL (fun hL=>ctw_sort_symMerge_func_w3_2 n v9 (IntKind.wrap .i64 (iShr .u64 (IntKind.wrap .u64 (iAdd .i64 x1 x3)) 1)) (iSub .i64 (iAdd .i64 (IntKind.wrap .i64 (iShr .u64 (IntKind.wrap .u64 (iAdd .i64 x1 x3)) 1)) x2) r8) x3 hd.2 hL) <|
  wWL (fun hL=>ctw_sort_symMerge_func_w3_2 n x0 x1 r8 (IntKind.wrap .i64 (iShr .u64 (IntKind.wrap .u64 (iAdd .i64 x1 x3)) 1)) hd.1 hL) <|
  wWL (fun hL=>ctw_sort_symMerge_func_w3_2 n v17 (IntKind.wrap .i64 (iShr .u64 (IntKind.wrap .u64 (iAdd .i64 x1 x3)) 1)) (iSub .i64 (iAdd .i64 (IntKind.wrap .i64 (iShr .u64 (IntKind.wrap .u64 (iAdd .i64 x1 x3)) 1)) x2) r8) x3 hd.2 hL) <|
  wWL (fun hL=>ctw_sort_symMerge_func_w3_2 n x0 (IntKind.wrap .i64 (iShr .u64 (IntKind.wrap .u64 (iAdd .i64 x1 x3)) 1)) (iSub .i64 (iAdd .i64 (IntKind.wrap .i64 (iShr .u64 (IntKind.wrap .u64 (iAdd .i64 x1 x3)) 1)) x2) r8) x3 hd.2 hL) <|
  wn)
  (lc1 (lp_sort_symMerge_func_w3_2_l4 x0 x1 x2 x3 ((x3-x2).toNat+1) x2 x3) (hn:=(show ((1)*(x3)+((-1)*(x2)+(0)):Int)<_ by first|omega|(simp only [lens];omega))) <|
  lc1 (lp_sort_symMerge_func_w3_2_l5 x0 x1 x2 x3 r4 (((iSub .i64 r4 1):Int).toNat+1) x1 x0) <|
  lc1 (lp_sort_symMerge_func_w3_2_l6 x0 x1 x2 x3 r4 r5 ((x2-x1).toNat+1) x1 x2) (hn:=(show ((1)*(x2)+((-1)*(x1)+(0)):Int)<_ by first|omega|(simp only [lens];omega))) <|
  lc1 (lp_sort_symMerge_func_w3_2_l7 x0 x1 x2 x3 r4 r5 r6 ((x2-x1).toNat+1) x2 x0) (hn:=(show ((1)*(x2)+((-1)*(x1)+(0)):Int)<_ by first|omega|(simp only [lens];omega))) <|
  lc1 (lp_sort_symMerge_func_w3_2_l8 x0 x1 x2 x3 r4 r5 r6 r7 ((x3-x1).toNat+1) (bif (decide ((x2:Int) > (IntKind.wrap .i64 (iShr .u64 (IntKind.wrap .u64 (iAdd .i64 x1 x3)) 1)))) then (iSub .i64 (iAdd .i64 (IntKind.wrap .i64 (iShr .u64 (IntKind.wrap .u64 (iAdd .i64 x1 x3)) 1)) x2) x3) else x1) (bif (decide ((x2:Int) > (IntKind.wrap .i64 (iShr .u64 (IntKind.wrap .u64 (iAdd .i64 x1 x3)) 1)))) then (IntKind.wrap .i64 (iShr .u64 (IntKind.wrap .u64 (iAdd .i64 x1 x3)) 1)) else x2)) (hn:=(show ((1)*(x3)+((-1)*(x1)+(0)):Int)<_ by first|omega|(simp only [lens];omega))) <|
  ln)
  (selE (fun r=>.tup [.tup [],.sl (List.map GKey.enc r) false]) rfl rfl (selE (fun r=>.tup [.tup [],.sl (List.map GKey.enc r) false]) rfl rfl (selE (fun r=>.tup [.tup [],.sl (List.map GKey.enc r) false]) rfl rfl (selE (fun r=>.tup [.tup [],.sl (List.map GKey.enc r) false]) rfl rfl (selE (fun r=>.tup [.tup [],.sl (List.map GKey.enc r) false]) rfl rfl (selE (fun r=>.tup [.tup [],.sl (List.map GKey.enc r) false]) rfl rfl (selE (fun r=>.tup [.tup [],.sl (List.map GKey.enc r) false]) rfl rfl (selE (fun r=>.tup [.tup [],.sl (List.map GKey.enc r) false]) rfl rfl (selE (fun r=>.tup [.tup [],.sl (List.map GKey.enc r) false]) rfl rfl (selL rfl))))))))))) hp) (sm_dec (of_decide_eq_true hp.1) (of_decide_eq_true hp.2.1) (of_decide_eq_true hp.2.2.1) (of_decide_eq_true hp.2.2.2.1) hm))
def L95w4_2 : Lo:=
 let p0:Pc:=((qM (V 3) (V 1)),true)::[]
 .mk [] 2 3 [(zI (.li 0)),(zI (.li 20)),(zL (V 0))] [((.not (qM (V 3) (V 1))),1,[(zI (V 2)),(zI (V 3)),(zL (V 4))]),((.lb true),0,[(zI (V 3)),(zI (aI (V 3) (.li 20))),(zL (V 5))])] [(p0,(.callw 124 [(.agg [(.fn 64 [] [(.op 3 1 (.li 0) 0)]),(.fn 123 [] [(.os 2 2 0 (.rlen (V 0))),(.c (.at 1 24))])]),(zI (V 2)),(zI (V 3))] [(3,(.rows 1 [[(.os 2 2 0 (.rlen (V 0)))]])),(2,(.rowsT 2 (V 4)))] 4 (.tup []) [(3,(.rows 1 [[(.os 2 2 0 (.rlen (V 0)))]])),(2,(.rowsT 2 (V 5)))]))] [] [3] []
def H95w4_2 : LH:=.mk [(qM (.li 0) (V 2)),(qE (V 3) (aI (V 2) (.li 20))),(qE (.rlen (V 4)) (.rlen (V 0))),(qM (V 2) (V 1))] (mI (V 1) (V 2)) [((V 1),1),((.li 20),1)] [] 0 [] [[(qM (.li 0) (V 2)),(qM (V 2) (.rlen (V 4))),(qE (.rlen (V 4)) (.rlen (V 0)))]]
def rk_sort_stable_func_w3_2_l2 (r:Int×Int×List GKey):Nat×List AV:=(0,[eI r.1,eI r.2.1,eL GKey.enc r.2.2])
theorem lp_sort_stable_func_w3_2_l2 (x0:List GKey)(x1:Int):∀(n:Nat) (u2:Int) (u3:Int) (u4:List GKey),RunL Try.prog sT L95w4_2 H95w4_2 [eL GKey.enc x0,eI x1] n [eI u2,eI u3,eL GKey.enc u4] (rk_sort_stable_func_w3_2_l2 (sort_stable_func_w3_2_l2 x1 n u2 u3 u4))
 |0,u2,u3,u4=>l0
 |n+1,u2,u3,u4=>
  let w5:List GKey:=sort_insertionSort_func_w3_2 u4 u2 u3
  let v5:List GKey:=w5
  lmk rfl [eL GKey.enc v5,undefA] xn (wWL (fun hL=>ctw_sort_insertionSort_func_w3_2 u4 u2 u3 hL)<|wn) ln <|
   rc rk_sort_stable_func_w3_2_l2 rx<|rl (rg (lp_sort_stable_func_w3_2_l2 x0 x1 n _ _ _))
def L95w4_11 : Lo:=
 let p0:Pc:=((qL (V 7) (V 1)),true)::[]
 let p1:Pc:=((qM (V 12) (V 1)),true)::p0
 .mk [((qL (V 7) (V 1)),true)] 11 3 [(zI (.li 0)),(zI (.bin .mul kI (.li 2) (V 7))),(zL (V 10))] [((.not (qM (V 12) (V 1))),1,[(zI (V 11)),(zI (V 12)),(zL (V 13))]),((.lb true),0,[(zI (V 12)),(zI (aI (V 12) (.bin .mul kI (.li 2) (V 7)))),(zL (V 14))])] [(p1,(.callw 125 [(.agg [(.fn 64 [] [(.op 3 1 (.li 0) 0)]),(.fn 123 [] [(.os 2 2 0 (.rlen (V 0))),(.c (.at 1 24))])]),(zI (V 11)),(zI (aI (V 11) (V 7))),(zI (V 12))] [(3,(.rows 1 [[(.os 2 2 0 (.rlen (V 0)))]])),(2,(.rowsT 2 (V 13)))] 4 (.tup []) [(3,(.rows 1 [[(.os 2 2 0 (.rlen (V 0)))]])),(2,(.rowsT 2 (V 14)))]))] [] [3] []
def H95w4_11 : LH:=.mk [(qM (.li 0) (V 11)),(qE (V 12) (aI (V 11) (.bin .mul kI (.li 2) (V 7)))),(qM (V 11) (.rlen (V 13))),(qE (.rlen (V 13)) (.rlen (V 10)))] (mI (V 1) (V 11)) [((V 1),1),((V 7),2)] [] 0 [] [[(qM (.li 0) (V 11)),(qM (V 11) (.rlen (V 13))),(qE (.rlen (V 13)) (.rlen (V 10)))]]
def rk_sort_stable_func_w3_2_l11 (r:Int×Int×List GKey):Nat×List AV:=(0,[eI r.1,eI r.2.1,eL GKey.enc r.2.2])
theorem lp_sort_stable_func_w3_2_l11 (x0:List GKey)(x1:Int)(r2:Int×Int×List GKey)(v5:List GKey)(u7:Int)(u8:Int)(u9:Int)(u10:List GKey):∀(n:Nat) (u11:Int) (u12:Int) (u13:List GKey),RunL Try.prog sT L95w4_11 H95w4_11 [eL GKey.enc x0,eI x1,eI r2.1,eI r2.2.1,eL GKey.enc r2.2.2,eL GKey.enc v5,undefA,eI u7,eI u8,eI u9,eL GKey.enc u10] n [eI u11,eI u12,eL GKey.enc u13] (rk_sort_stable_func_w3_2_l11 (sort_stable_func_w3_2_l11 x1 u7 n u11 u12 u13))
 |0,u11,u12,u13=>l0
 |n+1,u11,u12,u13=>
  let w14:List GKey:=sort_symMerge_func_w3_2 ((u12-u11).toNat+1) u13 u11 (iAdd .i64 u11 u7) u12
  let v14:List GKey:=w14
  lmk rfl [eL GKey.enc v14,undefA] xn (wWL (fun hL=>ctw_sort_symMerge_func_w3_2 ((u12-u11).toNat+1) u13 u11 (iAdd .i64 u11 u7) u12 (Nat.lt_succ_self _) hL)<|wn) ln <|
   rc rk_sort_stable_func_w3_2_l11 rx<|rl (rg (lp_sort_stable_func_w3_2_l11 x0 x1 r2 v5 u7 u8 u9 u10 n _ _ _))
def L95w4_7 : Lo:=
 let p0:Pc:=((qL (V 7) (V 1)),true)::[]
 let p1:Pc:=((qL (aI (V 11) (V 7)) (V 1)),true)::p0
 .mk [] 7 4 [(zI (.li 20)),(zI (V 2)),(zI (V 3)),(zL (V 5))] [((.not (qL (V 7) (V 1))),1,[(zL (V 10))]),((qL (aI (V 11) (V 7)) (V 1)),0,[(zI (.bin .mul kI (V 7) (.li 2))),(zI (V 11)),(zI (V 12)),(zL (V 14))]),((.lb true),0,[(zI (.bin .mul kI (V 7) (.li 2))),(zI (V 11)),(zI (V 12)),(zL (V 13))])] [(p1,(.callw 125 [(.agg [(.fn 64 [] [(.op 3 1 (.li 0) 0)]),(.fn 123 [] [(.os 2 2 0 (.rlen (V 0))),(.c (.at 1 24))])]),(zI (V 11)),(zI (aI (V 11) (V 7))),(zI (V 1))] [(3,(.rows 1 [[(.os 2 2 0 (.rlen (V 0)))]])),(2,(.rowsT 2 (V 13)))] 4 (.tup []) [(3,(.rows 1 [[(.os 2 2 0 (.rlen (V 0)))]])),(2,(.rowsT 2 (V 14)))]))] [L95w4_11] [1] []
def H95w4_7 : LH:=.mk [(qM (.li 20) (V 7)),(qE (.rlen (V 10)) (.rlen (V 0)))] (mI (V 1) (V 7)) [((V 1),1)] [] 1 [H95w4_11] [[(qE (.rlen (V 7)) (.rlen (V 5)))]]
def rk_sort_stable_func_w3_2_l7 (r:List GKey):Nat×List AV:=(0,[eL GKey.enc r])
theorem lp_sort_stable_func_w3_2_l7 (x0:List GKey)(x1:Int)(r2:Int×Int×List GKey)(v5:List GKey):∀(n:Nat) (u7:Int) (u8:Int) (u9:Int) (u10:List GKey),RunL Try.prog sT L95w4_7 H95w4_7 [eL GKey.enc x0,eI x1,eI r2.1,eI r2.2.1,eL GKey.enc r2.2.2,eL GKey.enc v5,undefA] n [eI u7,eI u8,eI u9,eL GKey.enc u10] (rk_sort_stable_func_w3_2_l7 (sort_stable_func_w3_2_l7 x1 n u7 u8 u9 u10))
 |0,u7,u8,u9,u10=>l0
 |n+1,u7,u8,u9,u10=>
  let r11:Int×Int×List GKey:=sort_stable_func_w3_2_l11 x1 u7 ((x1+2*u7).toNat+1) 0 (iMul .i64 2 u7) u10
  let w14:List GKey:=sort_symMerge_func_w3_2 ((x1-r11.1).toNat+1) r11.2.2 r11.1 (iAdd .i64 r11.1 u7) x1
  let v14:List GKey:=w14
  lmk rfl [eI r11.1,eI r11.2.1,eL GKey.enc r11.2.2,eL GKey.enc v14,undefA] xn (wWL (fun hL=>ctw_sort_symMerge_func_w3_2 ((x1-r11.1).toNat+1) r11.2.2 r11.1 (iAdd .i64 r11.1 u7) x1 (Nat.lt_succ_self _) hL)<|wn) (lc1 (lp_sort_stable_func_w3_2_l11 x0 x1 r2 v5 u7 u8 u9 u10 ((x1+2*u7).toNat+1) 0 (iMul .i64 2 u7) u10) (hn:=(show ((1)*(x1)+((2)*(u7)+(0)):Int)<_ by first|omega|(simp only [lens];omega))) <|
  ln) <|
   rc rk_sort_stable_func_w3_2_l7 rx<|rc rk_sort_stable_func_w3_2_l7 (rg (lp_sort_stable_func_w3_2_l7 x0 x1 r2 v5 n _ _ _ _))<|rl (rg (lp_sort_stable_func_w3_2_l7 x0 x1 r2 v5 n _ _ _ _))
def R95w4 : PRes:=
 ⟨[((.lb true),(.tup [(.tup []),(zL (V 7))]))],
 [([],(.callw 124 [(.agg [(.fn 64 [] [(.op 3 1 (.li 0) 0)]),(.fn 123 [] [(.os 2 2 0 (.rlen (V 0))),(.c (.at 1 24))])]),(zI (V 2)),(zI (V 1))] [(3,(.rows 1 [[(.os 2 2 0 (.rlen (V 0)))]])),(2,(.rowsT 2 (V 4)))] 4 (.tup []) [(3,(.rows 1 [[(.os 2 2 0 (.rlen (V 0)))]])),(2,(.rowsT 2 (V 5)))]))],[L95w4_2,L95w4_7]⟩
def H95w4 : LH:=.mk [] (.li 0) [] [] 0 [H95w4_2,H95w4_7] []
theorem e95w4 : sFnW Try.prog xBase iBase mdI (fcI kA 95 [1,2,4,5,6,7,11,26,31,49] [(2,(.mk [1,2] (.mk [(4,(.sc kI)),(5,(.sc kI)),(6,(.sc kI))] [] [(2,2)] 12) [(.normal,(.mk [] [] [(2,2)] 12))])),(4,(.mk [1,2,4] (.mk [(5,(.sc kI)),(6,(.sc kI))] [] [(2,2)] 19) [(.normal,(.mk [(5,(.sc kI)),(6,(.sc kI))] [] [(2,2)] 19))])),(0,(.mk [1,2,4] (.mk [(5,(.sc kI)),(6,(.sc kI))] [] [(2,2)] 9) [(.normal,(.mk [(5,(.sc kI)),(6,(.sc kI))] [] [(2,2)] 9))]))]) 3 200 95 [(.agg [(.fn 64 [] [(.op 3 1 (.li 0) 0)]),(.fn 123 [] [(.os 2 2 0 (.rlen (V 0))),(.c (.at 1 24))])]),(zI (V 1))] 2 [(3,(.rows 1 [[(.os 2 2 0 (.rlen (V 0)))]])),(2,(.rowsT 2 (V 0)))] [(2,2)] 4=some R95w4:=by kernel_rfl
theorem ctw_sort_stable_func_w3_2 (x0:List GKey)(x1:Int){L:Nat}(hL:L=(List.map GKey.enc x0).length):CTw Try.prog sT 95 [(.agg [(.fn (.func 64) [] [(.op 3 1 0 0)]),(.fn (.func 123) [] [(.os 2 2 0 L),(.p (Cv.val (.at 1 24)))])]),(.p (.int .i64 x1))] [(3,.rows 1 [[(.os 2 2 0 L)]]),(2,.rows 2 (List.map GKey.enc x0))] 4 (.tup []) [(3,.rows 1 [[(.os 2 2 0 L)]]),(2,.rows 2 (List.map GKey.enc (sort_stable_func_w3_2 x0 x1)))]:=by subst hL;exact (
 let r2:Int×Int×List GKey:=sort_stable_func_w3_2_l2 x1 (x1.toNat+21) 0 20 x0
 let w5:List GKey:=sort_insertionSort_func_w3_2 r2.2.2 r2.1 x1
 let v5:List GKey:=w5
 let r7:List GKey:=sort_stable_func_w3_2_l7 x1 (x1.toNat+1) 20 r2.1 r2.2.1 v5
 mkW (cs:=[eL GKey.enc (sort_stable_func_w3_2 x0 x1)]) hmix xBase_ok iBase_ok e95w4 H95w4 (by kernel_rfl) [eL GKey.enc x0,eI x1,eI r2.1,eI r2.2.1,eL GKey.enc r2.2.2,eL GKey.enc v5,undefA,eL GKey.enc r7] xn
  (wWL (fun hL=>ctw_sort_insertionSort_func_w3_2 r2.2.2 r2.1 x1 hL)<|wn)
  (lc1 (lp_sort_stable_func_w3_2_l2 x0 x1 (x1.toNat+21) 0 20 x0) (hn:=(show ((1)*(x1)+((1)*(20)+(0)):Int)<_ by first|omega|(simp only [lens];omega))) <|
  lc1 (lp_sort_stable_func_w3_2_l7 x0 x1 r2 v5 (x1.toNat+1) 20 r2.1 r2.2.1 v5) <|
  ln)
  (selL rfl))
def R20o : PRes:=
 let p0:Pc:=((qE (.rlen (V 0)) (.li 0)),true)::[]
 let p1:Pc:=((qE (.rlen (V 0)) (.li 0)),false)::[]
 let p2:Pc:=((qE (.rlen (V 0)) (.li 1)),true)::p1
 let p3:Pc:=((qE (.rlen (V 0)) (.li 1)),false)::p1
 let p4:Pc:=((qE (.rlen (V 0)) (.li 1)),false)::[]
 let p5:Pc:=((qE (.rlen (V 0)) (.li 0)),false)::p4
 ⟨[((.or (qE (.rlen (V 0)) (.li 0)) (qE (.rlen (V 0)) (.li 1))),(zL (V 0))),((.lb true),(zL (V 1)))],
 [([],(.rok 2 (V 0))),
 ([],(.len2 0 (V 0))),
 ([],(.tm (qM (.li 0) (.rlen (V 0))))),
 (p0,(.tm (qM (.li 0) (.rlen (V 0))))),
 (p2,(.tm (qM (.li 0) (.rlen (V 0))))),
 (p3,(.tm (qM (.li 0) (.rlen (V 0))))),
 (p3,(.callw 95 [(.agg [(.fn 64 [] [(.op 3 1 (.li 0) 0)]),(.fn 123 [] [(.os 2 2 0 (.rlen (V 0))),(.c (.at 1 24))])]),(zI (.rlen (V 0)))] [(3,(.rows 1 [[(.os 2 2 0 (.rlen (V 0)))]])),(2,(.rowsT 2 (V 0)))] 4 (.tup []) [(3,(.rows 1 [[(.os 2 2 0 (.rlen (V 0)))]])),(2,(.rowsT 2 (V 1)))])),
 (p5,(.tm (qE (.rlen (V 0)) (.rlen (V 1)))))],[]⟩
theorem e20o : sFnO Try.prog xBase iBase mdI (fcI kA 20 [] []) 3 200 20 [zL (V 0)] 1 [] 2=some R20o:=by kernel_rfl
theorem cto_key_Order_o (x0:List GKey):CTo Try.prog sT 20 [eL GKey.enc x0] (eL GKey.enc (key_Order_o x0)) [] 2:=
 let w1:List GKey:=sort_stable_func_w3_2 x0 (mLen GKey.enc x0)
 let v1:List GKey:=w1
 let v3:List GKey:=(v1.drop (0)).take (((mLen GKey.enc x0):Int).toNat-0)
 mkO hmix xBase_ok iBase_ok e20o lh0 (by kernel_rfl) [eL GKey.enc x0,eL GKey.enc v1,undefA,eL GKey.enc v3] xn
  (wRok (f:=GKey.enc) rfl <|
  wLen2 <|
  wT <|
  wT <|
  wT <|
  wT <|
  wWL (fun hL=>ctw_sort_stable_func_w3_2 x0 (mLen GKey.enc x0) hL) <|
  wT <|
  wn)
  ln
  (selE (fun r=>.sl (List.map GKey.enc r) false) rfl rfl (selL rfl))
theorem cto_key_Order (x0:List GKey):CTo Try.prog sT 20 [eL GKey.enc x0] (eL GKey.enc (key_Order x0)) [] 2:=
 cto_eq (fun hb=>
 have hb0:x0.length≤4294967296:=by have:=hb.1.1;simpa using this
 congrArg (eL GKey.enc) (key_Order_o_eq x0 hb0)) (cto_key_Order_o x0)
def L27_2 : Lo:=
 let p0:Pc:=((qN (V 1) (.li 0)),false)::[]
 let p1:Pc:=((qL (V 3) (.rlen (V 0))),true)::p0
 .mk [((qN (V 1) (.li 0)),false)] 2 2 [(zL .nl),(zI (.li 0))] [((.not (qL (V 3) (.rlen (V 0)))),1,[(zL (V 2))]),((.lb true),0,[(zL (V 5)),(zI (aI (V 3) (.li 1)))])] [(p1,(.row (V 0) (V 3) (cV 4 GProp.kds))),
 (p1,(.app 2 (V 2) [[(zS (W 4 0)),(zI (W 4 1))]] (V 5)))] [] [1] [(V 0)]
def H27_2 : LH:=.mk [(qE (.rlen (V 2)) (V 3))] (mI (.rlen (V 0)) (V 3)) [((.rlen (V 0)),1)] [] 1 [] []
def rk_table_Keys_l2 (r:List GKey):Nat×List AV:=(0,[eL GKey.enc r])
theorem lp_table_Keys_l2 (x0:List GProp)(v1:Int):∀(n:Nat) (u2:List GKey) (u3:Int),RunL Try.prog sT L27_2 H27_2 [eL GProp.enc x0,eI v1] n [eL GKey.enc u2,eI u3] (rk_table_Keys_l2 (table_Keys_l2 x0 n u2 u3))
 |0,u2,u3=>l0
 |n+1,u2,u3=>
  let v4:GProp:=x0.getD (u3:Int).toNat default
  let v5:List GKey:=u2++[v4.Key]
  lmk rfl [GProp.av v4,eL GKey.enc v5] xn (wR rfl <|
  wApp (f:=GKey.enc) [v4.Key] rfl <|
  wn) ln <|
   rc rk_table_Keys_l2 rx<|rl (rg (lp_table_Keys_l2 x0 v1 n _ _))
def R27 : PRes:=
 let p0:Pc:=((qN (V 1) (.li 0)),false)::[]
 ⟨[((qN (V 1) (.li 0)),(.tup [(.slc [] false),(zI (V 1))])),((.lb true),(.tup [(zL (V 3)),(zI (.li 0))]))],
 [([],(.call 23 [(zL (V 0))] (zI (V 1)))),
 (p0,(.callo 20 [(zL (V 2))] (zL (V 3)) [] 2 true))],[L27_2]⟩
def H27 : LH:=.mk [] (.li 0) [] [] 0 [H27_2] []
theorem e27 : sFnI Try.prog xBase iBase (mdW [20] mdI) (fcI kA 27 [5,15] [(0,(.mk [2,3,13,14] (.mk [(5,(.os 11 2)),(15,(.sc kI))] [] [] 12) [(.normal,(.mk [(5,(.os 11 2))] [] [] 12))]))]) 3 200 27 [zL (V 0)] 1=some R27:=by kernel_rfl
theorem ct_table_Keys (x0:List GProp):CT Try.prog sT 27 [eL GProp.enc x0] (eR_sKey_ii64 (table_Keys x0)):=
 let v1:Int:=table_Check x0
 let r2:List GKey:=table_Keys_l2 x0 (x0.length+1) [] 0
 let v3:List GKey:=key_Order r2
 mkH hmix xBase_ok iBase_ok e27 H27 (by kernel_rfl) [eL GProp.enc x0,eI v1,eL GKey.enc r2,eL GKey.enc v3] xn
  (wC (ct_table_Check x0) <|
  wOf (cto_key_Order r2) rfl <|
  wn)
  (lc1 (lp_table_Keys_l2 x0 v1 (x0.length+1) [] 0) <|
  ln)
  (selE eR_sKey_ii64 rfl rfl (selL rfl))
def L31_2 : Lo:=
 let p0:Pc:=((qN (V 1) (.li 0)),false)::[]
 let p1:Pc:=((qL (V 4) (.rlen (V 0))),true)::p0
 .mk [((qN (V 1) (.li 0)),false)] 2 3 [(zB (.lb false)),(zI (.li 0)),(zI (.li 0))] [((.not (qL (V 4) (.rlen (V 0)))),1,[(zB (V 2)),(zI (V 3))]),((W 5 17),2,[(zB (.lb false)),(zI (.li 0))]),((.lb true),0,[(zB (V 2)),(zI (V 3)),(zI (aI (V 4) (.li 1)))])] [(p1,(.row (V 0) (V 4) (cV 5 GProp.kds)))] [] [2,2] [(V 0)]
def H31_2 : LH:=.mk [(qM (V 1) (V 4))] (mI (.rlen (V 0)) (V 4)) [((.rlen (V 0)),1)] [] 1 [] []
def rk_table_Sealed_l2 (r:Bool×Bool×Int×Bool×Int):Nat×List AV:=rk2 r.1 [eB r.2.1,eI r.2.2.1] [eB r.2.2.2.1,eI r.2.2.2.2]
theorem lp_table_Sealed_l2 (x0:List GProp)(v1:Int):∀(n:Nat) (u2:Bool) (u3:Int) (u4:Int),RunL Try.prog sT L31_2 H31_2 [eL GProp.enc x0,eI v1] n [eB u2,eI u3,eI u4] (rk_table_Sealed_l2 (table_Sealed_l2 x0 n u2 u3 u4))
 |0,u2,u3,u4=>l0
 |n+1,u2,u3,u4=>
  let v5:GProp:=x0.getD (u4:Int).toNat default
  lmk rfl [GProp.av v5] xn (wR rfl<|wn) ln <|
   rc rk_table_Sealed_l2 rx<|rc rk_table_Sealed_l2 rx<|rl (rg (lp_table_Sealed_l2 x0 v1 n _ _ _))
def R31 : PRes:=
 ⟨[((qN (V 1) (.li 0)),(.tup [(zB (.lb false)),(zI (V 1))])),((.not (qE (V 2) (.li 0))),(.tup [(zB (V 5)),(zI (V 6))])),((.lb true),(.tup [(zB (.lb true)),(zI (.li 0))]))],
 [([],(.call 23 [(zL (V 0))] (zI (V 1))))],[L31_2]⟩
def H31 : LH:=.mk [] (.li 0) [] [] 0 [H31_2] []
theorem e31 : sFnI Try.prog xBase iBase mdI (fcI kA 31 [14,2,3] [(0,(.mk [12,13] (.mk [(2,(.sc .bool)),(3,(.sc kI)),(14,(.sc kI))] [] [] 10) [(.normal,(.mk [(2,(.sc .bool)),(3,(.sc kI))] [] [] 10)),(.ret,(.mk [(2,(.sc .bool)),(3,(.sc kI))] [] [] 10))]))]) 3 200 31 [zL (V 0)] 1=some R31:=by kernel_rfl
theorem ct_table_Sealed (x0:List GProp):CT Try.prog sT 31 [eL GProp.enc x0] (eR_bool_ii64 (table_Sealed x0)):=
 let v1:Int:=table_Check x0
 let r2:Bool×Bool×Int×Bool×Int:=table_Sealed_l2 x0 (x0.length+1) false 0 0
 mkH hmix xBase_ok iBase_ok e31 H31 (by kernel_rfl) [eL GProp.enc x0,eI v1,eI (selB r2.1),eB r2.2.1,eI r2.2.2.1,eB r2.2.2.2.1,eI r2.2.2.2.2] xn
  (wC (ct_table_Check x0)<|wn)
  (lc2 (lp_table_Sealed_l2 x0 v1 (x0.length+1) false 0 0) <|
  ln)
  (selE eR_bool_ii64 rfl rfl (selE eR_bool_ii64 rfl rfl (selL rfl)))
def L33_2 : Lo:=
 let p0:Pc:=((qL (V 3) (.rlen (V 0))),true)::[]
 .mk [] 2 2 [(zB (W 1 0)),(zI (.li 0))] [((.not (qL (V 3) (.rlen (V 0)))),1,[(zB (V 2))]),((.lb true),0,[(zB (.and (V 2) (.not (W 4 15)))),(zI (aI (V 3) (.li 1)))])] [(p0,(.row (V 0) (V 3) (cV 4 GProp.kds)))] [] [1] [(V 0)]
def H33_2 : LH:=.mk [(qM (.li 0) (V 3))] (mI (.rlen (V 0)) (V 3)) [((.rlen (V 0)),1)] [] 1 [] []
def rk_table_Frozen_l2 (r:Bool):Nat×List AV:=(0,[eB r])
theorem lp_table_Frozen_l2 (x0:List GProp)(v1:Bool×Int):∀(n:Nat) (u2:Bool) (u3:Int),RunL Try.prog sT L33_2 H33_2 [eL GProp.enc x0,eR_bool_ii64 v1] n [eB u2,eI u3] (rk_table_Frozen_l2 (table_Frozen_l2 x0 n u2 u3))
 |0,u2,u3=>l0
 |n+1,u2,u3=>
  let v4:GProp:=x0.getD (u3:Int).toNat default
  lmk rfl [GProp.av v4] xn (wR rfl<|wn) ln <|
   rc rk_table_Frozen_l2 rx<|rl (rg (lp_table_Frozen_l2 x0 v1 n _ _))
def R33 : PRes:=
 ⟨[((.lb true),(.tup [(zB (V 2)),(zI (W 1 1))]))],
 [([],(.call 31 [(zL (V 0))] (.tup [(zB (W 1 0)),(zI (W 1 1))])))],[L33_2]⟩
def H33 : LH:=.mk [] (.li 0) [] [] 0 [H33_2] []
theorem e33 : sFnI Try.prog xBase iBase mdI (fcI kA 33 [4,21,22,23,24,15] [(0,(.mk [2,3,5,13,14] (.mk [(4,(.sc .bool)),(15,(.sc kI))] [] [] 12) [(.normal,(.mk [(4,(.sc .bool))] [] [] 12))]))]) 3 200 33 [zL (V 0)] 1=some R33:=by kernel_rfl
theorem ct_table_Frozen (x0:List GProp):CT Try.prog sT 33 [eL GProp.enc x0] (eR_bool_ii64 (table_Frozen x0)):=
 let v1:Bool×Int:=table_Sealed x0
 let r2:Bool:=table_Frozen_l2 x0 (x0.length+1) v1.1 0
 mkH hmix xBase_ok iBase_ok e33 H33 (by kernel_rfl) [eL GProp.enc x0,eR_bool_ii64 v1,eB r2] xn
  (wC (ct_table_Sealed x0)<|wn)
  (lc1 (lp_table_Frozen_l2 x0 v1 (x0.length+1) v1.1 0) <|
  ln)
  (selL rfl)
def L6_17 : Lo:=
 let p0:Pc:=((V 4),true)::[]
 let p1:Pc:=((qN (V 8) (.li 0)),false)::p0
 let p2:Pc:=((qN (V 7) (.li 0)),false)::p1
 let p3:Pc:=((qN (V 6) (.li 0)),false)::p2
 let p4:Pc:=((V 5),false)::p3
 let p5:Pc:=((qN (W 10 2) (.li 0)),false)::p4
 let p6:Pc:=((qN (W 9 2) (.li 0)),false)::p5
 let p7:Pc:=((qE (W 11 1) (.li 0)),true)::p6
 let p8:Pc:=((qN (V 15) (.li 0)),false)::p7
 let p9:Pc:=((qN (.rlen (W 11 0)) (.ite (W 10 1) (.rlen (V 0)) (aI (.rlen (V 0)) (.li 1)))),false)::p8
 let p10:Pc:=((qN (W 13 2) (.li 0)),false)::p9
 let p11:Pc:=((V 14),true)::p10
 let p12:Pc:=((W 12 1),true)::p11
 let p13:Pc:=((qN (W 12 2) (.li 0)),false)::p12
 let p14:Pc:=((.and (.not (.and (sE (W 3 0) (W 1 0)) (qE (W 3 1) (W 1 1)))) (.or (.not (.bin .eql .bool (W 13 1) (W 9 1))) (.not (V 16)))),false)::p13
 let p15:Pc:=((qL (V 18) (.rlen (V 0))),true)::p14
 .mk [((.and (.not (.and (sE (W 3 0) (W 1 0)) (qE (W 3 1) (W 1 1)))) (.or (.not (.bin .eql .bool (W 13 1) (W 9 1))) (.not (V 16)))),false),((qN (W 12 2) (.li 0)),false),((W 12 1),true),((V 14),true),((qN (W 13 2) (.li 0)),false),((qN (.rlen (W 11 0)) (.ite (W 10 1) (.rlen (V 0)) (aI (.rlen (V 0)) (.li 1)))),false),((qN (V 15) (.li 0)),false),((qE (W 11 1) (.li 0)),true),((qN (W 9 2) (.li 0)),false),((qN (W 10 2) (.li 0)),false),((V 5),false),((qN (V 6) (.li 0)),false),((qN (V 7) (.li 0)),false),((qN (V 8) (.li 0)),false),((V 4),true)] 17 2 [(zB (.lb false)),(zI (.li 0))] [((.not (qL (V 18) (.rlen (V 0)))),1,[(zB (V 17))]),((.not (.and (sE (W 19 0) (W 20 0)) (qE (W 19 1) (W 20 1)))),2,[(zB (.lb false))]),((.lb true),0,[(zB (V 17)),(zI (aI (V 18) (.li 1)))])] [(p15,(.row (W 11 0) (V 18) (cV 19 GProp.kds))),
 (p15,(.row (V 0) (V 18) (cV 20 GProp.kds)))] [] [1,1] [(V 0),(W 11 0)]
def H6_17 : LH:=.mk [(qM (V 7) (V 18))] (mI (.rlen (V 0)) (V 18)) [((.rlen (V 0)),1)] [] 13 [] []
def rk_law10_TableFinds_l17 (r:Bool×Bool×Bool):Nat×List AV:=rk2 r.1 [eB r.2.1] [eB r.2.2]
theorem lp_law10_TableFinds_l17 (x0:List GProp)(x1:GKey)(x2:GDesc)(x3:GKey)(v4:Bool)(v5:Bool)(v6:Int)(v7:Int)(v8:Int)(v9:GDesc×Bool×Int)(v10:GDesc×Bool×Int)(v11:List GProp×Int)(v12:GDesc×Bool×Int)(v13:GDesc×Bool×Int)(v14:Bool)(v15:Int)(v16:Bool):∀(n:Nat) (u17:Bool) (u18:Int),RunL Try.prog sT L6_17 H6_17 [eL GProp.enc x0,GKey.av x1,GDesc.av x2,GKey.av x3,eB v4,eB v5,eI v6,eI v7,eI v8,eR_Desc_bool_ii64 v9,eR_Desc_bool_ii64 v10,eR_sProp_ii64 v11,eR_Desc_bool_ii64 v12,eR_Desc_bool_ii64 v13,eB v14,eI v15,eB v16] n [eB u17,eI u18] (rk_law10_TableFinds_l17 (law10_TableFinds_l17 x0 v11 n u17 u18))
 |0,u17,u18=>l0
 |n+1,u17,u18=>
  let v19:GProp:=v11.1.getD (u18:Int).toNat default
  let v20:GProp:=x0.getD (u18:Int).toNat default
  lmk rfl [GProp.av v19,GProp.av v20] xn (wR rfl <|
  wR rfl <|
  wn) ln <|
   rc rk_law10_TableFinds_l17 rx<|rc rk_law10_TableFinds_l17 rx<|rl (rg (lp_law10_TableFinds_l17 x0 x1 x2 x3 v4 v5 v6 v7 v8 v9 v10 v11 v12 v13 v14 v15 v16 n _ _))
def L6_24 : Lo:=
 let p0:Pc:=((V 4),true)::[]
 let p1:Pc:=((qN (V 8) (.li 0)),false)::p0
 let p2:Pc:=((qN (V 7) (.li 0)),false)::p1
 let p3:Pc:=((qN (V 6) (.li 0)),false)::p2
 let p4:Pc:=((V 5),false)::p3
 let p5:Pc:=((qN (W 10 2) (.li 0)),false)::p4
 let p6:Pc:=((qN (W 9 2) (.li 0)),false)::p5
 let p7:Pc:=((.and (qE (W 11 1) (.li 0)) (.or (.or (.or (.or (.or (qN (W 12 2) (.li 0)) (.not (W 12 1))) (.not (V 14))) (qN (W 13 2) (.li 0))) (qN (.rlen (W 11 0)) (.ite (W 10 1) (.rlen (V 0)) (aI (.rlen (V 0)) (.li 1))))) (qN (V 15) (.li 0)))),false)::p6
 let p8:Pc:=((.and (qE (W 11 1) (.li 0)) (.and (.not (.and (sE (W 3 0) (W 1 0)) (qE (W 3 1) (W 1 1)))) (.or (.not (.bin .eql .bool (W 13 1) (W 9 1))) (.not (V 16))))),false)::p7
 let p9:Pc:=((.and (qE (W 11 1) (.li 0)) (.not (qE (V 17) (.li 0)))),false)::p8
 let p10:Pc:=((.and (.not (.and (sE (W 3 0) (W 1 0)) (qE (W 3 1) (W 1 1)))) (.or (.not (.bin .eql .bool (W 22 1) (W 9 1))) (.not (V 23)))),false)::p9
 let p11:Pc:=((qN (W 22 2) (.li 0)),false)::p10
 let p12:Pc:=((W 21 1),false)::p11
 let p13:Pc:=((qN (W 21 2) (.li 0)),false)::p12
 let p14:Pc:=((qN (W 20 1) (.li 0)),false)::p13
 let p15:Pc:=((qL (V 26) (.rlen (V 0))),true)::p14
 let p16:Pc:=((.and (sE (W 27 0) (W 1 0)) (qE (W 27 1) (W 1 1))),false)::p15
 let p17:Pc:=((qH (V 25) (.rlen (W 20 0))),false)::p16
 .mk [((qN (W 20 1) (.li 0)),false),((qN (W 21 2) (.li 0)),false),((W 21 1),false),((qN (W 22 2) (.li 0)),false),((.and (.not (.and (sE (W 3 0) (W 1 0)) (qE (W 3 1) (W 1 1)))) (.or (.not (.bin .eql .bool (W 22 1) (W 9 1))) (.not (V 23)))),false),((.and (qE (W 11 1) (.li 0)) (.not (qE (V 17) (.li 0)))),false),((.and (qE (W 11 1) (.li 0)) (.and (.not (.and (sE (W 3 0) (W 1 0)) (qE (W 3 1) (W 1 1)))) (.or (.not (.bin .eql .bool (W 13 1) (W 9 1))) (.not (V 16))))),false),((.and (qE (W 11 1) (.li 0)) (.or (.or (.or (.or (.or (qN (W 12 2) (.li 0)) (.not (W 12 1))) (.not (V 14))) (qN (W 13 2) (.li 0))) (qN (.rlen (W 11 0)) (.ite (W 10 1) (.rlen (V 0)) (aI (.rlen (V 0)) (.li 1))))) (qN (V 15) (.li 0)))),false),((qN (W 9 2) (.li 0)),false),((qN (W 10 2) (.li 0)),false),((V 5),false),((qN (V 6) (.li 0)),false),((qN (V 7) (.li 0)),false),((qN (V 8) (.li 0)),false),((V 4),true)] 24 3 [(zB (.and (qE (W 11 1) (.li 0)) (V 18))),(zI (.li 0)),(zI (.li 0))] [((.not (qL (V 26) (.rlen (V 0)))),1,[(zB (V 24)),(zI (V 25))]),((.and (.not (.and (sE (W 27 0) (W 1 0)) (qE (W 27 1) (W 1 1)))) (.or (qH (V 25) (.rlen (W 20 0))) (.not (.and (sE (W 28 0) (W 29 0)) (qE (W 28 1) (W 29 1)))))),2,[(zB (.lb false))]),((.lb true),0,[(zB (V 24)),(zI (.ite (.and (sE (W 27 0) (W 1 0)) (qE (W 27 1) (W 1 1))) (V 25) (aI (V 25) (.li 1)))),(zI (aI (V 26) (.li 1)))])] [(p15,(.row (V 0) (V 26) (cV 27 GProp.kds))),
 (p17,(.row (W 20 0) (V 25) (cV 28 GProp.kds))),
 (p17,(.row (V 0) (V 26) (cV 29 GProp.kds)))] [] [2,1] [(V 0),(W 20 0)]
def H6_24 : LH:=.mk [(qM (W 22 2) (V 25)),(qM (V 25) (V 26))] (mI (.rlen (V 0)) (V 26)) [((.rlen (V 0)),1)] [] 17 [] []
def rk_law10_TableFinds_l24 (r:Bool×Bool×Int×Bool):Nat×List AV:=rk2 r.1 [eB r.2.1,eI r.2.2.1] [eB r.2.2.2]
theorem lp_law10_TableFinds_l24 (x0:List GProp)(x1:GKey)(x2:GDesc)(x3:GKey)(v4:Bool)(v5:Bool)(v6:Int)(v7:Int)(v8:Int)(v9:GDesc×Bool×Int)(v10:GDesc×Bool×Int)(v11:List GProp×Int)(v12:GDesc×Bool×Int)(v13:GDesc×Bool×Int)(v14:Bool)(v15:Int)(v16:Bool)(r17:Bool×Bool×Bool)(v20:List GProp×Int)(v21:GDesc×Bool×Int)(v22:GDesc×Bool×Int)(v23:Bool):∀(n:Nat) (u24:Bool) (u25:Int) (u26:Int),RunL Try.prog sT L6_24 H6_24 [eL GProp.enc x0,GKey.av x1,GDesc.av x2,GKey.av x3,eB v4,eB v5,eI v6,eI v7,eI v8,eR_Desc_bool_ii64 v9,eR_Desc_bool_ii64 v10,eR_sProp_ii64 v11,eR_Desc_bool_ii64 v12,eR_Desc_bool_ii64 v13,eB v14,eI v15,eB v16,eI (selB r17.1),eB r17.2.1,eB r17.2.2,eR_sProp_ii64 v20,eR_Desc_bool_ii64 v21,eR_Desc_bool_ii64 v22,eB v23] n [eB u24,eI u25,eI u26] (rk_law10_TableFinds_l24 (law10_TableFinds_l24 x0 x1 v20 n u24 u25 u26))
 |0,u24,u25,u26=>l0
 |n+1,u24,u25,u26=>
  let v27:GProp:=x0.getD (u26:Int).toNat default
  let v28:GProp:=v20.1.getD (u25:Int).toNat default
  let v29:GProp:=x0.getD (u26:Int).toNat default
  lmk rfl [GProp.av v27,GProp.av v28,GProp.av v29] xn (wR rfl <|
  wR rfl <|
  wR rfl <|
  wn) ln <|
   rc rk_law10_TableFinds_l24 rx<|rc rk_law10_TableFinds_l24 rx<|rl (rg (lp_law10_TableFinds_l24 x0 x1 x2 x3 v4 v5 v6 v7 v8 v9 v10 v11 v12 v13 v14 v15 v16 r17 v20 v21 v22 v23 n _ _ _))
def R6 : PRes:=
 let p0:Pc:=((V 5),false)::[]
 let p1:Pc:=((.or (V 5) (qN (V 6) (.li 0))),false)::[]
 let p2:Pc:=((.or (.or (V 5) (qN (V 6) (.li 0))) (qN (V 7) (.li 0))),false)::[]
 let p3:Pc:=((V 4),true)::[]
 let p4:Pc:=((qN (V 8) (.li 0)),false)::p3
 let p5:Pc:=((qN (V 7) (.li 0)),false)::p4
 let p6:Pc:=((qN (V 6) (.li 0)),false)::p5
 let p7:Pc:=((V 5),false)::p6
 let p8:Pc:=((qN (W 10 2) (.li 0)),false)::p7
 let p9:Pc:=((qN (W 9 2) (.li 0)),false)::p8
 let p10:Pc:=((qE (W 11 1) (.li 0)),true)::p9
 let p11:Pc:=((.or (qN (W 12 2) (.li 0)) (.not (W 12 1))),false)::p10
 let p12:Pc:=((.or (.or (.or (.or (qN (W 12 2) (.li 0)) (.not (W 12 1))) (.not (V 14))) (qN (W 13 2) (.li 0))) (qN (.rlen (W 11 0)) (.ite (W 10 1) (.rlen (V 0)) (aI (.rlen (V 0)) (.li 1))))),false)::p10
 let p13:Pc:=((qN (V 15) (.li 0)),false)::p10
 let p14:Pc:=((qN (.rlen (W 11 0)) (.ite (W 10 1) (.rlen (V 0)) (aI (.rlen (V 0)) (.li 1)))),false)::p13
 let p15:Pc:=((qN (W 13 2) (.li 0)),false)::p14
 let p16:Pc:=((V 14),true)::p15
 let p17:Pc:=((W 12 1),true)::p16
 let p18:Pc:=((qN (W 12 2) (.li 0)),false)::p17
 let p19:Pc:=((.not (.and (sE (W 3 0) (W 1 0)) (qE (W 3 1) (W 1 1)))),true)::p18
 let p20:Pc:=((.not (.bin .eql .bool (W 13 1) (W 9 1))),false)::p19
 let p21:Pc:=((.and (qE (W 11 1) (.li 0)) (.or (.or (.or (.or (.or (qN (W 12 2) (.li 0)) (.not (W 12 1))) (.not (V 14))) (qN (W 13 2) (.li 0))) (qN (.rlen (W 11 0)) (.ite (W 10 1) (.rlen (V 0)) (aI (.rlen (V 0)) (.li 1))))) (qN (V 15) (.li 0)))),false)::p9
 let p22:Pc:=((.and (qE (W 11 1) (.li 0)) (.and (.not (.and (sE (W 3 0) (W 1 0)) (qE (W 3 1) (W 1 1)))) (.or (.not (.bin .eql .bool (W 13 1) (W 9 1))) (.not (V 16))))),false)::p21
 let p23:Pc:=((.and (qE (W 11 1) (.li 0)) (.not (qE (V 17) (.li 0)))),false)::p22
 let p24:Pc:=((.or (.or (.or (qN (W 20 1) (.li 0)) (qN (W 21 2) (.li 0))) (W 21 1)) (qN (W 22 2) (.li 0))),false)::p23
 let p25:Pc:=((.not (.and (sE (W 3 0) (W 1 0)) (qE (W 3 1) (W 1 1)))),true)::p24
 let p26:Pc:=((.not (.bin .eql .bool (W 22 1) (W 9 1))),false)::p25
 let p27:Pc:=((.and (.not (.and (sE (W 3 0) (W 1 0)) (qE (W 3 1) (W 1 1)))) (.or (.not (.bin .eql .bool (W 22 1) (W 9 1))) (.not (V 23)))),false)::p23
 let p28:Pc:=((qN (W 22 2) (.li 0)),false)::p27
 let p29:Pc:=((W 21 1),false)::p28
 let p30:Pc:=((qN (W 21 2) (.li 0)),false)::p29
 let p31:Pc:=((qN (W 20 1) (.li 0)),false)::p30
 let p32:Pc:=((qE (V 24) (.li 0)),true)::p31
 ⟨[((.or (.or (.or (.or (V 5) (qN (V 6) (.li 0))) (qN (V 7) (.li 0))) (qN (V 8) (.li 0))) (.not (V 4))),(zB (V 4))),((.or (qN (W 9 2) (.li 0)) (qN (W 10 2) (.li 0))),(zB (.lb false))),((.and (qE (W 11 1) (.li 0)) (.or (.or (.or (.or (.or (qN (W 12 2) (.li 0)) (.not (W 12 1))) (.not (V 14))) (qN (W 13 2) (.li 0))) (qN (.rlen (W 11 0)) (.ite (W 10 1) (.rlen (V 0)) (aI (.rlen (V 0)) (.li 1))))) (qN (V 15) (.li 0)))),(zB (.lb false))),((.and (qE (W 11 1) (.li 0)) (.and (.not (.and (sE (W 3 0) (W 1 0)) (qE (W 3 1) (W 1 1)))) (.or (.not (.bin .eql .bool (W 13 1) (W 9 1))) (.not (V 16))))),(zB (.lb false))),((.and (qE (W 11 1) (.li 0)) (.not (qE (V 17) (.li 0)))),(zB (V 19))),((.or (.or (.or (.or (qN (W 20 1) (.li 0)) (qN (W 21 2) (.li 0))) (W 21 1)) (qN (W 22 2) (.li 0))) (.and (.not (.and (sE (W 3 0) (W 1 0)) (qE (W 3 1) (W 1 1)))) (.or (.not (.bin .eql .bool (W 22 1) (W 9 1))) (.not (V 23))))),(zB (.lb false))),((.not (qE (V 24) (.li 0))),(zB (V 27))),((.lb true),(zB (.and (.and (.and (.and (.and (qE (V 26) (.rlen (W 20 0))) (qE (W 28 1) (.li 0))) (qE (.rlen (W 28 0)) (.rlen (V 0)))) (qE (W 29 1) (.li 0))) (qE (W 30 1) (.li 0))) (.or (W 29 0) (.not (W 30 0))))))],
 [([],(.call 36 [] (zB (V 4)))),
 ([],(.call 11 [(zL (V 0))] (zB (V 5)))),
 (p0,(.call 23 [(zL (V 0))] (zI (V 6)))),
 (p1,(.call 37 [(.agg [(zS (W 1 0)),(zI (W 1 1))])] (zI (V 7)))),
 (p2,(.call 37 [(.agg [(zS (W 3 0)),(zI (W 3 1))])] (zI (V 8)))),
 (p7,(.call 25 [(zL (V 0)),(.agg [(zS (W 3 0)),(zI (W 3 1))])] (.tup [(.agg (cellsV 9 [0] 0 GDesc.kds)),(zB (W 9 1)),(zI (W 9 2))]))),
 (p7,(.call 25 [(zL (V 0)),(.agg [(zS (W 1 0)),(zI (W 1 1))])] (.tup [(.agg (cellsV 10 [0] 0 GDesc.kds)),(zB (W 10 1)),(zI (W 10 2))]))),
 (p9,(.call 13 [(zL (V 0)),(.agg [(zS (W 1 0)),(zI (W 1 1))]),(.agg (cV 2 GDesc.kds))] (.tup [(zL (W 11 0)),(zI (W 11 1))]))),
 (p10,(.call 25 [(zL (W 11 0)),(.agg [(zS (W 1 0)),(zI (W 1 1))])] (.tup [(.agg (cellsV 12 [0] 0 GDesc.kds)),(zB (W 12 1)),(zI (W 12 2))]))),
 (p10,(.call 25 [(zL (W 11 0)),(.agg [(zS (W 3 0)),(zI (W 3 1))])] (.tup [(.agg (cellsV 13 [0] 0 GDesc.kds)),(zB (W 13 1)),(zI (W 13 2))]))),
 (p11,(.call 38 [(.agg (cellsV 12 [0] 0 GDesc.kds)),(.agg (cV 2 GDesc.kds))] (zB (V 14)))),
 (p12,(.call 23 [(zL (W 11 0))] (zI (V 15)))),
 (p20,(.call 38 [(.agg (cellsV 13 [0] 0 GDesc.kds)),(.agg (cellsV 9 [0] 0 GDesc.kds))] (zB (V 16)))),
 (p23,(.call 15 [(zL (V 0)),(.agg [(zS (W 1 0)),(zI (W 1 1))])] (.tup [(zL (W 20 0)),(zI (W 20 1))]))),
 (p23,(.call 25 [(zL (W 20 0)),(.agg [(zS (W 1 0)),(zI (W 1 1))])] (.tup [(.agg (cellsV 21 [0] 0 GDesc.kds)),(zB (W 21 1)),(zI (W 21 2))]))),
 (p23,(.call 25 [(zL (W 20 0)),(.agg [(zS (W 3 0)),(zI (W 3 1))])] (.tup [(.agg (cellsV 22 [0] 0 GDesc.kds)),(zB (W 22 1)),(zI (W 22 2))]))),
 (p26,(.call 38 [(.agg (cellsV 22 [0] 0 GDesc.kds)),(.agg (cellsV 9 [0] 0 GDesc.kds))] (zB (V 23)))),
 (p32,(.call 27 [(zL (V 0))] (.tup [(zL (W 28 0)),(zI (W 28 1))]))),
 (p32,(.call 31 [(zL (V 0))] (.tup [(zB (W 29 0)),(zI (W 29 1))]))),
 (p32,(.call 33 [(zL (V 0))] (.tup [(zB (W 30 0)),(zI (W 30 1))])))],[L6_17,L6_24]⟩
def H6 : LH:=.mk [] (.li 0) [] [] 0 [H6_17,H6_24] []
theorem e6 : sFnI Try.prog xBase iBase mdI (fcI kA 6 [31,243,237,242,241,240,238,239,236,235,233,234,32,24,8] [(2,(.mk [0,5,12,15,25,30] (.mk [(8,(.sc .bool)),(31,(.sc kI)),(32,(.sc kI))] [] [] 199) [(.normal,(.mk [(8,(.sc .bool)),(31,(.sc kI))] [] [] 199)),(.ret,(.mk [(8,(.sc .bool))] [] [] 199))])),(0,(.mk [0,5,7,10,11,12,15,16] (.mk [(8,(.sc .bool)),(24,(.sc kI))] [] [] 138) [(.normal,(.mk [(8,(.sc .bool))] [] [] 138)),(.ret,(.mk [(8,(.sc .bool))] [] [] 138))]))]) 3 200 6 [zL (V 0),.agg (cV 1 GKey.kds),.agg (cV 2 GDesc.kds),.agg (cV 3 GKey.kds)] 4=some R6:=by kernel_rfl
theorem ct_law10_TableFinds (x0:List GProp)(x1:GKey)(x2:GDesc)(x3:GKey):CT Try.prog sT 6 [eL GProp.enc x0,GKey.av x1,GDesc.av x2,GKey.av x3] (eB (law10_TableFinds x0 x1 x2 x3)):=
 let v4:Bool:=law10_alive
 let v5:Bool:=law10_long x0
 let v6:Int:=table_Check x0
 let v7:Int:=key_Check x1
 let v8:Int:=key_Check x3
 let v9:GDesc×Bool×Int:=table_Find x0 x3
 let v10:GDesc×Bool×Int:=table_Find x0 x1
 let v11:List GProp×Int:=table_Put x0 x1 x2
 let v12:GDesc×Bool×Int:=table_Find v11.1 x1
 let v13:GDesc×Bool×Int:=table_Find v11.1 x3
 let v14:Bool:=desc_Same v12.1 x2
 let v15:Int:=table_Check v11.1
 let v16:Bool:=desc_Same v13.1 v9.1
 let r17:Bool×Bool×Bool:=law10_TableFinds_l17 x0 v11 (x0.length+1) false 0
 let v20:List GProp×Int:=table_Drop x0 x1
 let v21:GDesc×Bool×Int:=table_Find v20.1 x1
 let v22:GDesc×Bool×Int:=table_Find v20.1 x3
 let v23:Bool:=desc_Same v22.1 v9.1
 let r24:Bool×Bool×Int×Bool:=law10_TableFinds_l24 x0 x1 v20 (x0.length+1) ((iEq v11.2 0)&&r17.2.1) 0 0
 let v28:List GKey×Int:=table_Keys x0
 let v29:Bool×Int:=table_Sealed x0
 let v30:Bool×Int:=table_Frozen x0
 mkH hmix xBase_ok iBase_ok e6 H6 (by kernel_rfl) [eL GProp.enc x0,GKey.av x1,GDesc.av x2,GKey.av x3,eB v4,eB v5,eI v6,eI v7,eI v8,eR_Desc_bool_ii64 v9,eR_Desc_bool_ii64 v10,eR_sProp_ii64 v11,eR_Desc_bool_ii64 v12,eR_Desc_bool_ii64 v13,eB v14,eI v15,eB v16,eI (selB r17.1),eB r17.2.1,eB r17.2.2,eR_sProp_ii64 v20,eR_Desc_bool_ii64 v21,eR_Desc_bool_ii64 v22,eB v23,eI (selB r24.1),eB r24.2.1,eI r24.2.2.1,eB r24.2.2.2,eR_sKey_ii64 v28,eR_bool_ii64 v29,eR_bool_ii64 v30] xn
  (wC (ct_law10_alive) <|
  wC (ct_law10_long x0) <|
  wC (ct_table_Check x0) <|
  wC (ct_key_Check x1) <|
  wC (ct_key_Check x3) <|
  wC (ct_table_Find x0 x3) <|
  wC (ct_table_Find x0 x1) <|
  wC (ct_table_Put x0 x1 x2) <|
  wC (ct_table_Find v11.1 x1) <|
  wC (ct_table_Find v11.1 x3) <|
  wC (ct_desc_Same v12.1 x2) <|
  wC (ct_table_Check v11.1) <|
  wC (ct_desc_Same v13.1 v9.1) <|
  wC (ct_table_Drop x0 x1) <|
  wC (ct_table_Find v20.1 x1) <|
  wC (ct_table_Find v20.1 x3) <|
  wC (ct_desc_Same v22.1 v9.1) <|
  wC (ct_table_Keys x0) <|
  wC (ct_table_Sealed x0) <|
  wC (ct_table_Frozen x0) <|
  wn)
  (lc2 (lp_law10_TableFinds_l17 x0 x1 x2 x3 v4 v5 v6 v7 v8 v9 v10 v11 v12 v13 v14 v15 v16 (x0.length+1) false 0) <|
  lc2 (lp_law10_TableFinds_l24 x0 x1 x2 x3 v4 v5 v6 v7 v8 v9 v10 v11 v12 v13 v14 v15 v16 r17 v20 v21 v22 v23 (x0.length+1) ((iEq v11.2 0)&&r17.2.1) 0 0) <|
  ln)
  (selE (fun r=>.p (.bool r)) rfl rfl (selE (fun r=>.p (.bool r)) rfl rfl (selE (fun r=>.p (.bool r)) rfl rfl (selE (fun r=>.p (.bool r)) rfl rfl (selE (fun r=>.p (.bool r)) rfl rfl (selE (fun r=>.p (.bool r)) rfl rfl (selE (fun r=>.p (.bool r)) rfl rfl (selL rfl))))))))
theorem pc_law10_TableFinds (x0:List GProp)(x1:GKey)(x2:GDesc)(x3:GKey):PC Try.prog 6 [eL GProp.enc x0,GKey.av x1,GDesc.av x2,GKey.av x3] (eB (law10_TableFinds x0 x1 x2 x3)):=(ct_law10_TableFinds x0 x1 x2 x3 trivial).1
end Go.Fw
end
section
set_option linter.unusedVariables false
set_option linter.unusedSimpArgs false
set_option linter.unusedSectionVars false
namespace Go.Fw
open Go.Proofs
set_option maxRecDepth 100000
theorem rd_GVal : Rd Try.prog 27 GVal.enc GVal.wf:=
 (rd_struct Try.underlying27 (by kernel_rfl) (rdF_cons (m:=1) rfl (by kernel_rfl) (rd_int Try.underlying5) (rdF_cons (m:=1) rfl (by kernel_rfl) (rd_float Try.underlying25) (rdF_cons (m:=1) rfl (by kernel_rfl) (rd_str Try.underlying9) (rdF_cons (m:=1) rfl (by kernel_rfl) (rd_int Try.underlying3) (rdF_nil)))))).to (fun x=>GVal.mk x.1 x.2.1 x.2.2.1 x.2.2.2.1) (fun _=>rfl) (fun _ h=>⟨h.1,h.2.1,h.2.2.1,h.2.2.2.1⟩)
theorem rd_GKey : Rd Try.prog 24 GKey.enc GKey.wf:=
 (rd_struct Try.underlying24 (by kernel_rfl) (rdF_cons (m:=1) rfl (by kernel_rfl) (rd_str Try.underlying9) (rdF_cons (m:=1) rfl (by kernel_rfl) (rd_int Try.underlying3) (rdF_nil)))).to (fun x=>GKey.mk x.1 x.2.1) (fun _=>rfl) (fun _ h=>⟨h.1,h.2.1⟩)
theorem rd_GDesc : Rd Try.prog 29 GDesc.enc GDesc.wf:=
 (rd_struct Try.underlying29 (by kernel_rfl) (rdF_cons (m:=1) rfl (by kernel_rfl) (rd_int Try.underlying5) (rdF_cons (m:=4) rfl (by kernel_rfl) rd_GVal (rdF_cons (m:=4) rfl (by kernel_rfl) rd_GVal (rdF_cons (m:=4) rfl (by kernel_rfl) rd_GVal (rdF_cons (m:=1) rfl (by kernel_rfl) (rd_bool Try.underlying4) (rdF_cons (m:=1) rfl (by kernel_rfl) (rd_bool Try.underlying4) (rdF_cons (m:=1) rfl (by kernel_rfl) (rd_bool Try.underlying4) (rdF_nil))))))))).to (fun x=>GDesc.mk x.1 x.2.1 x.2.2.1 x.2.2.2.1 x.2.2.2.2.1 x.2.2.2.2.2.1 x.2.2.2.2.2.2.1) (fun _=>rfl) (fun _ h=>⟨h.1,h.2.1,h.2.2.1,h.2.2.2.1⟩)
theorem rd_GProp : Rd Try.prog 65 GProp.enc GProp.wf:=
 (rd_struct Try.underlying65 (by kernel_rfl) (rdF_cons (m:=2) rfl (by kernel_rfl) rd_GKey (rdF_cons (m:=16) rfl (by kernel_rfl) rd_GDesc (rdF_nil)))).to (fun x=>GProp.mk x.1 x.2.1) (fun _=>rfl) (fun _ h=>⟨h.1,h.2.1⟩)
end Go.Fw
end
section
set_option linter.unusedVariables false
set_option linter.unusedSimpArgs false
set_option linter.unusedSectionVars false
namespace Go.Fw
set_option linter.unusedVariables false
set_option linter.unusedSimpArgs false
theorem tKeys_l2_eq {x0:List GProp}(hl:x0.length≤4294967296):∀(n j:Nat) (u:List GKey),j≤x0.length→x0.length-j<n→table_Keys_l2 x0 n u j=u++(x0.drop j).map (·.Key)
 |0,j,u,hj,hn=>by omega
 |n+1,j,u,hj,hn=>by
  simp only [table_Keys_l2,q_lt,Int.toNat_natCast]
  by_cases hlt:j<x0.length
  ·rw [q_drop x0 j hlt]
   simp only [decide_eq_true hlt,Bool.not_true,cond_false,qAdd (show j≤4294967296 by omega)]
   rw [tKeys_l2_eq hl n (j+1) _ (by omega) (by omega)];simp
  ·simp only [decide_eq_false hlt,Bool.not_false,cond_true]
   rw [List.drop_eq_nil_iff.2 (by omega)];simp
theorem Srt.filter {l:List GKey}(h:Srt l)(p:GKey→Bool):Srt (l.filter p):=List.Pairwise.filter p h
theorem Eqp.filter {a b:List GKey}(h:Eqp a b)(p:GKey→Bool):Eqp (a.filter p) (b.filter p):=by
 intro q
 have:=h q
 rw [List.filter_filter,List.filter_filter]
 have e:∀l:List GKey,l.filter (fun k=>decide (key_place k=q)&&p k)=(l.filter (fun k=>decide (key_place k=q))).filter p:=by
  intro l;rw [List.filter_filter];congr 1;funext k;rw [Bool.and_comm]
 rw [e a,e b,this]
theorem check_pchk {x0:List GProp}(hl:x0.length≤4294967296)(hc:ref10_Check x0=0):pchk [] x0=0:=by
 have:=ref10_Check_len x0 hc
 rw [rCheck_eq x0 hl,decide_eq_false (by omega)] at hc
 exact hc
theorem Sealed_l2_eq {x0:List GProp}:∀(n:Nat) {a:Bool} {b c:Int},table_Sealed_l2 x0 n a b c=ref10_Sealed_l2 x0 n a b c
 |0,_,_,_=>rfl
 |n+1,a,b,c=>by
  simp only [table_Sealed_l2,ref10_Sealed_l2]
  rw [Sealed_l2_eq n]
theorem rSealed_eq (x0:List GProp)(hl:x0.length≤4294967296)(hok:∀p∈x0,p.Desc.ok):table_Sealed x0=ref10_Sealed x0:=by
 unfold table_Sealed ref10_Sealed
 dsimp only
 rw [tCheck_eq x0 hl hok,Sealed_l2_eq]
theorem Sealed_l2_ok {x0:List GProp}:∀(n:Nat) {a:Bool} {b c:Int},(ref10_Sealed_l2 x0 n a b c).1=true∨(ref10_Sealed_l2 x0 n a b c).2.2.2.2=0
 |0,_,_,_=>Or.inr rfl
 |n+1,a,b,c=>by
  simp only [ref10_Sealed_l2,Bool.cond_eq_ite]
  split
  ·exact Or.inl rfl
  ·split
   ·exact Or.inr rfl
   ·exact Sealed_l2_ok n
theorem Sealed_ok {x0:List GProp}:(ref10_Check x0=0∧(ref10_Sealed x0).2=0)∨(ref10_Check x0≠0∧(ref10_Sealed x0).1=false∧(ref10_Sealed x0).2≠0):=by
 unfold ref10_Sealed
 dsimp only
 by_cases hc:ref10_Check x0=0
 ·refine Or.inl ⟨hc,?_⟩
  rw [iNe_f.2 hc,qsel]
  simp only [cond_false]
  rcases Sealed_l2_ok (x0:=x0) (x0.length+1) (a:=false) (b:=0) (c:=0) with h|h
  ·rw [h];rfl
  ·cases (ref10_Sealed_l2 x0 (x0.length+1) false 0 0).1
   ·exact h
   ·rfl
 ·refine Or.inr ⟨hc,?_⟩
  rw [iNe_t.2 hc]
  exact ⟨rfl,hc⟩
theorem tFrozen_l2 {x0:List GProp}(hl:x0.length≤4294967296):∀(n j:Nat) {u:Bool},j≤x0.length→x0.length-j<n→table_Frozen_l2 x0 n u j=(u&&(x0.drop j).all (fun p=>!p.Desc.Writable))
 |0,j,u,hj,hn=>by omega
 |n+1,j,u,hj,hn=>by
  simp only [table_Frozen_l2,q_lt,Int.toNat_natCast]
  by_cases hlt:j<x0.length
  ·rw [q_drop x0 j hlt]
   simp only [decide_eq_true hlt,Bool.not_true,cond_false,qAdd (show j≤4294967296 by omega)]
   rw [tFrozen_l2 hl n (j+1) (by omega) (by omega),List.all_cons,Bool.and_assoc]
  ·simp only [decide_eq_false hlt,Bool.not_false,cond_true]
   rw [List.drop_eq_nil_iff.2 (by omega)];simp
end Go.Fw
end
section
set_option linter.unusedVariables false
set_option linter.unusedSimpArgs false
set_option linter.unusedSectionVars false
namespace Go.Fw
set_option linter.unusedVariables false
set_option linter.unusedSimpArgs false
set_option maxRecDepth 20000
def cutP (n:Int):Prop:=(decide (n > 63)=false→(hb n 2||hb n 3)=false→iAnd .u8 51 n=n)∧(decide (n > 63)=false→(hb n 0||hb n 1)=false→iAnd .u8 60 n=n)
instance (n : Int):Decidable (cutP n):=by unfold cutP;infer_instance
def okV (b:Bool)(v:GVal):Bool:=bif b then ref07_May v else ref09_bare v
def okG (b:Bool)(v:GVal):Bool:=bif b then ref09_called v else ref09_bare v
structure Rc (x:GDesc):Prop where
 big:decide (x.Has > 63)=false
 da:((hb x.Has 0||hb x.Has 1)&&(hb x.Has 2||hb x.Has 3))=false
 w:(hb x.Has 1||!x.Writable)=true
 e:(hb x.Has 4||!x.Enumerable)=true
 c:(hb x.Has 5||!x.Configurable)=true
 v:okV (hb x.Has 0) x.Value=true
 g:okG (hb x.Has 2) x.Get=true
 s:okG (hb x.Has 3) x.Set=true
theorem check0 {x:GDesc}(h:x.ok):ref09_Check x=0↔Rc x:=by
 obtain ⟨h1,h2,h3,h4⟩:=h
 have B:=bits h1
 unfold ref09_Check ref09_IsData ref09_IsAccess ref09_Has
 dsimp only
 rw [B.r1,B.r2,B.r4,B.r8,B.r16,B.r32]
 have two:∀p q:Bool,(bif p then (90:Int) else bif q then 90 else 0)=bif (p||q) then 90 else 0:=by intro p q;cases p<;>rfl
 rw [two]
 have three:∀p:Bool,((bif p then (90:Int) else 0)=0)↔p=false:=by intro p;cases p<;>simp
 rw [three]
 constructor
 ·intro h
  simp only [Bool.or_eq_false_iff,Bool.not_eq_false',Bool.and_eq_true] at h
  obtain ⟨⟨q0,q00⟩,⟨⟨q1,q2⟩,q3⟩,⟨q4,q5⟩,q6⟩:=h
  exact ⟨q0,q00,by rw [Bool.or_comm];exact q4,by rw [Bool.or_comm];exact q5,by rw [Bool.or_comm];exact q6,q1,q2,q3⟩
 ·intro h
  have hw:=h.w
  have he:=h.e
  have hc:=h.c
  rw [Bool.or_comm] at hw he hc
  have e1:(bif hb x.Has 0 then ref07_May x.Value else ref09_bare x.Value)=true:=h.v
  have e2:(bif hb x.Has 2 then ref09_called x.Get else ref09_bare x.Get)=true:=h.g
  have e3:(bif hb x.Has 3 then ref09_called x.Set else ref09_bare x.Set)=true:=h.s
  rw [h.big,h.da,e1,e2,e3,hw,he,hc]
  rfl
theorem Rc.chk {x:GDesc}(h:x.ok)(r:Rc x):Chk x:=by
 rcases check_cases h with k|⟨-,k⟩
 ·have:=(check0 h).2 r
  rw [k] at this;exact absurd this (by decide)
 ·exact k
theorem zero_May : ref07_May (GVal.mk 0 0 [] 0)=true:=by decide +kernel
theorem zero_called : ref09_called (GVal.mk 0 0 [] 0)=true:=by decide +kernel
theorem okV_true {b:Bool}{v:GVal}(hv:v.ok)(h:okV b v=true):ref07_May v=true:=by
 cases b
 ·rw [bare_zero hv h];exact zero_May
 ·exact h
theorem okG_true {b:Bool}{v:GVal}(hv:v.ok)(h:okG b v=true):ref09_called v=true:=by
 cases b
 ·rw [bare_zero hv h];exact zero_called
 ·exact h
theorem called_May {v:GVal}(h:ref09_called v=true):ref07_May v=true:=by
 unfold ref09_called at h
 dsimp only at h
 rw [Bool.and_eq_true] at h
 exact h.1
theorem Same_self {v:GVal}(hv:v.ok)(h:ref07_May v=true):value_Same v v=true:=by
 rw [value_Same_eq v v hv hv]
 obtain ⟨k,n,s,r⟩:=v
 obtain ⟨hk,hn⟩:=hv
 dsimp only at hk hn
 unfold ref07_Same ref07_IsObject
 unfold ref07_May at h
 dsimp only at h ⊢
 have hno:∀n,(ref07_nought n||fEq n 4607182418800017408)=true→fEq n n=true:=by
  intro n h
  rw [fEq_self]
  cases hn:isNan n
  ·rfl
  ·exfalso
   unfold isNan at hn
   have:(ref07_nought n||fEq n 4607182418800017408)=false:=by
     unfold ref07_nought
     rw [fEq_zero]
     unfold fEq Ieee.Format.order
     show (((rd64 n).isZero&&_)||(Ieee.Datum.order (rd64 n) (rd64 _) == some .eq))=false
     cases hx:rd64 n with
     |nan s t=>rfl
     |infinity=>rw [hx] at hn;cases hn
     |number=>rw [hx] at hn;cases hn
   rw [this] at h;cases h
 have e1:iEq r r=true:=by simp [iEq]
 have e2:sEq s s=true:=by simp [sEq]
 have e3:(fEq n n||(fNe n n&&fNe n n))=true:=by rw [fEq_self,fNe_self];cases isNan n<;>rfl
 have e4:iNe k k=false:=by simp [iNe]
 rw [e1,e2,e3,e4]
 have hno:=hno n
 generalize fEq n n=F at *
 generalize (ref07_nought n||fEq n 4607182418800017408)=O at *
 rcases u8_cases hk with rfl|rfl|rfl|rfl|rfl|rfl|rfl|rfl|rfl|h8
 all_goals first
  |rfl
  |(have hgt:decide (k > 8)=true:=decide_eq_true h8
    rw [hgt] at h
    cases h
    done)
  |(simp only [iEq,Int.reduceBEq,Int.reduceGT,Int.reduceGE,decide_true,decide_false,cond_true,cond_false,Bool.or_true,Bool.true_or,Bool.or_false,Bool.false_or,Bool.and_true,Bool.true_and,Bool.and_false,Bool.false_and,Bool.and_eq_true] at h ⊢
    exact hno h.1.1)
structure Become (x1 d:GDesc):Prop where
 ok:d.ok
 rc:Rc d
 has:d.Has=51∨d.Has=60
 cut:iAnd .u8 d.Has x1.Has=x1.Has
 v:hb x1.Has 0=true→d.Value=x1.Value
 g:hb x1.Has 2=true→d.Get=x1.Get
 s:hb x1.Has 3=true→d.Set=x1.Set
 w:hb x1.Has 1=true→d.Writable=x1.Writable
 e:hb x1.Has 4=true→d.Enumerable=x1.Enumerable
 c:hb x1.Has 5=true→d.Configurable=x1.Configurable
def mix (x1 x3:GDesc):GDesc:=GDesc.mk x3.Has (bif hb x1.Has 0 then x1.Value else x3.Value) (bif hb x1.Has 2 then x1.Get else x3.Get) (bif hb x1.Has 3 then x1.Set else x3.Set) (bif hb x1.Has 1 then x1.Writable else x3.Writable) (bif hb x1.Has 4 then x1.Enumerable else x3.Enumerable) (bif hb x1.Has 5 then x1.Configurable else x3.Configurable)
end Go.Fw
end
section
set_option linter.unusedVariables false
set_option linter.unusedSimpArgs false
set_option linter.unusedSectionVars false
namespace Go.Fw
set_option linter.unusedVariables false
set_option linter.unusedSimpArgs false
set_option maxRecDepth 20000
structure Passed (x0:Bool)(x1:GDesc)(x2:Bool)(x3:GDesc):Prop where
 r1:Rc x1
 no:x2=false→x0=true
 r3:x2=true→Rc x3
 has:x2=true→x3.Has=51∨x3.Has=60
 may:x2=true→desc_may x1 x3=true
theorem bEq_self (b:Bool):bEq b b=true:=by simp [bEq]
theorem same_self {d:GDesc}(hd:d.ok)(r:Rc d):desc_Same d d=true:=by
 unfold desc_Same
 dsimp only
 rw [Same_self hd.2.1 (okV_true hd.2.1 r.v),Same_self hd.2.2.1 (called_May (okG_true hd.2.2.1 r.g)),Same_self hd.2.2.2 (called_May (okG_true hd.2.2.2 r.s)),bEq_self,bEq_self,bEq_self]
 have e0:iNe d.Has d.Has=false:=by simp [iNe]
 rw [e0]
 simp
theorem again {d:GDesc}(hd:d.ok)(r:Rc d)(hh:d.Has=51∨d.Has=60):desc_Compatible false d true d=(true,0):=by
 have B:=bits hd.1
 unfold desc_Compatible desc_asked
 dsimp only
 rw [check_eq hd,(check0 hd).2 r,whole_has hd.1 (r.chk hd)]
 have e:(iEq d.Has 51||iEq d.Has 60)=true:=by rcases hh with hh|hh<;>rw [hh]<;>rfl
 rw [e]
 simp only [show iNe 0 0=false from rfl,cond_false,Bool.not_true,Bool.false_or,Bool.and_false]
 congr 1
 unfold desc_may desc_IsPlain
 dsimp only
 rw [isData_eq hd.1,Same_self hd.2.1 (okV_true hd.2.1 r.v),Same_self hd.2.2.1 (called_May (okG_true hd.2.2.1 r.g)),Same_self hd.2.2.2 (called_May (okG_true hd.2.2.2 r.s)),bEq_self,bEq_self]
 simp only [Bool.or_true,Bool.and_true,Bool.not_true,Bool.and_false,cond_false]
 cases d.Configurable
 ·simp only [cond_false]
  cases iEq (iAnd .u8 d.Has 15) 0
  ·simp only [cond_false]
   cases (hb d.Has 0||hb d.Has 1)
   ·rfl
   ·simp only [cond_true];cases d.Writable<;>rfl
  ·rfl
 ·rfl
end Go.Fw
end
section
set_option linter.unusedVariables false
set_option linter.unusedSimpArgs false
set_option linter.unusedSectionVars false
namespace Go.Fw
set_option linter.unusedVariables false
set_option linter.unusedSimpArgs false
theorem alive_true : law10_alive=true:=by decide +kernel
theorem pchk_iff : ∀{l:List GProp} {pre:List GKey},pchk pre l=0↔(∀p∈l,ref08_Check p.Key=0∧ref09_IsWhole p.Desc=true∧p.Key∉pre)∧l.Pairwise (fun p q=>p.Key≠q.Key)
 |[],pre=>by simp [pchk]
 |a::r,pre=>by
  simp only [pchk]
  by_cases h1:ref08_Check a.Key=0
  ·rw [iNe_f.2 h1]
   simp only [cond_false]
   cases h2:ref09_IsWhole a.Desc with
   |false=>
    simp only [Bool.not_false,cond_true]
    exact ⟨fun h=>by omega,fun h=>by have:=(h.1 a (by simp)).2.1;rw [h2] at this;cases this⟩
   |true=>
    simp only [Bool.not_true,cond_false]
    by_cases h3:a.Key∈pre
    ·simp only [h3,decide_true,cond_true]
     exact ⟨fun h=>by omega,fun h=>absurd h3 (h.1 a (by simp)).2.2⟩
    ·simp only [h3,decide_false,cond_false]
     rw [pchk_iff (l:=r)]
     constructor
     ·rintro ⟨i1,i2⟩
      refine ⟨fun p hp=>?_,List.pairwise_cons.2 ⟨fun q hq e=>(i1 q hq).2.2 (by simp [e]),i2⟩⟩
      cases hp with
      |head=>exact ⟨h1,h2,h3⟩
      |tail _ hp=>
       obtain ⟨j1,j2,j3⟩:=i1 p hp
       exact ⟨j1,j2,fun hm=>j3 (by simp [hm])⟩
     ·rintro ⟨i1,i2⟩
      obtain ⟨k1,k2⟩:=List.pairwise_cons.1 i2
      refine ⟨fun p hp=>?_,k2⟩
      obtain ⟨j1,j2,j3⟩:=i1 p (List.mem_cons_of_mem _ hp)
      refine ⟨j1,j2,fun hm=>?_⟩
      rcases List.mem_append.1 hm with hm|hm
      ·exact j3 hm
      ·exact k1 p hp (List.mem_singleton.1 hm).symm
  ·rw [iNe_t.2 h1]
   simp only [cond_true]
   exact ⟨fun h=>by omega,fun h=>absurd (h.1 a (by simp)).1 h1⟩
structure POk (l:List GProp):Prop where
 len:l.length≤1024
 all:∀p∈l,ref08_Check p.Key=0∧ref09_IsWhole p.Desc=true
 one:l.Pairwise (fun p q=>p.Key≠q.Key)
theorem POk.big {l:List GProp}(h:POk l):l.length≤4294967296:=by have:=h.len;omega
theorem POk.of {l:List GProp}(hl:l.length≤4294967296)(h:ref10_Check l=0):POk l:=by
 obtain ⟨h1,h2⟩:=pchk_iff.1 (check_pchk hl h)
 exact ⟨ref10_Check_len l h,fun p hp=>⟨(h1 p hp).1,(h1 p hp).2.1⟩,h2⟩
theorem POk.chk {l:List GProp}(h:POk l):ref10_Check l=0:=by
 have:=h.len
 rw [rCheck_eq l h.big,decide_eq_false (by omega)]
 exact pchk_iff.2 ⟨fun p hp=>⟨(h.all p hp).1,(h.all p hp).2,by simp⟩,h.one⟩
theorem POk.asked {l:List GProp}(h:POk l)(hok:∀p∈l,p.Desc.ok){k:GKey}(hk:ref08_Check k=0):table_asked l k=0:=by
 rw [asked_eq l k h.big hok]
 unfold ref10_asked
 dsimp only
 rw [h.chk,hk];rfl
def d00 : GDesc:=GDesc.mk 0 (GVal.mk 0 0 [] 0) (GVal.mk 0 0 [] 0) (GVal.mk 0 0 [] 0) false false false
def isK (k:GKey)(p:GProp):Bool:=decide (p.Key=k)
def fnd (l:List GProp)(k:GKey):GDesc×Bool×Int:=match l.find? (isK k) with
 |some p=>(p.Desc,true,0)
 |none=>(d00,false,0)
theorem pl_find : ∀(l:List GProp) (k:GKey),l.find? (isK k)=match pl l k with|some i=>some (l.getD i default)|none=>none
 |[],k=>rfl
 |a::r,k=>by
  have ih:=pl_find r k
  unfold pl at ih ⊢
  rw [List.findIdx?_cons,List.find?_cons]
  unfold isK at ih ⊢
  by_cases h:a.Key=k
  ·simp [h]
  ·simp only [h,decide_false,Bool.false_eq_true,if_false]
   rw [ih]
   cases r.findIdx? (fun p=>decide (p.Key=k))<;>simp
theorem POk.find {l:List GProp}(h:POk l)(hok:∀p∈l,p.Desc.ok){k:GKey}(hk:ref08_Check k=0):table_Find l k=fnd l k:=by
 unfold table_Find fnd
 dsimp only
 rw [h.asked hok hk,at_eq,Place_eq l k h.big,pl_find]
 cases pl l k with
 |none=>rfl
 |some i=>simp [iNe]
theorem set_find : ∀{l:List GProp} {i:Nat} {k:GKey} {d:GDesc},pl l k=some i→(l.set i (GProp.mk k d)).find? (isK k)=some (GProp.mk k d)∧∀k',k'≠k→(l.set i (GProp.mk k d)).find? (isK k')=l.find? (isK k')
 |[],i,k,d,h=>by cases h
 |a::r,i,k,d,h=>by
  unfold pl at h
  rw [List.findIdx?_cons] at h
  by_cases hk:a.Key=k
  ·simp only [hk,decide_true,if_true,Option.some.injEq] at h
   subst h
   refine ⟨by simp [isK],fun k' hk'=>?_⟩
   have h1:¬k=k':=fun e=>hk' e.symm
   simp [isK,hk,h1]
  ·simp only [hk,decide_false,Bool.false_eq_true,if_false] at h
   cases hp:r.findIdx? (fun p=>decide (p.Key=k)) with
   |none=>rw [hp] at h;cases h
   |some j=>
    rw [hp] at h
    simp only [Option.map_some,Option.some.injEq] at h
    subst h
    obtain ⟨h1,h2⟩:=set_find (d:=d) (show pl r k=some j from hp)
    refine ⟨?_,fun k' hk'=>?_⟩
    ·rw [List.set_cons_succ,List.find?_cons]
     simp only [isK,hk,decide_false]
     exact h1
    ·rw [List.set_cons_succ,List.find?_cons,List.find?_cons,h2 k' hk']
theorem pl_none {l:List GProp}{k:GKey}(h:pl l k=none):∀p∈l,p.Key≠k:=by
 intro p hp e
 have:=pl_mem (l:=l) (k:=k)
 rw [h] at this
 simp only [Option.isSome_none] at this
 have:=of_decide_eq_false this.symm
 exact this (List.mem_map.2 ⟨p,hp,e⟩)
theorem pl_key : ∀{l:List GProp} {k:GKey} {i:Nat},pl l k=some i→(l.getD i default).Key=k
 |[],k,i,h=>by cases h
 |a::r,k,i,h=>by
  unfold pl at h
  rw [List.findIdx?_cons] at h
  by_cases hk:a.Key=k
  ·simp only [hk,decide_true,if_true,Option.some.injEq] at h
   subst h;simpa using hk
  ·simp only [hk,decide_false,Bool.false_eq_true,if_false] at h
   cases hp:r.findIdx? (fun p=>decide (p.Key=k)) with
   |none=>rw [hp] at h;cases h
   |some j=>
    rw [hp] at h
    simp only [Option.map_some,Option.some.injEq] at h
    subst h
    simpa using pl_key (show pl r k=some j from hp)
structure PutF (x0:List GProp)(k:GKey)(d:GDesc)(a:List GProp):Prop where
 tb:POk a
 ok:∀p∈a,p.Desc.ok
 me:fnd a k=(d,true,0)
 el:∀k',k'≠k→fnd a k'=fnd x0 k'
 len:a.length=bif (fnd x0 k).2.1 then x0.length else x0.length+1
 key:∀i,i<x0.length→(a.getD i default).Key=(x0.getD i default).Key
 wh:ref09_IsWhole d=true
theorem Put_facts {x0:List GProp}(h:POk x0)(hok:∀p∈x0,p.Desc.ok){k:GKey}(hk:ref08_Check k=0){d:GDesc}(hd:d.ok)(he:(table_Put x0 k d).2=0):PutF x0 k d (table_Put x0 k d).1:=by
 unfold table_Put at he ⊢
 dsimp only at he ⊢
 rw [h.asked hok hk,at_eq,Place_eq x0 k h.big,tw_eq hd] at he ⊢
 rw [qiNe_self] at he ⊢
 simp only [cond_false,mLen_eq,Int.toNat_natCast] at he ⊢
 rw [take_full (l:=x0) rfl]
 cases hw:ref09_IsWhole d with
 |false=>rw [hw] at he;cases he
 |true=>
  rw [hw] at he
  simp only [Bool.not_true,cond_false] at he ⊢
  cases hp:pl x0 k with
  |none=>
   rw [hp] at he
   simp only [show decide ((-1:Int)<0)=true from rfl,Bool.true_and,cond_true] at he ⊢
   by_cases hl:(x0.length:Int)=1024
   ·rw [iEq_t.2 hl] at he;cases he
   ·rw [iEq_f.2 hl]
    simp only [cond_false]
    have hn:=pl_none hp
    have hf:x0.find? (isK k)=none:=by rw [pl_find,hp]
    have hlen:=h.len
    refine ⟨⟨by simp;omega,?_,?_⟩,?_,?_,?_,?_,?_,hw⟩
    ·intro p hp
     rcases List.mem_append.1 hp with hp|hp
     ·exact h.all p hp
     ·rw [List.mem_singleton.1 hp];exact ⟨hk,hw⟩
    ·rw [List.pairwise_append]
     refine ⟨h.one,List.pairwise_singleton _ _,fun p hp q hq=>?_⟩
     rw [List.mem_singleton.1 hq];exact hn p hp
    ·intro p hp
     rcases List.mem_append.1 hp with hp|hp
     ·exact hok p hp
     ·rw [List.mem_singleton.1 hp];exact hd
    ·unfold fnd
     rw [List.find?_append,hf]
     simp [isK]
    ·intro k' hk'
     unfold fnd
     rw [List.find?_append]
     have:[GProp.mk k d].find? (isK k')=none:=by
      have h1:¬k=k':=fun e=>hk' e.symm
      simp [isK,h1]
     rw [this,Option.or_none]
    ·unfold fnd;rw [hf];simp
    ·intro i hi
     rw [List.getD_eq_getElem?_getD,List.getD_eq_getElem?_getD,List.getElem?_append_left hi]
  |some i=>
   rw [hp] at he
   have hi:=pl_lt hp
   have hkey:=pl_key hp
   have hneg:decide ((i:Int)<0)=false:=decide_eq_false (by omega)
   simp only [hneg,Bool.false_and,cond_false,Int.toNat_natCast] at he ⊢
   rw [take_full (l:=x0.set i _) (by simp),hkey]
   obtain ⟨s1,s2⟩:=set_find (d:=d) hp
   have hf:x0.find? (isK k)=some (x0.getD i default):=by rw [pl_find,hp]
   have hmap:(x0.set i (GProp.mk k d)).map (·.Key)=x0.map (·.Key):=by
    rw [List.map_set]
    apply List.ext_getElem?
    intro j
    rw [List.getElem?_set]
    split
    ·rename_i hj
     subst hj
     have hg:(x0.map (·.Key))[i]?=some k:=by
      rw [List.getElem?_map,List.getElem?_eq_getElem hi]
      rw [List.getD_eq_getElem?_getD,List.getElem?_eq_getElem hi] at hkey
      simpa using hkey
     rw [hg]
     simp [hi]
    ·rfl
   refine ⟨⟨by simpa using h.len,?_,?_⟩,?_,?_,?_,?_,?_,hw⟩
   ·intro p hp
    rcases List.mem_or_eq_of_mem_set hp with hp|rfl
    ·exact h.all p hp
    ·exact ⟨hk,hw⟩
   ·have h1:(x0.map (·.Key)).Pairwise (·≠·):=List.pairwise_map.2 h.one
    rw [← hmap] at h1
    exact List.pairwise_map.1 h1
   ·intro p hp
    rcases List.mem_or_eq_of_mem_set hp with hp|rfl
    ·exact hok p hp
    ·exact hd
   ·unfold fnd;rw [s1]
   ·intro k' hk'
    unfold fnd;rw [s2 k' hk']
   ·unfold fnd;rw [hf];simp
   ·intro j hj
    have:=congrArg (fun m:List GKey=>m[j]?) hmap
    simp only [List.getElem?_map] at this
    rw [List.getD_eq_getElem?_getD,List.getD_eq_getElem?_getD]
    have hj':j<(x0.set i (GProp.mk k d)).length:=by simpa using hj
    rw [List.getElem?_eq_getElem hj,List.getElem?_eq_getElem hj'] at this ⊢
    simpa using this
structure DropF (x0:List GProp)(k:GKey)(b:List GProp):Prop where
 tb:POk b
 ok:∀p∈b,p.Desc.ok
 me:fnd b k=(d00,false,0)
 el:∀k',k'≠k→fnd b k'=fnd x0 k'
theorem Drop_facts {x0:List GProp}(h:POk x0)(hok:∀p∈x0,p.Desc.ok){k:GKey}:DropF x0 k (x0.filter (fun p=>!decide (p.Key=k))):=by
 refine ⟨⟨Nat.le_trans (List.length_filter_le _ _) h.len,fun p hp=>h.all p (List.mem_filter.1 hp).1,List.Pairwise.filter _ h.one⟩,fun p hp=>hok p (List.mem_filter.1 hp).1,?_,fun k' hk'=>?_⟩
 ·have:(x0.filter (fun p=>!decide (p.Key=k))).find? (isK k)=none:=by
   rw [List.find?_eq_none]
   intro p hp
   have:=(List.mem_filter.1 hp).2
   simpa [isK] using this
  unfold fnd;rw [this]
 ·unfold fnd
  rw [List.find?_filter]
  congr 1
  have:(fun a:GProp=>decide ((!decide (a.Key=k))=true∧isK k' a=true))=isK k':=by
   funext p
   unfold isK
   by_cases e:p.Key=k'
   ·have:¬k'=k:=hk'
    simp [e,this]
   ·simp [e]
  rw [this]
theorem Drop_ok {x0:List GProp}(h:POk x0)(hok:∀p∈x0,p.Desc.ok){k:GKey}(hk:ref08_Check k=0):table_Drop x0 k=(x0.filter (fun p=>!decide (p.Key=k)),0):=by
 rw [Drop_eq x0 k h.big hok,rDrop_eq x0 k h.big]
 have:=h.asked hok hk
 rw [asked_eq x0 k h.big hok] at this
 rw [this];rfl
theorem l17_ok {x0:List GProp}{v:List GProp×Int}(hl:x0.length≤4294967296)(hk:∀i,i<x0.length→(v.1.getD i default).Key=(x0.getD i default).Key):∀(n j:Nat) (u:Bool),j≤x0.length→x0.length-j<n→law10_TableFinds_l17 x0 v n u j=(true,u,default)
 |0,j,u,hj,hn=>by omega
 |n+1,j,u,hj,hn=>by
  simp only [law10_TableFinds_l17,q_lt,key_eq,qAdd (show j≤4294967296 by omega),Int.toNat_natCast]
  by_cases hlt:j<x0.length
  ·rw [hk j hlt]
   simp only [hlt,decide_true,Bool.not_true,cond_false]
   exact l17_ok hl hk n (j+1) u (by omega) (by omega)
  ·simp only [hlt,decide_false,Bool.not_false,cond_true]
theorem l24_ok {x0:List GProp}{k:GKey}{v:List GProp×Int}(hl:x0.length≤4294967296)(hv:v.1.length≤4294967296):∀(n j t:Nat) (u:Bool),j≤x0.length→x0.length-j<n→t≤v.1.length→(x0.drop j).filter (fun p=>!decide (p.Key=k))=v.1.drop t→
  law10_TableFinds_l24 x0 k v n u t j=(true,u,(v.1.length:Int),default)
 |0,j,t,u,hj,hn,ht,he=>by omega
 |n+1,j,t,u,hj,hn,ht,he=>by
  have hge:decide ((t:Int)≥(mLen GProp.enc v.1:Int))=decide (v.1.length≤t):=by rw [mLen_eq];exact decide_eq_decide.2 (by omega)
  simp only [law10_TableFinds_l24,q_lt,key_eq,qAdd (show j≤4294967296 by omega),qAdd (show t≤4294967296 by omega),Int.toNat_natCast,hge]
  by_cases hlt:j<x0.length
  ·rw [q_drop x0 j hlt] at he
   simp only [hlt,decide_true,Bool.not_true,cond_false]
   generalize x0.getD j default=p at he
   by_cases hk:p.Key=k
   ·simp only [List.filter_cons,hk,decide_true,Bool.not_true,Bool.false_eq_true,if_false] at he
    simp only [hk,decide_true,Bool.not_true,Bool.false_and,cond_false,cond_true]
    exact l24_ok hl hv n (j+1) t u (by omega) (by omega) ht he
   ·simp only [List.filter_cons,hk,decide_false,Bool.not_false,if_true] at he
    have htl:t<v.1.length:=by
     rcases Nat.lt_or_ge t v.1.length with q|q
     ·exact q
     ·rw [List.drop_eq_nil_iff.2 q] at he;cases he
    rw [q_drop v.1 t htl] at he
    obtain ⟨e1,e2⟩:=List.cons.inj he
    have hnt:¬v.1.length≤t:=by omega
    simp only [hk,decide_false,Bool.not_false,Bool.true_and,hnt,Bool.false_or,← e1,decide_true,Bool.not_true,cond_false]
    exact l24_ok hl hv n (j+1) (t+1) u (by omega) (by omega) (by omega) e2
  ·simp only [hlt,decide_false,Bool.not_false,cond_true]
   rw [List.drop_eq_nil_iff.2 (by omega)] at he
   have:v.1.length≤t:=List.drop_eq_nil_iff.1 he.symm
   rw [show t=v.1.length by omega]
theorem key_Order_len {l:List GKey}:(key_Order l).length=l.length:=by
 unfold key_Order
 dsimp only
 rw [Bool.cond_eq_ite]
 split
 ·rfl
 ·rw [mLen_eq,List.drop_zero,List.length_take]
  have:(sort_stable_func_w3_2 l (l.length:Int)).length=l.length:=stable_len
  rw [this];simp
theorem Keys_ok {x0:List GProp}(h:POk x0)(hok:∀p∈x0,p.Desc.ok):(table_Keys x0).2=0∧(table_Keys x0).1.length=x0.length:=by
 have hc:table_Check x0=0:=by rw [tCheck_eq x0 h.big hok];exact h.chk
 have ht:=tKeys_l2_eq (x0:=x0) h.big (x0.length+1) 0 [] (by omega) (by omega)
 simp only [show (((0:Nat):Int))=0 from rfl,List.drop_zero,List.nil_append] at ht
 unfold table_Keys
 dsimp only
 simp only [hc,qiNe_self,cond_false]
 refine ⟨trivial,?_⟩
 first|rw [ht,key_Order_len,List.length_map]|simp [ht,key_Order_len]
theorem Sealed0 {x0:List GProp}(h:POk x0)(hok:∀p∈x0,p.Desc.ok):(table_Sealed x0).2=0:=by
 rw [rSealed_eq x0 h.big hok]
 rcases Sealed_ok (x0:=x0) with ⟨_,h2⟩|⟨hc,_⟩
 ·exact h2
 ·exact absurd h.chk hc
theorem Frozen0 {x0:List GProp}(h:POk x0)(hok:∀p∈x0,p.Desc.ok):(table_Frozen x0).2=0∧((table_Sealed x0).1||!(table_Frozen x0).1)=true:=by
 have hs:=Sealed0 h hok
 unfold table_Frozen
 dsimp only
 have ht:=tFrozen_l2 (x0:=x0) h.big (x0.length+1) 0 (u:=(table_Sealed x0).1) (by omega) (by omega)
 simp only [show (((0:Nat):Int))=0 from rfl,List.drop_zero] at ht
 rw [ht]
 refine ⟨hs,?_⟩
 cases (table_Sealed x0).1<;>simp
theorem d00_same : desc_Same d00 d00=true:=by decide +kernel
theorem whole_Rc {d:GDesc}(hd:d.ok)(h:ref09_IsWhole d=true):Rc d:=by
 unfold ref09_IsWhole at h
 dsimp only at h
 rw [Bool.and_eq_true] at h
 exact (check0 hd).1 (iEq_t.1 h.1)
theorem fnd_same {l:List GProp}(h:POk l)(hok:∀p∈l,p.Desc.ok){k:GKey}:desc_Same (fnd l k).1 (fnd l k).1=true:=by
 unfold fnd
 cases hf:l.find? (isK k) with
 |none=>exact d00_same
 |some p=>
  have hp:=List.mem_of_find?_eq_some hf
  exact same_self (hok p hp) (whole_Rc (hok p hp) (h.all p hp).2)
theorem fnd_e {l:List GProp}{k:GKey}:(fnd l k).2.2=0:=by
 unfold fnd;cases l.find? (isK k)<;>rfl
theorem tableFinds_true {x0:List GProp}{x1:GKey}{x2:GDesc}{x3:GKey}(h0:∀p∈x0,p.wf)(h2:x2.wf)(hl:x0.length≤4294967296):law10_TableFinds x0 x1 x2 x3=true:=by
 have hok:∀p∈x0,p.Desc.ok:=fun p hp=>dok (h0 p hp).Desc
 unfold law10_TableFinds
 dsimp only
 rw [alive_true]
 cases hg:(((law10_long x0||iNe (table_Check x0) 0)||iNe (key_Check x1) 0)||iNe (key_Check x3) 0) with
 |true=>rfl
 |false=>
  simp only [Bool.or_eq_false_iff] at hg
  obtain ⟨⟨⟨g1,g2⟩,g3⟩,g4⟩:=hg
  have T:POk x0:=POk.of hl (by rw [← tCheck_eq x0 hl hok];exact iNe_f.1 g2)
  have k1:ref08_Check x1=0:=by rw [← keyCheck_eq];exact iNe_f.1 g3
  have k3:ref08_Check x3=0:=by rw [← keyCheck_eq];exact iNe_f.1 g4
  have D:=Drop_facts T hok (k:=x1)
  have hb:(x0.filter (fun p=>!decide (p.Key=x1))).length≤4294967296:=D.tb.big
  obtain ⟨y1,y2⟩:=Keys_ok T hok
  obtain ⟨z1,z2⟩:=Frozen0 T hok
  have l24:=fun u=>l24_ok (k:=x1) (v:=(x0.filter (fun p=>!decide (p.Key=x1)),(0:Int))) T.big hb (x0.length+1) 0 0 u (by omega) (by omega) (by omega) (by simp)
  simp only [show (((0:Nat):Int))=0 from rfl] at l24
  simp only [T.find hok k1,T.find hok k3,Drop_ok T hok k1,D.tb.find D.ok k1,D.tb.find D.ok k3,D.me,l24,fnd_e,y1,y2,Sealed0 T hok,z1,z2,key_eq,mLen_eq,qiNe_self,qiEq_self,qsel,Bool.not_true,Bool.false_or,Bool.or_false,cond_false,Bool.true_and,Bool.and_true,Bool.not_false]
  have hdr:(!decide (x3=x1)&&((!bEq (fnd (x0.filter (fun p=>!decide (p.Key=x1))) x3).2.1 (fnd x0 x3).2.1)||!desc_Same (fnd (x0.filter (fun p=>!decide (p.Key=x1))) x3).1 (fnd x0 x3).1))=false:=by
   by_cases hx:x3=x1
   ·simp [hx]
   ·rw [D.el x3 hx,fnd_same T hok,bEq_self];simp
  rw [hdr]
  by_cases he:(table_Put x0 x1 x2).2=0
  ·have P:=Put_facts T hok k1 (dok h2) he
   have l17:=l17_ok (v:=table_Put x0 x1 x2) T.big P.key (x0.length+1) 0 false (by omega) (by omega)
   simp only [show (((0:Nat):Int))=0 from rfl] at l17
   have hpu:(!decide (x3=x1)&&((!bEq (fnd (table_Put x0 x1 x2).1 x3).2.1 (fnd x0 x3).2.1)||!desc_Same (fnd (table_Put x0 x1 x2).1 x3).1 (fnd x0 x3).1))=false:=by
    by_cases hx:x3=x1
    ·simp [hx]
    ·rw [P.el x3 hx,fnd_same T hok,bEq_self];simp
   have hle:iNe ((table_Put x0 x1 x2).1.length:Int) (bif (fnd x0 x1).2.1 then (x0.length:Int) else iAdd .i64 (x0.length:Int) 1)=false:=by
    rw [P.len,qAdd T.big]
    cases (fnd x0 x1).2.1<;>exact qiNe_self _
   have hc:table_Check (table_Put x0 x1 x2).1=0:=by rw [tCheck_eq _ P.tb.big P.ok];exact P.tb.chk
   have hs:desc_Same x2 x2=true:=same_self (dok h2) (whole_Rc (dok h2) P.wh)
   simp only [P.tb.find P.ok k1,P.tb.find P.ok k3,P.me,fnd_e,l17,hpu,hle,hc,hs,he,qiNe_self,qiEq_self,Bool.not_true,Bool.or_false,Bool.false_or,Bool.and_false,Bool.true_and,cond_false,cond_true]
  ·have e:iEq (table_Put x0 x1 x2).2 0=false:=iEq_f.2 he
   simp only [e,Bool.false_and,cond_false]
end Go.Fw
end
