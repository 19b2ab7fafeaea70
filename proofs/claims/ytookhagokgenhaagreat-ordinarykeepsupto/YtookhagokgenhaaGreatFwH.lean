
import Derived.Test.YtookhagokgenhaaGreatFwG
import Derived.Test.YtookhagokgenhaaGreatFwF
import Derived.Test.YtookhagokgenhaaGreatRows
import Derived.Test.YtookhagokgenhaaGreatProg
import Derived.Test.YtookhagokgenhaaGreatFwE
set_option linter.unusedVariables false
set_option linter.unusedSimpArgs false
set_option linter.unusedSectionVars false
set_option linter.unnecessarySimpa false
section
namespace Go.Fw
set_option maxRecDepth 100000
set_option maxHeartbeats 4000000
open Go.Proofs
instance : VF dL.enc:=⟨dL.iT⟩
instance {x : dL}:Fz (dL.av x):=⟨dL.fz x⟩
instance : OE dL.enc 4:=⟨dL.len⟩
instance : VF dI.enc:=⟨dI.iT⟩
instance {x : dI}:Fz (dI.av x):=⟨dI.fz x⟩
instance : OE dI.enc 2:=⟨dI.len⟩
instance : VF dJ.enc:=⟨dJ.iT⟩
instance {x : dJ}:Fz (dJ.av x):=⟨dJ.fz x⟩
instance : OE dJ.enc 16:=⟨dJ.len⟩
instance : VF dM.enc:=⟨dM.iT⟩
instance {x : dM}:Fz (dM.av x):=⟨dM.fz x⟩
instance : OE dM.enc 18:=⟨dM.len⟩
instance : VF dN.enc:=⟨dN.iT⟩
instance {x : dN}:Fz (dN.av x):=⟨dN.fz x⟩
instance : OE dN.enc 18:=⟨dN.len⟩
instance : VF dK.enc:=⟨dK.iT⟩
instance {x : dK}:Fz (dK.av x):=⟨dK.fz x⟩
instance : OE dK.enc 1:=⟨dK.len⟩
instance : VF gQ.enc:=⟨gQ.iT⟩
instance {x : gQ}:Fz (gQ.av x):=⟨gQ.fz x⟩
instance : OE gQ.enc 26:=⟨gQ.len⟩
instance : VF sZ.enc:=⟨sZ.iT⟩
instance {x : sZ}:Fz (sZ.av x):=⟨sZ.fz x⟩
instance : OE sZ.enc 32:=⟨sZ.len⟩
instance : VF gK.enc:=⟨gK.iT⟩
instance {x : gK}:Fz (gK.av x):=⟨gK.fz x⟩
instance : OE gK.enc 29:=⟨gK.len⟩
instance : VF tq.enc:=⟨tq.iT⟩
instance {x : tq}:Fz (tq.av x):=⟨tq.fz x⟩
instance : OE tq.enc 87:=⟨tq.len⟩
instance : VF qo.enc:=⟨qo.iT⟩
instance {x : qo}:Fz (qo.av x):=⟨qo.fz x⟩
instance : OE qo.enc 23:=⟨qo.len⟩
instance : VF nR.enc:=⟨nR.iT⟩
instance {x : nR}:Fz (nR.av x):=⟨nR.fz x⟩
instance : OE nR.enc 24:=⟨nR.len⟩
instance {r : dJ×Int}:Fz (Ar r):=⟨(inferInstance:QG [(dJ.av r.1),(.p (.int .i64 r.2))]).h⟩
instance {r : Int×Bool}:Fz (pO r):=⟨(inferInstance:QG [(.p (.int .i64 r.1)),(.p (.bool r.2))]).h⟩
instance {r : dJ×Bool×Int}:Fz (ji r):=⟨(inferInstance:QG [(dJ.av r.1),(.p (.bool r.2.1)),(.p (.int .i64 r.2.2))]).h⟩
instance {r : Bool×Int}:Fz (xZ r):=⟨(inferInstance:QG [(.p (.bool r.1)),(.p (.int .i64 r.2))]).h⟩
instance {r : List dM×Int}:Fz (kP r):=⟨(inferInstance:QG [(.sl (List.map dM.enc r.1) false),(.p (.int .i64 r.2))]).h⟩
instance {r : Int×Int}:Fz (kV r):=⟨(inferInstance:QG [(.p (.int .i64 r.1)),(.p (.int .i64 r.2))]).h⟩
instance {r : List dI×Int}:Fz (Az r):=⟨(inferInstance:QG [(.sl (List.map dI.enc r.1) false),(.p (.int .i64 r.2))]).h⟩
instance {r : dK×gQ×Int}:Fz (fE r):=⟨(inferInstance:QG [(dK.av r.1),(gQ.av r.2.1),(.p (.int .i64 r.2.2))]).h⟩
instance {r : dK×gQ}:Fz (pU r):=⟨(inferInstance:QG [(dK.av r.1),(gQ.av r.2)]).h⟩
instance {r : dN×Int}:Fz (oP r):=⟨(inferInstance:QG [(dN.av r.1),(.p (.int .i64 r.2))]).h⟩
noncomputable def ig : ql:=xOr (apE 156 155 153) (adu Tryz.prog)
theorem dX : ∀σ:List AV,iT σ=true->oJ Tryz.prog σ ig:=apL (amH vF xg DI) ahh
noncomputable def iq : Ew:=amJ (Y5 Tryz.prog alc) (amJ (apN Tryz.prog (ocT [(86,[0],18,true),(87,[0],18,true),(46,[0],18,false),(18,[0,0],18,false),(79,[],2,true),(81,[],2,true)])) (aqc [136,137] (apR Tryz.prog (wcT [(100000,[(0,18)]),(127,[(1,2)]),(145,[(1,2)]),(146,[(1,2)]),(157,[(1,2)]),(161,[(1,2)]),(116,[]),(60,[]),(63,[]),(132,[])]))))
theorem dY : ∀σ:List AV,iT σ=true->n_ Tryz.prog σ iq:=afa (adR asu) (afa amK (ank amP))
abbrev zz0 : Tm:=.conv .i64 (.bin .shr (.int .u64) (.conv .u64 (aI (V 1) (V 3))) (.li 1))
abbrev zz5 : Tm:=.rlen (V 0)
abbrev zz1 : SV:=.agg [(.fn 107 [] [(.op 3 1 (.li 0) 0)]),(.fn 144 [] [(.os 2 2 0 zz5),(.c (.at 1 29))])]
abbrev zz2 : SV:=zB (.lb false)
abbrev zz3 : SV:=zI (.li 0)
abbrev zz4 : SV:=zS (.ls [])
abbrev zz6 : SV:=zU (.li 0)
abbrev zz7 : SV:=zF (.lf 0)
abbrev zz8 : SV:=.agg [(zL (W 0 0))]
abbrev zz9 : Tm:=.rlen (W 0 0)
abbrev ano : Tm:=.or (.and (V 6) (V 7)) (.and (V 8) (V 9))
abbrev anX : Tm:=uE (W 0 0) (.li 2)
abbrev apY : Tm:=uE (W 0 0) (.li 3)
abbrev axj : Tm:=.and (uE (W 0 0) (W 0 0)) (.and (.or anX (.or apY (.bin .eql .kS (W 0 1) (.lf 0)))) (.and (.ite anX (sE (W 0 2) (.ls [])) (.ite apY (sE (W 0 2) (.ls [])) (.or (uE (W 0 0) (.li 4)) (sE (W 0 2) (.ls []))))) (.ite anX (qE (W 0 3) (.li 0)) (.ite apY (qE (W 0 3) (.li 0)) (.ite (uE (W 0 0) (.li 4)) (qE (W 0 3) (.li 0)) (.or (.or (uE (W 0 0) (.li 5)) (.or (uE (W 0 0) (.li 6)) (.or (uE (W 0 0) (.li 7)) (uE (W 0 0) (.li 8))))) (qE (W 0 3) (.li 0))))))))
abbrev aq2 : Tm:=uE (W 1 0) (.li 1)
abbrev aq3 : Tm:=uE (W 1 0) (.li 3)
abbrev ao9 : Tm:=uE (W 1 0) (.li 4)
abbrev ati : Tm:=.not (.or aq2 (.or aq3 (.or ao9 (uE (W 1 0) (.li 11)))))
abbrev aof : Tm:=mI (aI zz0 (V 2)) (V 8)
abbrev apn : Tm:=uE (W 2 0) (.li 5)
abbrev auJ : Tm:=.and (.not (V 7)) (.not (.and (.and (.and (.and apn (V 4)) (qL (W 2 10) (V 1))) (V 5)) (uE (W 6 0) (.li 6))))
abbrev aq4 : Tm:=.conv .i64 (.bin .shr (.int .u64) (.conv .u64 (aI (V 8) (V 9))) (.li 1))
abbrev alE : List SV:=[(.os 2 2 0 zz5)]
abbrev auM : SV:=.agg [zz6,zz6,zz7,zz4,zz3,zz6,zz7,zz4,zz3,zz6,zz7,zz4,zz3,zz2,zz2,zz2]
abbrev alJ : SV:=.slc [] false
abbrev avd : Tm:=.conv .i64 (.bin .shr (.int .u64) (.conv .u64 (aI (V 4) (V 5))) (.li 1))
abbrev avg : Tm:=.conv .i64 (.bin .shr (.int .u64) (.conv .u64 (aI (V 6) (V 7))) (.li 1))
abbrev awF : SV:=.agg [zz6,zz6,zz7,zz4,zz3,zz2,zz2,zz6,zz6,zz7,zz4,zz3,zz6,zz7,zz4,zz3,zz6,zz7,zz4,zz3,zz2,zz2,zz2,alJ,zz6,zz4]
abbrev aon : Tm:=qE (mI (V 2) (V 1)) (.li 1)
abbrev alQ : SV:=zB (.lb true)
abbrev al6 : List SV:=(cV 0 dK.fH)
abbrev axk : Tm:=.or (.or (.or (.not (W 15 6)) (W 15 22)) (.not (.bin .eql .bool (W 15 21) (W 12 21)))) (.not (.bin .eql .bool (V 24) (V 23)))
abbrev aqV : SV:=.agg [(zS (W 2 0)),(zI (W 2 1))]
abbrev anp : Tm:=uE (W 1 0) (.li 2)
abbrev atj : List SV:=[(zL (V 0)),(.agg [(zS (W 1 0)),(zI (W 1 1))])]
abbrev an2 : Tm:=uE (W 1 0) (.li 6)
abbrev apO : List SV:=(cV 0 dJ.fH)
abbrev avN : Tm:=.or (uN (.bin .andNot kU (W 0 0) (.li 63)) (.li 0)) (.and (V 1) (V 2))
abbrev axl : Tm:=.and (.and (.and (qE (W 13 1) (V 1)) (.and (sE (W 13 2) (W 2 0)) (qE (W 13 3) (W 2 1)))) (.var 14 [1,5])) (.or (.and (uE (W 13 0) (.li 6)) (.not (W 15 6))) (.and (uE (W 13 0) (.li 10)) (W 15 6)))
abbrev aqX : SV:=.agg [(zL (.var 5 [0,0]))]
abbrev axm : List SV:=[zz8,(.agg [(zU (.li 5)),(zI (V 1)),(zS (W 2 0)),(zI (W 2 1)),zz6,zz6,zz7,zz4,zz3,zz6,zz7,zz4,zz3,zz6,zz7,zz4,zz3,zz2,zz2,zz2,zz6,zz7,zz4,zz3,zz6,zz7,zz4,zz3,alJ])]
abbrev avO : Tm:=.and (uN (.var 14 [1,0]) (.li 1)) (uN (.var 14 [1,0]) (.li 3))
abbrev asn : SV:=.agg [(zS (W 1 2)),(zI (W 1 3))]
abbrev awG : Tm:=.and (uN (.bin .and kU (W 0 0) (.li 16)) (.li 0)) (.not (.bin .eql .bool (W 0 14) (W 1 14)))
abbrev atl : Tm:=.and (uN (W 2 1) (.li 1)) (.not (V 9))
abbrev aq5 : Tm:=qE (mI (V 3) (V 2)) (.li 1)
abbrev atm : Tm:=.and (qL (V 1) (V 8)) (qL (V 8) zz0)
abbrev axn : SV:=.agg [(zU (.li 3)),(zI (V 1)),zz4,zz3,zz6,zz6,zz7,zz4,zz3,zz6,zz7,zz4,zz3,zz6,zz7,zz4,zz3,zz2,zz2,zz2,zz6,zz7,zz4,zz3,zz6,zz7,zz4,zz3,alJ]
abbrev ap4 : SV:=.agg (cV 1 dJ.fH)
abbrev aq6 : SV:=zI (aI (V 3) (.li 1))
abbrev aq7 : List SV:=[(zS (W 4 0)),(zI (W 4 1))]
abbrev aqa : SV:=.agg [(zL (W 11 0))]
abbrev an_ : List SV:=(cV 0 dL.fH)
abbrev aqe : SV:=.agg [(zL (W 4 0))]
abbrev avP : Tm:=.and (W 12 0) (.or (.not (W 15 0)) (.not (V 18)))
abbrev aqZ : SV:=.agg (cV 1 dL.fH)
abbrev aoY : Tm:=.slen (W 0 0)
abbrev awH : Tm:=.and (qG aoY (.li 1)) (uE (.byte (W 0 0) (.li 0)) (.li 48))
abbrev avh : Tm:=.and (qL (V 8) (V 2)) (qL (V 2) aof)
abbrev avS : Tm:=.and (sN (W 2 15) (.ls [])) (uN (W 2 0) (.li 3))
abbrev axo : Tm:=.and anX (.and (.bin .neq .kS (W 0 1) (.lf 4607182418800017408)) (.or (.bin .neq .kS (W 0 1) (.lf 0)) (.not (V 1))))
abbrev avi : Tm:=.and (.not (W 2 16)) (.not (W 2 17))
abbrev aq0 : Tm:=uE (W 1 0) (.li 10)
abbrev avT : List SV:=[(zL (V 0)),(.fn 119 [] [(.vp [(zS (V 1))] 0)])]
abbrev awI : Tm:=aI (V 10) (.li 1)
abbrev atq : Tm:=.bin .and kU (W 0 0) (.li 4)
abbrev avj : Tm:=.not (qE (V 2) (.li 0))
abbrev atY : List SV:=[(zS (W 10 0)),(zI (W 10 1))]
abbrev aq8 : Tm:=qM (.li 0) (V 3)
abbrev aqy : Tm:=qN (V 2) (.li 0)
abbrev avV : Tm:=uN (.bin .and kU (W 1 0) (.li 1)) (.li 0)
abbrev avW : Tm:=uN (.bin .and kU (W 1 0) (.li 4)) (.li 0)
abbrev av2 : Tm:=uN (.bin .and kU (W 1 0) (.li 8)) (.li 0)
abbrev axp : Tm:=.bin .eql .bool (.var 5 [1,5]) (.or (.and (uE (W 7 1) (W 2 0)) (qE (W 8 4) (W 2 3))) (.and (W 10 5) (.not (W 6 0))))
abbrev asr : Tm:=qE zz5 (.li 0)
abbrev atZ : List SV:=[(zS (W 7 0)),(zI (W 7 1))]
abbrev at1 : List SV:=[(zS (W 8 0)),(zI (W 8 1))]
abbrev awJ : Tm:=.or (qN (W 6 1) (.li 0)) (qN (.rlen (.var 5 [0,0])) zz9)
abbrev axq : Tm:=.and (qG (V 5) (V 1)) (.not (.or (qL (W 8 0) (W 10 0)) (.and (qE (W 8 0) (W 10 0)) (qL (W 8 1) (W 10 1)))))
abbrev at6 : Tm×Bool:=((qN (V 6) (.li 0)),false)
abbrev avk : Tm:=.bin .and kU (W 0 0) (.li 1)
abbrev avm : SV:=.agg [(zL (.var 14 [0,0]))]
abbrev arD : Tm:=qL (V 3) zz5
abbrev av3 : List SV:=[zz1,(zI zz0),(zI aof),(zI (V 3))]
abbrev av6 : Tm:=.and (qL zz0 aof) (qL aof (V 3))
abbrev axr : SV:=.agg [zz6,zz6,zz7,zz4,zz3,zz2,alJ,zz6,zz7,zz4,zz3,zz6,zz7,zz4,zz3,zz4,zz2,zz2]
abbrev avn : Tm:=qG (.rlen (W 1 6)) (.li 0)
abbrev avo : Tm:=uE (.var 7 [1,0]) (.li 1)
abbrev arK : Tm:=qM (.li 0) (V 4)
abbrev arT : Tm:=mI (V 5) (.li 1)
abbrev avp : Tm:=aI (V 5) (.li 1)
abbrev av7 : SV:=.fn 117 [] [(.op 21 1 (.li 0) 0)]
abbrev asv : Tm:=uE (W 1 0) (.li 5)
abbrev at7 : SV:=.agg (cV 3 dJ.fH)
abbrev aua : Tm:=.rlen (V 1)
abbrev avq : List SV:=[(zS (W 6 0)),(zI (W 6 1))]
abbrev axt : List SV:=[zz6,zz6,zz7,zz4,zz3,zz2,(zL .nl),zz6,zz7,zz4,zz3,zz6,zz7,zz4,zz3,zz4,zz2,zz2]
abbrev am7 : Tm:=.not (V 3)
abbrev asK : Tm:=.bin .eql .bool (V 17) (W 15 6)
abbrev anm : Tm×Bool:=((V 4),true)
abbrev awk : Tm:=.bin .neq .kS (W 0 1) (W 0 1)
abbrev aqS : Tm:=.byte (W 0 0) (V 4)
abbrev aom : Tm:=.rlen (W 4 0)
abbrev awl : Tm:=.and (.bin .eql .kS (V 1) (V 0)) (.bin .leq .kS (V 2) (.lf 4845873199050653695))
abbrev asM : Tm:=.and (W 1 17) (.not (W 1 16))
abbrev avr : Tm:=.and (qG zz9 (.li 60)) (qM zz9 (.li 4096))
abbrev asO : Tm:=qE zz5 (.li 1)
abbrev asP : Tm:=qM (.li 0) zz5
abbrev awm : Tm:=.or (qL (W 11 0) (W 13 0)) (.and (qE (W 11 0) (W 13 0)) (qL (W 11 1) (W 13 1)))
abbrev aqT : Tm:=qG (W 0 1) (.li 0)
abbrev asQ : Tm:=.bin .and kU (W 0 0) (.li 8)
abbrev awn : Tm:=.or (.not (.var 5 [1,5])) (.and (uE (W 11 1) (W 2 0)) (qE (W 11 4) (W 2 3)))
abbrev awo : Tm:=.or (qL (W 9 0) (W 11 0)) (.and (qE (W 9 0) (W 11 0)) (qL (W 9 1) (W 11 1)))
abbrev awp : Tm:=.or axk (.and (.and (V 23) (.not (W 12 20))) (.or (W 15 20) (.not (V 25))))
abbrev arU : SV:=.agg (cV 2 dJ.fH)
abbrev anY : Tm:=.rlen (V 6)
abbrev asR : SV:=.agg [(zL (.var 7 [0,0]))]
abbrev anT : SV:=zU (.li 1)
abbrev asT : List SV:=[(zS (W 12 0)),(zI (W 12 1))]
abbrev awq : Tm:=.or (qL (W 7 0) (W 9 0)) (.and (qE (W 7 0) (W 9 0)) (qL (W 7 1) (W 9 1)))
abbrev avt : Tm:=.and (W 30 1) (.not (.var 30 [0,15]))
abbrev arZ : SV:=.agg (cV 2 dL.fH)
abbrev an0 : List SV:=[(.agg apO)]
abbrev avu : List SV:=[zz1,(zI (V 1)),(zI (V 2)),(zI (V 3))]
abbrev aqU : Tm:=qN (V 1) (.li 0)
def rZ : Md:=mdT 5871356456951737715627160420826621365518021009141724136019110586212477782060648894380917167715692941303349248
def kA : List (List Nat):=[[],[],[],[],[],[],[],[],[],[],[],[],[],[],[],[],[],[],[],[],[],[],[],[],[],[],[],[],[],[],[],[],[],[],[],[],[],[],[],[],[],[],[],[],[],[],[],[],[],[],[],[],[],[],[],[],[],[],[],[],[0,1,2,6,7,8,9,14,15,16,17,18,30],[],[],[0,1,2,6,7,8,9,14,15,16,17,18,30],[],[],[],[],[],[],[],[],[],[],[],[],[],[],[],[],[],[],[],[],[],[],[],[],[],[],[],[],[],[],[],[],[],[],[],[],[],[],[],[],[],[],[],[0,1,2,5,6,7,8,9,30,31,32,33,34,35,36,37],[],[0,1,4,5],[],[],[],[],[],[],[0,1,4],[],[],[],[],[],[],[],[],[],[],[1,2,4,5,6,7,11,26,31,49],[],[],[],[],[0,1,4,5,7,8,9,16],[],[],[],[],[],[],[],[],[],[],[],[],[1,2,3,6,7,12,20,21,22,23,24,25,26],[1,2,3,4,8,9,10,11,12,13,14,15,16,17,18,19,20,21,22,26,31,42,50,62,67,79,86,106,117,131,142,143,144,145,155,156,157,158,168,169,170,171],[],[],[],[],[],[],[],[],[],[],[1,2,3,4,8,9,18,21],[],[],[],[1,2,3,4,8,11],[],[],[],[],[],[],[],[],[],[],[],[],[],[],[],[],[],[],[],[],[]]
def sT : BR:=⟨[(78,⟨[],[(qM (.rlen (V 0)) (.li 4294967296))],[(.or (qN (V 1) (.li 0)) (qM (.rlen (V 0)) (.li 1024)))]⟩),
 (65,⟨[(qM (.li 0) (V 1)),(qL (V 1) (.rlen (W 0 0)))],[],[]⟩),
 (45,⟨[],[(qM (.rlen (W 0 0)) (.li 4294967296)),(qM (.rlen (W 1 28)) (.li 4294967296))],[(.or (qN (V 2) (.li 0)) (qM (.li 0) (W 1 1))),(.or (qN (V 2) (.li 0)) (qL (W 1 1) (.rlen (W 0 0))))]⟩),
 (46,⟨[],[(qM (.rlen (W 0 0)) (.li 4294967296))],[(qE (.rlen (W 1 0)) (.rlen (W 0 0)))]⟩),
 (74,⟨[],[(qM (.rlen (V 0)) (.li 4294967296))],[(.or (qN (V 2) (.li 0)) (qM (.rlen (V 0)) (.li 1024)))]⟩),
 (75,⟨[],[(qM (.rlen (V 0)) (.li 4294967296))],[(qL (V 2) (.rlen (V 0)))]⟩),
 (23,⟨[(qM (.li 0) (V 2)),(qL (V 2) (.rlen (W 0 0))),(qE (.rlen (W 0 0)) (.rlen (W 1 0)))],[],[]⟩)],[(145,4,⟨[(qM (.li 0) (V 1)),(qM (.li 0) (V 2)),(qM (V 2) (.rlen (V 4))),(qM (V 1) (.rlen (V 4)))],[(qM (.rlen (V 4)) (.li 4294967296))],[(qE (.rlen (V 7)) (.rlen (V 4)))]⟩),
 (161,4,⟨[(qM (V 1) (mI (.rlen (V 5)) (V 3))),(qM (V 2) (mI (.rlen (V 5)) (V 3))),(qM (.li 0) (V 1)),(qM (.li 0) (V 2)),(qM (.li 0) (V 3)),(qM (V 1) (.rlen (V 5))),(qM (V 2) (.rlen (V 5))),(qM (V 3) (.rlen (V 5)))],[(qM (.rlen (V 5)) (.li 4294967296))],[(qE (.rlen (V 8)) (.rlen (V 5)))]⟩),
 (157,4,⟨[(qM (.li 0) (V 1)),(qL (V 1) (V 2)),(qL (V 2) (V 3)),(qM (V 3) (.rlen (V 5)))],[(qM (.rlen (V 5)) (.li 4294967296))],[(qE (.rlen (V 8)) (.rlen (V 5)))]⟩),
 (146,4,⟨[(qM (.li 0) (V 1)),(qL (V 1) (V 2)),(qL (V 2) (V 3)),(qM (V 3) (.li 4294967296)),(qM (V 3) (.rlen (V 5)))],[(qM (.rlen (V 5)) (.li 4294967296))],[(qE (.rlen (V 8)) (.rlen (V 5)))]⟩),
 (127,4,⟨[(qM (.li 0) (V 1)),(qM (V 1) (.rlen (V 3)))],[(qM (.rlen (V 3)) (.li 4294967296))],[(qE (.rlen (V 6)) (.rlen (V 3)))]⟩)]⟩
theorem aox (a b:Int):aeq Tryz.prog 10000 3 (.p (.int .i64 a)) (.p (.int .i64 b))=some (decide (a=b)):=by
 have h:yEq Tryz.prog 10000 3 (.sc (.int .i64) (.var 0 [])) (.sc (.int .i64) (.var 1 []))=some (.bin .eql (.int .i64) (.var 0 []) (.var 1 [])):=by kernel_rfl
 have h2:=O0 (P:=Tryz.prog) (ρ:=[.p (.int .i64 a),.p (.int .i64 b)]) h
 refine h2.trans ?_
 show some (a == b)=_
 rw [ayy]
theorem ald (a b:dI):aeq Tryz.prog 10000 29 (.agg a.enc) (.agg b.enc)=some (decide (a=b)):=by
 have h:yEq Tryz.prog 10000 29 (.agg (iD 0 [] 0 dI.fH)) (.agg (iD 1 [] 0 dI.fH))=some (.and (.bin .eql .str (.var 0 [0]) (.var 1 [0])) (.bin .eql (.int .i64) (.var 0 [1]) (.var 1 [1]))):=by kernel_rfl
 have h2:=O0 (P:=Tryz.prog) (ρ:=[a.av,b.av]) h
 refine h2.trans ?_
 congr 1
 show (BF a.Str b.Str&&dW a.Sym b.Sym)=decide (a=b)
 cases a;cases b
 simp [BF,dW,JL,Bool.decide_and,ayy]
def R44 : jg:=
 ⟨[((.lb true),(.agg [(zS (V 0)),zz3]))],
 [],[]⟩
theorem e44 : kD Tryz.prog ig iq rZ (rY kA 44 [] []) 3 200 44 [zS (V 0)] 1=some R44:=by kernel_rfl
theorem GK (x0:List UInt8):CT Tryz.prog sT 44 [eS x0] (dI.av (oD x0)):=
 wV j_ dX dY e44 Ag (by kernel_rfl) [eS x0] xn
  wn
  ln
  (jZ rfl)
def R56 : jg:=
 ⟨[((.lb true),(.agg [(zU (.li 3)),(zF (V 0)),zz4,zz3]))],
 [],[]⟩
theorem e56 : kD Tryz.prog ig iq rZ (rY kA 56 [] []) 3 200 56 [zF (V 0)] 1=some R56:=by kernel_rfl
theorem Zf (x0:Nat):CT Tryz.prog sT 56 [eF x0] (dL.av (EM x0)):=
 wV j_ dX dY e56 Ag (by kernel_rfl) [eF x0] xn
  wn
  ln
  (jZ rfl)
def R55 : jg:=
 ⟨[((.lb true),(.agg [(zU (.li 51)),(zU (W 0 0)),(zF (W 0 1)),(zS (W 0 2)),(zI (W 0 3)),zz6,zz7,zz4,zz3,zz6,zz7,zz4,zz3,alQ,alQ,alQ]))],
 [],[]⟩
theorem e55 : kD Tryz.prog ig iq rZ (rY kA 55 [] []) 3 200 55 [.agg an_] 1=some R55:=by kernel_rfl
theorem Zg (x0:dL):CT Tryz.prog sT 55 [dL.av x0] (dJ.av (PV x0)):=
 wV j_ dX dY e55 Ag (by kernel_rfl) [dL.av x0] xn
  wn
  ln
  (jZ rfl)
def R20 : jg:=
 ⟨[((.lb true),ap4)],
 [([],(.call 56 [(zF (.lf 4619567317775286272))] (.agg an_))),
 ([],(.call 55 [(.agg an_)] ap4))],[]⟩
theorem e20 : kD Tryz.prog ig iq rZ (rY kA 20 [] []) 3 200 20 [] 0=some R20:=by kernel_rfl
theorem JC : CT Tryz.prog sT 20 [] (dJ.av uq):=
 wV j_ dX dY e20 Ag (by kernel_rfl) [dL.av (EM 4619567317775286272),dJ.av (PV (EM 4619567317775286272))] xn
  (wC (Zf 4619567317775286272) <|
  wC (Zg (EM 4619567317775286272)) <|
  wn)
  ln
  (jZ rfl)
def R82 : jg:=
 ⟨[((.lb true),(.agg [(zU (.li 6)),zz7,zz4,(zI (V 0))]))],
 [],[]⟩
theorem e82 : kD Tryz.prog ig iq rZ (rY kA 82 [] []) 3 200 82 [zI (V 0)] 1=some R82:=by kernel_rfl
theorem Vj (x0:Int):CT Tryz.prog sT 82 [eI x0] (dL.av (Ju x0)):=
 wV j_ dX dY e82 Ag (by kernel_rfl) [eI x0] xn
  wn
  ln
  (jZ rfl)
def R43 : jg:=
 ⟨[((.lb true),(.agg [(.slc [[anT,anT,zz7,zz4,zz3,alQ,(.slc [[(zS (W 0 0)),(zI (W 0 1)),(zU (W 1 0)),(zU (W 1 1)),(zF (W 1 2)),(zS (W 1 3)),(zI (W 1 4)),(zU (W 1 5)),(zF (W 1 6)),(zS (W 1 7)),(zI (W 1 8)),(zU (W 1 9)),(zF (W 1 10)),(zS (W 1 11)),(zI (W 1 12)),(zB (W 1 13)),(zB (W 1 14)),(zB (W 1 15))]] false),zz6,zz7,zz4,zz3,zz6,zz7,zz4,zz3,zz4,zz2,zz2],[anT,(zU (W 2 0)),(zF (W 2 1)),(zS (W 2 2)),(zI (W 2 3)),alQ,alJ,zz6,zz7,zz4,zz3,zz6,zz7,zz4,zz3,zz4,zz2,zz2]] false)]))],
 [([],(.call 44 [(zS (.ls [97]))] (.agg [(zS (W 0 0)),(zI (W 0 1))]))),
 ([],(.call 20 [] ap4)),
 ([],(.call 82 [zz3] arZ))],[]⟩
theorem e43 : kD Tryz.prog ig iq rZ (rY kA 43 [] []) 3 200 43 [] 0=some R43:=by kernel_rfl
theorem Oy : CT Tryz.prog sT 43 [] (dK.av qJ):=
 wV j_ dX dY e43 Ag (by kernel_rfl) [dI.av (oD [97]),dJ.av (uq ),dL.av (Ju 0)] xn
  (wC (GK [97]) <|
  wC (JC) <|
  wC (Vj 0) <|
  wn)
  ln
  (jZ rfl)
def aoy : Lo:=
 let p0:Pc:=((qL (V 3) zz9),true)::[]
 let p1:Pc:=((W 8 0),false)::p0
 let p2:Pc:=((W 9 1),false)::p1
 .mk [((qL (V 3) zz9),true)] 5 3 [(zB (V 2)),(zI (V 3)),alJ] [((.not (.not (W 8 0))),1,[(zB (V 5)),(zI (V 6)),(zL (V 7))]),((W 9 1),2,[alQ,(zL (V 7))]),((uE (W 11 1) (.li 1)),1,[(zB (V 5)),(zI (V 6)),(zL (V 10))]),((.lb true),0,[(zB (V 5)),(zI (W 11 4)),(zL (V 10))])] [(p0,(.tm (qM (.li 0) (V 6)))),
 (p0,(.tm (qL (V 6) zz9))),
 (p0,(.rd (false,1) (V 4) (V 6) 0 (zB (W 8 0)))),
 (p1,(.look 3 (.mk false 1 false 1) (V 7) (zI (V 6)) zz2 (W 9 0) (zB (W 9 1)))),
 (p2,(.put 3 (.mk false 1 false 1) (V 7) (zI (V 6)) alQ (V 10))),
 (p2,(.row (W 0 0) (V 6) (cV 11 dN.fH)))] [] [3,2] []
def aoz : LH:=.mk [(qM (.li 0) (V 6)),(qL (V 6) zz9)] .nl [] [([((uN (W 11 1) (.li 1)),true)],(qM (.li 0) (W 11 4))),([((uN (W 11 1) (.li 1)),true),((qL (V 6) zz9),true),((qM (.li 0) (V 6)),true)],(qL (W 11 4) zz9))] 0 [] []
def uT (r:Bool×Bool×Int×List (Int×Bool)×Bool×List (Int×Bool)):Nat×List AV:=Xi r.1 [eB r.2.1,eI r.2.2.1,eL (zW DY rowB) r.2.2.2.1] [eB r.2.2.2.2.1,eL (zW DY rowB) r.2.2.2.2.2]
theorem E_ (x0:dK)(v1:List Bool)(u2:Bool)(u3:Int)(u4:List Bool):∀(n:Nat) (u5:Bool) (u6:Int) (u7:List (Int×Bool)) (hP:Zo x0) (hB:x0.Objects.length<=4294967296) (_:kQ x0 u4 n u5 u6 u7=true),uP Tryz.prog sT aoy aoz [dK.av x0,eL rowB v1,eB u2,eI u3,eL rowB u4] n [eB u5,eI u6,eL (zW DY rowB) u7] (uT (iM x0 u4 n u5 u6 u7))
 |0,u5,u6,u7,_,_,hE=>absurd (show false=true from hE) Bool.false_ne_true
 |n+1,u5,u6,u7,hP,hB,hE=>
  let v8:Bool:=u4.getD u6.toNat default
  let v9:Bool×Bool:=nS false u6 u7
  let v10:List (Int×Bool):=nT u6 true u7
  let v11:dN:=x0.Objects.getD u6.toNat default
  have hE:(bif (!(!v8)) then true
  else bif v9.2 then true
  else bif (dW v11.fB.Kind 1) then true
  else kQ x0 u4 n u5 v11.fB.Ref v10)=true:=hE
  Og rfl [.agg (rowB v8),.agg (eB v9.1::rowB v9.2),eL (zW DY rowB) v10,dN.av v11] (xp (fun h=>decide_eq_true (ak8 hP (EI.1 (h.at 0 rfl))))<|xp (fun h=>decide_eq_true (aow hP (EI.1 (h.at 0 rfl)) (of_decide_eq_true (h.at 1 rfl)) (of_decide_eq_true (h.at 2 rfl))))<|xn) (wT <|
  wT <|
  Vu rfl <|
  aoq (f:=DY) (g:=rowB) aox u6 false rfl <|
  asj (f:=DY) (g:=rowB) aox u6 true rfl <|
  wR rfl <|
  wn) ln <|
   rcf uT (fun g0=>rx)<|fun g0=>rcf uT (fun g1=>rx)<|fun g1=>rcf uT (fun g2=>rx)<|fun g2=>rl (rg (E_ x0 v1 u2 u3 u4 n _ _ _ hP hB (Xy g2 (Xy g1 (Xy g0 hE)))))
def aoA : Lo:=
 let p0:Pc:=((qL (V 3) zz9),true)::[]
 let p1:Pc:=((qE (V 5) (.li 0)),true)::p0
 .mk [] 2 3 [zz2,zz3,(zL (V 1))] [((.not (qL (V 3) zz9)),1,[(zB (V 2)),(zL (V 4))]),((.not (qE (V 5) (.li 0))),2,[(zB (V 9)),(zL (V 4))]),((.lb true),0,[(zB (V 6)),aq6,(zL (V 11))])] [(p1,(.mark (.mk false 1 false 1) (V 8) (V 4) zz9 (V 11)))] [aoy] [2,2] []
def aoB : LH:=.mk [aq8,(qE (.rlen (V 4)) aua)] (mI zz9 (V 3)) [(zz9,1)] [] 1 [aoz] []
def zu (r:Bool×Bool×List Bool×Bool×List Bool):Nat×List AV:=Xi r.1 [eB r.2.1,eL rowB r.2.2.1] [eB r.2.2.2.1,eL rowB r.2.2.2.2]
theorem Fa (x0:dK)(v1:List Bool):∀(n:Nat) (u2:Bool) (u3:Int) (u4:List Bool) (hP:Zo x0) (hB:x0.Objects.length<=4294967296) (k0:0<=u3),uP Tryz.prog sT aoA aoB [dK.av x0,eL rowB v1] n [eB u2,eI u3,eL rowB u4] (zu (lK x0 n u2 u3 u4))
 |0,u2,u3,u4,_,_,_=>l0
 |n+1,u2,u3,u4,hP,hB,k0=>
  let r5:Bool×Bool×Int×List (Int×Bool)×Bool×List (Int×Bool):=iM x0 u4 (x0.Objects.length+3) u2 u3 []
  let v11:List Bool:=NV r5.2.2.2.1 u4
  Og rfl [eI (lW r5.1),eB r5.2.1,eI r5.2.2.1,eL (zW DY rowB) r5.2.2.2.1,eB r5.2.2.2.2.1,eL (zW DY rowB) r5.2.2.2.2.2,eL rowB v11] xn (asi (u:=r5.2.2.2.1) (l:=u4) rfl rfl (by intro h;exact abz hP (fun e he=>absurd he List.not_mem_nil) k0 (of_decide_eq_true (h.at 1 rfl)))<|wn) (lc2 (E_ x0 v1 u2 u3 u4 (x0.Objects.length+3) u2 u3 [] hP hB (P7 hP)) (hn:=Int.natCast_pos.2 (Nat.succ_pos _)) <|
  ln) <|
   rcf zu (fun g0=>rx)<|fun g0=>rcf zu (fun g1=>rx)<|fun g1=>rl (rg (Fa x0 v1 n _ _ _ hP hB (aqo hB k0 g0)))
def R66 : jg:=
 ⟨[(avj,(zB (V 5))),((.lb true),zz2)],
 [([],(.mk zz9 zz9 [zz2] (V 1)))],[aoA]⟩
def H66 : LH:=.mk [] (.li 0) [] [] 0 [aoB] []
theorem e66 : kD Tryz.prog ig iq rZ (rY kA 66 [4,2,6,5,8,16] [(0,(.mk [1,3,15] (.mk [(2,(.sc .bool)),(16,(.sc kI))] [] [(5,1)] 11) [(.normal,(.mk [(2,(.sc .bool))] [] [(5,1)] 11)),(.ret,(.mk [(2,(.sc .bool))] [] [(5,1)] 11))])),(2,(.mk [1,3,4,5,15,16] (.mk [(2,(.sc .bool)),(6,(.sc kI))] [] [(14,(.map (.mk false 1 false 1)))] 18) [(.normal,(.mk [(2,(.sc .bool)),(6,(.sc kI))] [] [(14,(.map (.mk false 1 false 1)))] 18)),(.ret,(.mk [(2,(.sc .bool))] [] [(14,(.map (.mk false 1 false 1)))] 18))]))]) 3 200 66 [.agg al6] 1=some R66:=by kernel_rfl
theorem VH (x0:dK)(hP:Zo x0)(hB:x0.Objects.length<=4294967296):CT Tryz.prog sT 66 [dK.av x0] (eB (rW x0)):=
 let v1:List Bool:=List.replicate ((jy dN.enc x0.Objects):Int).toNat false
 let r2:Bool×Bool×List Bool×Bool×List Bool:=lK x0 (x0.Objects.length+1) false 0 v1
 wV j_ dX dY e66 H66 (by kernel_rfl) [dK.av x0,eL rowB v1,eI (lW r2.1),eB r2.2.1,eL rowB r2.2.2.1,eB r2.2.2.2.1,eL rowB r2.2.2.2.2] xn
  (wMk (f:=rowB) false rfl<|wn)
  (lc2 (Fa x0 v1 (x0.Objects.length+1) false 0 v1 hP hB (Int.le_refl _)) <|
  ln)
  (iC (fun r=>.p (.bool r)) rfl rfl (jZ rfl))
def auN : jg:=
 ⟨[((.lb true),(zF (V 1)))],
 [([],(.call 153 [(zF (V 0))] (zF (V 1))))],[]⟩
theorem auO : kD Tryz.prog ig iq rZ (rY kA 133 [] []) 3 200 133 [zF (V 0)] 1=some auN:=by kernel_rfl
theorem VI (x0:Nat)(h0:Jh x0):CT Tryz.prog sT 133 [eF x0] (eF (Gt x0)):=
 let v1:Nat:=jC x0
 wV j_ dX dY auO Ag (by kernel_rfl) [eF x0,eF v1] xn
  (wCp (by intro h;exact ctP (DI x0 h0))<|wn)
  ln
  (jZ rfl)
def auP : jg:=
 ⟨[((.lb true),(zF (V 2)))],
 [([],(.call 156 [(zF (V 0))] (.sc (.int .u64) (V 1)))),
 ([],(.call 155 [(.sc (.int .u64) (.bin .andNot (.int .u64) (V 1) (.li 9223372036854775808)))] (zF (V 2))))],[]⟩
theorem auQ : kD Tryz.prog ig iq rZ (rY kA 134 [] []) 3 200 134 [zF (V 0)] 1=some auP:=by kernel_rfl
theorem abL (x0:Nat):CT Tryz.prog sT 134 [eF x0] (eF (N7 x0)):=
 let v1:Int:=oC x0
 let v2:Nat:=pK (nI .u64 v1 9223372036854775808)
 wV j_ dX dY auQ Ag (by kernel_rfl) [eF x0,.p (.int .u64 v1),eF v2] xn
  (wC (ctP (vF x0)) <|
  wC (ctP (xg (nI .u64 v1 9223372036854775808))) <|
  wn)
  ln
  (jZ rfl)
def auR : jg:=
 ⟨[((.lb true),(zB (qL (.conv .i64 (V 1)) (.li 0))))],
 [([],(.call 156 [(zF (V 0))] (.sc (.int .u64) (V 1))))],[]⟩
theorem auS : kD Tryz.prog ig iq rZ (rY kA 135 [] []) 3 200 135 [zF (V 0)] 1=some auR:=by kernel_rfl
theorem QX (x0:Nat):CT Tryz.prog sT 135 [eF x0] (eB (Au x0)):=
 let v1:Int:=oC x0
 wV j_ dX dY auS Ag (by kernel_rfl) [eF x0,.p (.int .u64 v1)] xn
  (wC (ctP (vF x0))<|wn)
  ln
  (jZ rfl)
def auT : jg:=
 let p0:Pc:=((.bin .neq .kS (V 0) (V 0)),false)::[]
 let p1:Pc:=((.bin .eql .kS (V 1) (V 0)),true)::p0
 let p2:Pc:=(awl,true)::p0
 let p3:Pc:=((.bin .neq .kS (V 0) (.lf 0)),false)::p2
 ⟨[((.lb true),(zB (.or (.bin .neq .kS (V 0) (V 0)) (.and awl (.or (.bin .neq .kS (V 0) (.lf 0)) am7)))))],
 [(p0,(.call 133 [(zF (V 0))] (zF (V 1)))),
 (p1,(.call 134 [(zF (V 0))] (zF (V 2)))),
 (p3,(.call 135 [(zF (V 0))] (zB (V 3))))],[]⟩
theorem e120 : kD Tryz.prog ig iq rZ (rY kA 120 [] []) 3 200 120 [zF (V 0)] 1=some auT:=by kernel_rfl
theorem MN (x0:Nat):CT Tryz.prog sT 120 [eF x0] (eB (vS x0)):=
 let v1:Nat:=Gt x0
 let v2:Nat:=N7 x0
 let v3:Bool:=Au x0
 wV j_ dX dY e120 Ag (by kernel_rfl) [eF x0,eF v1,eF v2,eB v3] xn
  (wCp (by intro h;exact VI x0 (atT (h.at 0 rfl))) <|
  wC (abL x0) <|
  wC (QX x0) <|
  wn)
  ln
  (jZ rfl)
def R96 : jg:=
 let p0:Pc:=((qG (.slen (W 0 2)) (.li 4096)),false)::[]
 let p1:Pc:=((qL (W 0 3) (.li 0)),false)::p0
 let p2:Pc:=((.bin .gtr kU (W 0 0) (.li 8)),false)::p1
 let p3:Pc:=(anX,true)::p2
 let p4:Pc:=((.bin .neq .kS (W 0 1) (.lf 4607182418800017408)),true)::p3
 let p5:Pc:=((.bin .neq .kS (W 0 1) (.lf 0)),false)::p4
 let p6:Pc:=(anX,false)::p2
 let p7:Pc:=(apY,true)::p6
 let p8:Pc:=(axo,false)::p2
 let p9:Pc:=((.and (.not anX) (.and apY (.not (V 2)))),false)::p8
 let p10:Pc:=(axj,true)::p9
 ⟨[((.or (.or (.bin .gtr kU (W 0 0) (.li 8)) (qL (W 0 3) (.li 0))) (qG (.slen (W 0 2)) (.li 4096))),zz2),(axo,zz2),((.and (.not anX) (.and apY (.not (V 2)))),zz2),((.lb true),(zB (.and axj (V 3))))],
 [(p5,(.call 120 [(zF (W 0 1))] (zB (V 1)))),
 (p7,(.call 120 [(zF (W 0 1))] (zB (V 2)))),
 (p10,(.call 120 [(zF (.ite anX (.lf 0) (.ite apY (.lf 0) (W 0 1))))] (zB (V 3))))],[]⟩
theorem e96 : kD Tryz.prog ig iq rZ (rY kA 96 [] []) 3 200 96 [.agg an_] 1=some R96:=by kernel_rfl
theorem uU (x0:dL):CT Tryz.prog sT 96 [dL.av x0] (eB (jh x0)):=
 let v1:Bool:=vS x0.Num
 let v2:Bool:=vS x0.Num
 let v3:Bool:=vS (bif (dW x0.Kind 2) then 0 else (bif (dW x0.Kind 3) then 0 else x0.Num))
 wV j_ dX dY e96 Ag (by kernel_rfl) [dL.av x0,eB v1,eB v2,eB v3] xn
  (wC (MN x0.Num) <|
  wC (MN x0.Num) <|
  wC (MN (bif (dW x0.Kind 2) then 0 else (bif (dW x0.Kind 3) then 0 else x0.Num))) <|
  wn)
  ln
  (iC (fun r=>.p (.bool r)) rfl rfl (iC (fun r=>.p (.bool r)) rfl rfl (iC (fun r=>.p (.bool r)) rfl rfl (jZ rfl))))
def R92 : jg:=
 let p0:Pc:=((uE (W 0 0) (V 1)),true)::[]
 ⟨[((.lb true),(zB (.and (uE (W 0 0) (V 1)) (V 2))))],
 [(p0,(.call 96 [(.agg an_)] (zB (V 2))))],[]⟩
theorem e92 : kD Tryz.prog ig iq rZ (rY kA 92 [] []) 3 200 92 [.agg an_,zU (V 1)] 2=some R92:=by kernel_rfl
theorem Cb (x0:dL)(x1:Int):CT Tryz.prog sT 92 [dL.av x0,eU x1] (eB (pV x0 x1)):=
 let v2:Bool:=jh x0
 wV j_ dX dY e92 Ag (by kernel_rfl) [dL.av x0,eU x1,eB v2] xn
  (wC (uU x0)<|wn)
  ln
  (jZ rfl)
def R69 : jg:=
 ⟨[((.lb true),(zB (.and (.bin .geq kU (W 0 0) (.li 6)) (.bin .leq kU (W 0 0) (.li 8)))))],
 [],[]⟩
theorem e69 : kD Tryz.prog ig iq rZ (rY kA 69 [] []) 3 200 69 [.agg an_] 1=some R69:=by kernel_rfl
theorem jY (x0:dL):CT Tryz.prog sT 69 [dL.av x0] (eB (dR x0)):=
 wV j_ dX dY e69 Ag (by kernel_rfl) [dL.av x0] xn
  wn
  ln
  (jZ rfl)
def auU : jg:=
 ⟨[((W 0 17),(zU (.li 8))),((W 0 16),(zU (.li 7))),((.lb true),(zU (.li 6)))],
 [],[]⟩
theorem auV : kD Tryz.prog ig iq rZ (rY kA 114 [] []) 3 200 114 [.agg (cV 0 dN.fH)] 1=some auU:=by kernel_rfl
theorem Zh (x0:dN):CT Tryz.prog sT 114 [dN.av x0] (eU (EU x0)):=
 wV j_ dX dY auV Ag (by kernel_rfl) [dN.av x0] xn
  wn
  ln
  (iC (fun r=>.p (.int .u8 r)) rfl rfl (iC (fun r=>.p (.int .u8 r)) rfl rfl (jZ rfl)))
def R91 : jg:=
 let p0:Pc:=((V 2),true)::[]
 let p1:Pc:=(am7,false)::p0
 let p2:Pc:=((qL (W 1 3) zz9),true)::p1
 ⟨[((.not (V 2)),zz2),((.lb true),(zB (.or am7 (.and (qL (W 1 3) zz9) (uE (V 5) (W 1 0))))))],
 [([],(.call 96 [aqZ] (zB (V 2)))),
 (p0,(.call 69 [aqZ] (zB (V 3)))),
 (p2,(.row (W 0 0) (W 1 3) (cV 4 dN.fH))),
 (p2,(.call 114 [(.agg (cV 4 dN.fH))] (zU (V 5))))],[]⟩
def H91 : LH:=.mk [] (.li 0) [] [([((V 2),true)],(qM (.li 0) (W 1 3)))] 0 [] []
theorem e91 : kD Tryz.prog ig iq rZ (rY kA 91 [] []) 3 200 91 [.agg al6,.agg (cV 1 dL.fH)] 2=some R91:=by kernel_rfl
theorem zx (x0:dK)(x1:dL):CT Tryz.prog sT 91 [dK.av x0,dL.av x1] (eB (fF x0 x1)):=
 let v2:Bool:=jh x1
 let v3:Bool:=dR x1
 let v4:dN:=x0.Objects.getD x1.Ref.toNat default
 let v5:Int:=EU v4
 wV j_ dX dY e91 H91 (by kernel_rfl) [dK.av x0,dL.av x1,eB v2,eB v3,dN.av v4,eU v5] (xp (fun h=>decide_eq_true (Ov ( (h.at 0 rfl))))<|xn)
  (wC (uU x1) <|
  wC (jY x1) <|
  wR rfl <|
  wC (Zh v4) <|
  wn)
  ln
  (iC (fun r=>.p (.bool r)) rfl rfl (jZ rfl))
def aoC : Lo:=
 let p0:Pc:=(asM,false)::[]
 let p1:Pc:=((sN (W 1 15) (.ls [])),false)::p0
 let p2:Pc:=((V 3),true)::p1
 let p3:Pc:=((W 1 5),false)::p2
 let p4:Pc:=(avn,false)::p3
 let p5:Pc:=((.and (V 4) (V 5)),false)::p4
 let p6:Pc:=((qL (V 7) (.li 2)),true)::p5
 let p7:Pc:=((.not (V 10)),false)::p6
 .mk [((.and (V 4) (V 5)),false),(avn,false),((W 1 5),false),((V 3),true),((sN (W 1 15) (.ls [])),false),(asM,false)] 6 3 [zz2,zz3,(.slc [[(zU (W 1 7)),(zF (W 1 8)),(zS (W 1 9)),(zI (W 1 10))],[(zU (W 1 11)),(zF (W 1 12)),(zS (W 1 13)),(zI (W 1 14))]] false)] [((.not (qL (V 7) (.li 2))),1,[(zB (V 6)),(zL (V 8))]),((.or (.or (.not (V 10)) (.not (V 11))) (qH (W 9 3) (V 2))),2,[zz2,(zL (V 8))]),((.lb true),0,[(zB (V 6)),(zI (aI (V 7) (.li 1))),(zL (V 8))])] [(p6,(.tm (qM (.li 0) (V 7)))),
 (p6,(.rd (true,4) (V 8) (V 7) 0 (.agg (cV 9 dL.fH)))),
 (p6,(.call 69 [(.agg (cV 9 dL.fH))] (zB (V 10)))),
 (p7,(.call 91 [zz8,(.agg (cV 9 dL.fH))] (zB (V 11))))] [] [2,2] []
def aoD : LH:=.mk [(qM (.rlen (W 1 6)) (V 7)),(qE (.rlen (V 8)) (.li 2))] (mI (.li 2) (V 7)) [((.li 2),1)] [] 3 [] []
def zy (r:Bool×Bool×List dL×Bool×List dL):Nat×List AV:=Xi r.1 [eB r.2.1,eL dL.enc r.2.2.1] [eB r.2.2.2.1,eL dL.enc r.2.2.2.2]
theorem Fe (x0:dK)(x1:dN)(x2:Int)(v3:Bool)(v4:Bool)(v5:Bool):∀(n:Nat) (u6:Bool) (u7:Int) (u8:List dL),uP Tryz.prog sT aoC aoD [dK.av x0,dN.av x1,eI x2,eB v3,eB v4,eB v5] n [eB u6,eI u7,eL dL.enc u8] (zy (kR x0 x2 n u6 u7 u8))
 |0,u6,u7,u8=>l0
 |n+1,u6,u7,u8=>
  let v9:dL:=u8.getD u7.toNat default
  let v10:Bool:=dR v9
  let v11:Bool:=fF x0 v9
  Og rfl [dL.av v9,eB v10,eB v11] xn (wT <|
  Vu rfl <|
  wC (jY v9) <|
  wC (zx x0 v9) <|
  wn) ln <|
   rc zy rx<|rc zy rx<|rl (rg (Fe x0 x1 x2 v3 v4 v5 n _ _ _))
def R90 : jg:=
 let p0:Pc:=((.or avn (W 1 5)),false)::[]
 let p1:Pc:=(asM,false)::[]
 let p2:Pc:=((sN (W 1 15) (.ls [])),false)::p1
 let p3:Pc:=((V 3),true)::p2
 let p4:Pc:=((W 1 5),false)::p3
 let p5:Pc:=(avn,false)::p4
 let p6:Pc:=anm::p5
 let p7:Pc:=((.and (V 4) (V 5)),false)::p5
 let p8:Pc:=((qE (V 6) (.li 0)),true)::p7
 ⟨[((.or (.or (.or (.or avn (W 1 5)) am7) (sN (W 1 15) (.ls []))) asM),zz2),((.and (V 4) (V 5)),alQ),((.not (qE (V 6) (.li 0))),(zB (V 9))),((.lb true),(zB (.and (.bin .eql .bool (W 11 16) (W 1 16)) (.bin .eql .bool (W 11 17) (W 1 17)))))],
 [(p0,(.call 92 [(.agg (cW 1 1 dL.fH)),anT] (zB (V 3)))),
 (p5,(.call 92 [(.agg (cW 1 7 dL.fH)),anT] (zB (V 4)))),
 (p6,(.call 92 [(.agg (cW 1 11 dL.fH)),anT] (zB (V 5)))),
 (p8,(.row (W 0 0) (W 1 10) (cV 11 dN.fH)))],[aoC]⟩
def H90 : LH:=.mk [] (.li 0) [] [([((qE (V 6) (.li 0)),true)],(qM (.li 0) (W 1 10))),([((qE (V 6) (.li 0)),true)],(qL (W 1 10) zz9))] 0 [aoD] []
theorem e90 : kD Tryz.prog ig iq rZ (rY kA 90 [61,60,62,63,66,68,67,69,52,6] [(0,(.mk [2,3,4,50,51] (.mk [(6,(.sc .bool)),(52,(.sc kI))] [] [(43,4)] 46) [(.normal,(.mk [(6,(.sc .bool))] [] [(43,4)] 46)),(.ret,(.mk [(6,(.sc .bool))] [] [(43,4)] 46))]))]) 3 200 90 [.agg al6,.agg (cV 1 dN.fH),zI (V 2)] 3=some R90:=by kernel_rfl
theorem VJ (x0:dK)(x1:dN)(x2:Int):CT Tryz.prog sT 90 [dK.av x0,dN.av x1,eI x2] (eB (uw x0 x1 x2)):=
 let v3:Bool:=pV x1.fB 1
 let v4:Bool:=pV x1.Target 1
 let v5:Bool:=pV x1.Handler 1
 let r6:Bool×Bool×List dL×Bool×List dL:=kR x0 x2 ((2:Int).toNat+1) false 0 [x1.Target,x1.Handler]
 let v11:dN:=x0.Objects.getD x1.Target.Ref.toNat default
 wV j_ dX dY e90 H90 (by kernel_rfl) [dK.av x0,dN.av x1,eI x2,eB v3,eB v4,eB v5,eI (lW r6.1),eB r6.2.1,eL dL.enc r6.2.2.1,eB r6.2.2.2.1,eL dL.enc r6.2.2.2.2,dN.av v11] (xp (fun h=>decide_eq_true (ak6 (mD.1 (h.at 0 rfl))))<|xp (fun h=>decide_eq_true (ak7 (mD.1 (h.at 0 rfl))))<|xn)
  (wC (Cb x1.fB 1) <|
  wC (Cb x1.Target 1) <|
  wC (Cb x1.Handler 1) <|
  wR rfl <|
  wn)
  (lc2 (Fe x0 x1 x2 v3 v4 v5 ((2:Int).toNat+1) false 0 [x1.Target,x1.Handler]) <|
  ln)
  (iC (fun r=>.p (.bool r)) rfl rfl (iC (fun r=>.p (.bool r)) rfl rfl (iC (fun r=>.p (.bool r)) rfl rfl (jZ rfl))))
def R83 : jg:=
 ⟨[((.or (.or (qL (W 0 1) (.li 0)) (qG aoY (.li 4096))) (.and aqT (sN (W 0 0) (.ls [])))),(zI (.li 9))),((.lb true),zz3)],
 [],[]⟩
theorem e83 : kD Tryz.prog ig iq rZ (rY kA 83 [] []) 3 200 83 [.agg (cV 0 dI.fH)] 1=some R83:=by kernel_rfl
theorem AP (x0:dI):CT Tryz.prog sT 83 [dI.av x0] (eI (lG x0)):=
 wV j_ dX dY e83 Ag (by kernel_rfl) [dI.av x0] xn
  wn
  ln
  (iC (fun r=>.p (.int .i64 r)) rfl rfl (jZ rfl))
def R30 : jg:=
 ⟨[((.lb true),(zB (uN (.bin .and kU (W 0 0) (.li 3)) (.li 0))))],
 [],[]⟩
theorem e30 : kD Tryz.prog ig iq rZ (rY kA 30 [] []) 3 200 30 [.agg apO] 1=some R30:=by kernel_rfl
theorem lU (x0:dJ):CT Tryz.prog sT 30 [dJ.av x0] (eB (fD x0)):=
 wV j_ dX dY e30 Ag (by kernel_rfl) [dJ.av x0] xn
  wn
  ln
  (jZ rfl)
def R59 : jg:=
 ⟨[((.lb true),(zB (uN (.bin .and kU (W 0 0) (.li 12)) (.li 0))))],
 [],[]⟩
theorem e59 : kD Tryz.prog ig iq rZ (rY kA 59 [] []) 3 200 59 [.agg apO] 1=some R59:=by kernel_rfl
theorem uV (x0:dJ):CT Tryz.prog sT 59 [dJ.av x0] (eB (gW x0)):=
 wV j_ dX dY e59 Ag (by kernel_rfl) [dJ.av x0] xn
  wn
  ln
  (jZ rfl)
def auW : jg:=
 ⟨[((.lb true),(zB (.or (uE (W 0 0) (.li 7)) (uE (W 0 0) (.li 8)))))],
 [],[]⟩
theorem auX : kD Tryz.prog ig iq rZ (rY kA 131 [] []) 3 200 131 [.agg an_] 1=some auW:=by kernel_rfl
theorem Vk (x0:dL):CT Tryz.prog sT 131 [dL.av x0] (eB (Jl x0)):=
 wV j_ dX dY auX Ag (by kernel_rfl) [dL.av x0] xn
  wn
  ln
  (jZ rfl)
def auY : jg:=
 let p0:Pc:=((V 1),true)::[]
 let p1:Pc:=((uE (W 0 0) (.li 0)),false)::p0
 ⟨[((.lb true),(zB (.and (V 1) (.or (uE (W 0 0) (.li 0)) (V 2)))))],
 [([],(.call 96 [(.agg an_)] (zB (V 1)))),
 (p1,(.call 131 [(.agg an_)] (zB (V 2))))],[]⟩
theorem auZ : kD Tryz.prog ig iq rZ (rY kA 112 [] []) 3 200 112 [.agg an_] 1=some auY:=by kernel_rfl
theorem JD (x0:dL):CT Tryz.prog sT 112 [dL.av x0] (eB (ni x0)):=
 let v1:Bool:=jh x0
 let v2:Bool:=Jl x0
 wV j_ dX dY auZ Ag (by kernel_rfl) [dL.av x0,eB v1,eB v2] xn
  (wC (uU x0) <|
  wC (Vk x0) <|
  wn)
  ln
  (jZ rfl)
def R84 : jg:=
 let p0:Pc:=((uN (.bin .andNot kU (W 0 0) (.li 63)) (.li 0)),false)::[]
 let p1:Pc:=((V 1),true)::p0
 let p2:Pc:=(avN,false)::[]
 let p3:Pc:=((.or avN am7),false)::[]
 let p4:Pc:=((.or (.or avN am7) (.not (V 4))),false)::[]
 ⟨[((.or (.or (.or avN am7) (.not (V 4))) (.not (V 5))),(zI (.li 90))),((.or (.or (.and (uN (.bin .and kU (.com .u8 (W 0 0)) (.li 1)) (.li 0)) (.not (.and (uE (W 0 1) (.li 0)) (.and (.bin .eql .kS (W 0 2) (.lf 0)) (.and (sE (W 0 3) (.ls [])) (qE (W 0 4) (.li 0))))))) (.and (uN (.bin .and kU (.com .u8 (W 0 0)) (.li 4)) (.li 0)) (.not (.and (uE (W 0 5) (.li 0)) (.and (.bin .eql .kS (W 0 6) (.lf 0)) (.and (sE (W 0 7) (.ls [])) (qE (W 0 8) (.li 0)))))))) (.and (uN (.bin .and kU (.com .u8 (W 0 0)) (.li 8)) (.li 0)) (.not (.and (uE (W 0 9) (.li 0)) (.and (.bin .eql .kS (W 0 10) (.lf 0)) (.and (sE (W 0 11) (.ls [])) (qE (W 0 12) (.li 0)))))))),(zI (.li 90))),((.or (.or (.and (uN (.bin .and kU (.com .u8 (W 0 0)) (.li 2)) (.li 0)) (W 0 13)) (.and (uN (.bin .and kU (.com .u8 (W 0 0)) (.li 16)) (.li 0)) (W 0 14))) (.and (uN (.bin .and kU (.com .u8 (W 0 0)) (.li 32)) (.li 0)) (W 0 15))),(zI (.li 90))),((.lb true),zz3)],
 [(p0,(.call 30 an0 (zB (V 1)))),
 (p1,(.call 59 an0 (zB (V 2)))),
 (p2,(.call 96 [(.agg (cW 0 1 dL.fH))] (zB (V 3)))),
 (p3,(.call 112 [(.agg (cW 0 5 dL.fH))] (zB (V 4)))),
 (p4,(.call 112 [(.agg (cW 0 9 dL.fH))] (zB (V 5))))],[]⟩
theorem e84 : kD Tryz.prog ig iq rZ (rY kA 84 [] []) 3 200 84 [.agg apO] 1=some R84:=by kernel_rfl
theorem zJ (x0:dJ):CT Tryz.prog sT 84 [dJ.av x0] (eI (lq x0)):=
 let v1:Bool:=fD x0
 let v2:Bool:=gW x0
 let v3:Bool:=jh x0.Value
 let v4:Bool:=ni x0.Get
 let v5:Bool:=ni x0.Set
 wV j_ dX dY e84 Ag (by kernel_rfl) [dJ.av x0,eB v1,eB v2,eB v3,eB v4,eB v5] xn
  (wC (lU x0) <|
  wC (uV x0) <|
  wC (uU x0.Value) <|
  wC (JD x0.Get) <|
  wC (JD x0.Set) <|
  wn)
  ln
  (iC (fun r=>.p (.int .i64 r)) rfl rfl (iC (fun r=>.p (.int .i64 r)) rfl rfl (iC (fun r=>.p (.int .i64 r)) rfl rfl (jZ rfl))))
def R58 : jg:=
 ⟨[((.lb true),(.agg [(zU (.ite (V 1) (.bin .or kU (W 0 0) (.li 60)) (.bin .or kU (W 0 0) (.li 51)))),(zU (W 0 1)),(zF (W 0 2)),(zS (W 0 3)),(zI (W 0 4)),(zU (W 0 5)),(zF (W 0 6)),(zS (W 0 7)),(zI (W 0 8)),(zU (W 0 9)),(zF (W 0 10)),(zS (W 0 11)),(zI (W 0 12)),(zB (W 0 13)),(zB (W 0 14)),(zB (W 0 15))]))],
 [([],(.call 59 an0 (zB (V 1))))],[]⟩
theorem e58 : kD Tryz.prog ig iq rZ (rY kA 58 [] []) 3 200 58 [.agg apO] 1=some R58:=by kernel_rfl
theorem zK (x0:dJ):CT Tryz.prog sT 58 [dJ.av x0] (dJ.av (jD x0)):=
 let v1:Bool:=gW x0
 wV j_ dX dY e58 Ag (by kernel_rfl) [dJ.av x0,eB v1] xn
  (wC (uV x0)<|wn)
  ln
  (jZ rfl)
def au0 : jg:=
 let p0:Pc:=(aqU,false)::[]
 ⟨[(aqU,(.fA [auM,(zI (V 1))])),((.lb true),(.fA [arU,zz3]))],
 [([],(.call 84 an0 (zI (V 1)))),
 (p0,(.call 58 an0 arU))],[]⟩
theorem au1 : kD Tryz.prog ig iq rZ (rY kA 124 [] []) 3 200 124 [.agg apO] 1=some au0:=by kernel_rfl
theorem P9 (x0:dJ):CT Tryz.prog sT 124 [dJ.av x0] (Ar (vJ x0)):=
 let v1:Int:=lq x0
 let v2:dJ:=jD x0
 wV j_ dX dY au1 Ag (by kernel_rfl) [dJ.av x0,eI v1,dJ.av v2] xn
  (wC (zJ x0) <|
  wC (zK x0) <|
  wn)
  ln
  (iC Ar rfl rfl (jZ rfl))
def au2 : jg:=
 ⟨[((.lb true),(zB (.and (qE (W 1 1) (.li 0)) (uE (.var 1 [0,0]) (W 0 0)))))],
 [([],(.call 124 an0 (.fA [(.agg (iD 1 [0] 0 dJ.fH)),(zI (W 1 1))])))],[]⟩
theorem au3 : kD Tryz.prog ig iq rZ (rY kA 106 [] []) 3 200 106 [.agg apO] 1=some au2:=by kernel_rfl
theorem JE (x0:dJ):CT Tryz.prog sT 106 [dJ.av x0] (eB (og x0)):=
 let v1:dJ×Int:=vJ x0
 wV j_ dX dY au3 Ag (by kernel_rfl) [dJ.av x0,Ar v1] xn
  (wC (P9 x0)<|wn)
  ln
  (jZ rfl)
def aoE : Lo:=
 let p0:Pc:=((qG zz5 (.li 1024)),false)::[]
 let p1:Pc:=((qL (V 2) zz5),true)::p0
 let p2:Pc:=((qN (V 5) (.li 0)),false)::p1
 let p3:Pc:=((V 6),true)::p2
 let p4:Pc:=((qG (W 7 1) (.li 0)),false)::p3
 .mk [((qG zz5 (.li 1024)),false)] 1 3 [zz3,zz3,alJ] [((.not (qL (V 2) zz5)),1,[(zI (V 1)),(zL (V 3))]),((qN (V 5) (.li 0)),2,[(zI (V 5)),(zL (V 3))]),((.not (V 6)),2,[(zI (.li 90)),(zL (V 3))]),((qG (W 7 1) (.li 0)),2,[(zI (.li 100)),(zL (V 3))]),((.lb true),0,[(zI (V 1)),(zI (aI (V 2) (.li 1))),(zL (V 8))])] [(p1,(.row (V 0) (V 2) (cV 4 dM.fH))),
 (p1,(.call 83 [(.agg aq7)] (zI (V 5)))),
 (p2,(.call 106 [(.agg (cW 4 2 dJ.fH))] (zB (V 6)))),
 (p3,(.look 29 (.mk true 2 false 1) (V 3) (.agg aq7) zz3 (W 7 0) (zI (W 7 1)))),
 (p4,(.put 29 (.mk true 2 false 1) (V 3) (.agg aq7) (zI (aI (V 2) (.li 1))) (V 8)))] [] [2,2] [(V 0)]
def aoF : LH:=.mk [(qM (.li 0) (V 1)),(qM (V 1) (V 2))] (mI zz5 (V 2)) [(zz5,1)] [] 0 [] []
def pX (r:Bool×Int×List (dI×Int)×Int×List (dI×Int)):Nat×List AV:=Xi r.1 [eI r.2.1,eL (zW dI.enc DY) r.2.2.1] [eI r.2.2.2.1,eL (zW dI.enc DY) r.2.2.2.2]
theorem DJ (x0:List dM):∀(n:Nat) (u1:Int) (u2:Int) (u3:List (dI×Int)),uP Tryz.prog sT aoE aoF [eL dM.enc x0] n [eI u1,eI u2,eL (zW dI.enc DY) u3] (pX (oN x0 n u1 u2 u3))
 |0,u1,u2,u3=>l0
 |n+1,u1,u2,u3=>
  let v4:dM:=x0.getD u2.toNat default
  let v5:Int:=lG v4.Key
  let v6:Bool:=og v4.dS
  let v7:Bool×Int:=nS 0 v4.Key u3
  let v8:List (dI×Int):=nT v4.Key (dZ .i64 u2 1) u3
  Og rfl [dM.av v4,eI v5,eB v6,.agg (eB v7.1::DY v7.2),eL (zW dI.enc DY) v8] xn (wR rfl <|
  wC (AP v4.Key) <|
  wC (JE v4.dS) <|
  aoq (f:=dI.enc) (g:=DY) ald v4.Key 0 rfl <|
  asj (f:=dI.enc) (g:=DY) ald v4.Key (dZ .i64 u2 1) rfl <|
  wn) ln <|
   rc pX rx<|rc pX rx<|rc pX rx<|rc pX rx<|rl (rg (DJ x0 n _ _ _))
def R78 : jg:=
 ⟨[((qG zz5 (.li 1024)),(zI (.li 4))),((.not (qE (V 1) (.li 0))),(zI (V 4))),((.lb true),zz3)],
 [],[aoE]⟩
def H78 : LH:=.mk [] (.li 0) [] [] 0 [aoF] []
theorem e78 : kD Tryz.prog ig iq rZ (rY kA 78 [15,4,6,2] [(0,(.mk [3,13,14] (.mk [(2,(.sc kI)),(15,(.sc kI))] [] [(6,(.map (.mk true 2 false 1)))] 11) [(.normal,(.mk [(2,(.sc kI))] [] [(6,(.map (.mk true 2 false 1)))] 11)),(.ret,(.mk [(2,(.sc kI))] [] [(6,(.map (.mk true 2 false 1)))] 11))]))]) 3 200 78 [zL (V 0)] 1=some R78:=by kernel_rfl
theorem Cc (x0:List dM):CT Tryz.prog sT 78 [eL dM.enc x0] (eI (jA x0)):=
 let r1:Bool×Int×List (dI×Int)×Int×List (dI×Int):=oN x0 (x0.length+1) 0 0 []
 wV j_ dX dY e78 H78 (by kernel_rfl) [eL dM.enc x0,eI (lW r1.1),eI r1.2.1,eL (zW dI.enc DY) r1.2.2.1,eI r1.2.2.2.1,eL (zW dI.enc DY) r1.2.2.2.2] xn
  wn
  (lc2 (DJ x0 (x0.length+1) 0 0 []) <|
  ln)
  (iC (fun r=>.p (.int .i64 r)) rfl rfl (iC (fun r=>.p (.int .i64 r)) rfl rfl (jZ rfl)))
def au4 : jg:=
 ⟨[((.lb true),(.agg [(zS (V 0)),zz3]))],
 [],[]⟩
theorem e115 : kD Tryz.prog ig iq rZ (rY kA 115 [] []) 3 200 115 [zS (V 0)] 1=some au4:=by kernel_rfl
theorem XH (x0:List UInt8):CT Tryz.prog sT 115 [eS x0] (dI.av (UZ x0)):=
 wV j_ dX dY e115 Ag (by kernel_rfl) [eS x0] xn
  wn
  ln
  (jZ rfl)
def ale : Lo:=
 let p0:Pc:=(awH,false)::[]
 let p1:Pc:=((qG aoY (.li 4)),false)::p0
 let p2:Pc:=((sE (W 0 0) (.ls [])),false)::p1
 let p3:Pc:=(aqT,false)::p2
 let p4:Pc:=((qL (V 4) aoY),true)::p3
 let p5:Pc:=((.bin .lss kU aqS (.li 48)),false)::p4
 let p6:Pc:=((.bin .gtr kU aqS (.li 57)),false)::p4
 let p7:Pc:=((.bin .lss kU aqS (.li 48)),false)::p6
 .mk [(aqT,false),((sE (W 0 0) (.ls [])),false),((qG aoY (.li 4)),false),(awH,false)] 1 4 [zz3,zz2,zz3,zz3] [((.not (qL (V 4) aoY)),1,[(zI (V 1)),(zB (V 2)),(zI (V 3))]),((.or (.bin .lss kU aqS (.li 48)) (.bin .gtr kU aqS (.li 57))),2,[zz3,zz2]),((.lb true),0,[(zI (V 1)),(zB (V 2)),(zI (aI (.bin .mul kI (V 3) (.li 10)) (.conv .i64 (.bin .sub kU aqS (.li 48))))),(zI (aI (V 4) (.li 1)))])] [(p4,(.tm arK)),
 (p5,(.tm arK)),
 (p7,(.tm arK))] [] [3,2] []
def alf : LH:=.mk [arK] (mI aoY (V 4)) [(aoY,1)] [] 1 [] []
def Ah (r:Bool×Int×Bool×Int×Int×Bool):Nat×List AV:=Xi r.1 [eI r.2.1,eB r.2.2.1,eI r.2.2.2.1] [eI r.2.2.2.2.1,eB r.2.2.2.2.2]
theorem Ht (x0:dI):∀(n:Nat) (u1:Int) (u2:Bool) (u3:Int) (u4:Int),uP Tryz.prog sT ale alf [dI.av x0] n [eI u1,eB u2,eI u3,eI u4] (Ah (AA x0 n u1 u2 u3 u4))
 |0,u1,u2,u3,u4=>l0
 |n+1,u1,u2,u3,u4=>
  Og rfl [] xn (wT <|
  wT <|
  wT <|
  wn) ln <|
   rc Ah rx<|rc Ah rx<|rl (rg (Ht x0 n _ _ _ _))
def au5 : jg:=
 let p0:Pc:=((.or (.or aqT (sE (W 0 0) (.ls []))) (qG aoY (.li 4))),false)::[]
 let p1:Pc:=((qG aoY (.li 1)),true)::p0
 ⟨[((.or (.or (.or aqT (sE (W 0 0) (.ls []))) (qG aoY (.li 4))) awH),(.fA [zz3,zz2])),((.not (qE (V 1) (.li 0))),(.fA [(zI (V 5)),(zB (V 6))])),((qH (V 4) (.li 1024)),(.fA [zz3,zz2])),((.lb true),(.fA [(zI (V 4)),alQ]))],
 [(p1,(.tm (qL (.li 0) aoY)))],[ale]⟩
def au6 : LH:=.mk [] (.li 0) [] [] 0 [alf] []
theorem e118 : kD Tryz.prog ig iq rZ (rY kA 118 [44,46,45,47,48,35,5,4,2,3] [(0,(.mk [1,34] (.mk [(2,(.sc kI)),(3,(.sc .bool)),(4,(.sc kI)),(35,(.sc kI))] [] [] 34) [(.normal,(.mk [(2,(.sc kI)),(3,(.sc .bool)),(4,(.sc kI))] [] [] 34)),(.ret,(.mk [(2,(.sc kI)),(3,(.sc .bool))] [] [] 34))]))]) 3 200 118 [.agg (cV 0 dI.fH)] 1=some au5:=by kernel_rfl
theorem GL (x0:dI):CT Tryz.prog sT 118 [dI.av x0] (pO (uO x0)):=
 let r1:Bool×Int×Bool×Int×Int×Bool:=AA x0 (((sLen x0.Str):Int).toNat+1) 0 false 0 0
 wV j_ dX dY e118 au6 (by kernel_rfl) [dI.av x0,eI (lW r1.1),eI r1.2.1,eB r1.2.2.1,eI r1.2.2.2.1,eI r1.2.2.2.2.1,eB r1.2.2.2.2.2] xn
  (wT<|wn)
  (lc2 (Ht x0 (((sLen x0.Str):Int).toNat+1) 0 false 0 0) <|
  ln)
  (iC pO rfl rfl (iC pO rfl rfl (iC pO rfl rfl (jZ rfl))))
def XI : Lo:=
 let p0:Pc:=((qL (V 3) aua),true)::[]
 let p1:Pc:=((W 5 1),true)::p0
 .mk [] 2 2 [zz3,zz3] [((.not (qL (V 3) aua)),1,[(zI (V 2))]),((.and (W 5 1) (qH (W 5 0) (.ZL (V 0)))),2,[(zI (V 3))]),((.lb true),0,[(zI (V 2)),aq6])] [(p0,(.row (V 1) (V 3) (cV 4 dM.fH))),
 (p0,(.call 118 [(.agg aq7)] (.fA [(zI (W 5 0)),(zB (W 5 1))]))),
 (p1,(.num .i64 (V 0) (.ZL (V 0))))] [] [1,1] [(V 1)]
def XJ : LH:=.mk [aq8] (mI aua (V 3)) [(aua,1)] [] 0 [] []
def mG (r:Bool×Int×Int):Nat×List AV:=Xi r.1 [eI r.2.1] [eI r.2.2]
theorem qx (x0:Nat)(x1:List dM):∀(n:Nat) (u2:Int) (u3:Int) (h0:aed x0=true),uP Tryz.prog sT XI XJ [eF x0,eL dM.enc x1] n [eI u2,eI u3] (mG (kW x0 x1 n u2 u3))
 |0,u2,u3,_=>l0
 |n+1,u2,u3,h0=>
  let v4:dM:=x1.getD u3.toNat default
  let v5:Int×Bool:=uO v4.Key
  Og rfl [dM.av v4,pO v5] xn (wR rfl <|
  wC (GL v4.Key) <|
  wX (fun _ _=>ak4 h0) <|
  wn) ln <|
   rc mG rx<|rc mG rx<|rl (rg (qx x0 x1 n _ _ h0))
def anF : jg:=
 ⟨[(avj,(.fA [(zI (V 4))])),((.lb true),(.fA [(zI (.li (-1)))]))],
 [],[XI]⟩
def anG : LH:=.mk [] (.li 0) [] [] 0 [XJ] []
theorem anH : NU Tryz.prog ig iq rZ (rY kA 132 [8,5,4] [(0,(.mk [0,1,7] (.mk [(4,(.sc kI)),(8,(.sc kI))] [] [] 26) [(.normal,(.mk [(4,(.sc kI))] [] [] 26)),(.ret,(.mk [(4,(.sc kI))] [] [] 26))]))]) 3 200 132 [(zL (V 1)),av7] 2 [(21,(.rows 1 [[(zF (V 0))]]))] [] 22=some anF:=by kernel_rfl
theorem Ac (x0:Nat)(x1:List dM)(h0:aed x0=true):CTw Tryz.prog sT 132 [(.sl (List.map dM.enc x1) false),(.fn (.func 117) [] [(.op 21 1 0 0)])] [(21,.rows 1 [[(.p (.float .f64 x0))]])] 22 (.p (.int .i64 (o_ x0 x1))) [(21,.rows 1 [[(.p (.float .f64 x0))]])]:=
 let r2:Bool×Int×Int:=kW x0 x1 (x1.length+1) 0 0
 mkW (cs:=[]) j_ dX dY anH anG (by kernel_rfl) [eF x0,eL dM.enc x1,eI (lW r2.1),eI r2.2.1,eI r2.2.2] xn
  wn
  (lc2 (qx x0 x1 (x1.length+1) 0 0 h0) <|
  ln)
  (iC (fun r=>.fA [(.p (.int .i64 r))]) rfl rfl (jZ rfl))
def anI : jg:=
 ⟨[((.lb true),(.fA [(zB (qH (V 2) (.li 0)))]))],
 [([],(.pJ 132 [(zL (V 1)),av7] [(21,(.rows 1 [[(zF (V 0))]]))] 22 (zI (V 2)) [(21,(.rows 1 [[(zF (V 0))]]))]))],[]⟩
theorem anJ : NU Tryz.prog ig iq rZ (rY kA 116 [] []) 3 200 116 [(zL (V 1)),av7] 2 [(21,(.rows 1 [[(zF (V 0))]]))] [] 22=some anI:=by kernel_rfl
theorem yh (x0:Nat)(x1:List dM)(h0:aed x0=true):CTw Tryz.prog sT 116 [(.sl (List.map dM.enc x1) false),(.fn (.func 117) [] [(.op 21 1 0 0)])] [(21,.rows 1 [[(.p (.float .f64 x0))]])] 22 (.p (.bool (nK x0 x1))) [(21,.rows 1 [[(.p (.float .f64 x0))]])]:=
 let w2:Int:=o_ x0 x1
 let r2:Int:=w2
 mkW (cs:=[]) j_ dX dY anJ Ag (by kernel_rfl) [eF x0,eL dM.enc x1,eI r2] xn
  (wWp (by intro h;exact Ac x0 x1 h0)<|wn)
  ln
  (jZ rfl)
def R93 : jg:=
 let p0:Pc:=(asr,false)::[]
 let p1:Pc:=((qE (W 1 1) (W 2 1)),true)::[]
 let p2:Pc:=((sE (W 1 0) (W 2 0)),true)::p1
 let p3:Pc:=(asr,false)::p2
 let p4:Pc:=((.bin .leq .kS (W 3 4) (.lf 4652218415073722368)),true)::p3
 let p5:Pc:=((.bin .geq .kS (W 3 4) (.lf 0)),true)::p4
 let p6:Pc:=((uN (W 3 3) (.li 3)),false)::p5
 let p7:Pc:=((W 3 17),false)::p6
 let p8:Pc:=((W 3 16),false)::p7
 let p9:Pc:=anm::p8
 ⟨[((.or asr (.not (.and (sE (W 1 0) (W 2 0)) (qE (W 1 1) (W 2 1))))),zz2),((.or (.or (.or (.or (.not (V 4)) (W 3 16)) (W 3 17)) (uN (W 3 3) (.li 3))) (.not (.and (.bin .geq .kS (W 3 4) (.lf 0)) (.bin .leq .kS (W 3 4) (.lf 4652218415073722368))))),zz2),((.lb true),(zB (.not (V 5))))],
 [(p0,(.row (V 0) (.li 0) (cV 1 dM.fH))),
 (p0,(.call 115 [(zS (.ls [108,101,110,103,116,104]))] aqV)),
 (p3,(.row (V 0) (.li 0) (cV 3 dM.fH))),
 (p3,(.call 30 [(.agg (cW 3 2 dJ.fH))] (zB (V 4)))),
 (p9,(.pJ 116 [(zL (V 0)),av7] [(21,(.rows 1 [[(zF (W 3 4))]]))] 22 (zB (V 5)) [(21,(.rows 1 [[(zF (W 3 4))]]))]))],[]⟩
theorem e93 : kD Tryz.prog ig iq rZ (rY kA 93 [] []) 3 200 93 [zL (V 0)] 1=some R93:=by kernel_rfl
theorem VK (x0:List dM):CT Tryz.prog sT 93 [eL dM.enc x0] (eB (BU x0)):=
 let v1:dM:=x0.getD (0:Int).toNat default
 let v2:dI:=UZ [108,101,110,103,116,104]
 let v3:dM:=x0.getD (0:Int).toNat default
 let v4:Bool:=fD v3.dS
 let w5:Bool:=nK v3.dS.Value.Num x0
 let r5:Bool:=w5
 wV j_ dX dY e93 Ag (by kernel_rfl) [eL dM.enc x0,dM.av v1,dI.av v2,dM.av v3,eB v4,eB r5] xn
  (wR rfl <|
  wC (XH [108,101,110,103,116,104]) <|
  wR rfl <|
  wC (lU v3.dS) <|
  wWp (by intro h;exact yh v3.dS.Value.Num x0 (anA (h.at 4 rfl) (h.at 5 rfl))) <|
  wn)
  ln
  (iC (fun r=>.p (.bool r)) rfl rfl (iC (fun r=>.p (.bool r)) rfl rfl (jZ rfl)))
def abM : Lo:=
 let p0:Pc:=(arD,true)::[]
 let p1:Pc:=((.and (W 5 1) (qL (W 5 0) (.slen (V 1)))),false)::p0
 .mk [] 2 2 [zz3,zz3] [((.not arD),1,[(zI (V 2))]),((.or (.and (W 5 1) (qL (W 5 0) (.slen (V 1)))) (.and (sE (W 4 0) (W 6 0)) (qE (W 4 1) (W 6 1)))),2,[(zI (V 3))]),((.lb true),0,[(zI (V 2)),aq6])] [(p0,(.row (V 0) (V 3) (cV 4 dM.fH))),
 (p0,(.call 118 [(.agg aq7)] (.fA [(zI (W 5 0)),(zB (W 5 1))]))),
 (p1,(.call 115 [(zS (.ls [108,101,110,103,116,104]))] (.agg avq)))] [] [1,1] [(V 0)]
def abN : LH:=.mk [aq8] (mI zz5 (V 3)) [(zz5,1)] [] 0 [] []
def nD (r:Bool×Int×Int):Nat×List AV:=Xi r.1 [eI r.2.1] [eI r.2.2]
theorem qZ (x0:List dM)(x1:List UInt8):∀(n:Nat) (u2:Int) (u3:Int),uP Tryz.prog sT abM abN [eL dM.enc x0,eS x1] n [eI u2,eI u3] (nD (lQ x0 x1 n u2 u3))
 |0,u2,u3=>l0
 |n+1,u2,u3=>
  let v4:dM:=x0.getD u3.toNat default
  let v5:Int×Bool:=uO v4.Key
  let v6:dI:=UZ [108,101,110,103,116,104]
  Og rfl [dM.av v4,pO v5,dI.av v6] xn (wR rfl <|
  wC (GL v4.Key) <|
  wC (XH [108,101,110,103,116,104]) <|
  wn) ln <|
   rc nD rx<|rc nD rx<|rl (rg (qZ x0 x1 n _ _))
def aqt : jg:=
 ⟨[(avj,(.fA [(zI (V 4))])),((.lb true),(.fA [(zI (.li (-1)))]))],
 [],[abM]⟩
def aqu : LH:=.mk [] (.li 0) [] [] 0 [abN] []
theorem aqv : NU Tryz.prog ig iq rZ (rY kA 132 [8,5,4] [(0,(.mk [0,1,7] (.mk [(4,(.sc kI)),(8,(.sc kI))] [] [] 4) [(.normal,(.mk [(4,(.sc kI))] [] [] 4)),(.ret,(.mk [(4,(.sc kI))] [] [] 4))]))]) 3 200 132 avT 2 [] [] 0=some aqt:=by kernel_rfl
theorem AU (x0:List dM)(x1:List UInt8):CTw Tryz.prog sT 132 [(.sl (List.map dM.enc x0) false),(.fn (.func 119) [] [(.vp [(.str x1)] 0)])] [] 0 (.p (.int .i64 (qK x0 x1))) []:=
 let r2:Bool×Int×Int:=lQ x0 x1 (x0.length+1) 0 0
 mkW (cs:=[]) j_ dX dY aqv aqu (by kernel_rfl) [eL dM.enc x0,eS x1,eI (lW r2.1),eI r2.2.1,eI r2.2.2] xn
  wn
  (lc2 (qZ x0 x1 (x0.length+1) 0 0) <|
  ln)
  (iC (fun r=>.fA [(.p (.int .i64 r))]) rfl rfl (jZ rfl))
def aqw : jg:=
 ⟨[((.lb true),(.fA [(zB (qH (V 2) (.li 0)))]))],
 [([],(.pJ 132 avT [] 0 (zI (V 2)) []))],[]⟩
theorem aqx : NU Tryz.prog ig iq rZ (rY kA 116 [] []) 3 200 116 avT 2 [] [] 0=some aqw:=by kernel_rfl
theorem zA (x0:List dM)(x1:List UInt8):CTw Tryz.prog sT 116 [(.sl (List.map dM.enc x0) false),(.fn (.func 119) [] [(.vp [(.str x1)] 0)])] [] 0 (.p (.bool (oQ x0 x1))) []:=
 let w2:Int:=qK x0 x1
 let r2:Int:=w2
 mkW (cs:=[]) j_ dX dY aqx Ag (by kernel_rfl) [eL dM.enc x0,eS x1,eI r2] xn
  (wW (AU x0 x1)<|wn)
  ln
  (jZ rfl)
def R94 : jg:=
 let p0:Pc:=((qM (.slen (V 1)) (.li 4096)),true)::[]
 ⟨[((.lb true),(zB (.and (qM (.slen (V 1)) (.li 4096)) (.not (V 2)))))],
 [(p0,(.call 116 avT (zB (V 2))))],[]⟩
theorem e94 : kD Tryz.prog ig iq rZ (rY kA 94 [] []) 3 200 94 [zL (V 0),zS (V 1)] 2=some R94:=by kernel_rfl
theorem VL (x0:List dM)(x1:List UInt8):CT Tryz.prog sT 94 [eL dM.enc x0,eS x1] (eB (BX x0 x1)):=
 let w2:Bool:=oQ x0 x1
 let r2:Bool:=w2
 wV j_ dX dY e94 Ag (by kernel_rfl) [eL dM.enc x0,eS x1,eB r2] xn
  (wC (ctW rfl (zA x0 x1))<|wn)
  ln
  (jZ rfl)
def alg : Lo:=
 let p0:Pc:=((uE (W 2 0) (.li 6)),false)::[]
 let p1:Pc:=(avS,false)::p0
 let p2:Pc:=((V 8),true)::p1
 let p3:Pc:=(auJ,false)::p2
 let p4:Pc:=((qN (V 11) (.li 0)),false)::p3
 let p5:Pc:=((V 10),true)::p4
 let p6:Pc:=(atl,false)::p5
 let p7:Pc:=((qL (V 13) (.rlen (W 2 6))),true)::p6
 let p8:Pc:=((.not (V 15)),false)::p7
 let p9:Pc:=((.or (.not (V 15)) (.not (V 16))),false)::p7
 .mk [(atl,false),((V 10),true),((qN (V 11) (.li 0)),false),(auJ,false),((V 8),true),(avS,false),((uE (W 2 0) (.li 6)),false)] 12 2 [zz2,zz3] [((.not (qL (V 13) (.rlen (W 2 6)))),1,[(zB (V 12))]),((.or (.or (.not (V 15)) (.not (V 16))) (.not (V 17))),2,[zz2]),((.lb true),0,[(zB (V 12)),(zI (aI (V 13) (.li 1)))])] [(p7,(.row (W 2 6) (V 13) (cV 14 dM.fH))),
 (p7,(.call 91 [zz8,(.agg (cW 14 3 dL.fH))] (zB (V 15)))),
 (p8,(.call 91 [zz8,(.agg (cW 14 7 dL.fH))] (zB (V 16)))),
 (p9,(.call 91 [zz8,(.agg (cW 14 11 dL.fH))] (zB (V 17))))] [] [1,1] [(W 2 6)]
def alh : LH:=.mk [(qM (V 11) (V 13))] (mI (.rlen (W 2 6)) (V 13)) [((.rlen (W 2 6)),1)] [] 10 [] []
def wz (r:Bool×Bool×Bool):Nat×List AV:=Xi r.1 [eB r.2.1] [eB r.2.2]
theorem Ce (x0:dK)(x1:Int)(v2:dN)(v3:Bool)(v4:Bool)(v5:Bool)(v6:dN)(v7:Bool)(v8:Bool)(v9:Bool)(v10:Bool)(v11:Int):∀(n:Nat) (u12:Bool) (u13:Int),uP Tryz.prog sT alg alh [dK.av x0,eI x1,dN.av v2,eB v3,eB v4,eB v5,dN.av v6,eB v7,eB v8,eB v9,eB v10,eI v11] n [eB u12,eI u13] (wz (jP x0 v2 n u12 u13))
 |0,u12,u13=>l0
 |n+1,u12,u13=>
  let v14:dM:=v2.Props.getD u13.toNat default
  let v15:Bool:=fF x0 v14.dS.Value
  let v16:Bool:=fF x0 v14.dS.Get
  let v17:Bool:=fF x0 v14.dS.Set
  Og rfl [dM.av v14,eB v15,eB v16,eB v17] xn (wR rfl <|
  wC (zx x0 v14.dS.Value) <|
  wC (zx x0 v14.dS.Get) <|
  wC (zx x0 v14.dS.Set) <|
  wn) ln <|
   rc wz rx<|rc wz rx<|rl (rg (Ce x0 x1 v2 v3 v4 v5 v6 v7 v8 v9 v10 v11 n _ _))
def R65 : jg:=
 let p0:Pc:=((uE (W 2 0) (.li 6)),true)::[]
 let p1:Pc:=((uE (W 2 0) (.li 6)),false)::[]
 let p2:Pc:=(apn,true)::p1
 let p3:Pc:=((.and (.and apn (V 4)) (qL (W 2 10) (V 1))),true)::p1
 let p4:Pc:=((.and (.and (.and apn (V 4)) (qL (W 2 10) (V 1))) (V 5)),true)::p1
 let p5:Pc:=(auJ,false)::p1
 let p6:Pc:=(avS,false)::p1
 let p7:Pc:=((V 8),true)::p6
 let p8:Pc:=(auJ,false)::p7
 let p9:Pc:=((uN (W 2 1) (.li 1)),true)::p8
 let p10:Pc:=(atl,false)::p8
 let p11:Pc:=((.or atl (.not (V 10))),false)::p8
 let p12:Pc:=((qN (V 11) (.li 0)),false)::p8
 let p13:Pc:=((V 10),true)::p12
 let p14:Pc:=(atl,false)::p13
 let p15:Pc:=((qE (V 12) (.li 0)),true)::p14
 let p16:Pc:=((uE (W 2 0) (.li 1)),false)::p15
 let p17:Pc:=((uE (W 2 0) (.li 2)),true)::p16
 let p18:Pc:=(avi,true)::p17
 let p19:Pc:=((uE (W 2 0) (.li 2)),false)::p16
 let p20:Pc:=((uE (W 2 0) (.li 3)),true)::p19
 let p21:Pc:=(avi,true)::p20
 ⟨[((uE (W 2 0) (.li 6)),(zB (V 3))),((.or (.or auJ (.not (V 8))) avS),zz2),((.or (.or atl (.not (V 10))) (qN (V 11) (.li 0))),zz2),((.not (qE (V 12) (.li 0))),(zB (V 14))),((uE (W 2 0) (.li 1)),(zB avi)),((uE (W 2 0) (.li 2)),(zB (.and avi (V 15)))),((uE (W 2 0) (.li 3)),(zB (.and avi (V 16)))),((uE (W 2 0) (.li 4)),(zB (.and (W 2 16) (W 2 17)))),(apn,(zB (W 2 16))),((.lb true),zz2)],
 [([],(.row (W 0 0) (V 1) (cV 2 dN.fH))),
 (p0,(.call 90 [zz8,(.agg (cV 2 dN.fH)),(zI (V 1))] (zB (V 3)))),
 (p2,(.call 69 [(.agg (cW 2 7 dL.fH))] (zB (V 4)))),
 (p3,(.call 91 [zz8,(.agg (cW 2 7 dL.fH))] (zB (V 5)))),
 (p4,(.row (W 0 0) (W 2 10) (cV 6 dN.fH))),
 (p1,(.call 92 [(.agg (cW 2 7 dL.fH)),zz6] (zB (V 7)))),
 (p5,(.call 92 [(.agg (cW 2 11 dL.fH)),zz6] (zB (V 8)))),
 (p9,(.call 69 [(.agg (cW 2 1 dL.fH))] (zB (V 9)))),
 (p10,(.call 91 [zz8,(.agg (cW 2 1 dL.fH))] (zB (V 10)))),
 (p11,(.call 78 [(zL (W 2 6))] (zI (V 11)))),
 (p18,(.call 93 [(zL (W 2 6))] (zB (V 15)))),
 (p21,(.call 94 [(zL (W 2 6)),(zS (W 2 15))] (zB (V 16))))],[alg]⟩
def H65 : LH:=.mk [] (.li 0) [] [([((V 5),true)],(qM (.li 0) (W 2 10))),([((V 5),true),anm],(qL (W 2 10) zz9))] 0 [alh] []
theorem e65 : kD Tryz.prog ig iq rZ (rY kA 65 [115,116,117,114,118,119,123,124,125,122,126,127,103,4] [(0,(.mk [2,5,101,102] (.mk [(4,(.sc .bool)),(103,(.sc kI))] [] [] 96) [(.normal,(.mk [(4,(.sc .bool))] [] [] 96)),(.ret,(.mk [(4,(.sc .bool))] [] [] 96))]))]) 3 200 65 [.agg al6,zI (V 1)] 2=some R65:=by kernel_rfl
theorem Vl (x0:dK)(x1:Int):CT Tryz.prog sT 65 [dK.av x0,eI x1] (eB (kM x0 x1)):=
 let v2:dN:=x0.Objects.getD x1.toNat default
 let v3:Bool:=uw x0 v2 x1
 let v4:Bool:=dR v2.Target
 let v5:Bool:=fF x0 v2.Target
 let v6:dN:=x0.Objects.getD v2.Target.Ref.toNat default
 let v7:Bool:=pV v2.Target 0
 let v8:Bool:=pV v2.Handler 0
 let v9:Bool:=dR v2.fB
 let v10:Bool:=fF x0 v2.fB
 let v11:Int:=jA v2.Props
 let r12:Bool×Bool×Bool:=jP x0 v2 (v2.Props.length+1) false 0
 let v15:Bool:=BU v2.Props
 let v16:Bool:=BX v2.Props v2.Text
 wV j_ dX dY e65 H65 (by kernel_rfl) [dK.av x0,eI x1,dN.av v2,eB v3,eB v4,eB v5,dN.av v6,eB v7,eB v8,eB v9,eB v10,eI v11,eI (lW r12.1),eB r12.2.1,eB r12.2.2,eB v15,eB v16] (xp (fun h=>decide_eq_true (afJ ( (h.at 0 rfl))))<|xp (fun h=>decide_eq_true (afK ( (h.at 0 rfl)) ( (h.at 1 rfl))))<|xn)
  (wR rfl <|
  wC (VJ x0 v2 x1) <|
  wC (jY v2.Target) <|
  wC (zx x0 v2.Target) <|
  wR rfl <|
  wC (Cb v2.Target 0) <|
  wC (Cb v2.Handler 0) <|
  wC (jY v2.fB) <|
  wC (zx x0 v2.fB) <|
  wC (Cc v2.Props) <|
  wC (VK v2.Props) <|
  wC (VL v2.Props v2.Text) <|
  wn)
  (lc2 (Ce x0 x1 v2 v3 v4 v5 v6 v7 v8 v9 v10 v11 (v2.Props.length+1) false 0) <|
  ln)
  (iC (fun r=>.p (.bool r)) rfl rfl (iC (fun r=>.p (.bool r)) rfl rfl (iC (fun r=>.p (.bool r)) rfl rfl (iC (fun r=>.p (.bool r)) rfl rfl (iC (fun r=>.p (.bool r)) rfl rfl (iC (fun r=>.p (.bool r)) rfl rfl (iC (fun r=>.p (.bool r)) rfl rfl (iC (fun r=>.p (.bool r)) rfl rfl (iC (fun r=>.p (.bool r)) rfl rfl (jZ rfl))))))))))
def aoG : Lo:=
 let p0:Pc:=((qG zz9 (.li 4096)),false)::[]
 let p1:Pc:=((qL (V 2) zz9),true)::p0
 .mk [((qG zz9 (.li 4096)),false)] 1 2 [zz3,zz3] [((.not (qL (V 2) zz9)),1,[(zI (V 1))]),(am7,2,[(zI (.li 9))]),((.lb true),0,[(zI (V 1)),(zI (aI (V 2) (.li 1)))])] [(p1,(.call 65 [zz8,(zI (V 2))] (zB (V 3))))] [] [1,1] []
def aoH : LH:=.mk [(qM (.li 0) (V 2))] (mI zz9 (V 2)) [(zz9,1)] [] 0 [] []
def zC (r:Bool×Int×Int):Nat×List AV:=Xi r.1 [eI r.2.1] [eI r.2.2]
theorem Fg (x0:dK):∀(n:Nat) (u1:Int) (u2:Int),uP Tryz.prog sT aoG aoH [dK.av x0] n [eI u1,eI u2] (zC (qw x0 n u1 u2))
 |0,u1,u2=>l0
 |n+1,u1,u2=>
  let v3:Bool:=kM x0 u2
  Og rfl [eB v3] xn (wC (Vl x0 u2)<|wn) ln <|
   rc zC rx<|rc zC rx<|rl (rg (Fg x0 n _ _))
def R25 : jg:=
 let p0:Pc:=((qG zz9 (.li 4096)),false)::[]
 let p1:Pc:=((qE (V 1) (.li 0)),true)::p0
 ⟨[((qG zz9 (.li 4096)),(zI (.li 9))),((.not (qE (V 1) (.li 0))),(zI (V 3))),((V 4),(zI (.li 9))),((.lb true),zz3)],
 [(p1,(.call 66 [zz8] (zB (V 4))))],[aoG]⟩
def H25 : LH:=.mk [] (.li 0) [] [] 0 [aoH] []
theorem e25 : kD Tryz.prog ig iq rZ (rY kA 25 [3,11,2] [(0,(.mk [1,10] (.mk [(2,(.sc kI)),(11,(.sc kI))] [] [] 10) [(.normal,(.mk [(2,(.sc kI))] [] [] 10)),(.ret,(.mk [(2,(.sc kI))] [] [] 10))]))]) 3 200 25 [.agg al6] 1=some R25:=by kernel_rfl
theorem zM (x0:dK):CT Tryz.prog sT 25 [dK.av x0] (eI (jr x0)):=
 let r1:Bool×Int×Int:=qw x0 (x0.Objects.length+1) 0 0
 let v4:Bool:=rW x0
 wV j_ dX dY e25 H25 (by kernel_rfl) [dK.av x0,eI (lW r1.1),eI r1.2.1,eI r1.2.2,eB v4] xn
  (wCp (by intro h;exact VH x0 (anB (abA (h.at 1 rfl)) (mD.1 (h.at 0 rfl))) (abA (h.at 1 rfl)))<|wn)
  (lc2 (Fg x0 (x0.Objects.length+1) 0 0) <|
  ln)
  (iC (fun r=>.p (.int .i64 r)) rfl rfl (iC (fun r=>.p (.int .i64 r)) rfl rfl (iC (fun r=>.p (.int .i64 r)) rfl rfl (jZ rfl))))
def R70 : jg:=
 let p0:Pc:=((V 2),false)::[]
 let p1:Pc:=((V 2),true)::[]
 let p2:Pc:=((qH (W 1 3) zz9),false)::p1
 let p3:Pc:=anm::p2
 ⟨[((.not (V 2)),(zB (V 3))),((.or (.not (V 4)) (qH (W 1 3) zz9)),zz2),((.lb true),(zB (.or (.or (.and (uE (W 1 0) (.li 8)) (W 5 17)) (.and (.and (uE (W 1 0) (.li 7)) (W 5 16)) (.not (W 5 17)))) (.and (.and an2 (.not (W 5 16))) (.not (W 5 17))))))],
 [([],(.call 69 [aqZ] (zB (V 2)))),
 (p0,(.call 96 [aqZ] (zB (V 3)))),
 (p1,(.call 96 [aqZ] (zB (V 4)))),
 (p3,(.row (W 0 0) (W 1 3) (cV 5 dN.fH)))],[]⟩
def H70 : LH:=.mk [] (.li 0) [] [([anm],(qM (.li 0) (W 1 3)))] 0 [] []
theorem e70 : kD Tryz.prog ig iq rZ (rY kA 70 [] []) 3 200 70 [.agg al6,.agg (cV 1 dL.fH)] 2=some R70:=by kernel_rfl
theorem yj (x0:dK)(x1:dL):CT Tryz.prog sT 70 [dK.av x0,dL.av x1] (eB (jS x0 x1)):=
 let v2:Bool:=dR x1
 let v3:Bool:=jh x1
 let v4:Bool:=jh x1
 let v5:dN:=x0.Objects.getD x1.Ref.toNat default
 wV j_ dX dY e70 H70 (by kernel_rfl) [dK.av x0,dL.av x1,eB v2,eB v3,eB v4,dN.av v5] (xp (fun h=>decide_eq_true (Ov ( (h.at 0 rfl))))<|xn)
  (wC (jY x1) <|
  wC (uU x1) <|
  wC (uU x1) <|
  wR rfl <|
  wn)
  ln
  (iC (fun r=>.p (.bool r)) rfl rfl (iC (fun r=>.p (.bool r)) rfl rfl (jZ rfl)))
def R31 : jg:=
 let p0:Pc:=(aq2,false)::[]
 let p1:Pc:=((.or aq2 (V 2)),true)::[]
 ⟨[((.lb true),(zB (.and (.or aq2 (V 2)) (V 3))))],
 [(p0,(.call 69 [aqZ] (zB (V 2)))),
 (p1,(.call 70 [zz8,aqZ] (zB (V 3))))],[]⟩
theorem e31 : kD Tryz.prog ig iq rZ (rY kA 31 [] []) 3 200 31 [.agg al6,.agg (cV 1 dL.fH)] 2=some R31:=by kernel_rfl
theorem Oz (x0:dK)(x1:dL):CT Tryz.prog sT 31 [dK.av x0,dL.av x1] (eB (jQ x0 x1)):=
 let v2:Bool:=dR x1
 let v3:Bool:=jS x0 x1
 wV j_ dX dY e31 Ag (by kernel_rfl) [dK.av x0,dL.av x1,eB v2,eB v3] xn
  (wC (jY x1) <|
  wC (yj x0 x1) <|
  wn)
  ln
  (jZ rfl)
def R45 : jg:=
 let p0:Pc:=((qH (W 1 1) zz9),false)::[]
 let p1:Pc:=((qL (W 1 1) (.li 0)),false)::p0
 let p2:Pc:=((.or (uE (W 2 0) (.li 1)) (.or (uE (W 2 0) (.li 4)) apn)),true)::p1
 let p3:Pc:=((uE (W 1 0) (.li 11)),false)::p2
 let p4:Pc:=(ao9,false)::p3
 let p5:Pc:=(aq3,false)::p4
 let p6:Pc:=(aq2,false)::p5
 let p7:Pc:=(anp,true)::p6
 let p8:Pc:=(anp,false)::p6
 let p9:Pc:=((.or asv aq0),true)::p8
 let p10:Pc:=(aq0,false)::p8
 let p11:Pc:=(asv,false)::p10
 let p12:Pc:=(an2,true)::p11
 let p13:Pc:=((qN (V 5) (.li 0)),false)::p12
 let p14:Pc:=at6::p13
 let p15:Pc:=((.not (V 7)),false)::p14
 let p16:Pc:=((.or (.not (V 7)) (.not (V 8))),false)::p14
 ⟨[((.or (qL (W 1 1) (.li 0)) (qH (W 1 1) zz9)),(zI (.li 2))),((.not (.or (uE (W 2 0) (.li 1)) (.or (uE (W 2 0) (.li 4)) apn))),(zI (.li 2))),((.and ati (.and anp am7)),(zI (.li 9))),((.and ati (.and (.not anp) (.or asv aq0))),(zI (V 4))),((.and ati (.and (.not anp) (.and an2 (qN (V 5) (.li 0))))),(zI (V 5))),((.and ati (.and (.not anp) (.and an2 (qN (V 6) (.li 0))))),(zI (V 6))),((.and ati (.and (.not anp) (.and an2 (.or (.or (.not (V 7)) (.not (V 8))) (.not (V 9)))))),(zI (.li 9))),((.and ati (.and (.not anp) (.not an2))),(zI (.li 2))),((.lb true),zz3)],
 [(p1,(.row (W 0 0) (W 1 1) (cV 2 dN.fH))),
 (p7,(.call 31 [zz8,(.agg (cW 1 20 dL.fH))] (zB (V 3)))),
 (p9,(.call 83 [asn] (zI (V 4)))),
 (p12,(.call 83 [asn] (zI (V 5)))),
 (p13,(.call 84 [(.agg (cW 1 4 dJ.fH))] (zI (V 6)))),
 (p14,(.call 70 [zz8,(.agg (cW 1 5 dL.fH))] (zB (V 7)))),
 (p15,(.call 70 [zz8,(.agg (cW 1 9 dL.fH))] (zB (V 8)))),
 (p16,(.call 70 [zz8,(.agg (cW 1 13 dL.fH))] (zB (V 9))))],[]⟩
theorem e45 : kD Tryz.prog ig iq rZ (rY kA 45 [] []) 3 200 45 [.agg al6,.agg (cV 1 gK.fH)] 2=some R45:=by kernel_rfl
theorem OA (x0:dK)(x1:gK):CT Tryz.prog sT 45 [dK.av x0,gK.av x1] (eI (jF x0 x1)):=
 let v2:dN:=x0.Objects.getD x1.Object.toNat default
 let v3:Bool:=jQ x0 x1.Value
 let v4:Int:=lG x1.Key
 let v5:Int:=lG x1.Key
 let v6:Int:=lq x1.dS
 let v7:Bool:=jS x0 x1.dS.Value
 let v8:Bool:=jS x0 x1.dS.Get
 let v9:Bool:=jS x0 x1.dS.Set
 wV j_ dX dY e45 Ag (by kernel_rfl) [dK.av x0,gK.av x1,dN.av v2,eB v3,eI v4,eI v5,eI v6,eB v7,eB v8,eB v9] xn
  (wR rfl <|
  wC (Oz x0 x1.Value) <|
  wC (AP x1.Key) <|
  wC (AP x1.Key) <|
  wC (zJ x1.dS) <|
  wC (yj x0 x1.dS.Value) <|
  wC (yj x0 x1.dS.Get) <|
  wC (yj x0 x1.dS.Set) <|
  wn)
  ln
  (iC (fun r=>.p (.int .i64 r)) rfl rfl (iC (fun r=>.p (.int .i64 r)) rfl rfl (iC (fun r=>.p (.int .i64 r)) rfl rfl (iC (fun r=>.p (.int .i64 r)) rfl rfl (iC (fun r=>.p (.int .i64 r)) rfl rfl (iC (fun r=>.p (.int .i64 r)) rfl rfl (iC (fun r=>.p (.int .i64 r)) rfl rfl (iC (fun r=>.p (.int .i64 r)) rfl rfl (jZ rfl)))))))))
def R67 : jg:=
 ⟨[((.lb true),(.agg (cV 0 dN.fH)))],
 [([],(.under [] (.KF 18 (W 0 6)))),
 ([],(.under [] (.len2 0 (W 0 6))))],[]⟩
theorem e67 : kD Tryz.prog ig iq rZ (rY kA 67 [] []) 3 200 67 [.agg (cV 0 dN.fH)] 1=some R67:=by kernel_rfl
theorem QI (x0:dN):CT Tryz.prog sT 67 [dN.av x0] (dN.av (EW x0)):=
 wV j_ dX dY e67 Ag (by kernel_rfl) [dN.av x0] xn
  (wU (adS (f:=dM.enc) rfl wn) <|
  wU (abk wn) <|
  wn)
  ln
  (jZ rfl)
def aoI : Lo:=
 let p0:Pc:=((qL (V 3) zz9),true)::[]
 .mk [] 3 2 [zz3,(zL (V 2))] [((.not (qL (V 3) zz9)),1,[(zL (V 4))]),((.lb true),0,[aq6,(zL (V 7))])] [(p0,(.tm aq8)),
 (p0,(.rd (true,18) (V 4) (V 3) 0 (.agg (cV 5 dN.fH)))),
 (p0,(.call 67 [(.agg (cV 5 dN.fH))] (.agg (cV 6 dN.fH)))),
 (p0,(.tm aq8)),
 (p0,(.st (V 4) (V 3) 0 [(zU (W 6 0)),(zU (W 6 1)),(zF (W 6 2)),(zS (W 6 3)),(zI (W 6 4)),(zB (W 6 5)),(zL (W 6 6)),(zU (W 6 7)),(zF (W 6 8)),(zS (W 6 9)),(zI (W 6 10)),(zU (W 6 11)),(zF (W 6 12)),(zS (W 6 13)),(zI (W 6 14)),(zS (W 6 15)),(zB (W 6 16)),(zB (W 6 17))] (V 7)))] [] [1] []
def aoJ : LH:=.mk [aq8,(qE (.rlen (V 4)) (.rlen (V 2)))] (mI zz9 (V 3)) [(zz9,1)] [] 3 [] [[(qE (.rlen (V 3)) (.rlen (V 2)))]]
def Hu (r:List dN):Nat×List AV:=(0,[eL dN.enc r])
theorem Hw (x0:dK)(v1:List dN)(v2:List dN):∀(n:Nat) (u3:Int) (u4:List dN),uP Tryz.prog sT aoI aoJ [dK.av x0,eL dN.enc v1,eL dN.enc v2] n [eI u3,eL dN.enc u4] (Hu (lS x0 n u3 u4))
 |0,u3,u4=>l0
 |n+1,u3,u4=>
  let v5:dN:=u4.getD u3.toNat default
  let v6:dN:=EW v5
  let v7:List dN:=u4.set u3.toNat v6
  Og rfl [dN.av v5,dN.av v6,eL dN.enc v7] xn (wT <|
  Vu rfl <|
  wC (QI v5) <|
  wT <|
  wSt (f:=dN.enc) v6 rfl <|
  wn) ln <|
   rc Hu rx<|rl (rg (Hw x0 v1 v2 n _ _))
def H46 : LH:=.mk [] (.li 0) [] [] 0 [aoJ] []
def au7 : jg:=
 ⟨[((.lb true),(.agg [(zL (V 3))]))],
 [([],(.mk zz9 zz9 axt (V 1))),
 ([],(.KF 18 (W 0 0))),
 ([],(.cpy (V 1) zz9 (W 0 0) (V 2))),
 ([],(.tm (qE zz9 (.rlen (V 3)))))],[aoI]⟩
theorem au8 : ady Tryz.prog ig iq rZ (rY kA 46 [4,15] [(0,(.mk [2,3,14] (.mk [(15,(.sc kI))] [] [(5,18)] 14) [(.normal,(.mk [] [] [(5,18)] 14))]))]) 3 200 46 [.agg al6] 1 [0] 18=some au7:=by kernel_rfl
theorem QY (x0:dK):CTo Tryz.prog sT 46 [dK.av x0] (dK.av (Jv x0)) [0] 18:=
 let v1:List dN:=List.replicate ((jy dN.enc x0.Objects):Int).toNat (dN.mk 0 (dL.mk 0 0 [] 0) false [] (dL.mk 0 0 [] 0) (dL.mk 0 0 [] 0) [] false false)
 let v2:List dN:=x0.Objects.take ((jy dN.enc x0.Objects):Int).toNat++v1.drop (min x0.Objects.length ((jy dN.enc x0.Objects):Int).toNat)
 let r3:List dN:=lS x0 (x0.Objects.length+1) 0 v2
 let v4:List dN:=(r3.drop (0)).take (((jy dN.enc x0.Objects):Int).toNat-0)
 mkO j_ dX dY au8 H46 (by kernel_rfl) [dK.av x0,eL dN.enc v1,eL dN.enc v2,eL dN.enc r3,eL dN.enc v4] xn
  (wMk (f:=dN.enc) (dN.mk 0 (dL.mk 0 0 [] 0) false [] (dL.mk 0 0 [] 0) (dL.mk 0 0 [] 0) [] false false) rfl <|
  adS (f:=dN.enc) rfl <|
  auK (f:=dN.enc) rfl rfl <|
  wT <|
  wn)
  (lc1 (Hw x0 v1 v2 (x0.Objects.length+1) 0 v2) <|
  ln)
  (jZ rfl)
theorem VN (x0:dK):CTo Tryz.prog sT 46 [dK.av x0] (dK.av (zn x0)) [0] 18:=
 anl (congrArg dK.av (Vh x0)) (QY x0)
def R68 : jg:=
 let p0:Pc:=((V 2),true)::[]
 ⟨[((.and (V 2) (V 3)),(zB (qE (W 0 3) (W 1 3)))),((uN (W 0 0) (W 1 0)),zz2),((.or (uE (W 0 0) (.li 0)) (uE (W 0 0) (.li 1))),alQ),((.or anX apY),(zB (.bin .eql .kS (W 0 1) (W 1 1)))),((uE (W 0 0) (.li 4)),(zB (sE (W 0 2) (W 1 2)))),((uE (W 0 0) (.li 5)),(zB (qE (W 0 3) (W 1 3)))),((.lb true),zz2)],
 [([],(.call 69 [(.agg an_)] (zB (V 2)))),
 (p0,(.call 69 [aqZ] (zB (V 3))))],[]⟩
theorem e68 : kD Tryz.prog ig iq rZ (rY kA 68 [] []) 3 200 68 [.agg an_,.agg (cV 1 dL.fH)] 2=some R68:=by kernel_rfl
theorem QZ (x0:dL)(x1:dL):CT Tryz.prog sT 68 [dL.av x0,dL.av x1] (eB (Aw x0 x1)):=
 let v2:Bool:=dR x0
 let v3:Bool:=dR x1
 wV j_ dX dY e68 Ag (by kernel_rfl) [dL.av x0,dL.av x1,eB v2,eB v3] xn
  (wC (jY x0) <|
  wC (jY x1) <|
  wn)
  ln
  (iC (fun r=>.p (.bool r)) rfl rfl (iC (fun r=>.p (.bool r)) rfl rfl (iC (fun r=>.p (.bool r)) rfl rfl (iC (fun r=>.p (.bool r)) rfl rfl (iC (fun r=>.p (.bool r)) rfl rfl (iC (fun r=>.p (.bool r)) rfl rfl (jZ rfl)))))))
def R29 : jg:=
 let p0:Pc:=((.and (.and apY aq3) awk),false)::[]
 ⟨[((.and (.and apY aq3) awk),(zB (.bin .neq .kS (W 1 1) (W 1 1)))),((.lb true),(zB (V 2)))],
 [(p0,(.call 68 [(.agg an_),aqZ] (zB (V 2))))],[]⟩
theorem e29 : kD Tryz.prog ig iq rZ (rY kA 29 [] []) 3 200 29 [.agg an_,.agg (cV 1 dL.fH)] 2=some R29:=by kernel_rfl
theorem mZ (x0:dL)(x1:dL):CT Tryz.prog sT 29 [dL.av x0,dL.av x1] (eB (eH x0 x1)):=
 let v2:Bool:=Aw x0 x1
 wV j_ dX dY e29 Ag (by kernel_rfl) [dL.av x0,dL.av x1,eB v2] xn
  (wC (QZ x0 x1)<|wn)
  ln
  (iC (fun r=>.p (.bool r)) rfl rfl (jZ rfl))
def R85 : jg:=
 ⟨[((.lb true),(.agg [anT,zz6,zz7,zz4,zz3,(zB (V 0)),zz2,zz6,zz6,zz7,zz4,zz3,zz6,zz7,zz4,zz3,zz6,zz7,zz4,zz3,zz2,zz2,zz2,alJ,zz6,zz4]))],
 [],[]⟩
theorem e85 : kD Tryz.prog ig iq rZ (rY kA 85 [] []) 3 200 85 [zB (V 0)] 1=some R85:=by kernel_rfl
theorem kY (x0:Bool):CT Tryz.prog sT 85 [eB x0] (gQ.av (eu x0)):=
 wV j_ dX dY e85 Ag (by kernel_rfl) [eB x0] xn
  wn
  ln
  (jZ rfl)
def aoK : Lo:=
 let p0:Pc:=((V 5),true)::[]
 let p1:Pc:=((qE (W 4 3) (V 1)),false)::p0
 .mk [] 3 2 [zz2,arZ] [((.not (V 5)),1,[(zB (V 3)),(.agg (cV 4 dL.fH))]),((qE (W 4 3) (V 1)),2,[alQ,(.agg (cV 4 dL.fH))]),((uE (W 6 0) (.li 6)),2,[zz2,(.agg (cV 4 dL.fH))]),((.lb true),0,[(zB (V 3)),(.agg (cW 6 1 dL.fH))])] [([],(.call 69 [(.agg (cV 4 dL.fH))] (zB (V 5)))),
 (p1,(.row (W 0 0) (W 4 3) (cV 6 dN.fH)))] [] [2,2] []
def aoL : LH:=.mk [] .nl [] [([((V 5),true)],(qM (.li 0) (W 4 3))),([((V 5),true)],(qL (W 4 3) zz9))] 0 [] []
def o9 (r:Bool×Bool×dL×Bool×dL):Nat×List AV:=Xi r.1 [eB r.2.1,dL.av r.2.2.1] [eB r.2.2.2.1,dL.av r.2.2.2.2]
theorem yJ (x0:dK)(x1:Int)(x2:dL):∀(n:Nat) (u3:Bool) (u4:dL) (hC:jr x0=0) (h2:hIn x0 x2) (q0:hIn x0 u4) (_:jT x0 x1 n u3 u4=true),uP Tryz.prog sT aoK aoL [dK.av x0,eI x1,dL.av x2] n [eB u3,dL.av u4] (o9 (lu x0 x1 n u3 u4))
 |0,u3,u4,_,_,_,hE=>absurd (show false=true from hE) Bool.false_ne_true
 |n+1,u3,u4,hC,h2,q0,hE=>
  let v5:Bool:=dR u4
  let v6:dN:=x0.Objects.getD u4.Ref.toNat default
  have hE:(bif (!v5) then true
  else bif (dW u4.Ref x1) then true
  else bif (dW v6.Kind 6) then true
  else jT x0 x1 n u3 v6.fB)=true:=hE
  Og rfl [eB v5,dN.av v6] (xp (fun h=>decide_eq_true (asq q0 ( (h.at 0 rfl))))<|xp (fun h=>decide_eq_true (aov q0 ( (h.at 0 rfl))))<|xn) (wC (jY u4) <|
  wR rfl <|
  wn) ln <|
   rcf o9 (fun g0=>rx)<|fun g0=>rcf o9 (fun g1=>rx)<|fun g1=>rcf o9 (fun g2=>rx)<|fun g2=>rl (rg (yJ x0 x1 x2 n _ _ hC h2 (aqp hC) (Xy g2 (Xy g1 (Xy g0 hE)))))
def R32 : jg:=
 ⟨[((qE (V 3) (.li 0)),zz2),((.lb true),(zB (V 6)))],
 [],[aoK]⟩
def H32 : LH:=.mk [] (.li 0) [] [] 0 [aoL] []
theorem e32 : kD Tryz.prog ig iq rZ (rY kA 32 [6] [(0,(.mk [1,3,5] (.mk [(6,(.sc .bool))] [(1,[kU,.kS,.str,kI])] [] 3) [(.normal,(.mk [(6,(.sc .bool))] [(1,[kU,.kS,.str,kI])] [] 3)),(.ret,(.mk [(6,(.sc .bool))] [(1,[kU,.kS,.str,kI])] [] 3))]))]) 3 200 32 [.agg al6,zI (V 1),.agg (cV 2 dL.fH)] 3=some R32:=by kernel_rfl
theorem MO (x0:dK)(x1:Int)(x2:dL)(hC:jr x0=0)(h2:hIn x0 x2):CT Tryz.prog sT 32 [dK.av x0,eI x1,dL.av x2] (eB (iQ x0 x1 x2)):=
 let r3:Bool×Bool×dL×Bool×dL:=lu x0 x1 (x0.Objects.length+1) false x2
 wV j_ dX dY e32 H32 (by kernel_rfl) [dK.av x0,eI x1,dL.av x2,eI (lW r3.1),eB r3.2.1,dL.av r3.2.2.1,eB r3.2.2.2.1,dL.av r3.2.2.2.2] xn
  wn
  (lc2 (yJ x0 x1 x2 (x0.Objects.length+1) false x2 hC h2 h2 (Vg hC h2)) (hn:=Int.natCast_pos.2 (Nat.succ_pos _)) <|
  ln)
  (iC (fun r=>.p (.bool r)) rfl rfl (jZ rfl))
def R74 : jg:=
 let p0:Pc:=(aqy,false)::[]
 ⟨[(aqy,(zI (V 2))),((.lb true),(zI (V 3)))],
 [([],(.call 78 [(zL (V 0))] (zI (V 2)))),
 (p0,(.call 83 [(.agg [(zS (W 1 0)),(zI (W 1 1))])] (zI (V 3))))],[]⟩
theorem e74 : kD Tryz.prog ig iq rZ (rY kA 74 [] []) 3 200 74 [zL (V 0),.agg (cV 1 dI.fH)] 2=some R74:=by kernel_rfl
theorem Ci (x0:List dM)(x1:dI):CT Tryz.prog sT 74 [eL dM.enc x0,dI.av x1] (eI (nC x0 x1)):=
 let v2:Int:=jA x0
 let v3:Int:=lG x1
 wV j_ dX dY e74 Ag (by kernel_rfl) [eL dM.enc x0,dI.av x1,eI v2,eI v3] xn
  (wC (Cc x0) <|
  wC (AP x1) <|
  wn)
  ln
  (iC (fun r=>.p (.int .i64 r)) rfl rfl (jZ rfl))
def aoM : Lo:=
 let p0:Pc:=(arD,true)::[]
 .mk [] 2 2 [zz3,zz3] [((.not arD),1,[(zI (V 2))]),((.and (sE (W 4 0) (W 1 0)) (qE (W 4 1) (W 1 1))),2,[(zI (V 3))]),((.lb true),0,[(zI (V 2)),aq6])] [(p0,(.row (V 0) (V 3) (cV 4 dM.fH)))] [] [1,1] [(V 0)]
def aoN : LH:=.mk [aq8] (mI zz5 (V 3)) [(zz5,1)] [] 0 [] [[],[(qL (V 2) zz5)]]
def Cj (r:Bool×Int×Int):Nat×List AV:=Xi r.1 [eI r.2.1] [eI r.2.2]
theorem JF (x0:List dM)(x1:dI):∀(n:Nat) (u2:Int) (u3:Int),uP Tryz.prog sT aoM aoN [eL dM.enc x0,dI.av x1] n [eI u2,eI u3] (Cj (wQ x0 x1 n u2 u3))
 |0,u2,u3=>l0
 |n+1,u2,u3=>
  let v4:dM:=x0.getD u3.toNat default
  Og rfl [dM.av v4] xn (wR rfl<|wn) ln <|
   rc Cj rx<|rc Cj rx<|rl (rg (JF x0 x1 n _ _))
def R75 : jg:=
 ⟨[(avj,(zI (V 4))),((.lb true),(zI (.li (-1))))],
 [],[aoM]⟩
def H75 : LH:=.mk [] (.li 0) [] [] 0 [aoN] []
theorem e75 : kD Tryz.prog ig iq rZ (rY kA 75 [8,5,4] [(0,(.mk [0,3,7] (.mk [(4,(.sc kI)),(8,(.sc kI))] [] [] 5) [(.normal,(.mk [(4,(.sc kI))] [] [] 5)),(.ret,(.mk [(4,(.sc kI))] [] [] 5))]))]) 3 200 75 [zL (V 0),.agg (cV 1 dI.fH)] 2=some R75:=by kernel_rfl
theorem JG (x0:List dM)(x1:dI):CT Tryz.prog sT 75 [eL dM.enc x0,dI.av x1] (eI (um x0 x1)):=
 let r2:Bool×Int×Int:=wQ x0 x1 (x0.length+1) 0 0
 wV j_ dX dY e75 H75 (by kernel_rfl) [eL dM.enc x0,dI.av x1,eI (lW r2.1),eI r2.2.1,eI r2.2.2] xn
  wn
  (lc2 (JF x0 x1 (x0.length+1) 0 0) <|
  ln)
  (iC (fun r=>.p (.int .i64 r)) rfl rfl (jZ rfl))
def R37 : jg:=
 let p0:Pc:=(aqy,false)::[]
 let p1:Pc:=((qH (V 3) (.li 0)),true)::p0
 ⟨[(aqy,(.fA [auM,zz2,(zI (V 2))])),((qH (V 3) (.li 0)),(.fA [(.agg (cW 4 2 dJ.fH)),alQ,zz3])),((.lb true),(.fA [auM,zz2,zz3]))],
 [([],(.call 74 atj (zI (V 2)))),
 (p0,(.call 75 atj (zI (V 3)))),
 (p1,(.row (V 0) (V 3) (cV 4 dM.fH)))],[]⟩
theorem e37 : kD Tryz.prog ig iq rZ (rY kA 37 [] []) 3 200 37 [zL (V 0),.agg (cV 1 dI.fH)] 2=some R37:=by kernel_rfl
theorem D8 (x0:List dM)(x1:dI):CT Tryz.prog sT 37 [eL dM.enc x0,dI.av x1] (ji (fK x0 x1)):=
 let v2:Int:=nC x0 x1
 let v3:Int:=um x0 x1
 let v4:dM:=x0.getD v3.toNat default
 wV j_ dX dY e37 Ag (by kernel_rfl) [eL dM.enc x0,dI.av x1,eI v2,eI v3,dM.av v4] xn
  (wC (Ci x0 x1) <|
  wC (JG x0 x1) <|
  wR rfl <|
  wn)
  ln
  (iC ji rfl rfl (iC ji rfl rfl (jZ rfl)))
def R88 : jg:=
 let p0:Pc:=((qN (V 3) (.li 0)),false)::[]
 let p1:Pc:=((V 1),true)::p0
 let p2:Pc:=((qN (V 4) (.li 0)),false)::p1
 ⟨[((qN (V 3) (.li 0)),(zI (V 3))),((.and (V 1) (.or (qN (V 4) (.li 0)) (uN (W 2 0) (W 5 0)))),(zI (.li 90))),((.lb true),zz3)],
 [([],(.call 84 an0 (zI (V 3)))),
 (p1,(.call 84 [arU] (zI (V 4)))),
 (p2,(.call 58 [arU] (.agg (cV 5 dJ.fH))))],[]⟩
theorem e88 : kD Tryz.prog ig iq rZ (rY kA 88 [] []) 3 200 88 [.agg apO,zB (V 1),.agg (cV 2 dJ.fH)] 3=some R88:=by kernel_rfl
theorem VO (x0:dJ)(x1:Bool)(x2:dJ):CT Tryz.prog sT 88 [dJ.av x0,eB x1,dJ.av x2] (eI (zi x0 x1 x2)):=
 let v3:Int:=lq x0
 let v4:Int:=lq x2
 let v5:dJ:=jD x2
 wV j_ dX dY e88 Ag (by kernel_rfl) [dJ.av x0,eB x1,dJ.av x2,eI v3,eI v4,dJ.av v5] xn
  (wC (zJ x0) <|
  wC (zJ x2) <|
  wC (zK x2) <|
  wn)
  ln
  (iC (fun r=>.p (.int .i64 r)) rfl rfl (iC (fun r=>.p (.int .i64 r)) rfl rfl (jZ rfl)))
def au9 : jg:=
 ⟨[((.lb true),(zB (uE (.bin .and kU (W 0 0) (.li 15)) (.li 0))))],
 [],[]⟩
theorem au_ : kD Tryz.prog ig iq rZ (rY kA 113 [] []) 3 200 113 [.agg apO] 1=some au9:=by kernel_rfl
theorem Q5 (x0:dJ):CT Tryz.prog sT 113 [dJ.av x0] (eB (uK x0)):=
 wV j_ dX dY au_ Ag (by kernel_rfl) [dJ.av x0] xn
  wn
  ln
  (jZ rfl)
def R89 : jg:=
 let p0:Pc:=((W 1 15),false)::[]
 let p1:Pc:=((W 0 15),false)::p0
 let p2:Pc:=(awG,false)::p1
 let p3:Pc:=((V 2),false)::p2
 let p4:Pc:=((.bin .eql .bool (V 3) (V 4)),true)::p3
 let p5:Pc:=((V 5),true)::p4
 let p6:Pc:=((W 1 13),false)::p5
 let p7:Pc:=((.not (W 0 13)),true)::p6
 let p8:Pc:=((uE avk (.li 0)),false)::p7
 let p9:Pc:=((V 5),false)::p4
 let p10:Pc:=((uE atq (.li 0)),false)::p9
 let p11:Pc:=((.or (uE atq (.li 0)) (V 7)),true)::p9
 let p12:Pc:=((uE asQ (.li 0)),false)::p11
 ⟨[((W 1 15),alQ),((W 0 15),zz2),(awG,zz2),((V 2),alQ),((.not (.bin .eql .bool (V 3) (V 4))),zz2),((V 5),(zB (.or (W 1 13) (.and (.not (W 0 13)) (.or (uE avk (.li 0)) (V 6)))))),((.lb true),(zB (.and (.or (uE atq (.li 0)) (V 7)) (.or (uE asQ (.li 0)) (V 8)))))],
 [(p2,(.call 113 an0 (zB (V 2)))),
 (p3,(.call 30 an0 (zB (V 3)))),
 (p3,(.call 30 [ap4] (zB (V 4)))),
 (p4,(.call 30 an0 (zB (V 5)))),
 (p8,(.call 29 [(.agg (cW 0 1 dL.fH)),(.agg (cW 1 1 dL.fH))] (zB (V 6)))),
 (p10,(.call 29 [(.agg (cW 0 5 dL.fH)),(.agg (cW 1 5 dL.fH))] (zB (V 7)))),
 (p12,(.call 29 [(.agg (cW 0 9 dL.fH)),(.agg (cW 1 9 dL.fH))] (zB (V 8))))],[]⟩
theorem e89 : kD Tryz.prog ig iq rZ (rY kA 89 [] []) 3 200 89 [.agg apO,.agg (cV 1 dJ.fH)] 2=some R89:=by kernel_rfl
theorem abO (x0:dJ)(x1:dJ):CT Tryz.prog sT 89 [dJ.av x0,dJ.av x1] (eB (BQ x0 x1)):=
 let v2:Bool:=uK x0
 let v3:Bool:=fD x0
 let v4:Bool:=fD x1
 let v5:Bool:=fD x0
 let v6:Bool:=eH x0.Value x1.Value
 let v7:Bool:=eH x0.Get x1.Get
 let v8:Bool:=eH x0.Set x1.Set
 wV j_ dX dY e89 Ag (by kernel_rfl) [dJ.av x0,dJ.av x1,eB v2,eB v3,eB v4,eB v5,eB v6,eB v7,eB v8] xn
  (wC (Q5 x0) <|
  wC (lU x0) <|
  wC (lU x1) <|
  wC (lU x0) <|
  wC (mZ x0.Value x1.Value) <|
  wC (mZ x0.Get x1.Get) <|
  wC (mZ x0.Set x1.Set) <|
  wn)
  ln
  (iC (fun r=>.p (.bool r)) rfl rfl (iC (fun r=>.p (.bool r)) rfl rfl (iC (fun r=>.p (.bool r)) rfl rfl (iC (fun r=>.p (.bool r)) rfl rfl (iC (fun r=>.p (.bool r)) rfl rfl (iC (fun r=>.p (.bool r)) rfl rfl (jZ rfl)))))))
def R57 : jg:=
 let p0:Pc:=((qN (V 4) (.li 0)),false)::[]
 let p1:Pc:=((V 2),true)::p0
 ⟨[((qN (V 4) (.li 0)),(.fA [zz2,(zI (V 4))])),((.not (V 2)),(.fA [(zB (V 0)),zz3])),((.lb true),(.fA [(zB (V 5)),zz3]))],
 [([],(.call 88 [ap4,(zB (V 2)),at7] (zI (V 4)))),
 (p1,(.call 89 [ap4,at7] (zB (V 5))))],[]⟩
theorem e57 : kD Tryz.prog ig iq rZ (rY kA 57 [] []) 3 200 57 [zB (V 0),.agg (cV 1 dJ.fH),zB (V 2),.agg (cV 3 dJ.fH)] 4=some R57:=by kernel_rfl
theorem MP (x0:Bool)(x1:dJ)(x2:Bool)(x3:dJ):CT Tryz.prog sT 57 [eB x0,dJ.av x1,eB x2,dJ.av x3] (xZ (iP x0 x1 x2 x3)):=
 let v4:Int:=zi x1 x2 x3
 let v5:Bool:=BQ x1 x3
 wV j_ dX dY e57 Ag (by kernel_rfl) [eB x0,dJ.av x1,eB x2,dJ.av x3,eI v4,eB v5] xn
  (wC (VO x1 x2 x3) <|
  wC (abO x1 x3) <|
  wn)
  ln
  (iC xZ rfl rfl (iC xZ rfl rfl (jZ rfl)))
def R21 : jg:=
 let p0:Pc:=((W 4 0),true)::[]
 let p1:Pc:=((qN (W 4 1) (.li 0)),false)::p0
 let p2:Pc:=((V 2),false)::p1
 let p3:Pc:=((V 2),true)::p1
 let p4:Pc:=((V 6),true)::p3
 let p5:Pc:=((.and (V 6) (V 7)),false)::p3
 let p6:Pc:=((V 8),true)::p5
 let p7:Pc:=(ano,true)::p3
 ⟨[((.or (qN (W 4 1) (.li 0)) (.not (W 4 0))),(.fA [auM,zz2,(zI (W 4 1))])),((.not (V 2)),(.fA [(.agg (cV 5 dJ.fH)),alQ,zz3])),((.lb true),(.fA [(.agg [(zU (.ite ano (W 10 0) (W 3 0))),(zU (.ite avV (W 1 1) (.ite ano (W 10 1) (W 3 1)))),(zF (.ite avV (W 1 2) (.ite ano (W 10 2) (W 3 2)))),(zS (.ite avV (W 1 3) (.ite ano (W 10 3) (W 3 3)))),(zI (.ite avV (W 1 4) (.ite ano (W 10 4) (W 3 4)))),(zU (.ite avW (W 1 5) (.ite ano (W 10 5) (W 3 5)))),(zF (.ite avW (W 1 6) (.ite ano (W 10 6) (W 3 6)))),(zS (.ite avW (W 1 7) (.ite ano (W 10 7) (W 3 7)))),(zI (.ite avW (W 1 8) (.ite ano (W 10 8) (W 3 8)))),(zU (.ite av2 (W 1 9) (.ite ano (W 10 9) (W 3 9)))),(zF (.ite av2 (W 1 10) (.ite ano (W 10 10) (W 3 10)))),(zS (.ite av2 (W 1 11) (.ite ano (W 10 11) (W 3 11)))),(zI (.ite av2 (W 1 12) (.ite ano (W 10 12) (W 3 12)))),(zB (.ite (uN (.bin .and kU (W 1 0) (.li 2)) (.li 0)) (W 1 13) (.ite ano (W 10 13) (W 3 13)))),(zB (.ite (uN (.bin .and kU (W 1 0) (.li 16)) (.li 0)) (W 1 14) (.ite ano (W 10 14) (W 3 14)))),(zB (.ite (uN (.bin .and kU (W 1 0) (.li 32)) (.li 0)) (W 1 15) (.ite ano (W 10 15) (W 3 15))))]),alQ,zz3]))],
 [([],(.call 57 [(zB (V 0)),ap4,(zB (V 2)),at7] (.fA [(zB (W 4 0)),(zI (W 4 1))]))),
 (p2,(.call 58 [ap4] (.agg (cV 5 dJ.fH)))),
 (p3,(.call 30 [ap4] (zB (V 6)))),
 (p4,(.call 59 [at7] (zB (V 7)))),
 (p5,(.call 59 [ap4] (zB (V 8)))),
 (p6,(.call 30 [at7] (zB (V 9)))),
 (p7,(.call 58 [(.agg [(zU (.bin .andNot kU (W 1 0) (.li 48))),zz6,zz7,zz4,zz3,zz6,zz7,zz4,zz3,zz6,zz7,zz4,zz3,zz2,(zB (W 3 14)),(zB (W 3 15))])] (.agg (cV 10 dJ.fH))))],[]⟩
theorem e21 : kD Tryz.prog ig iq rZ (rY kA 21 [] []) 3 200 21 [zB (V 0),.agg (cV 1 dJ.fH),zB (V 2),.agg (cV 3 dJ.fH)] 4=some R21:=by kernel_rfl
theorem VP (x0:Bool)(x1:dJ)(x2:Bool)(x3:dJ):CT Tryz.prog sT 21 [eB x0,dJ.av x1,eB x2,dJ.av x3] (ji (gG x0 x1 x2 x3)):=
 let v4:Bool×Int:=iP x0 x1 x2 x3
 let v5:dJ:=jD x1
 let v6:Bool:=fD x1
 let v7:Bool:=gW x3
 let v8:Bool:=gW x1
 let v9:Bool:=fD x3
 let v10:dJ:=jD (dJ.mk (nI .u8 x1.Has 48) (dL.mk 0 0 [] 0) (dL.mk 0 0 [] 0) (dL.mk 0 0 [] 0) false x3.dV x3.Configurable)
 wV j_ dX dY e21 Ag (by kernel_rfl) [eB x0,dJ.av x1,eB x2,dJ.av x3,xZ v4,dJ.av v5,eB v6,eB v7,eB v8,eB v9,dJ.av v10] xn
  (wC (MP x0 x1 x2 x3) <|
  wC (zK x1) <|
  wC (lU x1) <|
  wC (uV x3) <|
  wC (uV x1) <|
  wC (lU x3) <|
  wC (zK (dJ.mk (nI .u8 x1.Has 48) (dL.mk 0 0 [] 0) (dL.mk 0 0 [] 0) (dL.mk 0 0 [] 0) false x3.dV x3.Configurable)) <|
  wn)
  ln
  (iC ji rfl rfl (iC ji rfl rfl (jZ rfl)))
def R86 : jg:=
 let p0:Pc:=((qN (V 3) (.li 0)),false)::[]
 let p1:Pc:=((V 5),true)::p0
 let p2:Pc:=((.and (qL (V 4) (.li 0)) (qE zz5 (.li 1024))),false)::p1
 let p3:Pc:=((qL (V 4) (.li 0)),true)::p2
 let p4:Pc:=((qL (V 4) (.li 0)),false)::p2
 ⟨[((qN (V 3) (.li 0)),(.fA [alJ,(zI (V 3))])),((.not (V 5)),(.fA [alJ,(zI (.li 90))])),((.and (qL (V 4) (.li 0)) (qE zz5 (.li 1024))),(.fA [alJ,(zI (.li 100))])),((qL (V 4) (.li 0)),(.fA [(zL (V 7)),zz3])),((.lb true),(.fA [(zL (V 9)),zz3]))],
 [([],(.call 74 atj (zI (V 3)))),
 (p0,(.call 75 atj (zI (V 4)))),
 (p0,(.call 106 [arU] (zB (V 5)))),
 (p3,(.sub 18 (V 0) none (some zz5) (V 6))),
 (p3,(.app 18 (V 6) [[(zS (W 1 0)),(zI (W 1 1)),(zU (W 2 0)),(zU (W 2 1)),(zF (W 2 2)),(zS (W 2 3)),(zI (W 2 4)),(zU (W 2 5)),(zF (W 2 6)),(zS (W 2 7)),(zI (W 2 8)),(zU (W 2 9)),(zF (W 2 10)),(zS (W 2 11)),(zI (W 2 12)),(zB (W 2 13)),(zB (W 2 14)),(zB (W 2 15))]] (V 7))),
 (p4,(.sub 18 (V 0) none (some (.li 0)) .nl)),
 (p4,(.KF 18 (V 0))),
 (p4,(.len2 0 (V 0))),
 (p4,(.tm arK)),
 (p4,(.tm (qL (V 4) zz5))),
 (p4,(.st (V 0) (V 4) 2 [(zU (W 2 0)),(zU (W 2 1)),(zF (W 2 2)),(zS (W 2 3)),(zI (W 2 4)),(zU (W 2 5)),(zF (W 2 6)),(zS (W 2 7)),(zI (W 2 8)),(zU (W 2 9)),(zF (W 2 10)),(zS (W 2 11)),(zI (W 2 12)),(zB (W 2 13)),(zB (W 2 14)),(zB (W 2 15))] (V 8))),
 (p4,(.sub 18 (V 8) none (some zz5) (V 9)))],[]⟩
theorem e86 : kD Tryz.prog ig iq rZ (rY kA 86 [] []) 3 200 86 [zL (V 0),.agg (cV 1 dI.fH),.agg (cV 2 dJ.fH)] 3=some R86:=by kernel_rfl
theorem Zi (x0:List dM)(x1:dI)(x2:dJ):CT Tryz.prog sT 86 [eL dM.enc x0,dI.av x1,dJ.av x2] (kP (ku x0 x1 x2)):=
 let v3:Int:=nC x0 x1
 let v4:Int:=um x0 x1
 let v5:Bool:=og x2
 let v6:List dM:=(x0.drop (0)).take (((jy dM.enc x0):Int).toNat-0)
 let v7:List dM:=v6++[(dM.mk x1 x2)]
 let v8:List dM:=x0.set v4.toNat (dM.mk (x0.getD v4.toNat default).Key x2)
 let v9:List dM:=(v8.drop (0)).take (((jy dM.enc x0):Int).toNat-0)
 wV j_ dX dY e86 Ag (by kernel_rfl) [eL dM.enc x0,dI.av x1,dJ.av x2,eI v3,eI v4,eB v5,eL dM.enc v6,eL dM.enc v7,eL dM.enc v8,eL dM.enc v9] xn
  (wC (Ci x0 x1) <|
  wC (JG x0 x1) <|
  wC (JE x2) <|
  UY rfl <|
  asf (f:=dM.enc) [(dM.mk x1 x2)] rfl <|
  UY rfl <|
  adS (f:=dM.enc) rfl <|
  abk <|
  wT <|
  wT <|
  wSt (f:=dM.enc) (dM.mk (x0.getD v4.toNat default).Key x2) rfl <|
  UY rfl <|
  wn)
  ln
  (iC kP rfl rfl (iC kP rfl rfl (iC kP rfl rfl (iC kP rfl rfl (jZ rfl)))))
def R87 : jg:=
 let p0:Pc:=(aqy,false)::[]
 let p1:Pc:=((qL (V 3) (.li 0)),true)::p0
 let p2:Pc:=((qL (V 3) (.li 0)),false)::p0
 ⟨[(aqy,(.fA [alJ,(zI (V 2))])),((qL (V 3) (.li 0)),(.fA [(zL (V 0)),zz3])),((.lb true),(.fA [(zL (V 6)),zz3]))],
 [([],(.call 74 atj (zI (V 2)))),
 (p0,(.call 75 atj (zI (V 3)))),
 (p1,(.sub 18 (V 0) none (some (.li 0)) .nl)),
 (p1,(.KF 18 (V 0))),
 (p1,(.len2 0 (V 0))),
 (p2,(.sub 18 (V 0) none (some (.li 0)) .nl)),
 (p2,(.sub 18 (V 0) (some (.li 0)) (some (V 3)) (V 4))),
 (p2,(.KF 18 (V 4))),
 (p2,(.len2 0 (V 4))),
 (p2,(.sub 18 (V 0) (some (aI (V 3) (.li 1))) (some zz5) (V 5))),
 (p2,(.KF 18 (V 5))),
 (p2,(.ZR 18 (V 4) (V 5) (V 6)))],[]⟩
theorem e87 : kD Tryz.prog ig iq rZ (rY kA 87 [] []) 3 200 87 [zL (V 0),.agg (cV 1 dI.fH)] 2=some R87:=by kernel_rfl
theorem VQ (x0:List dM)(x1:dI):CT Tryz.prog sT 87 [eL dM.enc x0,dI.av x1] (kP (rV x0 x1)):=
 let v2:Int:=nC x0 x1
 let v3:Int:=um x0 x1
 let v4:List dM:=(x0.drop ((0:Int).toNat)).take (v3.toNat-(0:Int).toNat)
 let v5:List dM:=(x0.drop (((dZ .i64 v3 1):Int).toNat)).take (((jy dM.enc x0):Int).toNat-((dZ .i64 v3 1):Int).toNat)
 let v6:List dM:=v4++v5
 wV j_ dX dY e87 Ag (by kernel_rfl) [eL dM.enc x0,dI.av x1,eI v2,eI v3,eL dM.enc v4,eL dM.enc v5,eL dM.enc v6] xn
  (wC (Ci x0 x1) <|
  wC (JG x0 x1) <|
  UY rfl <|
  adS (f:=dM.enc) rfl <|
  abk <|
  UY rfl <|
  UY rfl <|
  adS (f:=dM.enc) rfl <|
  abk <|
  UY rfl <|
  adS (f:=dM.enc) rfl <|
  ash (f:=dM.enc) (l:=v4) (q:=v5) rfl rfl <|
  wn)
  ln
  (iC kP rfl rfl (iC kP rfl rfl (jZ rfl)))
def ava : jg:=
 ⟨[((W 1 1),(.fA [zz3,(zI (W 1 0))])),(aqT,(.fA [(zI (.li 2)),zz3])),((.lb true),(.fA [(zI (.li 1)),zz3]))],
 [([],(.call 118 [(.agg [(zS (W 0 0)),(zI (W 0 1))])] (.fA [(zI (W 1 0)),(zB (W 1 1))])))],[]⟩
theorem e108 : kD Tryz.prog ig iq rZ (rY kA 108 [] []) 3 200 108 [.agg (cV 0 dI.fH)] 1=some ava:=by kernel_rfl
theorem pY (x0:dI):CT Tryz.prog sT 108 [dI.av x0] (kV (eP x0)):=
 let v1:Int×Bool:=uO x0
 wV j_ dX dY e108 Ag (by kernel_rfl) [dI.av x0,pO v1] xn
  (wC (GL x0)<|wn)
  ln
  (iC kV rfl rfl (iC kV rfl rfl (jZ rfl)))
def abP : Lo:=
 let p0:Pc:=((qL (V 3) (V 2)),true)::[]
 let p1:Pc:=((qG (V 5) (V 1)),true)::p0
 let p2:Pc:=(axq,false)::p0
 let p3:Pc:=((qG (V 5) (V 1)),true)::p2
 .mk [((qL (V 3) (V 2)),true)] 5 2 [(zI (V 3)),(zL (V 4))] [(axq,1,[(zI (V 5)),(zL (V 6))]),((.not (qG (V 5) (V 1))),1,[(zI (V 5)),(zL (V 6))]),((.lb true),0,[(zI arT),(zL (V 14))])] [(p1,(.tm (qM (.li 0) (V 5)))),
 (p1,(.tm (qL (V 5) zz5))),
 (p1,(.rd (true,2) (V 6) (V 5) 0 (.agg atZ))),
 (p1,(.call 108 [(.agg atZ)] (.fA [(zI (W 8 0)),(zI (W 8 1))]))),
 (p1,(.tm (qM (.li 0) arT))),
 (p1,(.tm (qL arT zz5))),
 (p1,(.rd (true,2) (V 6) arT 0 (.agg [(zS (W 9 0)),(zI (W 9 1))]))),
 (p1,(.call 108 [(.agg [(zS (W 9 0)),(zI (W 9 1))])] (.fA [(zI (W 10 0)),(zI (W 10 1))]))),
 (p3,(.tm (qM (.li 0) (V 5)))),
 (p3,(.tm (qL (V 5) anY))),
 (p3,(.tm (qM (.li 0) arT))),
 (p3,(.tm (qL arT anY))),
 (p3,(.row (V 6) (V 5) [(zS (W 11 0)),(zI (W 11 1))])),
 (p3,(.row (V 6) arT asT)),
 (p3,(.st (V 6) (V 5) 0 asT (V 13))),
 (p3,(.st (V 13) arT 0 [(zS (W 11 0)),(zI (W 11 1))] (V 14))),
 (p3,(.tm (qE zz5 anY)))] [] [2] []
def abQ : LH:=.mk [(qM (V 5) (V 3)),(qE anY (.rlen (V 4)))] (mI (V 5) (V 1)) [((V 3),1),((V 1),(-1))] [] 0 [] [[(qE anY (.rlen (V 4)))]]
def lD (r:Int×List dI):Nat×List AV:=(0,[eI r.1,eL dI.enc r.2])
theorem oU (x0:List dI)(x1:Int)(x2:Int)(u3:Int)(u4:List dI):∀(n:Nat) (u5:Int) (u6:List dI),uP Tryz.prog sT abP abQ [eL dI.enc x0,eI x1,eI x2,eI u3,eL dI.enc u4] n [eI u5,eL dI.enc u6] (lD (gI x1 n u5 u6))
 |0,u5,u6=>l0
 |n+1,u5,u6=>
  let v7:dI:=u6.getD u5.toNat default
  let v8:Int×Int:=eP v7
  let v9:dI:=u6.getD ((iU .i64 u5 1):Int).toNat default
  let v10:Int×Int:=eP v9
  let v11:dI:=u6.getD u5.toNat default
  let v12:dI:=u6.getD ((iU .i64 u5 1):Int).toNat default
  let v13:List dI:=u6.set u5.toNat v12
  let v14:List dI:=v13.set ((iU .i64 u5 1):Int).toNat v11
  Og rfl [dI.av v7,kV v8,dI.av v9,kV v10,dI.av v11,dI.av v12,eL dI.enc v13,eL dI.enc v14] xn (wT <|
  wT <|
  Vu rfl <|
  wC (pY v7) <|
  wT <|
  wT <|
  Vu rfl <|
  wC (pY v9) <|
  wT <|
  wT <|
  wT <|
  wT <|
  wR rfl <|
  wR rfl <|
  wSt (f:=dI.enc) v12 rfl <|
  wSt (f:=dI.enc) v11 rfl <|
  wT <|
  wn) ln <|
   rc lD rx<|rc lD rx<|rl (rg (oU x0 x1 x2 u3 u4 n _ _))
def abR : Lo:=
 .mk [] 3 2 [(zI (aI (V 1) (.li 1))),(zL (V 0))] [((.not (qL (V 3) (V 2))),1,[(zL (V 4))]),((.lb true),0,[aq6,(zL (V 6))])] [] [abP] [1] []
def abS : LH:=.mk [(qM (aI (V 1) (.li 1)) (V 3)),(qE (.rlen (V 4)) zz5)] (mI (V 2) (V 3)) [((V 2),1)] [] 0 [abQ] [[(qE (.rlen (V 3)) zz5)]]
def oV (r:List dI):Nat×List AV:=(0,[eL dI.enc r])
theorem oW (x0:List dI)(x1:Int)(x2:Int):∀(n:Nat) (u3:Int) (u4:List dI),uP Tryz.prog sT abR abS [eL dI.enc x0,eI x1,eI x2] n [eI u3,eL dI.enc u4] (oV (fP x1 x2 n u3 u4))
 |0,u3,u4=>l0
 |n+1,u3,u4=>
  let r5:Int×List dI:=gI x1 ((u3-x1).toNat+1) u3 u4
  Og rfl [eI r5.1,eL dI.enc r5.2] xn wn (lc1 (oU x0 x1 x2 u3 u4 ((u3-x1).toNat+1) u3 u4) (hn:=(show ((1)*(u3)+((-1)*(x1)+(0)):Int)<_ by first|omega|(simp only [ay7];omega))) <|
  ln) <|
   rc oV rx<|rl (rg (oW x0 x1 x2 n _ _))
def aqz : jg:=
 ⟨[((.lb true),(.fA [(.fA []),(zL (V 3))]))],
 [],[abR]⟩
def aqA : LH:=.mk [] (.li 0) [] [] 0 [abS] []
theorem aqB : NU Tryz.prog ig iq rZ (rY kA 145 [7,6,25,21,22,24,23,20] [(0,(.mk [1,2,3] (.mk [(6,(.sc kI))] [] [(2,2)] 8) [(.normal,(.mk [] [] [(2,2)] 8))])),(2,(.mk [1,2,3,6] (.mk [(7,(.sc kI))] [] [(2,2)] 13) [(.normal,(.mk [(7,(.sc kI))] [] [(2,2)] 13))]))]) 3 200 145 [zz1,(zI (V 1)),(zI (V 2))] 3 [(3,(.rows 1 [alE])),(2,(.fO 2 (V 0)))] [(2,2)] 4=some aqz:=by kernel_rfl
theorem qg (x0:List dI)(x1:Int)(x2:Int){L:Nat}(hL:L=(List.map dI.enc x0).length):CTw Tryz.prog sT 145 [(.agg [(.fn (.func 107) [] [(.op 3 1 0 0)]),(.fn (.func 144) [] [(.os 2 2 0 L),(.p (Cv.val (.at 1 29)))])]),(.p (.int .i64 x1)),(.p (.int .i64 x2))] [(3,.rows 1 [[(.os 2 2 0 L)]]),(2,.rows 2 (List.map dI.enc x0))] 4 (.fA []) [(3,.rows 1 [[(.os 2 2 0 L)]]),(2,.rows 2 (List.map dI.enc (gJ x0 x1 x2)))]:=by subst hL;exact (
 let r3:List dI:=fP x1 x2 (x2.toNat+1) (dZ .i64 x1 1) x0
 mkW (cs:=[eL dI.enc (gJ x0 x1 x2)]) j_ dX dY aqB aqA (by kernel_rfl) [eL dI.enc x0,eI x1,eI x2,eL dI.enc r3] xn
  wn
  (lc1 (oW x0 x1 x2 (x2.toNat+1) (dZ .i64 x1 1) x0) <|
  ln)
  (jZ rfl))
def abT : Lo:=
 let p0:Pc:=((qL (V 4) (V 3)),true)::[]
 .mk [] 4 2 [zz3,(zL (V 0))] [((.not (qL (V 4) (V 3))),1,[(zL (V 5))]),((.lb true),0,[(zI (aI (V 4) (.li 1))),(zL (V 9))])] [(p0,(.tm (qM (.li 0) (aI (V 1) (V 4))))),
 (p0,(.tm (qL (aI (V 1) (V 4)) (.rlen (V 5))))),
 (p0,(.tm (qM (.li 0) (aI (V 2) (V 4))))),
 (p0,(.tm (qL (aI (V 2) (V 4)) (.rlen (V 5))))),
 (p0,(.row (V 5) (aI (V 1) (V 4)) avq)),
 (p0,(.row (V 5) (aI (V 2) (V 4)) atZ)),
 (p0,(.st (V 5) (aI (V 1) (V 4)) 0 atZ (V 8))),
 (p0,(.st (V 8) (aI (V 2) (V 4)) 0 avq (V 9))),
 (p0,(.tm (qE zz5 (.rlen (V 5)))))] [] [1] []
def abU : LH:=.mk [(qE (.rlen (V 5)) zz5),arK] (mI (V 3) (V 4)) [((V 3),1)] [] 0 [] [[(qE (.rlen (V 4)) zz5)]]
def qQ (r:List dI):Nat×List AV:=(0,[eL dI.enc r])
theorem qR (x0:List dI)(x1:Int)(x2:Int)(x3:Int):∀(n:Nat) (u4:Int) (u5:List dI),uP Tryz.prog sT abT abU [eL dI.enc x0,eI x1,eI x2,eI x3] n [eI u4,eL dI.enc u5] (qQ (iG x1 x2 x3 n u4 u5))
 |0,u4,u5=>l0
 |n+1,u4,u5=>
  let v6:dI:=u5.getD ((dZ .i64 x1 u4):Int).toNat default
  let v7:dI:=u5.getD ((dZ .i64 x2 u4):Int).toNat default
  let v8:List dI:=u5.set ((dZ .i64 x1 u4):Int).toNat v7
  let v9:List dI:=v8.set ((dZ .i64 x2 u4):Int).toNat v6
  Og rfl [dI.av v6,dI.av v7,eL dI.enc v8,eL dI.enc v9] xn (wT <|
  wT <|
  wT <|
  wT <|
  wR rfl <|
  wR rfl <|
  wSt (f:=dI.enc) v7 rfl <|
  wSt (f:=dI.enc) v6 rfl <|
  wT <|
  wn) ln <|
   rc qQ rx<|rl (rg (qR x0 x1 x2 x3 n _ _))
def aqC : jg:=
 ⟨[((.lb true),(.fA [(.fA []),(zL (V 4))]))],
 [],[abT]⟩
def aqD : LH:=.mk [] (.li 0) [] [] 0 [abU] []
theorem aqE : NU Tryz.prog ig iq rZ (rY kA 161 [8] [(0,(.mk [1,2,3,4] (.mk [(8,(.sc kI))] [] [(2,2)] 6) [(.normal,(.mk [] [] [(2,2)] 6))]))]) 3 200 161 avu 4 [(3,(.rows 1 [alE])),(2,(.fO 2 (V 0)))] [(2,2)] 4=some aqC:=by kernel_rfl
theorem nM (x0:List dI)(x1:Int)(x2:Int)(x3:Int){L:Nat}(hL:L=(List.map dI.enc x0).length):CTw Tryz.prog sT 161 [(.agg [(.fn (.func 107) [] [(.op 3 1 0 0)]),(.fn (.func 144) [] [(.os 2 2 0 L),(.p (Cv.val (.at 1 29)))])]),(.p (.int .i64 x1)),(.p (.int .i64 x2)),(.p (.int .i64 x3))] [(3,.rows 1 [[(.os 2 2 0 L)]]),(2,.rows 2 (List.map dI.enc x0))] 4 (.fA []) [(3,.rows 1 [[(.os 2 2 0 L)]]),(2,.rows 2 (List.map dI.enc (fG x0 x1 x2 x3)))]:=by subst hL;exact (
 let r4:List dI:=iG x1 x2 x3 (x3.toNat+1) 0 x0
 mkW (cs:=[eL dI.enc (fG x0 x1 x2 x3)]) j_ dX dY aqE aqD (by kernel_rfl) [eL dI.enc x0,eI x1,eI x2,eI x3,eL dI.enc r4] xn
  wn
  (lc1 (qR x0 x1 x2 x3 (x3.toNat+1) 0 x0) <|
  ln)
  (jZ rfl))
def abV : Lo:=
 let p0:Pc:=((qN (V 4) (V 5)),true)::[]
 let p1:Pc:=((qG (V 4) (V 5)),true)::p0
 let p2:Pc:=((qG (V 4) (V 5)),false)::p0
 .mk [] 4 3 [(zI (mI (V 2) (V 1))),(zI (mI (V 3) (V 2))),(zL (V 0))] [((.not (qN (V 4) (V 5))),1,[(zI (V 4)),(zL (V 6))]),((qG (V 4) (V 5)),0,[(zI (mI (V 4) (V 5))),(zI (V 5)),(zL (V 7))]),((.lb true),0,[(zI (V 4)),(zI (mI (V 5) (V 4))),(zL (V 9))])] [(p1,(.pJ 161 [zz1,(zI (mI (V 2) (V 4))),(zI (V 2)),(zI (V 5))] [(3,(.rows 1 [alE])),(2,(.fO 2 (V 6)))] 4 (.fA []) [(3,(.rows 1 [alE])),(2,(.fO 2 (V 7)))])),
 (p2,(.pJ 161 [zz1,(zI (mI (V 2) (V 4))),(zI (mI (aI (V 2) (V 5)) (V 4))),(zI (V 4))] [(3,(.rows 1 [alE])),(2,(.fO 2 (V 6)))] 4 (.fA []) [(3,(.rows 1 [alE])),(2,(.fO 2 (V 9)))]))] [] [2] []
def abW : LH:=.mk [(qL (.li 0) (V 4)),(qL (.li 0) (V 5)),(qM (V 4) (mI (V 2) (V 1))),(qM (V 5) (mI (V 3) (V 2))),(qE anY zz5)] (aI (V 4) (V 5)) [((V 3),1),((V 1),(-1))] [] 0 [] [[arK,(qM (V 4) (mI (V 2) (V 1))),(qM (V 4) (mI (V 3) (V 2))),(qE (.rlen (V 5)) zz5)]]
def nU (r:Int×List dI):Nat×List AV:=(0,[eI r.1,eL dI.enc r.2])
theorem nV (x0:List dI)(x1:Int)(x2:Int)(x3:Int):∀(n:Nat) (u4:Int) (u5:Int) (u6:List dI),uP Tryz.prog sT abV abW [eL dI.enc x0,eI x1,eI x2,eI x3] n [eI u4,eI u5,eL dI.enc u6] (nU (gX x2 n u4 u5 u6))
 |0,u4,u5,u6=>l0
 |n+1,u4,u5,u6=>
  let w7:List dI:=fG u6 (iU .i64 x2 u4) x2 u5
  let v7:List dI:=w7
  let w9:List dI:=fG u6 (iU .i64 x2 u4) (iU .i64 (dZ .i64 x2 u5) u4) u4
  let v9:List dI:=w9
  Og rfl [eL dI.enc v7,eX,eL dI.enc v9,eX] xn (wWL (fun hL=>nM u6 (iU .i64 x2 u4) x2 u5 hL) <|
  wWL (fun hL=>nM u6 (iU .i64 x2 u4) (iU .i64 (dZ .i64 x2 u5) u4) u4 hL) <|
  wn) ln <|
   rc nU rx<|rc nU (rg (nV x0 x1 x2 x3 n _ _ _))<|rl (rg (nV x0 x1 x2 x3 n _ _ _))
def aqF : jg:=
 ⟨[((.lb true),(.fA [(.fA []),(zL (V 6))]))],
 [([],(.pJ 161 [zz1,(zI (mI (V 2) (V 4))),(zI (V 2)),(zI (V 4))] [(3,(.rows 1 [alE])),(2,(.fO 2 (V 5)))] 4 (.fA []) [(3,(.rows 1 [alE])),(2,(.fO 2 (V 6)))]))],[abV]⟩
def aqG : LH:=.mk [] (.li 0) [] [] 0 [abW] []
theorem aqH : NU Tryz.prog ig iq rZ (rY kA 157 [1,2,3,4,8,9,18,21] [(0,(.mk [2,4] (.mk [(8,(.sc kI)),(9,(.sc kI))] [] [(2,2)] 13) [(.normal,(.mk [(8,(.sc kI))] [] [(2,2)] 13))]))]) 3 200 157 avu 4 [(3,(.rows 1 [alE])),(2,(.fO 2 (V 0)))] [(2,2)] 4=some aqF:=by kernel_rfl
theorem CP (x0:List dI)(x1:Int)(x2:Int)(x3:Int){L:Nat}(hL:L=(List.map dI.enc x0).length):CTw Tryz.prog sT 157 [(.agg [(.fn (.func 107) [] [(.op 3 1 0 0)]),(.fn (.func 144) [] [(.os 2 2 0 L),(.p (Cv.val (.at 1 29)))])]),(.p (.int .i64 x1)),(.p (.int .i64 x2)),(.p (.int .i64 x3))] [(3,.rows 1 [[(.os 2 2 0 L)]]),(2,.rows 2 (List.map dI.enc x0))] 4 (.fA []) [(3,.rows 1 [[(.os 2 2 0 L)]]),(2,.rows 2 (List.map dI.enc (jd x0 x1 x2 x3)))]:=by subst hL;exact (
 let r4:Int×List dI:=gX x2 ((x3-x1).toNat+1) (iU .i64 x2 x1) (iU .i64 x3 x2) x0
 let w6:List dI:=fG r4.2 (iU .i64 x2 r4.1) x2 r4.1
 let v6:List dI:=w6
 mkW (cs:=[eL dI.enc (jd x0 x1 x2 x3)]) j_ dX dY aqH aqG (by kernel_rfl) [eL dI.enc x0,eI x1,eI x2,eI x3,eI r4.1,eL dI.enc r4.2,eL dI.enc v6,eX] xn
  (wWL (fun hL=>nM r4.2 (iU .i64 x2 r4.1) x2 r4.1 hL)<|wn)
  (lc1 (nV x0 x1 x2 x3 ((x3-x1).toNat+1) (iU .i64 x2 x1) (iU .i64 x3 x2) x0) (hn:=(show ((1)*(x3)+((-1)*(x1)+(0)):Int)<_ by first|omega|(simp only [ay7];omega))) <|
  ln)
  (jZ rfl))
def abX : Lo:=
 let p0:Pc:=(aon,true)::[]
 let p1:Pc:=((qL (V 4) (V 5)),true)::p0
 .mk [(aon,true)] 4 2 [(zI (V 2)),(zI (V 3))] [((.not (qL (V 4) (V 5))),1,[(zI (V 4))]),((.lb true),0,[(zI (.ite awq (aI avd (.li 1)) (V 4))),(zI (.ite awq (V 5) avd))])] [(p1,(.tm (qM (.li 0) avd))),
 (p1,(.tm (qL avd zz5))),
 (p1,(.rd (true,2) (V 0) avd 0 (.agg avq))),
 (p1,(.call 108 [(.agg avq)] (.fA [(zI (W 7 0)),(zI (W 7 1))]))),
 (p1,(.tm (qM (.li 0) (V 1)))),
 (p1,(.tm (qL (V 1) zz5))),
 (p1,(.rd (true,2) (V 0) (V 1) 0 (.agg at1))),
 (p1,(.call 108 [(.agg at1)] (.fA [(zI (W 9 0)),(zI (W 9 1))])))] [] [1] []
def abY : LH:=.mk [(qM (V 2) (V 4)),(qM (V 4) (V 5)),(qM (V 5) (V 3)),arK] (mI (V 5) (V 4)) [((V 3),1),((V 2),(-1))] [] 0 [] [[(qM (V 2) (V 4)),(qM (V 4) (V 3))]]
def ru (r:Int):Nat×List AV:=(0,[eI r])
theorem rC (x0:List dI)(x1:Int)(x2:Int)(x3:Int):∀(n:Nat) (u4:Int) (u5:Int),uP Tryz.prog sT abX abY [eL dI.enc x0,eI x1,eI x2,eI x3] n [eI u4,eI u5] (ru (gZ x0 x1 n u4 u5))
 |0,u4,u5=>l0
 |n+1,u4,u5=>
  let v6:dI:=x0.getD ((IntKind.wrap .i64 (jf .u64 (IntKind.wrap .u64 (dZ .i64 u4 u5)) 1)):Int).toNat default
  let v7:Int×Int:=eP v6
  let v8:dI:=x0.getD x1.toNat default
  let v9:Int×Int:=eP v8
  Og rfl [dI.av v6,kV v7,dI.av v8,kV v9] xn (wT <|
  wT <|
  Vu rfl <|
  wC (pY v6) <|
  wT <|
  wT <|
  Vu rfl <|
  wC (pY v8) <|
  wn) ln <|
   rc ru rx<|rl (rg (rC x0 x1 x2 x3 n _ _))
def abZ : Lo:=
 let p0:Pc:=(aon,true)::[]
 let p1:Pc:=((qL (V 5) (mI (V 4) (.li 1))),true)::p0
 .mk [(aon,true)] 5 2 [(zI (V 1)),(zL (V 0))] [((.not (qL (V 5) (mI (V 4) (.li 1)))),1,[(zL (V 6))]),((.lb true),0,[(zI avp),(zL (V 10))])] [(p1,(.tm (qM (.li 0) (V 5)))),
 (p1,(.tm (qL (V 5) anY))),
 (p1,(.tm (qM (.li 0) avp))),
 (p1,(.tm (qL avp anY))),
 (p1,(.row (V 6) (V 5) atZ)),
 (p1,(.row (V 6) avp at1)),
 (p1,(.st (V 6) (V 5) 0 at1 (V 9))),
 (p1,(.st (V 9) avp 0 atZ (V 10))),
 (p1,(.tm (qE zz5 anY)))] [] [1] []
def ab1 : LH:=.mk [(qM (V 1) (V 5)),(qE anY zz5)] (mI (mI (V 4) (.li 1)) (V 5)) [((mI (V 4) (.li 1)),1)] [] 0 [] [[(qE (.rlen (V 5)) zz5)]]
def rD (r:List dI):Nat×List AV:=(0,[eL dI.enc r])
theorem rE (x0:List dI)(x1:Int)(x2:Int)(x3:Int)(r4:Int):∀(n:Nat) (u5:Int) (u6:List dI),uP Tryz.prog sT abZ ab1 [eL dI.enc x0,eI x1,eI x2,eI x3,eI r4] n [eI u5,eL dI.enc u6] (rD (g_ r4 n u5 u6))
 |0,u5,u6=>l0
 |n+1,u5,u6=>
  let v7:dI:=u6.getD u5.toNat default
  let v8:dI:=u6.getD ((dZ .i64 u5 1):Int).toNat default
  let v9:List dI:=u6.set u5.toNat v8
  let v10:List dI:=v9.set ((dZ .i64 u5 1):Int).toNat v7
  Og rfl [dI.av v7,dI.av v8,eL dI.enc v9,eL dI.enc v10] xn (wT <|
  wT <|
  wT <|
  wT <|
  wR rfl <|
  wR rfl <|
  wSt (f:=dI.enc) v8 rfl <|
  wSt (f:=dI.enc) v7 rfl <|
  wT <|
  wn) ln <|
   rc rD rx<|rl (rg (rE x0 x1 x2 x3 r4 n _ _))
def ab2 : Lo:=
 let p0:Pc:=(aon,false)::[]
 let p1:Pc:=(aq5,true)::p0
 let p2:Pc:=((qL (V 6) (V 7)),true)::p1
 .mk [(aq5,true),(aon,false)] 6 2 [(zI (V 1)),(zI (V 2))] [((.not (qL (V 6) (V 7))),1,[(zI (V 6))]),((.lb true),0,[(zI (.ite awo (V 6) (aI avg (.li 1)))),(zI (.ite awo avg (V 7)))])] [(p2,(.tm (qM (.li 0) (V 2)))),
 (p2,(.tm (qL (V 2) zz5))),
 (p2,(.rd (true,2) (V 0) (V 2) 0 (.agg at1))),
 (p2,(.call 108 [(.agg at1)] (.fA [(zI (W 9 0)),(zI (W 9 1))]))),
 (p2,(.tm (qM (.li 0) avg))),
 (p2,(.tm (qL avg zz5))),
 (p2,(.rd (true,2) (V 0) avg 0 (.agg atY))),
 (p2,(.call 108 [(.agg atY)] (.fA [(zI (W 11 0)),(zI (W 11 1))])))] [] [1] []
def ab3 : LH:=.mk [(qM (V 1) (V 6)),(qM (V 7) (V 2)),(qM (V 6) (V 2))] (mI (V 7) (V 6)) [((V 2),1),((V 1),(-1))] [] 0 [] [[(qM (V 6) (V 2)),(qM (V 1) (V 6))]]
def rF (r:Int):Nat×List AV:=(0,[eI r])
theorem rG (x0:List dI)(x1:Int)(x2:Int)(x3:Int)(r4:Int)(r5:List dI):∀(n:Nat) (u6:Int) (u7:Int),uP Tryz.prog sT ab2 ab3 [eL dI.enc x0,eI x1,eI x2,eI x3,eI r4,eL dI.enc r5] n [eI u6,eI u7] (rF (iK x0 x2 n u6 u7))
 |0,u6,u7=>l0
 |n+1,u6,u7=>
  let v8:dI:=x0.getD x2.toNat default
  let v9:Int×Int:=eP v8
  let v10:dI:=x0.getD ((IntKind.wrap .i64 (jf .u64 (IntKind.wrap .u64 (dZ .i64 u6 u7)) 1)):Int).toNat default
  let v11:Int×Int:=eP v10
  Og rfl [dI.av v8,kV v9,dI.av v10,kV v11] xn (wT <|
  wT <|
  Vu rfl <|
  wC (pY v8) <|
  wT <|
  wT <|
  Vu rfl <|
  wC (pY v10) <|
  wn) ln <|
   rc rF rx<|rl (rg (rG x0 x1 x2 x3 r4 r5 n _ _))
def ab4 : Lo:=
 let p0:Pc:=(aon,false)::[]
 let p1:Pc:=(aq5,true)::p0
 let p2:Pc:=((qG (V 7) (V 6)),true)::p1
 .mk [(aq5,true),(aon,false)] 7 2 [(zI (V 2)),(zL (V 0))] [((.not (qG (V 7) (V 6))),1,[(zL (V 8))]),((.lb true),0,[(zI (mI (V 7) (.li 1))),(zL (V 12))])] [(p2,(.tm (qM (.li 0) (V 7)))),
 (p2,(.tm (qL (V 7) (.rlen (V 8))))),
 (p2,(.tm (qM (.li 0) (mI (V 7) (.li 1))))),
 (p2,(.tm (qL (mI (V 7) (.li 1)) (.rlen (V 8))))),
 (p2,(.row (V 8) (V 7) [(zS (W 9 0)),(zI (W 9 1))])),
 (p2,(.row (V 8) (mI (V 7) (.li 1)) atY)),
 (p2,(.st (V 8) (V 7) 0 atY (V 11))),
 (p2,(.st (V 11) (mI (V 7) (.li 1)) 0 [(zS (W 9 0)),(zI (W 9 1))] (V 12))),
 (p2,(.tm (qE zz5 (.rlen (V 8)))))] [] [1] []
def ab5 : LH:=.mk [(qM (V 7) (V 2)),(qE (.rlen (V 8)) zz5)] (mI (V 7) (V 6)) [((V 2),1),((V 1),(-1))] [] 0 [] [[(qE (.rlen (V 7)) zz5)]]
def rH (r:List dI):Nat×List AV:=(0,[eL dI.enc r])
theorem rJ (x0:List dI)(x1:Int)(x2:Int)(x3:Int)(r4:Int)(r5:List dI)(r6:Int):∀(n:Nat) (u7:Int) (u8:List dI),uP Tryz.prog sT ab4 ab5 [eL dI.enc x0,eI x1,eI x2,eI x3,eI r4,eL dI.enc r5,eI r6] n [eI u7,eL dI.enc u8] (rH (h_ r6 n u7 u8))
 |0,u7,u8=>l0
 |n+1,u7,u8=>
  let v9:dI:=u8.getD u7.toNat default
  let v10:dI:=u8.getD ((iU .i64 u7 1):Int).toNat default
  let v11:List dI:=u8.set u7.toNat v10
  let v12:List dI:=v11.set ((iU .i64 u7 1):Int).toNat v9
  Og rfl [dI.av v9,dI.av v10,eL dI.enc v11,eL dI.enc v12] xn (wT <|
  wT <|
  wT <|
  wT <|
  wR rfl <|
  wR rfl <|
  wSt (f:=dI.enc) v10 rfl <|
  wSt (f:=dI.enc) v9 rfl <|
  wT <|
  wn) ln <|
   rc rH rx<|rl (rg (rJ x0 x1 x2 x3 r4 r5 r6 n _ _))
def ab6 : Lo:=
 let p0:Pc:=(aon,false)::[]
 let p1:Pc:=(aq5,false)::p0
 let p2:Pc:=((qL (V 8) (V 9)),true)::p1
 .mk [(aq5,false),(aon,false)] 8 2 [(zI (.ite (qG (V 2) zz0) (mI (aI zz0 (V 2)) (V 3)) (V 1))),(zI (.ite (qG (V 2) zz0) zz0 (V 2)))] [((.not (qL (V 8) (V 9))),1,[(zI (V 8))]),((.lb true),0,[(zI (.ite awm (V 8) (aI aq4 (.li 1)))),(zI (.ite awm aq4 (V 9)))])] [(p2,(.tm (qM (.li 0) (mI (mI (aI zz0 (V 2)) (.li 1)) aq4)))),
 (p2,(.tm (qL (mI (mI (aI zz0 (V 2)) (.li 1)) aq4) zz5))),
 (p2,(.rd (true,2) (V 0) (mI (mI (aI zz0 (V 2)) (.li 1)) aq4) 0 (.agg atY))),
 (p2,(.call 108 [(.agg atY)] (.fA [(zI (W 11 0)),(zI (W 11 1))]))),
 (p2,(.tm (qM (.li 0) aq4))),
 (p2,(.tm (qL aq4 zz5))),
 (p2,(.rd (true,2) (V 0) aq4 0 (.agg asT))),
 (p2,(.call 108 [(.agg asT)] (.fA [(zI (W 13 0)),(zI (W 13 1))])))] [] [1] []
def ab7 : LH:=.mk [(qM (V 1) (V 8)),(qM (V 9) (V 2)),(qM (V 9) zz0),(qM (mI (aI zz0 (V 2)) (V 3)) (V 8))] (mI (V 9) (V 8)) [((V 3),1),((V 1),(-1))] [] 0 [] [[(qM (.ite (qG (V 2) zz0) (mI (aI zz0 (V 2)) (V 3)) (V 1)) (V 8))]]
def rM (r:Int):Nat×List AV:=(0,[eI r])
theorem rO (x0:List dI)(x1:Int)(x2:Int)(x3:Int)(r4:Int)(r5:List dI)(r6:Int)(r7:List dI):∀(n:Nat) (u8:Int) (u9:Int),uP Tryz.prog sT ab6 ab7 [eL dI.enc x0,eI x1,eI x2,eI x3,eI r4,eL dI.enc r5,eI r6,eL dI.enc r7] n [eI u8,eI u9] (rM (jc x0 x1 x2 x3 n u8 u9))
 |0,u8,u9=>l0
 |n+1,u8,u9=>
  let v10:dI:=x0.getD ((iU .i64 (iU .i64 (dZ .i64 (IntKind.wrap .i64 (jf .u64 (IntKind.wrap .u64 (dZ .i64 x1 x3)) 1)) x2) 1) (IntKind.wrap .i64 (jf .u64 (IntKind.wrap .u64 (dZ .i64 u8 u9)) 1))):Int).toNat default
  let v11:Int×Int:=eP v10
  let v12:dI:=x0.getD ((IntKind.wrap .i64 (jf .u64 (IntKind.wrap .u64 (dZ .i64 u8 u9)) 1)):Int).toNat default
  let v13:Int×Int:=eP v12
  Og rfl [dI.av v10,kV v11,dI.av v12,kV v13] xn (wT <|
  wT <|
  Vu rfl <|
  wC (pY v10) <|
  wT <|
  wT <|
  Vu rfl <|
  wC (pY v12) <|
  wn) ln <|
   rc rM rx<|rl (rg (rO x0 x1 x2 x3 r4 r5 r6 r7 n _ _))
def aqI : jg:=
 let p0:Pc:=(aon,false)::[]
 let p1:Pc:=(aq5,false)::p0
 let p2:Pc:=((qL (V 2) aof),true)::p1
 let p3:Pc:=((qL (V 8) (V 2)),true)::p2
 let p4:Pc:=((qL (V 8) zz0),true)::p3
 let p5:Pc:=((qL (V 1) (V 8)),true)::p4
 let p6:Pc:=((qL aof (V 3)),true)::p5
 let p7:Pc:=((qL zz0 aof),true)::p6
 let p8:Pc:=(atm,false)::p3
 let p9:Pc:=((qL aof (V 3)),true)::p8
 let p10:Pc:=((qL zz0 aof),true)::p9
 let p11:Pc:=(avh,false)::p1
 let p12:Pc:=((qL (V 8) zz0),true)::p11
 let p13:Pc:=((qL (V 1) (V 8)),true)::p12
 let p14:Pc:=((qL aof (V 3)),true)::p13
 let p15:Pc:=((qL zz0 aof),true)::p14
 let p16:Pc:=(atm,false)::p11
 let p17:Pc:=((qL aof (V 3)),true)::p16
 let p18:Pc:=((qL zz0 aof),true)::p17
 ⟨[(aon,(.fA [(.fA []),(zL (V 5))])),(aq5,(.fA [(.fA []),(zL (V 7))])),((.and avh (.and atm av6)),(.fA [(.fA []),(zL (V 13))])),((.and avh atm),(.fA [(.fA []),(zL (V 11))])),((.and avh av6),(.fA [(.fA []),(zL (V 15))])),(avh,(.fA [(.fA []),(zL (V 9))])),((.and atm av6),(.fA [(.fA []),(zL (V 19))])),(atm,(.fA [(.fA []),(zL (V 17))])),(av6,(.fA [(.fA []),(zL (V 21))])),((.lb true),(.fA [(.fA []),(zL (V 0))]))],
 [(p3,(.pJ 157 [zz1,(zI (V 8)),(zI (V 2)),(zI aof)] [(3,(.rows 1 [alE])),(2,(.fO 2 (V 0)))] 4 (.fA []) [(3,(.rows 1 [alE])),(2,(.fO 2 (V 9)))])),
 (p5,(.pJ 146 [zz1,(zI (V 1)),(zI (V 8)),(zI zz0)] [(3,(.rows 1 [alE])),(2,(.fO 2 (V 9)))] 4 (.fA []) [(3,(.rows 1 [alE])),(2,(.fO 2 (V 11)))])),
 (p7,(.pJ 146 av3 [(3,(.rows 1 [alE])),(2,(.fO 2 (V 11)))] 4 (.fA []) [(3,(.rows 1 [alE])),(2,(.fO 2 (V 13)))])),
 (p10,(.pJ 146 av3 [(3,(.rows 1 [alE])),(2,(.fO 2 (V 9)))] 4 (.fA []) [(3,(.rows 1 [alE])),(2,(.fO 2 (V 15)))])),
 (p13,(.pJ 146 [zz1,(zI (V 1)),(zI (V 8)),(zI zz0)] [(3,(.rows 1 [alE])),(2,(.fO 2 (V 0)))] 4 (.fA []) [(3,(.rows 1 [alE])),(2,(.fO 2 (V 17)))])),
 (p15,(.pJ 146 av3 [(3,(.rows 1 [alE])),(2,(.fO 2 (V 17)))] 4 (.fA []) [(3,(.rows 1 [alE])),(2,(.fO 2 (V 19)))])),
 (p18,(.pJ 146 av3 [(3,(.rows 1 [alE])),(2,(.fO 2 (V 0)))] 4 (.fA []) [(3,(.rows 1 [alE])),(2,(.fO 2 (V 21)))]))],[abX,abZ,ab2,ab4,ab6]⟩
def aqJ : LH:=.mk [] (.li 0) [] [] 0 [abY,ab1,ab3,ab5,ab7] []
theorem aqK : NU Tryz.prog ig iq rZ (rY kA 146 [1,2,3,4,8,9,10,11,12,13,14,15,16,17,18,19,20,21,22,26,31,42,50,62,67,79,86,106,117,131,142,143,144,145,155,156,157,158,168,169,170,171] [(8,(.mk [1,2,3,4,16,17,20] (.mk [(18,(.sc kI)),(19,(.sc kI))] [] [] 38) [(.normal,(.mk [(18,(.sc kI))] [] [] 38))])),(6,(.mk [4,12] (.mk [(15,(.sc kI))] [] [(2,2)] 19) [(.normal,(.mk [] [] [(2,2)] 19))])),(4,(.mk [2,4] (.mk [(12,(.sc kI)),(13,(.sc kI))] [] [] 17) [(.normal,(.mk [(12,(.sc kI))] [] [] 17))])),(2,(.mk [4,8] (.mk [(11,(.sc kI))] [] [(2,2)] 15) [(.normal,(.mk [] [] [(2,2)] 15))])),(0,(.mk [1,4] (.mk [(8,(.sc kI)),(9,(.sc kI))] [] [] 13) [(.normal,(.mk [(8,(.sc kI))] [] [] 13))]))]) 3 200 146 avu 4 [(3,(.rows 1 [alE])),(2,(.fO 2 (V 0)))] [(2,2)] 4=some aqI:=by kernel_rfl
theorem iH : ∀(n:Nat) (x0:List dI) (x1:Int) (x2:Int) (x3:Int) {L:Nat},(x3-x1).toNat<n->L=(List.map dI.enc x0).length->CTw Tryz.prog sT 146 [(.agg [(.fn (.func 107) [] [(.op 3 1 0 0)]),(.fn (.func 144) [] [(.os 2 2 0 L),(.p (Cv.val (.at 1 29)))])]),(.p (.int .i64 x1)),(.p (.int .i64 x2)),(.p (.int .i64 x3))] [(3,.rows 1 [[(.os 2 2 0 L)]]),(2,.rows 2 (List.map dI.enc x0))] 4 (.fA []) [(3,.rows 1 [[(.os 2 2 0 L)]]),(2,.rows 2 (List.map dI.enc (dP n x0 x1 x2 x3)))]
 |0,x0,x1,x2,x3,L,hm,_=>absurd hm (Nat.not_lt_zero _)
 |n+1,x0,x1,x2,x3,L,hm,hL=>by subst hL;exact (fun hp=>(fun hd=>
 let r4:Int:=gZ x0 x1 ((x3-x2).toNat+1) x2 x3
 let r5:List dI:=g_ r4 (((iU .i64 r4 1):Int).toNat+1) x1 x0
 let r6:Int:=iK x0 x2 ((x2-x1).toNat+1) x1 x2
 let r7:List dI:=h_ r6 ((x2-x1).toNat+1) x2 x0
 let r8:Int:=jc x0 x1 x2 x3 ((x3-x1).toNat+1) (bif (decide (x2>(IntKind.wrap .i64 (jf .u64 (IntKind.wrap .u64 (dZ .i64 x1 x3)) 1)))) then (iU .i64 (dZ .i64 (IntKind.wrap .i64 (jf .u64 (IntKind.wrap .u64 (dZ .i64 x1 x3)) 1)) x2) x3) else x1) (bif (decide (x2>(IntKind.wrap .i64 (jf .u64 (IntKind.wrap .u64 (dZ .i64 x1 x3)) 1)))) then (IntKind.wrap .i64 (jf .u64 (IntKind.wrap .u64 (dZ .i64 x1 x3)) 1)) else x2)
 let w9:List dI:=jd x0 r8 x2 (iU .i64 (dZ .i64 (IntKind.wrap .i64 (jf .u64 (IntKind.wrap .u64 (dZ .i64 x1 x3)) 1)) x2) r8)
 let v9:List dI:=w9
 let w11:List dI:=dP n v9 x1 r8 (IntKind.wrap .i64 (jf .u64 (IntKind.wrap .u64 (dZ .i64 x1 x3)) 1))
 let v11:List dI:=w11
 let w13:List dI:=dP n v11 (IntKind.wrap .i64 (jf .u64 (IntKind.wrap .u64 (dZ .i64 x1 x3)) 1)) (iU .i64 (dZ .i64 (IntKind.wrap .i64 (jf .u64 (IntKind.wrap .u64 (dZ .i64 x1 x3)) 1)) x2) r8) x3
 let v13:List dI:=w13
 let w15:List dI:=dP n v9 (IntKind.wrap .i64 (jf .u64 (IntKind.wrap .u64 (dZ .i64 x1 x3)) 1)) (iU .i64 (dZ .i64 (IntKind.wrap .i64 (jf .u64 (IntKind.wrap .u64 (dZ .i64 x1 x3)) 1)) x2) r8) x3
 let v15:List dI:=w15
 let w17:List dI:=dP n x0 x1 r8 (IntKind.wrap .i64 (jf .u64 (IntKind.wrap .u64 (dZ .i64 x1 x3)) 1))
 let v17:List dI:=w17
 let w19:List dI:=dP n v17 (IntKind.wrap .i64 (jf .u64 (IntKind.wrap .u64 (dZ .i64 x1 x3)) 1)) (iU .i64 (dZ .i64 (IntKind.wrap .i64 (jf .u64 (IntKind.wrap .u64 (dZ .i64 x1 x3)) 1)) x2) r8) x3
 let v19:List dI:=w19
 let w21:List dI:=dP n x0 (IntKind.wrap .i64 (jf .u64 (IntKind.wrap .u64 (dZ .i64 x1 x3)) 1)) (iU .i64 (dZ .i64 (IntKind.wrap .i64 (jf .u64 (IntKind.wrap .u64 (dZ .i64 x1 x3)) 1)) x2) r8) x3
 let v21:List dI:=w21
 (mkW (cs:=[eL dI.enc (dP (n+1) x0 x1 x2 x3)]) j_ dX dY aqK aqJ (by kernel_rfl) [eL dI.enc x0,eI x1,eI x2,eI x3,eI r4,eL dI.enc r5,eI r6,eL dI.enc r7,eI r8,eL dI.enc v9,eX,eL dI.enc v11,eX,eL dI.enc v13,eX,eL dI.enc v15,eX,eL dI.enc v17,eX,eL dI.enc v19,eX,eL dI.enc v21,eX] xn
  (wWL (fun hL=>CP x0 r8 x2 (iU .i64 (dZ .i64 (IntKind.wrap .i64 (jf .u64 (IntKind.wrap .u64 (dZ .i64 x1 x3)) 1)) x2) r8) hL) <|
  wWL (fun hL=>iH n v9 x1 r8 (IntKind.wrap .i64 (jf .u64 (IntKind.wrap .u64 (dZ .i64 x1 x3)) 1)) hd.1 hL) <|
  wWL (fun hL=>iH n v11 (IntKind.wrap .i64 (jf .u64 (IntKind.wrap .u64 (dZ .i64 x1 x3)) 1)) (iU .i64 (dZ .i64 (IntKind.wrap .i64 (jf .u64 (IntKind.wrap .u64 (dZ .i64 x1 x3)) 1)) x2) r8) x3 hd.2 hL) <|
  wWL (fun hL=>iH n v9 (IntKind.wrap .i64 (jf .u64 (IntKind.wrap .u64 (dZ .i64 x1 x3)) 1)) (iU .i64 (dZ .i64 (IntKind.wrap .i64 (jf .u64 (IntKind.wrap .u64 (dZ .i64 x1 x3)) 1)) x2) r8) x3 hd.2 hL) <|
  wWL (fun hL=>iH n x0 x1 r8 (IntKind.wrap .i64 (jf .u64 (IntKind.wrap .u64 (dZ .i64 x1 x3)) 1)) hd.1 hL) <|
  wWL (fun hL=>iH n v17 (IntKind.wrap .i64 (jf .u64 (IntKind.wrap .u64 (dZ .i64 x1 x3)) 1)) (iU .i64 (dZ .i64 (IntKind.wrap .i64 (jf .u64 (IntKind.wrap .u64 (dZ .i64 x1 x3)) 1)) x2) r8) x3 hd.2 hL) <|
  wWL (fun hL=>iH n x0 (IntKind.wrap .i64 (jf .u64 (IntKind.wrap .u64 (dZ .i64 x1 x3)) 1)) (iU .i64 (dZ .i64 (IntKind.wrap .i64 (jf .u64 (IntKind.wrap .u64 (dZ .i64 x1 x3)) 1)) x2) r8) x3 hd.2 hL) <|
  wn)
  (lc1 (rC x0 x1 x2 x3 ((x3-x2).toNat+1) x2 x3) (hn:=(show ((1)*(x3)+((-1)*(x2)+(0)):Int)<_ by first|omega|(simp only [ay7];omega))) <|
  lc1 (rE x0 x1 x2 x3 r4 (((iU .i64 r4 1):Int).toNat+1) x1 x0) <|
  lc1 (rG x0 x1 x2 x3 r4 r5 ((x2-x1).toNat+1) x1 x2) (hn:=(show ((1)*(x2)+((-1)*(x1)+(0)):Int)<_ by first|omega|(simp only [ay7];omega))) <|
  lc1 (rJ x0 x1 x2 x3 r4 r5 r6 ((x2-x1).toNat+1) x2 x0) (hn:=(show ((1)*(x2)+((-1)*(x1)+(0)):Int)<_ by first|omega|(simp only [ay7];omega))) <|
  lc1 (rO x0 x1 x2 x3 r4 r5 r6 r7 ((x3-x1).toNat+1) (bif (decide (x2>(IntKind.wrap .i64 (jf .u64 (IntKind.wrap .u64 (dZ .i64 x1 x3)) 1)))) then (iU .i64 (dZ .i64 (IntKind.wrap .i64 (jf .u64 (IntKind.wrap .u64 (dZ .i64 x1 x3)) 1)) x2) x3) else x1) (bif (decide (x2>(IntKind.wrap .i64 (jf .u64 (IntKind.wrap .u64 (dZ .i64 x1 x3)) 1)))) then (IntKind.wrap .i64 (jf .u64 (IntKind.wrap .u64 (dZ .i64 x1 x3)) 1)) else x2)) (hn:=(show ((1)*(x3)+((-1)*(x1)+(0)):Int)<_ by first|omega|(simp only [ay7];omega))) <|
  ln)
  (iC (fun r=>.fA [.fA [],.sl (List.map dI.enc r) false]) rfl rfl (iC (fun r=>.fA [.fA [],.sl (List.map dI.enc r) false]) rfl rfl (iC (fun r=>.fA [.fA [],.sl (List.map dI.enc r) false]) rfl rfl (iC (fun r=>.fA [.fA [],.sl (List.map dI.enc r) false]) rfl rfl (iC (fun r=>.fA [.fA [],.sl (List.map dI.enc r) false]) rfl rfl (iC (fun r=>.fA [.fA [],.sl (List.map dI.enc r) false]) rfl rfl (iC (fun r=>.fA [.fA [],.sl (List.map dI.enc r) false]) rfl rfl (iC (fun r=>.fA [.fA [],.sl (List.map dI.enc r) false]) rfl rfl (iC (fun r=>.fA [.fA [],.sl (List.map dI.enc r) false]) rfl rfl (jZ rfl))))))))))) hp) (aqj (of_decide_eq_true hp.1) (of_decide_eq_true hp.2.1) (of_decide_eq_true hp.2.2.1) (of_decide_eq_true hp.2.2.2.1) hm))
def ab8 : Lo:=
 let p0:Pc:=((qM (V 3) (V 1)),true)::[]
 .mk [] 2 3 [zz3,(zI (.li 20)),(zL (V 0))] [((.not (qM (V 3) (V 1))),1,[(zI (V 2)),(zI (V 3)),(zL (V 4))]),((.lb true),0,[(zI (V 3)),(zI (aI (V 3) (.li 20))),(zL (V 5))])] [(p0,(.pJ 145 [zz1,(zI (V 2)),(zI (V 3))] [(3,(.rows 1 [alE])),(2,(.fO 2 (V 4)))] 4 (.fA []) [(3,(.rows 1 [alE])),(2,(.fO 2 (V 5)))]))] [] [3] []
def ab9 : LH:=.mk [(qM (.li 0) (V 2)),(qE (V 3) (aI (V 2) (.li 20))),(qE (.rlen (V 4)) zz5),(qM (V 2) (V 1))] (mI (V 1) (V 2)) [((V 1),1),((.li 20),1)] [] 0 [] [[(qM (.li 0) (V 2)),(qM (V 2) (.rlen (V 4))),(qE (.rlen (V 4)) zz5)]]
def tC (r:Int×Int×List dI):Nat×List AV:=(0,[eI r.1,eI r.2.1,eL dI.enc r.2.2])
theorem tH (x0:List dI)(x1:Int):∀(n:Nat) (u2:Int) (u3:Int) (u4:List dI),uP Tryz.prog sT ab8 ab9 [eL dI.enc x0,eI x1] n [eI u2,eI u3,eL dI.enc u4] (tC (gY x1 n u2 u3 u4))
 |0,u2,u3,u4=>l0
 |n+1,u2,u3,u4=>
  let w5:List dI:=gJ u4 u2 u3
  let v5:List dI:=w5
  Og rfl [eL dI.enc v5,eX] xn (wWL (fun hL=>qg u4 u2 u3 hL)<|wn) ln <|
   rc tC rx<|rl (rg (tH x0 x1 n _ _ _))
def XK : Lo:=
 let p0:Pc:=((qL (V 7) (V 1)),true)::[]
 let p1:Pc:=((qM (V 12) (V 1)),true)::p0
 .mk [((qL (V 7) (V 1)),true)] 11 3 [zz3,(zI (.bin .mul kI (.li 2) (V 7))),(zL (V 10))] [((.not (qM (V 12) (V 1))),1,[(zI (V 11)),(zI (V 12)),(zL (V 13))]),((.lb true),0,[(zI (V 12)),(zI (aI (V 12) (.bin .mul kI (.li 2) (V 7)))),(zL (V 14))])] [(p1,(.pJ 146 [zz1,(zI (V 11)),(zI (aI (V 11) (V 7))),(zI (V 12))] [(3,(.rows 1 [alE])),(2,(.fO 2 (V 13)))] 4 (.fA []) [(3,(.rows 1 [alE])),(2,(.fO 2 (V 14)))]))] [] [3] []
def XL : LH:=.mk [(qM (.li 0) (V 11)),(qE (V 12) (aI (V 11) (.bin .mul kI (.li 2) (V 7)))),(qM (V 11) (.rlen (V 13))),(qE (.rlen (V 13)) (.rlen (V 10)))] (mI (V 1) (V 11)) [((V 1),1),((V 7),2)] [] 0 [] [[(qM (.li 0) (V 11)),(qM (V 11) (.rlen (V 13))),(qE (.rlen (V 13)) (.rlen (V 10)))]]
def sF (r:Int×Int×List dI):Nat×List AV:=(0,[eI r.1,eI r.2.1,eL dI.enc r.2.2])
theorem sG (x0:List dI)(x1:Int)(r2:Int×Int×List dI)(v5:List dI)(u7:Int)(u8:Int)(u9:Int)(u10:List dI):∀(n:Nat) (u11:Int) (u12:Int) (u13:List dI),uP Tryz.prog sT XK XL [eL dI.enc x0,eI x1,eI r2.1,eI r2.2.1,eL dI.enc r2.2.2,eL dI.enc v5,eX,eI u7,eI u8,eI u9,eL dI.enc u10] n [eI u11,eI u12,eL dI.enc u13] (sF (fJ x1 u7 n u11 u12 u13))
 |0,u11,u12,u13=>l0
 |n+1,u11,u12,u13=>
  let w14:List dI:=dP ((u12-u11).toNat+1) u13 u11 (dZ .i64 u11 u7) u12
  let v14:List dI:=w14
  Og rfl [eL dI.enc v14,eX] xn (wWL (fun hL=>iH ((u12-u11).toNat+1) u13 u11 (dZ .i64 u11 u7) u12 (Nat.lt_succ_self _) hL)<|wn) ln <|
   rc sF rx<|rl (rg (sG x0 x1 r2 v5 u7 u8 u9 u10 n _ _ _))
def ab_ : Lo:=
 let p0:Pc:=((qL (V 7) (V 1)),true)::[]
 let p1:Pc:=((qL (aI (V 11) (V 7)) (V 1)),true)::p0
 .mk [] 7 4 [(zI (.li 20)),(zI (V 2)),(zI (V 3)),(zL (V 5))] [((.not (qL (V 7) (V 1))),1,[(zL (V 10))]),((qL (aI (V 11) (V 7)) (V 1)),0,[(zI (.bin .mul kI (V 7) (.li 2))),(zI (V 11)),(zI (V 12)),(zL (V 14))]),((.lb true),0,[(zI (.bin .mul kI (V 7) (.li 2))),(zI (V 11)),(zI (V 12)),(zL (V 13))])] [(p1,(.pJ 146 [zz1,(zI (V 11)),(zI (aI (V 11) (V 7))),(zI (V 1))] [(3,(.rows 1 [alE])),(2,(.fO 2 (V 13)))] 4 (.fA []) [(3,(.rows 1 [alE])),(2,(.fO 2 (V 14)))]))] [XK] [1] []
def acd : LH:=.mk [(qM (.li 20) (V 7)),(qE (.rlen (V 10)) zz5)] (mI (V 1) (V 7)) [((V 1),1)] [] 1 [XL] [[(qE (.rlen (V 7)) (.rlen (V 5)))]]
def nX (r:List dI):Nat×List AV:=(0,[eL dI.enc r])
theorem nY (x0:List dI)(x1:Int)(r2:Int×Int×List dI)(v5:List dI):∀(n:Nat) (u7:Int) (u8:Int) (u9:Int) (u10:List dI),uP Tryz.prog sT ab_ acd [eL dI.enc x0,eI x1,eI r2.1,eI r2.2.1,eL dI.enc r2.2.2,eL dI.enc v5,eX] n [eI u7,eI u8,eI u9,eL dI.enc u10] (nX (iJ x1 n u7 u8 u9 u10))
 |0,u7,u8,u9,u10=>l0
 |n+1,u7,u8,u9,u10=>
  let r11:Int×Int×List dI:=fJ x1 u7 ((x1+2*u7).toNat+1) 0 (OV .i64 2 u7) u10
  let w14:List dI:=dP ((x1-r11.1).toNat+1) r11.2.2 r11.1 (dZ .i64 r11.1 u7) x1
  let v14:List dI:=w14
  Og rfl [eI r11.1,eI r11.2.1,eL dI.enc r11.2.2,eL dI.enc v14,eX] xn (wWL (fun hL=>iH ((x1-r11.1).toNat+1) r11.2.2 r11.1 (dZ .i64 r11.1 u7) x1 (Nat.lt_succ_self _) hL)<|wn) (lc1 (sG x0 x1 r2 v5 u7 u8 u9 u10 ((x1+2*u7).toNat+1) 0 (OV .i64 2 u7) u10) (hn:=(show ((1)*(x1)+((2)*(u7)+(0)):Int)<_ by first|omega|(simp only [ay7];omega))) <|
  ln) <|
   rc nX rx<|rc nX (rg (nY x0 x1 r2 v5 n _ _ _ _))<|rl (rg (nY x0 x1 r2 v5 n _ _ _ _))
def aqL : jg:=
 ⟨[((.lb true),(.fA [(.fA []),(zL (V 7))]))],
 [([],(.pJ 145 [zz1,(zI (V 2)),(zI (V 1))] [(3,(.rows 1 [alE])),(2,(.fO 2 (V 4)))] 4 (.fA []) [(3,(.rows 1 [alE])),(2,(.fO 2 (V 5)))]))],[ab8,ab_]⟩
def aqM : LH:=.mk [] (.li 0) [] [] 0 [ab9,acd] []
theorem aqN : NU Tryz.prog ig iq rZ (rY kA 127 [1,2,4,5,6,7,11,26,31,49] [(2,(.mk [1,2] (.mk [(4,(.sc kI)),(5,(.sc kI)),(6,(.sc kI))] [] [(2,2)] 12) [(.normal,(.mk [] [] [(2,2)] 12))])),(4,(.mk [1,2,4] (.mk [(5,(.sc kI)),(6,(.sc kI))] [] [(2,2)] 19) [(.normal,(.mk [(5,(.sc kI)),(6,(.sc kI))] [] [(2,2)] 19))])),(0,(.mk [1,2,4] (.mk [(5,(.sc kI)),(6,(.sc kI))] [] [(2,2)] 9) [(.normal,(.mk [(5,(.sc kI)),(6,(.sc kI))] [] [(2,2)] 9))]))]) 3 200 127 [zz1,(zI (V 1))] 2 [(3,(.rows 1 [alE])),(2,(.fO 2 (V 0)))] [(2,2)] 4=some aqL:=by kernel_rfl
theorem CQ (x0:List dI)(x1:Int){L:Nat}(hL:L=(List.map dI.enc x0).length):CTw Tryz.prog sT 127 [(.agg [(.fn (.func 107) [] [(.op 3 1 0 0)]),(.fn (.func 144) [] [(.os 2 2 0 L),(.p (Cv.val (.at 1 29)))])]),(.p (.int .i64 x1))] [(3,.rows 1 [[(.os 2 2 0 L)]]),(2,.rows 2 (List.map dI.enc x0))] 4 (.fA []) [(3,.rows 1 [[(.os 2 2 0 L)]]),(2,.rows 2 (List.map dI.enc (eY x0 x1)))]:=by subst hL;exact (
 let r2:Int×Int×List dI:=gY x1 (x1.toNat+21) 0 20 x0
 let w5:List dI:=gJ r2.2.2 r2.1 x1
 let v5:List dI:=w5
 let r7:List dI:=iJ x1 (x1.toNat+1) 20 r2.1 r2.2.1 v5
 mkW (cs:=[eL dI.enc (eY x0 x1)]) j_ dX dY aqN aqM (by kernel_rfl) [eL dI.enc x0,eI x1,eI r2.1,eI r2.2.1,eL dI.enc r2.2.2,eL dI.enc v5,eX,eL dI.enc r7] xn
  (wWL (fun hL=>qg r2.2.2 r2.1 x1 hL)<|wn)
  (lc1 (tH x0 x1 (x1.toNat+21) 0 20 x0) (hn:=(show ((1)*(x1)+((1)*(20)+(0)):Int)<_ by first|omega|(simp only [ay7];omega))) <|
  lc1 (nY x0 x1 r2 v5 (x1.toNat+1) 20 r2.1 r2.2.1 v5) <|
  ln)
  (jZ rfl))
def avb : jg:=
 let p0:Pc:=(asr,true)::[]
 let p1:Pc:=(asr,false)::[]
 let p2:Pc:=(asO,true)::p1
 let p3:Pc:=(asO,false)::p1
 let p4:Pc:=(asO,false)::[]
 let p5:Pc:=(asr,false)::p4
 ⟨[((.or asr asO),(zL (V 0))),((.lb true),(zL (V 1)))],
 [([],(.KF 2 (V 0))),
 ([],(.len2 0 (V 0))),
 ([],(.tm asP)),
 (p0,(.tm asP)),
 (p2,(.tm asP)),
 (p3,(.tm asP)),
 (p3,(.pJ 127 [zz1,(zI zz5)] [(3,(.rows 1 [alE])),(2,(.fO 2 (V 0)))] 4 (.fA []) [(3,(.rows 1 [alE])),(2,(.fO 2 (V 1)))])),
 (p5,(.tm (qE zz5 aua)))],[]⟩
theorem avc : ady Tryz.prog ig iq rZ (rY kA 79 [] []) 3 200 79 [zL (V 0)] 1 [] 2=some avb:=by kernel_rfl
theorem Q7 (x0:List dI):CTo Tryz.prog sT 79 [eL dI.enc x0] (eL dI.enc (Jq x0)) [] 2:=
 let w1:List dI:=eY x0 (jy dI.enc x0)
 let v1:List dI:=w1
 let v3:List dI:=(v1.drop (0)).take (((jy dI.enc x0):Int).toNat-0)
 mkO j_ dX dY avc Ag (by kernel_rfl) [eL dI.enc x0,eL dI.enc v1,eX,eL dI.enc v3] xn
  (adS (f:=dI.enc) rfl <|
  abk <|
  wT <|
  wT <|
  wT <|
  wT <|
  wWL (fun hL=>CQ x0 (jy dI.enc x0) hL) <|
  wT <|
  wn)
  ln
  (iC (fun r=>.sl (List.map dI.enc r) false) rfl rfl (jZ rfl))
theorem VR (x0:List dI):CTo Tryz.prog sT 79 [eL dI.enc x0] (eL dI.enc (qI x0)) [] 2:=
 aqd (fun hb=>
 have hb0:x0.length<=4294967296:=by have:=hb.1.1;simpa using this
 congrArg (eL dI.enc) (U0 x0 hb0)) (Q7 x0)
def aoO : Lo:=
 let p0:Pc:=(aqU,false)::[]
 let p1:Pc:=(arD,true)::p0
 .mk [(aqU,false)] 2 2 [(zL .nl),zz3] [((.not arD),1,[(zL (V 2))]),((.lb true),0,[(zL (V 5)),aq6])] [(p1,(.row (V 0) (V 3) (cV 4 dM.fH))),
 (p1,(.app 2 (V 2) [aq7] (V 5)))] [] [1] [(V 0)]
def aoP : LH:=.mk [(qE (.rlen (V 2)) (V 3))] (mI zz5 (V 3)) [(zz5,1)] [] 1 [] []
def Fh (r:List dI):Nat×List AV:=(0,[eL dI.enc r])
theorem Fj (x0:List dM)(v1:Int):∀(n:Nat) (u2:List dI) (u3:Int),uP Tryz.prog sT aoO aoP [eL dM.enc x0,eI v1] n [eL dI.enc u2,eI u3] (Fh (sO x0 n u2 u3))
 |0,u2,u3=>l0
 |n+1,u2,u3=>
  let v4:dM:=x0.getD u3.toNat default
  let v5:List dI:=u2++[v4.Key]
  Og rfl [dM.av v4,eL dI.enc v5] xn (wR rfl <|
  asf (f:=dI.enc) [v4.Key] rfl <|
  wn) ln <|
   rc Fh rx<|rl (rg (Fj x0 v1 n _ _))
def R40 : jg:=
 let p0:Pc:=(aqU,false)::[]
 ⟨[(aqU,(.fA [alJ,(zI (V 1))])),((.lb true),(.fA [(zL (V 3)),zz3]))],
 [([],(.call 78 [(zL (V 0))] (zI (V 1)))),
 (p0,(.KO 79 [(zL (V 2))] (zL (V 3)) [] 2 true))],[aoO]⟩
def H40 : LH:=.mk [] (.li 0) [] [] 0 [aoP] []
theorem e40 : kD Tryz.prog ig iq (mdW [79] rZ) (rY kA 40 [5,15] [(0,(.mk [2,3,13,14] (.mk [(5,(.os 11 2)),(15,(.sc kI))] [] [] 12) [(.normal,(.mk [(5,(.os 11 2))] [] [] 12))]))]) 3 200 40 [zL (V 0)] 1=some R40:=by kernel_rfl
theorem VT (x0:List dM):CT Tryz.prog sT 40 [eL dM.enc x0] (Az (kH x0)):=
 let v1:Int:=jA x0
 let r2:List dI:=sO x0 (x0.length+1) [] 0
 let v3:List dI:=qI r2
 wV j_ dX dY e40 H40 (by kernel_rfl) [eL dM.enc x0,eI v1,eL dI.enc r2,eL dI.enc v3] xn
  (wC (Cc x0) <|
  wOf (VR r2) rfl <|
  wn)
  (lc1 (Fj x0 v1 (x0.length+1) [] 0) <|
  ln)
  (iC Az rfl rfl (jZ rfl))
def R18 : jg:=
 let p0:Pc:=(aqy,false)::[]
 let p1:Pc:=((qN (V 3) (.li 0)),false)::p0
 let p2:Pc:=(aq2,true)::p1
 let p3:Pc:=(aq2,false)::p1
 let p4:Pc:=(anp,true)::p3
 let p5:Pc:=((V 7),true)::p4
 let p6:Pc:=((V 7),false)::p4
 let p7:Pc:=((.not (W 9 5)),false)::p6
 let p8:Pc:=((.or (.not (W 9 5)) (V 10)),true)::p6
 let p9:Pc:=((V 10),false)::p6
 let p10:Pc:=((W 9 5),true)::p9
 let p11:Pc:=(anp,false)::p3
 let p12:Pc:=(aq3,true)::p11
 let p13:Pc:=(aq3,false)::p11
 let p14:Pc:=(ao9,true)::p13
 let p15:Pc:=(ao9,false)::p13
 let p16:Pc:=(asv,true)::p15
 let p17:Pc:=(asv,false)::p15
 let p18:Pc:=(an2,true)::p17
 let p19:Pc:=((W 23 1),false)::p18
 let p20:Pc:=((W 23 1),true)::p18
 let p21:Pc:=((qN (W 26 1) (.li 0)),false)::p20
 let p22:Pc:=(an2,false)::p17
 let p23:Pc:=(aq0,true)::p22
 let p24:Pc:=((.var 30 [0,15]),false)::p23
 let p25:Pc:=((W 30 1),true)::p24
 let p26:Pc:=(avt,false)::p23
 let p27:Pc:=(aq0,false)::p22
 let p28:Pc:=((.and anp (V 7)),false)::p3
 let p29:Pc:=((.and anp (.or (.not (W 9 5)) (V 10))),false)::p28
 let p30:Pc:=(anp,true)::p29
 let p31:Pc:=(anp,false)::p29
 let p32:Pc:=(aq3,false)::p31
 let p33:Pc:=(ao9,true)::p32
 let p34:Pc:=(ao9,false)::p32
 let p35:Pc:=(asv,false)::p34
 let p36:Pc:=((.and an2 (.not (W 23 1))),false)::p35
 let p37:Pc:=((.and an2 (qN (W 26 1) (.li 0))),false)::p36
 let p38:Pc:=(an2,true)::p37
 let p39:Pc:=(an2,false)::p37
 let p40:Pc:=((.and aq0 avt),false)::p39
 let p41:Pc:=(aq0,true)::p40
 ⟨[(aqy,(.fA [(.agg [alJ]),awF,(zI (V 2))])),((qN (V 3) (.li 0)),(.fA [(.agg [alJ]),awF,(zI (V 3))])),(aq2,(.fA [aqe,(.agg [anT,(zU (W 5 1)),(zF (W 5 2)),(zS (W 5 3)),(zI (W 5 4)),zz2,zz2,zz6,zz6,zz7,zz4,zz3,zz6,zz7,zz4,zz3,zz6,zz7,zz4,zz3,zz2,zz2,zz2,alJ,zz6,zz4]),zz3])),((.and anp (V 7)),(.fA [aqe,(.agg (cV 8 gQ.fH)),zz3])),((.and anp (.or (.not (W 9 5)) (V 10))),(.fA [aqe,(.agg (cV 11 gQ.fH)),zz3])),(anp,(.fA [(.agg [(zL (V 38))]),(.agg (cV 13 gQ.fH)),zz3])),(aq3,(.fA [aqe,(.agg (cV 15 gQ.fH)),zz3])),(ao9,(.fA [(.agg [(zL (V 39))]),(.agg (cV 17 gQ.fH)),zz3])),(asv,(.fA [aqe,(.agg [anT,zz6,zz7,zz4,zz3,zz2,(zB (W 19 1)),(zU (.var 19 [0,0])),(zU (.var 19 [0,1])),(zF (.var 19 [0,2])),(zS (.var 19 [0,3])),(zI (.var 19 [0,4])),(zU (.var 19 [0,5])),(zF (.var 19 [0,6])),(zS (.var 19 [0,7])),(zI (.var 19 [0,8])),(zU (.var 19 [0,9])),(zF (.var 19 [0,10])),(zS (.var 19 [0,11])),(zI (.var 19 [0,12])),(zB (.var 19 [0,13])),(zB (.var 19 [0,14])),(zB (.var 19 [0,15])),alJ,zz6,zz4]),zz3])),((.and an2 (.not (W 23 1))),(.fA [aqe,(.agg (cV 24 gQ.fH)),zz3])),((.and an2 (qN (W 26 1) (.li 0))),(.fA [aqe,(.agg [(zU (.li 3)),zz6,zz7,zz4,zz3,zz2,zz2,zz6,zz6,zz7,zz4,zz3,zz6,zz7,zz4,zz3,zz6,zz7,zz4,zz3,zz2,zz2,zz2,alJ,(zU (.li 2)),(zS (.ls [116,111,111,32,109,97,110,121]))]),zz3])),(an2,(.fA [(.agg [(zL (V 40))]),(.agg (cV 28 gQ.fH)),zz3])),((.and aq0 avt),(.fA [aqe,(.agg (cV 31 gQ.fH)),zz3])),(aq0,(.fA [(.agg [(zL (V 41))]),(.agg (cV 35 gQ.fH)),zz3])),((.lb true),(.fA [aqe,(.agg [anT,zz6,zz7,zz4,zz3,zz2,zz2,zz6,zz6,zz7,zz4,zz3,zz6,zz7,zz4,zz3,zz6,zz7,zz4,zz3,zz2,zz2,zz2,(zL (W 37 0)),zz6,zz4]),zz3]))],
 [([],(.call 25 [zz8] (zI (V 2)))),
 (p0,(.call 45 [zz8,(.agg (cV 1 gK.fH))] (zI (V 3)))),
 (p1,(.KO 46 [zz8] aqe [0] 18 false)),
 (p1,(.tm (qM (.li 0) (W 1 1)))),
 (p1,(.tm (qL (W 1 1) aom))),
 (p2,(.rd (true,4) (W 4 0) (W 1 1) 1 (.agg (cW 5 1 dL.fH)))),
 (p4,(.rd (true,4) (W 4 0) (W 1 1) 1 (.agg (cW 6 1 dL.fH)))),
 (p4,(.call 29 [(.agg (cW 1 20 dL.fH)),(.agg (cW 6 1 dL.fH))] (zB (V 7)))),
 (p5,(.call 85 [alQ] (.agg (cV 8 gQ.fH)))),
 (p6,(.rd (false,1) (W 4 0) (W 1 1) 5 (zB (W 9 5)))),
 (p7,(.call 32 [zz8,(zI (W 1 1)),(.agg (cW 1 20 dL.fH))] (zB (V 10)))),
 (p8,(.call 85 [zz2] (.agg (cV 11 gQ.fH)))),
 (p10,(.st (W 4 0) (W 1 1) 1 [(zU (W 1 20)),(zF (W 1 21)),(zS (W 1 22)),(zI (W 1 23))] (V 12))),
 (p10,(.call 85 [alQ] (.agg (cV 13 gQ.fH)))),
 (p12,(.rd (false,1) (W 4 0) (W 1 1) 5 (zB (W 14 5)))),
 (p12,(.call 85 [(zB (W 14 5))] (.agg (cV 15 gQ.fH)))),
 (p14,(.st (W 4 0) (W 1 1) 5 [zz2] (V 16))),
 (p14,(.call 85 [alQ] (.agg (cV 17 gQ.fH)))),
 (p16,(.rd (false,1) (W 4 0) (W 1 1) 6 (zL (W 18 6)))),
 (p16,(.call 37 [(zL (W 18 6)),asn] (.fA [(.agg (iD 19 [0] 0 dJ.fH)),(zB (W 19 1)),(zI (W 19 2))]))),
 (p18,(.rd (false,1) (W 4 0) (W 1 1) 6 (zL (W 20 6)))),
 (p18,(.call 37 [(zL (W 20 6)),asn] (.fA [(.agg (iD 21 [0] 0 dJ.fH)),(zB (W 21 1)),(zI (W 21 2))]))),
 (p18,(.rd (false,1) (W 4 0) (W 1 1) 5 (zB (W 22 5)))),
 (p18,(.call 21 [(zB (W 22 5)),(.agg (cW 1 4 dJ.fH)),(zB (W 21 1)),(.agg (iD 21 [0] 0 dJ.fH))] (.fA [(.agg (iD 23 [0] 0 dJ.fH)),(zB (W 23 1)),(zI (W 23 2))]))),
 (p19,(.call 85 [zz2] (.agg (cV 24 gQ.fH)))),
 (p20,(.rd (false,1) (W 4 0) (W 1 1) 6 (zL (W 25 6)))),
 (p20,(.call 86 [(zL (W 25 6)),asn,(.agg (iD 23 [0] 0 dJ.fH))] (.fA [(zL (W 26 0)),(zI (W 26 1))]))),
 (p21,(.st (W 4 0) (W 1 1) 6 [(zL (W 26 0))] (V 27))),
 (p21,(.call 85 [alQ] (.agg (cV 28 gQ.fH)))),
 (p23,(.rd (false,1) (W 4 0) (W 1 1) 6 (zL (W 29 6)))),
 (p23,(.call 37 [(zL (W 29 6)),asn] (.fA [(.agg (iD 30 [0] 0 dJ.fH)),(zB (W 30 1)),(zI (W 30 2))]))),
 (p25,(.call 85 [zz2] (.agg (cV 31 gQ.fH)))),
 (p26,(.rd (false,1) (W 4 0) (W 1 1) 6 (zL (W 32 6)))),
 (p26,(.call 87 [(zL (W 32 6)),asn] (.fA [(zL (W 33 0)),(zI (W 33 1))]))),
 (p26,(.st (W 4 0) (W 1 1) 6 [(zL (W 33 0))] (V 34))),
 (p26,(.call 85 [alQ] (.agg (cV 35 gQ.fH)))),
 (p27,(.rd (false,1) (W 4 0) (W 1 1) 6 (zL (W 36 6)))),
 (p27,(.call 40 [(zL (W 36 6))] (.fA [(zL (W 37 0)),(zI (W 37 1))]))),
 (p30,(.sub 18 (V 12) none (some aom) (V 38))),
 (p33,(.sub 18 (V 16) none (some aom) (V 39))),
 (p38,(.sub 18 (V 27) none (some aom) (V 40))),
 (p41,(.sub 18 (V 34) none (some aom) (V 41)))],[]⟩
def H18 : LH:=.mk [] (.li 0) [] [([],(qE (.rlen (V 12)) aom)),([],(qE (.rlen (V 16)) aom)),([],(qE (.rlen (V 27)) aom)),([],(qE (.rlen (V 34)) aom))] 0 [] []
theorem e18 : kD Tryz.prog ig iq (mdW [46] rZ) (rY kA 18 [2,3,4,5,6,7,8,9,10,11,15,23,39,42,46,50,54,58,62,66] []) 3 200 18 [.agg al6,.agg (cV 1 gK.fH)] 2=some R18:=by kernel_rfl
theorem Cm (x0:dK)(x1:gK):CT Tryz.prog sT 18 [dK.av x0,gK.av x1] (fE (jI x0 x1)):=
 let v2:Int:=jr x0
 let v3:Int:=jF x0 x1
 let v4:dK:=zn x0
 let v5:dN:=v4.Objects.getD x1.Object.toNat default
 let v6:dN:=v4.Objects.getD x1.Object.toNat default
 let v7:Bool:=eH x1.Value v6.fB
 let v8:gQ:=eu true
 let v9:dN:=v4.Objects.getD x1.Object.toNat default
 let v10:Bool:=iQ x0 x1.Object x1.Value
 let v11:gQ:=eu false
 let v12:List dN:=v4.Objects.set x1.Object.toNat (dN.mk (v4.Objects.getD x1.Object.toNat default).Kind x1.Value (v4.Objects.getD x1.Object.toNat default).Ext (v4.Objects.getD x1.Object.toNat default).Props (v4.Objects.getD x1.Object.toNat default).Target (v4.Objects.getD x1.Object.toNat default).Handler (v4.Objects.getD x1.Object.toNat default).Text (v4.Objects.getD x1.Object.toNat default).Calls (v4.Objects.getD x1.Object.toNat default).Makes)
 let v13:gQ:=eu true
 let v14:dN:=v4.Objects.getD x1.Object.toNat default
 let v15:gQ:=eu v14.Ext
 let v16:List dN:=v4.Objects.set x1.Object.toNat (dN.mk (v4.Objects.getD x1.Object.toNat default).Kind (v4.Objects.getD x1.Object.toNat default).fB false (v4.Objects.getD x1.Object.toNat default).Props (v4.Objects.getD x1.Object.toNat default).Target (v4.Objects.getD x1.Object.toNat default).Handler (v4.Objects.getD x1.Object.toNat default).Text (v4.Objects.getD x1.Object.toNat default).Calls (v4.Objects.getD x1.Object.toNat default).Makes)
 let v17:gQ:=eu true
 let v18:dN:=v4.Objects.getD x1.Object.toNat default
 let v19:dJ×Bool×Int:=fK v18.Props x1.Key
 let v20:dN:=v4.Objects.getD x1.Object.toNat default
 let v21:dJ×Bool×Int:=fK v20.Props x1.Key
 let v22:dN:=v4.Objects.getD x1.Object.toNat default
 let v23:dJ×Bool×Int:=gG v22.Ext x1.dS v21.2.1 v21.1
 let v24:gQ:=eu false
 let v25:dN:=v4.Objects.getD x1.Object.toNat default
 let v26:List dM×Int:=ku v25.Props x1.Key v23.1
 let v27:List dN:=v4.Objects.set x1.Object.toNat (dN.mk (v4.Objects.getD x1.Object.toNat default).Kind (v4.Objects.getD x1.Object.toNat default).fB (v4.Objects.getD x1.Object.toNat default).Ext v26.1 (v4.Objects.getD x1.Object.toNat default).Target (v4.Objects.getD x1.Object.toNat default).Handler (v4.Objects.getD x1.Object.toNat default).Text (v4.Objects.getD x1.Object.toNat default).Calls (v4.Objects.getD x1.Object.toNat default).Makes)
 let v28:gQ:=eu true
 let v29:dN:=v4.Objects.getD x1.Object.toNat default
 let v30:dJ×Bool×Int:=fK v29.Props x1.Key
 let v31:gQ:=eu false
 let v32:dN:=v4.Objects.getD x1.Object.toNat default
 let v33:List dM×Int:=rV v32.Props x1.Key
 let v34:List dN:=v4.Objects.set x1.Object.toNat (dN.mk (v4.Objects.getD x1.Object.toNat default).Kind (v4.Objects.getD x1.Object.toNat default).fB (v4.Objects.getD x1.Object.toNat default).Ext v33.1 (v4.Objects.getD x1.Object.toNat default).Target (v4.Objects.getD x1.Object.toNat default).Handler (v4.Objects.getD x1.Object.toNat default).Text (v4.Objects.getD x1.Object.toNat default).Calls (v4.Objects.getD x1.Object.toNat default).Makes)
 let v35:gQ:=eu true
 let v36:dN:=v4.Objects.getD x1.Object.toNat default
 let v37:List dI×Int:=kH v36.Props
 let v38:List dN:=(v12.drop (0)).take (((jy dN.enc v4.Objects):Int).toNat-0)
 let v39:List dN:=(v16.drop (0)).take (((jy dN.enc v4.Objects):Int).toNat-0)
 let v40:List dN:=(v27.drop (0)).take (((jy dN.enc v4.Objects):Int).toNat-0)
 let v41:List dN:=(v34.drop (0)).take (((jy dN.enc v4.Objects):Int).toNat-0)
 wV j_ dX dY e18 H18 (by kernel_rfl) [dK.av x0,gK.av x1,eI v2,eI v3,dK.av v4,dN.av v5,dN.av v6,eB v7,gQ.av v8,dN.av v9,eB v10,gQ.av v11,eL dN.enc v12,gQ.av v13,dN.av v14,gQ.av v15,eL dN.enc v16,gQ.av v17,dN.av v18,ji v19,dN.av v20,ji v21,dN.av v22,ji v23,gQ.av v24,dN.av v25,kP v26,eL dN.enc v27,gQ.av v28,dN.av v29,ji v30,gQ.av v31,dN.av v32,kP v33,eL dN.enc v34,gQ.av v35,dN.av v36,Az v37,eL dN.enc v38,eL dN.enc v39,eL dN.enc v40,eL dN.enc v41] (xc (mD.2 (Zc))<|xc (mD.2 (Zc))<|xc (mD.2 (Zc))<|xc (mD.2 (Zc))<|xn)
  (wC (zM x0) <|
  wC (OA x0 x1) <|
  wO (VN x0) <|
  wT <|
  wT <|
  Vu rfl <|
  Vu rfl <|
  wC (mZ x1.Value v6.fB) <|
  wC (kY true) <|
  Vu rfl <|
  wCp (by intro h;exact MO x0 x1.Object x1.Value (qC.1 (h.at 5 rfl)) (ak_ (h.at 2 rfl) (h.at 4 rfl))) <|
  wC (kY false) <|
  wSt (f:=dN.enc) (dN.mk (v4.Objects.getD x1.Object.toNat default).Kind x1.Value (v4.Objects.getD x1.Object.toNat default).Ext (v4.Objects.getD x1.Object.toNat default).Props (v4.Objects.getD x1.Object.toNat default).Target (v4.Objects.getD x1.Object.toNat default).Handler (v4.Objects.getD x1.Object.toNat default).Text (v4.Objects.getD x1.Object.toNat default).Calls (v4.Objects.getD x1.Object.toNat default).Makes) rfl <|
  wC (kY true) <|
  Vu rfl <|
  wC (kY v14.Ext) <|
  wSt (f:=dN.enc) (dN.mk (v4.Objects.getD x1.Object.toNat default).Kind (v4.Objects.getD x1.Object.toNat default).fB false (v4.Objects.getD x1.Object.toNat default).Props (v4.Objects.getD x1.Object.toNat default).Target (v4.Objects.getD x1.Object.toNat default).Handler (v4.Objects.getD x1.Object.toNat default).Text (v4.Objects.getD x1.Object.toNat default).Calls (v4.Objects.getD x1.Object.toNat default).Makes) rfl <|
  wC (kY true) <|
  Vu rfl <|
  wC (D8 v18.Props x1.Key) <|
  Vu rfl <|
  wC (D8 v20.Props x1.Key) <|
  Vu rfl <|
  wC (VP v22.Ext x1.dS v21.2.1 v21.1) <|
  wC (kY false) <|
  Vu rfl <|
  wC (Zi v25.Props x1.Key v23.1) <|
  wSt (f:=dN.enc) (dN.mk (v4.Objects.getD x1.Object.toNat default).Kind (v4.Objects.getD x1.Object.toNat default).fB (v4.Objects.getD x1.Object.toNat default).Ext v26.1 (v4.Objects.getD x1.Object.toNat default).Target (v4.Objects.getD x1.Object.toNat default).Handler (v4.Objects.getD x1.Object.toNat default).Text (v4.Objects.getD x1.Object.toNat default).Calls (v4.Objects.getD x1.Object.toNat default).Makes) rfl <|
  wC (kY true) <|
  Vu rfl <|
  wC (D8 v29.Props x1.Key) <|
  wC (kY false) <|
  Vu rfl <|
  wC (VQ v32.Props x1.Key) <|
  wSt (f:=dN.enc) (dN.mk (v4.Objects.getD x1.Object.toNat default).Kind (v4.Objects.getD x1.Object.toNat default).fB (v4.Objects.getD x1.Object.toNat default).Ext v33.1 (v4.Objects.getD x1.Object.toNat default).Target (v4.Objects.getD x1.Object.toNat default).Handler (v4.Objects.getD x1.Object.toNat default).Text (v4.Objects.getD x1.Object.toNat default).Calls (v4.Objects.getD x1.Object.toNat default).Makes) rfl <|
  wC (kY true) <|
  Vu rfl <|
  wC (VT v36.Props) <|
  UY rfl <|
  UY rfl <|
  UY rfl <|
  UY rfl <|
  wn)
  ln
  (iC fE rfl rfl (iC fE rfl rfl (iC fE rfl rfl (iC fE rfl rfl (iC fE rfl rfl (iC fE rfl rfl (iC fE rfl rfl (iC fE rfl rfl (iC fE rfl rfl (iC fE rfl rfl (iC fE rfl rfl (iC fE rfl rfl (iC fE rfl rfl (iC fE rfl rfl (jZ rfl)))))))))))))))
def R19 : jg:=
 ⟨[((qN (W 2 2) (.li 0)),(.fA [zz8,awF])),((.lb true),(.fA [(.agg [(zL (.var 2 [0,0]))]),(.agg (iD 2 [1] 0 gQ.fH))]))],
 [([],(.call 18 [zz8,(.agg (cV 1 gK.fH))] (.fA [(.agg [(zL (.var 2 [0,0]))]),(.agg (iD 2 [1] 0 gQ.fH)),(zI (W 2 2))])))],[]⟩
theorem e19 : kD Tryz.prog ig iq rZ (rY kA 19 [] []) 3 200 19 [.agg al6,.agg (cV 1 gK.fH)] 2=some R19:=by kernel_rfl
theorem sU (x0:dK)(x1:gK):CT Tryz.prog sT 19 [dK.av x0,gK.av x1] (pU (jX x0 x1)):=
 let v2:dK×gQ×Int:=jI x0 x1
 wV j_ dX dY e19 Ag (by kernel_rfl) [dK.av x0,gK.av x1,fE v2] xn
  (wC (Cm x0 x1)<|wn)
  ln
  (iC pU rfl rfl (jZ rfl))
def R22 : jg:=
 let p0:Pc:=((uN (W 0 0) (W 1 0)),false)::[]
 let p1:Pc:=((uN avk (.li 0)),true)::p0
 let p2:Pc:=((.and (uN avk (.li 0)) (.not (V 2))),false)::p0
 let p3:Pc:=((uN atq (.li 0)),true)::p2
 let p4:Pc:=((.and (uN atq (.li 0)) am7),false)::p2
 let p5:Pc:=((uN asQ (.li 0)),true)::p4
 ⟨[((.or (uN (W 0 0) (W 1 0)) (.or (.and (uN avk (.li 0)) (.not (V 2))) (.or (.and (uN atq (.li 0)) am7) (.or (.and (uN asQ (.li 0)) (.not (V 4))) (.or (.and (uN (.bin .and kU (W 0 0) (.li 2)) (.li 0)) (.not (.bin .eql .bool (W 0 13) (W 1 13)))) (.or awG (.and (uN (.bin .and kU (W 0 0) (.li 32)) (.li 0)) (.not (.bin .eql .bool (W 0 15) (W 1 15)))))))))),zz2),((.lb true),alQ)],
 [(p1,(.call 29 [(.agg (cW 0 1 dL.fH)),(.agg (cW 1 1 dL.fH))] (zB (V 2)))),
 (p3,(.call 29 [(.agg (cW 0 5 dL.fH)),(.agg (cW 1 5 dL.fH))] (zB (V 3)))),
 (p5,(.call 29 [(.agg (cW 0 9 dL.fH)),(.agg (cW 1 9 dL.fH))] (zB (V 4))))],[]⟩
theorem e22 : kD Tryz.prog ig iq rZ (rY kA 22 [] []) 3 200 22 [.agg apO,.agg (cV 1 dJ.fH)] 2=some R22:=by kernel_rfl
theorem OB (x0:dJ)(x1:dJ):CT Tryz.prog sT 22 [dJ.av x0,dJ.av x1] (eB (uM x0 x1)):=
 let v2:Bool:=eH x0.Value x1.Value
 let v3:Bool:=eH x0.Get x1.Get
 let v4:Bool:=eH x0.Set x1.Set
 wV j_ dX dY e22 Ag (by kernel_rfl) [dJ.av x0,dJ.av x1,eB v2,eB v3,eB v4] xn
  (wC (mZ x0.Value x1.Value) <|
  wC (mZ x0.Get x1.Get) <|
  wC (mZ x0.Set x1.Set) <|
  wn)
  ln
  (iC (fun r=>.p (.bool r)) rfl rfl (jZ rfl))
def R17 : jg:=
 let p0:Pc:=((.and (uE (.var 2 [1,0]) (.li 1)) (.var 2 [1,6])),true)::[]
 ⟨[((.lb true),(zB (.and (.and (.and (.and (uE (.var 2 [1,0]) (.li 1)) (.var 2 [1,6])) (V 7)) (uE (.var 5 [1,0]) (.li 1))) (.not (.var 5 [1,6])))))],
 [([],(.call 43 [] zz8)),
 ([],(.call 44 [(zS (.ls [97]))] (.agg [(zS (W 1 0)),(zI (W 1 1))]))),
 ([],(.call 19 [zz8,(.agg [(zU (.li 5)),zz3,(zS (W 1 0)),(zI (W 1 1)),zz6,zz6,zz7,zz4,zz3,zz6,zz7,zz4,zz3,zz6,zz7,zz4,zz3,zz2,zz2,zz2,zz6,zz7,zz4,zz3,zz6,zz7,zz4,zz3,alJ])] (.fA [(.agg [(zL (.var 2 [0,0]))]),(.agg (iD 2 [1] 0 gQ.fH))]))),
 ([],(.call 43 [] (.agg [(zL (W 3 0))]))),
 ([],(.call 44 [(zS (.ls [97]))] (.agg aq7))),
 ([],(.call 19 [(.agg [(zL (W 3 0))]),(.agg [(zU (.li 5)),(zI (.li 1)),(zS (W 4 0)),(zI (W 4 1)),zz6,zz6,zz7,zz4,zz3,zz6,zz7,zz4,zz3,zz6,zz7,zz4,zz3,zz2,zz2,zz2,zz6,zz7,zz4,zz3,zz6,zz7,zz4,zz3,alJ])] (.fA [aqX,(.agg (iD 5 [1] 0 gQ.fH))]))),
 (p0,(.call 20 [] (.agg (cV 6 dJ.fH)))),
 (p0,(.call 22 [(.agg (iD 2 [1] 7 dJ.fH)),(.agg (cV 6 dJ.fH))] (zB (V 7))))],[]⟩
theorem e17 : kD Tryz.prog ig iq rZ (rY kA 17 [] []) 3 200 17 [] 0=some R17:=by kernel_rfl
theorem Vm : CT Tryz.prog sT 17 [] (eB Dy):=
 wV j_ dX dY e17 Ag (by kernel_rfl) [dK.av (qJ ),dI.av (oD [97]),pU (jX (qJ ) (gK.mk 5 0 (oD [97]) (dJ.mk 0 (dL.mk 0 0 [] 0) (dL.mk 0 0 [] 0) (dL.mk 0 0 [] 0) false false false) (dL.mk 0 0 [] 0) (dL.mk 0 0 [] 0) [])),dK.av (qJ ),dI.av (oD [97]),pU (jX (qJ ) (gK.mk 5 1 (oD [97]) (dJ.mk 0 (dL.mk 0 0 [] 0) (dL.mk 0 0 [] 0) (dL.mk 0 0 [] 0) false false false) (dL.mk 0 0 [] 0) (dL.mk 0 0 [] 0) [])),dJ.av (uq ),eB (uM (jX (qJ ) (gK.mk 5 0 (oD [97]) (dJ.mk 0 (dL.mk 0 0 [] 0) (dL.mk 0 0 [] 0) (dL.mk 0 0 [] 0) false false false) (dL.mk 0 0 [] 0) (dL.mk 0 0 [] 0) [])).2.dS (uq ))] xn
  (wC (Oy) <|
  wC (GK [97]) <|
  wC (sU (qJ ) (gK.mk 5 0 (oD [97]) (dJ.mk 0 (dL.mk 0 0 [] 0) (dL.mk 0 0 [] 0) (dL.mk 0 0 [] 0) false false false) (dL.mk 0 0 [] 0) (dL.mk 0 0 [] 0) [])) <|
  wC (Oy) <|
  wC (GK [97]) <|
  wC (sU (qJ ) (gK.mk 5 1 (oD [97]) (dJ.mk 0 (dL.mk 0 0 [] 0) (dL.mk 0 0 [] 0) (dL.mk 0 0 [] 0) false false false) (dL.mk 0 0 [] 0) (dL.mk 0 0 [] 0) [])) <|
  wC (JC) <|
  wC (OB (jX (qJ ) (gK.mk 5 0 (oD [97]) (dJ.mk 0 (dL.mk 0 0 [] 0) (dL.mk 0 0 [] 0) (dL.mk 0 0 [] 0) false false false) (dL.mk 0 0 [] 0) (dL.mk 0 0 [] 0) [])).2.dS (uq )) <|
  wn)
  ln
  (jZ rfl)
def asw : Lo:=
 let p0:Pc:=((qG zz9 (.li 5000)),false)::[]
 let p1:Pc:=(avr,false)::p0
 let p2:Pc:=((qL (V 2) zz9),true)::p1
 let p3:Pc:=((qG (.rlen (W 3 6)) (.li 100)),true)::p2
 let p4:Pc:=((.and (qG (.rlen (W 3 6)) (.li 100)) (qL (.rlen (W 4 6)) (.li 1020))),false)::p2
 .mk [(avr,false),((qG zz9 (.li 5000)),false)] 1 2 [zz2,zz3] [((.not (qL (V 2) zz9)),1,[(zB (V 1))]),((.or (.and (qG (.rlen (W 3 6)) (.li 100)) (qL (.rlen (W 4 6)) (.li 1020))) (qG (.rlen (W 5 6)) (.li 1100))),2,[alQ]),((.lb true),0,[(zB (V 1)),(zI (aI (V 2) (.li 1)))])] [(p2,(.row (W 0 0) (V 2) (cV 3 dN.fH))),
 (p3,(.row (W 0 0) (V 2) (cV 4 dN.fH))),
 (p4,(.row (W 0 0) (V 2) (cV 5 dN.fH)))] [] [1,1] []
def asx : LH:=.mk [(qM (.li 0) (V 2))] (mI zz9 (V 2)) [(zz9,1)] [] 0 [] []
def yu (r:Bool×Bool×Bool):Nat×List AV:=Xi r.1 [eB r.2.1] [eB r.2.2]
theorem DK (x0:dK):∀(n:Nat) (u1:Bool) (u2:Int),uP Tryz.prog sT asw asx [dK.av x0] n [eB u1,eI u2] (yu (yg x0 n u1 u2))
 |0,u1,u2=>l0
 |n+1,u1,u2=>
  let v3:dN:=x0.Objects.getD u2.toNat default
  let v4:dN:=x0.Objects.getD u2.toNat default
  let v5:dN:=x0.Objects.getD u2.toNat default
  Og rfl [dN.av v3,dN.av v4,dN.av v5] xn (wR rfl <|
  wR rfl <|
  wR rfl <|
  wn) ln <|
   rc yu rx<|rc yu rx<|rl (rg (DK x0 n _ _))
def R8 : jg:=
 ⟨[((.or avr (qG zz9 (.li 5000))),alQ),((.not (qE (V 1) (.li 0))),(zB (V 3))),((.lb true),zz2)],
 [],[asw]⟩
def H8 : LH:=.mk [] (.li 0) [] [] 0 [asx] []
theorem e8 : kD Tryz.prog ig iq rZ (rY kA 8 [36,38,37,39,40,41,42,43,46,48,47,49,50,51,52,53,3,2] [(0,(.mk [1] (.mk [(2,(.sc .bool)),(3,(.sc kI))] [] [] 19) [(.normal,(.mk [(2,(.sc .bool))] [] [] 19)),(.ret,(.mk [(2,(.sc .bool))] [] [] 19))]))]) 3 200 8 [.agg al6] 1=some R8:=by kernel_rfl
theorem Vo (x0:dK):CT Tryz.prog sT 8 [dK.av x0] (eB (Dz x0)):=
 let r1:Bool×Bool×Bool:=yg x0 (x0.Objects.length+1) false 0
 wV j_ dX dY e8 H8 (by kernel_rfl) [dK.av x0,eI (lW r1.1),eB r1.2.1,eB r1.2.2] xn
  wn
  (lc2 (DK x0 (x0.Objects.length+1) false 0) <|
  ln)
  (iC (fun r=>.p (.bool r)) rfl rfl (iC (fun r=>.p (.bool r)) rfl rfl (jZ rfl)))
def R26 : jg:=
 let p0:Pc:=(aqy,false)::[]
 let p1:Pc:=((qH (V 1) zz9),false)::p0
 let p2:Pc:=((qL (V 1) (.li 0)),false)::p1
 ⟨[(aqy,(.fA [axr,(zI (V 2))])),((.or (qL (V 1) (.li 0)) (qH (V 1) zz9)),(.fA [axr,(zI (.li 2))])),((.lb true),(.fA [(.agg (cV 4 dN.fH)),zz3]))],
 [([],(.call 25 [zz8] (zI (V 2)))),
 (p2,(.row (W 0 0) (V 1) (cV 3 dN.fH))),
 (p2,(.call 67 [(.agg (cV 3 dN.fH))] (.agg (cV 4 dN.fH))))],[]⟩
theorem e26 : kD Tryz.prog ig iq rZ (rY kA 26 [] []) 3 200 26 [.agg al6,zI (V 1)] 2=some R26:=by kernel_rfl
theorem aef (x0:dK)(x1:Int):CT Tryz.prog sT 26 [dK.av x0,eI x1] (oP (Oh x0 x1)):=
 let v2:Int:=jr x0
 let v3:dN:=x0.Objects.getD x1.toNat default
 let v4:dN:=EW v3
 wV j_ dX dY e26 Ag (by kernel_rfl) [dK.av x0,eI x1,eI v2,dN.av v3,dN.av v4] xn
  (wC (zM x0) <|
  wR rfl <|
  wC (QI v3) <|
  wn)
  ln
  (iC oP rfl rfl (iC oP rfl rfl (jZ rfl)))
def R11 : jg:=
 let p0:Pc:=((qN (W 3 1) (.li 0)),false)::[]
 ⟨[((qN (W 3 1) (.li 0)),(.fA [auM,zz2,(zI (W 3 1))])),((.lb true),(.fA [(.agg (iD 4 [0] 0 dJ.fH)),(zB (W 4 1)),(zI (W 4 2))]))],
 [([],(.call 26 [zz8,(zI (V 1))] (.fA [(.agg (iD 3 [0] 0 dN.fH)),(zI (W 3 1))]))),
 (p0,(.call 37 [(zL (.var 3 [0,6])),aqV] (.fA [(.agg (iD 4 [0] 0 dJ.fH)),(zB (W 4 1)),(zI (W 4 2))])))],[]⟩
theorem e11 : kD Tryz.prog ig iq rZ (rY kA 11 [] []) 3 200 11 [.agg al6,zI (V 1),.agg (cV 2 dI.fH)] 3=some R11:=by kernel_rfl
def R4 : jg:=
 let p0:Pc:=((V 3),true)::[]
 let p1:Pc:=((V 4),false)::p0
 let p2:Pc:=((qN (W 5 2) (.li 0)),false)::p1
 ⟨[(am7,zz2),((V 4),(zB (V 3))),((qN (W 5 2) (.li 0)),(zB (V 3))),((.or (.or (.or (.not (.var 5 [1,5])) (uN (.var 6 [1,0]) (.li 1))) (.var 6 [1,5])) (qN (.rlen (W 10 0)) (.rlen (W 11 0)))),zz2),((.lb true),(zB (.or (.or (.or (qN (W 7 2) (.li 0)) (qN (W 9 2) (.li 0))) (W 7 1)) (.and (uE (.var 9 [1,0]) (.li 1)) (.not (.var 9 [1,5]))))))],
 [([],(.call 17 [] (zB (V 3)))),
 (p0,(.call 8 [zz8] (zB (V 4)))),
 (p1,(.call 18 [zz8,(.agg [(zU (.li 4)),(zI (V 1)),zz4,zz3,zz6,zz6,zz7,zz4,zz3,zz6,zz7,zz4,zz3,zz6,zz7,zz4,zz3,zz2,zz2,zz2,zz6,zz7,zz4,zz3,zz6,zz7,zz4,zz3,alJ])] (.fA [aqX,(.agg (iD 5 [1] 0 gQ.fH)),(zI (W 5 2))]))),
 (p2,(.call 19 [aqX,axn] (.fA [(.agg [(zL (.var 6 [0,0]))]),(.agg (iD 6 [1] 0 gQ.fH))]))),
 (p2,(.call 11 [zz8,(zI (V 1)),aqV] (.fA [(.agg (iD 7 [0] 0 dJ.fH)),(zB (W 7 1)),(zI (W 7 2))]))),
 (p2,(.call 20 [] (.agg (cV 8 dJ.fH)))),
 (p2,(.call 18 [aqX,(.agg [(zU (.li 6)),(zI (V 1)),(zS (W 2 0)),(zI (W 2 1)),(zU (W 8 0)),(zU (W 8 1)),(zF (W 8 2)),(zS (W 8 3)),(zI (W 8 4)),(zU (W 8 5)),(zF (W 8 6)),(zS (W 8 7)),(zI (W 8 8)),(zU (W 8 9)),(zF (W 8 10)),(zS (W 8 11)),(zI (W 8 12)),(zB (W 8 13)),(zB (W 8 14)),(zB (W 8 15)),zz6,zz7,zz4,zz3,zz6,zz7,zz4,zz3,alJ])] (.fA [(.agg [(zL (.var 9 [0,0]))]),(.agg (iD 9 [1] 0 gQ.fH)),(zI (W 9 2))]))),
 (p2,(.call 13 [zz8,(zI (V 1))] (.fA [(zL (W 10 0)),(zI (W 10 1))]))),
 (p2,(.call 13 [aqX,(zI (V 1))] (.fA [(zL (W 11 0)),(zI (W 11 1))])))],[]⟩
theorem e4 : kD Tryz.prog ig iq rZ (rY kA 4 [] []) 3 200 4 [.agg al6,zI (V 1),.agg (cV 2 dI.fH)] 3=some R4:=by kernel_rfl
def R5 : jg:=
 let p0:Pc:=anm::[]
 let p1:Pc:=((V 5),false)::p0
 let p2:Pc:=((qN (W 7 2) (.li 0)),false)::p1
 let p3:Pc:=((.and avo (.not (.bin .eql .bool (.var 7 [1,5]) (W 9 1)))),false)::p2
 let p4:Pc:=((qN (W 9 2) (.li 0)),false)::p3
 let p5:Pc:=((qN (W 6 2) (.li 0)),false)::p4
 let p6:Pc:=((qN (.rlen (.var 7 [0,0])) zz9),false)::p5
 let p7:Pc:=((qN (W 10 2) (.li 0)),false)::p6
 let p8:Pc:=((W 9 1),true)::p7
 let p9:Pc:=(avo,true)::p8
 let p10:Pc:=((W 10 1),true)::p9
 let p11:Pc:=((.and (W 10 1) (V 11)),true)::p9
 let p12:Pc:=((.and avo (W 9 1)),false)::p7
 ⟨[((.not (V 4)),zz2),((V 5),(zB (V 4))),((qN (W 7 2) (.li 0)),(zB (V 4))),((.or (.or (qN (W 6 2) (.li 0)) (qN (W 9 2) (.li 0))) (.and avo (.not (.bin .eql .bool (.var 7 [1,5]) (W 9 1))))),zz2),((.or (qN (W 10 2) (.li 0)) (qN (.rlen (.var 7 [0,0])) zz9)),zz2),((.and avo (W 9 1)),(zB (.and (.and (W 10 1) (V 11)) (V 12)))),((.lb true),(zB (V 13)))],
 [([],(.call 17 [] (zB (V 4)))),
 (p0,(.call 8 [zz8] (zB (V 5)))),
 (p1,(.call 11 [zz8,(zI (V 1)),aqV] (.fA [(.agg (iD 6 [0] 0 dJ.fH)),(zB (W 6 1)),(zI (W 6 2))]))),
 (p1,(.call 18 [zz8,(.agg [(zU (.li 6)),(zI (V 1)),(zS (W 2 0)),(zI (W 2 1)),(zU (W 3 0)),(zU (W 3 1)),(zF (W 3 2)),(zS (W 3 3)),(zI (W 3 4)),(zU (W 3 5)),(zF (W 3 6)),(zS (W 3 7)),(zI (W 3 8)),(zU (W 3 9)),(zF (W 3 10)),(zS (W 3 11)),(zI (W 3 12)),(zB (W 3 13)),(zB (W 3 14)),(zB (W 3 15)),zz6,zz7,zz4,zz3,zz6,zz7,zz4,zz3,alJ])] (.fA [asR,(.agg (iD 7 [1] 0 gQ.fH)),(zI (W 7 2))]))),
 (p2,(.row (W 0 0) (V 1) (cV 8 dN.fH))),
 (p2,(.call 21 [(zB (W 8 5)),at7,(zB (W 6 1)),(.agg (iD 6 [0] 0 dJ.fH))] (.fA [(.agg (iD 9 [0] 0 dJ.fH)),(zB (W 9 1)),(zI (W 9 2))]))),
 (p5,(.call 11 [asR,(zI (V 1)),aqV] (.fA [(.agg (iD 10 [0] 0 dJ.fH)),(zB (W 10 1)),(zI (W 10 2))]))),
 (p10,(.call 22 [(.agg (iD 10 [0] 0 dJ.fH)),(.agg (iD 9 [0] 0 dJ.fH))] (zB (V 11)))),
 (p11,(.call 23 [zz8,asR,(zI (V 1)),aqV] (zB (V 12)))),
 (p12,(.call 24 [zz8,asR] (zB (V 13))))],[]⟩
theorem e5 : kD Tryz.prog ig iq rZ (rY kA 5 [] []) 3 200 5 [.agg al6,zI (V 1),.agg (cV 2 dI.fH),.agg (cV 3 dJ.fH)] 4=some R5:=by kernel_rfl
def R9 : jg:=
 let p0:Pc:=((qN (W 3 1) (.li 0)),false)::[]
 let p1:Pc:=anm::p0
 ⟨[((qN (W 3 1) (.li 0)),(.fA [zz2,(zI (W 3 1))])),((.not (V 4)),(.fA [zz2,(zI (.li 9))])),((.lb true),(.fA [(zB (V 5)),zz3]))],
 [([],(.call 26 [zz8,(zI (V 1))] (.fA [(.agg (iD 3 [0] 0 dN.fH)),(zI (W 3 1))]))),
 (p0,(.call 31 [zz8,arZ] (zB (V 4)))),
 (p1,(.call 32 [zz8,(zI (V 1)),arZ] (zB (V 5))))],[]⟩
theorem e9 : kD Tryz.prog ig iq rZ (rY kA 9 [] []) 3 200 9 [.agg al6,zI (V 1),.agg (cV 2 dL.fH)] 3=some R9:=by kernel_rfl
def R6 : jg:=
 let p0:Pc:=((V 3),true)::[]
 let p1:Pc:=((V 4),false)::p0
 let p2:Pc:=((qN (W 5 2) (.li 0)),false)::p1
 let p3:Pc:=((uE (W 7 1) (W 2 0)),true)::p2
 let p4:Pc:=(awJ,false)::p2
 let p5:Pc:=((.or awJ (qN (V 9) (.li 0))),false)::p2
 let p6:Pc:=((.and (uE (W 7 1) (W 2 0)) (qE (W 8 4) (W 2 3))),false)::p5
 let p7:Pc:=(axp,true)::p2
 let p8:Pc:=((qN (V 9) (.li 0)),false)::p7
 let p9:Pc:=((qN (.rlen (.var 5 [0,0])) zz9),false)::p8
 let p10:Pc:=((qN (W 6 1) (.li 0)),false)::p9
 let p11:Pc:=(awn,true)::p10
 let p12:Pc:=((.var 5 [1,5]),false)::p11
 ⟨[(am7,zz2),((V 4),(zB (V 3))),((qN (W 5 2) (.li 0)),(zB (V 3))),((.or (.or awJ (qN (V 9) (.li 0))) (.not axp)),zz2),((.lb true),(zB (.and awn (.or (.var 5 [1,5]) (V 12)))))],
 [([],(.call 17 [] (zB (V 3)))),
 (p0,(.call 8 [zz8] (zB (V 4)))),
 (p1,(.call 18 [zz8,(.agg [(zU (.li 2)),(zI (V 1)),zz4,zz3,zz6,zz6,zz7,zz4,zz3,zz6,zz7,zz4,zz3,zz6,zz7,zz4,zz3,zz2,zz2,zz2,(zU (W 2 0)),(zF (W 2 1)),(zS (W 2 2)),(zI (W 2 3)),zz6,zz7,zz4,zz3,alJ])] (.fA [aqX,(.agg (iD 5 [1] 0 gQ.fH)),(zI (W 5 2))]))),
 (p2,(.call 9 [zz8,(zI (V 1)),arZ] (.fA [(zB (W 6 0)),(zI (W 6 1))]))),
 (p2,(.row (W 0 0) (V 1) (cV 7 dN.fH))),
 (p3,(.row (W 0 0) (V 1) (cV 8 dN.fH))),
 (p4,(.call 25 [aqX] (zI (V 9)))),
 (p6,(.row (W 0 0) (V 1) (cV 10 dN.fH))),
 (p10,(.row (.var 5 [0,0]) (V 1) (cV 11 dN.fH))),
 (p12,(.call 24 [aqX,zz8] (zB (V 12))))],[]⟩
theorem e6 : kD Tryz.prog ig iq rZ (rY kA 6 [] []) 3 200 6 [.agg al6,zI (V 1),.agg (cV 2 dL.fH)] 3=some R6:=by kernel_rfl
def R27 : jg:=
 ⟨[((.lb true),(.agg [(zB (.not (.var 3 [1,5]))),(zU (.var 4 [1,1])),(zF (.var 4 [1,2])),(zS (.var 4 [1,3])),(zI (.var 4 [1,4])),(zL (.var 5 [1,23])),(zB (.var 6 [1,6])),(zU (.var 6 [1,7])),(zU (.var 6 [1,8])),(zF (.var 6 [1,9])),(zS (.var 6 [1,10])),(zI (.var 6 [1,11])),(zU (.var 6 [1,12])),(zF (.var 6 [1,13])),(zS (.var 6 [1,14])),(zI (.var 6 [1,15])),(zU (.var 6 [1,16])),(zF (.var 6 [1,17])),(zS (.var 6 [1,18])),(zI (.var 6 [1,19])),(zB (.var 6 [1,20])),(zB (.var 6 [1,21])),(zB (.var 6 [1,22]))]))],
 [([],(.call 19 [zz8,axn] (.fA [(.agg [(zL (.var 3 [0,0]))]),(.agg (iD 3 [1] 0 gQ.fH))]))),
 ([],(.call 19 [zz8,(.agg [anT,(zI (V 1)),zz4,zz3,zz6,zz6,zz7,zz4,zz3,zz6,zz7,zz4,zz3,zz6,zz7,zz4,zz3,zz2,zz2,zz2,zz6,zz7,zz4,zz3,zz6,zz7,zz4,zz3,alJ])] (.fA [(.agg [(zL (.var 4 [0,0]))]),(.agg (iD 4 [1] 0 gQ.fH))]))),
 ([],(.call 19 [zz8,(.agg [(zU (.li 11)),(zI (V 1)),zz4,zz3,zz6,zz6,zz7,zz4,zz3,zz6,zz7,zz4,zz3,zz6,zz7,zz4,zz3,zz2,zz2,zz2,zz6,zz7,zz4,zz3,zz6,zz7,zz4,zz3,alJ])] (.fA [aqX,(.agg (iD 5 [1] 0 gQ.fH))]))),
 ([],(.call 19 axm (.fA [(.agg [(zL (.var 6 [0,0]))]),(.agg (iD 6 [1] 0 gQ.fH))])))],[]⟩
theorem e27 : kD Tryz.prog ig iq rZ (rY kA 27 [] []) 3 200 27 [.agg al6,zI (V 1),.agg (cV 2 dI.fH)] 3=some R27:=by kernel_rfl
theorem Lc (x0:dK)(x1:Int)(x2:dI):CT Tryz.prog sT 27 [dK.av x0,eI x1,dI.av x2] (qo.av (rX x0 x1 x2)):=
 let v3:dK×gQ:=jX x0 (gK.mk 3 x1 (dI.mk [] 0) (dJ.mk 0 (dL.mk 0 0 [] 0) (dL.mk 0 0 [] 0) (dL.mk 0 0 [] 0) false false false) (dL.mk 0 0 [] 0) (dL.mk 0 0 [] 0) [])
 let v4:dK×gQ:=jX x0 (gK.mk 1 x1 (dI.mk [] 0) (dJ.mk 0 (dL.mk 0 0 [] 0) (dL.mk 0 0 [] 0) (dL.mk 0 0 [] 0) false false false) (dL.mk 0 0 [] 0) (dL.mk 0 0 [] 0) [])
 let v5:dK×gQ:=jX x0 (gK.mk 11 x1 (dI.mk [] 0) (dJ.mk 0 (dL.mk 0 0 [] 0) (dL.mk 0 0 [] 0) (dL.mk 0 0 [] 0) false false false) (dL.mk 0 0 [] 0) (dL.mk 0 0 [] 0) [])
 let v6:dK×gQ:=jX x0 (gK.mk 5 x1 x2 (dJ.mk 0 (dL.mk 0 0 [] 0) (dL.mk 0 0 [] 0) (dL.mk 0 0 [] 0) false false false) (dL.mk 0 0 [] 0) (dL.mk 0 0 [] 0) [])
 wV j_ dX dY e27 Ag (by kernel_rfl) [dK.av x0,eI x1,dI.av x2,pU v3,pU v4,pU v5,pU v6] xn
  (wC (sU x0 (gK.mk 3 x1 (dI.mk [] 0) (dJ.mk 0 (dL.mk 0 0 [] 0) (dL.mk 0 0 [] 0) (dL.mk 0 0 [] 0) false false false) (dL.mk 0 0 [] 0) (dL.mk 0 0 [] 0) [])) <|
  wC (sU x0 (gK.mk 1 x1 (dI.mk [] 0) (dJ.mk 0 (dL.mk 0 0 [] 0) (dL.mk 0 0 [] 0) (dL.mk 0 0 [] 0) false false false) (dL.mk 0 0 [] 0) (dL.mk 0 0 [] 0) [])) <|
  wC (sU x0 (gK.mk 11 x1 (dI.mk [] 0) (dJ.mk 0 (dL.mk 0 0 [] 0) (dL.mk 0 0 [] 0) (dL.mk 0 0 [] 0) false false false) (dL.mk 0 0 [] 0) (dL.mk 0 0 [] 0) [])) <|
  wC (sU x0 (gK.mk 5 x1 x2 (dJ.mk 0 (dL.mk 0 0 [] 0) (dL.mk 0 0 [] 0) (dL.mk 0 0 [] 0) false false false) (dL.mk 0 0 [] 0) (dL.mk 0 0 [] 0) [])) <|
  wn)
  ln
  (jZ rfl)
def aoQ : Lo:=
 let p0:Pc:=(arD,true)::[]
 .mk [] 2 2 [zz2,zz3] [((.not arD),1,[(zB (V 2))]),((.and (sE (W 4 0) (W 1 0)) (qE (W 4 1) (W 1 1))),2,[alQ]),((.lb true),0,[(zB (V 2)),aq6])] [(p0,(.row (V 0) (V 3) aq7))] [] [1,1] [(V 0)]
def aoR : LH:=.mk [aq8] (mI zz5 (V 3)) [(zz5,1)] [] 0 [] []
def yw (r:Bool×Bool×Bool):Nat×List AV:=Xi r.1 [eB r.2.1] [eB r.2.2]
theorem DL (x0:List dI)(x1:dI):∀(n:Nat) (u2:Bool) (u3:Int),uP Tryz.prog sT aoQ aoR [eL dI.enc x0,dI.av x1] n [eB u2,eI u3] (yw (qP x0 x1 n u2 u3))
 |0,u2,u3=>l0
 |n+1,u2,u3=>
  let v4:dI:=x0.getD u3.toNat default
  Og rfl [dI.av v4] xn (wR rfl<|wn) ln <|
   rc yw rx<|rc yw rx<|rl (rg (DL x0 x1 n _ _))
def R28 : jg:=
 ⟨[(avj,(zB (V 4))),((.lb true),zz2)],
 [],[aoQ]⟩
def H28 : LH:=.mk [] (.li 0) [] [] 0 [aoR] []
theorem e28 : kD Tryz.prog ig iq rZ (rY kA 28 [5,4] [(0,(.mk [0,3] (.mk [(4,(.sc .bool)),(5,(.sc kI))] [] [] 3) [(.normal,(.mk [(4,(.sc .bool))] [] [] 3)),(.ret,(.mk [(4,(.sc .bool))] [] [] 3))]))]) 3 200 28 [zL (V 0),.agg (cV 1 dI.fH)] 2=some R28:=by kernel_rfl
theorem JH (x0:List dI)(x1:dI):CT Tryz.prog sT 28 [eL dI.enc x0,dI.av x1] (eB (uy x0 x1)):=
 let r2:Bool×Bool×Bool:=qP x0 x1 (x0.length+1) false 0
 wV j_ dX dY e28 H28 (by kernel_rfl) [eL dI.enc x0,dI.av x1,eI (lW r2.1),eB r2.2.1,eB r2.2.2] xn
  wn
  (lc2 (DL x0 x1 (x0.length+1) false 0) <|
  ln)
  (iC (fun r=>.p (.bool r)) rfl rfl (jZ rfl))
def aoS : Lo:=
 let p0:Pc:=anm::[]
 let p1:Pc:=at6::p0
 let p2:Pc:=((V 5),false)::p1
 let p3:Pc:=((qN (W 8 2) (.li 0)),false)::p2
 let p4:Pc:=((qN (W 7 1) (.li 0)),false)::p3
 let p5:Pc:=((qL (V 10) (.li 40)),true)::p4
 let p6:Pc:=((qL (V 10) (.rlen (V 3))),true)::p5
 let p7:Pc:=((qN (W 14 2) (.li 0)),false)::p6
 let p8:Pc:=(avO,false)::p7
 let p9:Pc:=(asK,true)::p8
 let p10:Pc:=((qN (V 16) (.li 0)),false)::p9
 let p11:Pc:=(avP,false)::p10
 let p12:Pc:=((qL (V 20) (.rlen (W 15 5))),true)::p11
 let p13:Pc:=((W 12 0),true)::p12
 .mk [(avP,false),((qN (V 16) (.li 0)),false),(asK,true),(avO,false),((qN (W 14 2) (.li 0)),false),((qL (V 10) (.rlen (V 3))),true),((qL (V 10) (.li 40)),true),((qN (W 7 1) (.li 0)),false),((qN (W 8 2) (.li 0)),false),((V 5),false),at6,anm] 19 2 [(zB (V 9)),zz3] [((.not (qL (V 20) (.rlen (W 15 5)))),1,[(zB (V 19)),(zI (V 20))]),((.and (W 12 0) (.not (V 22))),2,[zz2]),((.lb true),0,[(zB (V 19)),(zI (aI (V 20) (.li 1)))])] [(p13,(.row (W 15 5) (V 20) [(zS (W 21 0)),(zI (W 21 1))])),
 (p13,(.call 28 [(zL (W 12 5)),(.agg [(zS (W 21 0)),(zI (W 21 1))])] (zB (V 22))))] [] [2,1] [(V 3)]
def aoT : LH:=.mk [(qM (.li 0) (V 20))] (mI (.rlen (W 15 5)) (V 20)) [((.rlen (W 15 5)),1)] [] 7 [] []
def oZ (r:Bool×Bool×Int×Bool):Nat×List AV:=Xi r.1 [eB r.2.1,eI r.2.2.1] [eB r.2.2.2]
theorem uD (x0:dK)(x1:Int)(x2:dI)(x3:List gK)(v4:Bool)(v5:Bool)(v6:Int)(v7:dN×Int)(v8:dK×gQ×Int)(u9:Bool)(u10:Int)(u11:dK)(v12:qo)(v13:gK)(v14:dK×gQ×Int)(v15:qo)(v16:Int)(v17:Bool)(v18:Bool):∀(n:Nat) (u19:Bool) (u20:Int),uP Tryz.prog sT aoS aoT [dK.av x0,eI x1,dI.av x2,eL gK.enc x3,eB v4,eB v5,eI v6,oP v7,fE v8,eB u9,eI u10,dK.av u11,qo.av v12,gK.av v13,fE v14,qo.av v15,eI v16,eB v17,eB v18] n [eB u19,eI u20] (oZ (kC v12 v15 n u19 u20))
 |0,u19,u20=>l0
 |n+1,u19,u20=>
  let v21:dI:=v15.keys.getD u20.toNat default
  let v22:Bool:=uy v12.keys v21
  Og rfl [dI.av v21,eB v22] xn (wR rfl <|
  wC (JH v12.keys v21) <|
  wn) ln <|
   rc oZ rx<|rc oZ rx<|rl (rg (uD x0 x1 x2 x3 v4 v5 v6 v7 v8 u9 u10 u11 v12 v13 v14 v15 v16 v17 v18 n _ _))
def asy : Lo:=
 let p0:Pc:=anm::[]
 let p1:Pc:=at6::p0
 let p2:Pc:=((V 5),false)::p1
 let p3:Pc:=((qN (W 8 2) (.li 0)),false)::p2
 let p4:Pc:=((qN (W 7 1) (.li 0)),false)::p3
 let p5:Pc:=((qL (V 10) (.li 40)),true)::p4
 let p6:Pc:=((qL (V 10) (.rlen (V 3))),true)::p5
 let p7:Pc:=((qN (W 14 2) (.li 0)),false)::p6
 let p8:Pc:=((qN (V 16) (.li 0)),false)::p7
 let p9:Pc:=(avO,false)::p7
 let p10:Pc:=(asK,true)::p9
 let p11:Pc:=((qN (V 16) (.li 0)),false)::p10
 let p12:Pc:=((W 12 0),true)::p11
 let p13:Pc:=((.not (W 15 0)),false)::p12
 let p14:Pc:=(avP,false)::p11
 let p15:Pc:=((qE (V 19) (.li 0)),true)::p14
 let p16:Pc:=((W 12 22),false)::p15
 let p17:Pc:=((W 12 6),true)::p16
 let p18:Pc:=((.or (.or (.not (W 15 6)) (W 15 22)) (.not (.bin .eql .bool (W 15 21) (W 12 21)))),false)::p17
 let p19:Pc:=(axk,false)::p17
 let p20:Pc:=((.and (V 23) (.not (W 12 20))),true)::p19
 let p21:Pc:=((W 15 20),false)::p20
 let p22:Pc:=(awp,false)::p17
 let p23:Pc:=((.not (V 23)),true)::p22
 .mk [((qN (W 7 1) (.li 0)),false),((qN (W 8 2) (.li 0)),false),((V 5),false),at6,anm] 9 3 [zz2,zz3,zz8] [((.not (.and (qL (V 10) (.rlen (V 3))) (qL (V 10) (.li 40)))),1,[(zB (V 9)),aqa]),((qN (W 14 2) (.li 0)),0,[(zB (V 9)),(zI awI),aqa]),((.or (.or (qN (V 16) (.li 0)) (.not asK)) avO),2,[zz2,aqa]),(avP,2,[zz2,aqa]),((.not (qE (V 19) (.li 0))),2,[(zB (V 22)),aqa]),((.and (.and (W 12 6) (.not (W 12 22))) (.or awp (.and (.not (V 23)) (.not (V 26))))),2,[zz2,aqa]),((.and (.and (W 12 6) (.not (W 12 22))) axl),2,[zz2,aqa]),((.and (W 12 6) (.not (W 12 22))),0,[(zB (V 20)),(zI awI),avm]),(axl,2,[zz2,aqa]),((.lb true),0,[(zB (V 20)),(zI awI),avm])] [(p6,(.call 27 [aqa,(zI (V 1)),aqV] (.agg (cV 12 qo.fH)))),
 (p6,(.row (V 3) (V 10) (cV 13 gK.fH))),
 (p6,(.call 18 [aqa,(.agg (cV 13 gK.fH))] (.fA [avm,(.agg (iD 14 [1] 0 gQ.fH)),(zI (W 14 2))]))),
 (p7,(.call 27 [avm,(zI (V 1)),aqV] (.agg (cV 15 qo.fH)))),
 (p7,(.call 25 [avm] (zI (V 16)))),
 (p8,(.call 28 [(zL (W 15 5)),aqV] (zB (V 17)))),
 (p13,(.call 29 [(.agg (cW 12 1 dL.fH)),(.agg (cW 15 1 dL.fH))] (zB (V 18)))),
 (p17,(.call 30 [(.agg (cW 12 7 dJ.fH))] (zB (V 23)))),
 (p18,(.call 30 [(.agg (cW 15 7 dJ.fH))] (zB (V 24)))),
 (p21,(.call 29 [(.agg (cW 15 8 dL.fH)),(.agg (cW 12 8 dL.fH))] (zB (V 25)))),
 (p23,(.call 22 [(.agg (cW 15 7 dJ.fH)),(.agg (cW 12 7 dJ.fH))] (zB (V 26))))] [aoS] [2,2] [(V 3)]
def asz : LH:=.mk [(qM (V 6) (V 10))] (mI (.rlen (V 3)) (V 10)) [((.rlen (V 3)),1)] [([],(qM (.rlen (W 15 5)) (.li 4294967296)))] 5 [aoT] []
def gU (r:Bool×Bool×dK×Bool×dK):Nat×List AV:=Xi r.1 [eB r.2.1,dK.av r.2.2.1] [eB r.2.2.2.1,dK.av r.2.2.2.2]
theorem mJ (x0:dK)(x1:Int)(x2:dI)(x3:List gK)(v4:Bool)(v5:Bool)(v6:Int)(v7:dN×Int)(v8:dK×gQ×Int):∀(n:Nat) (u9:Bool) (u10:Int) (u11:dK),uP Tryz.prog sT asy asz [dK.av x0,eI x1,dI.av x2,eL gK.enc x3,eB v4,eB v5,eI v6,oP v7,fE v8] n [eB u9,eI u10,dK.av u11] (gU (jl x1 x2 x3 n u9 u10 u11))
 |0,u9,u10,u11=>l0
 |n+1,u9,u10,u11=>
  let v12:qo:=rX u11 x1 x2
  let v13:gK:=x3.getD u10.toNat default
  let v14:dK×gQ×Int:=jI u11 v13
  let v15:qo:=rX v14.1 x1 x2
  let v16:Int:=jr v14.1
  let v17:Bool:=uy v15.keys x2
  let v18:Bool:=eH v12.proto v15.proto
  let r19:Bool×Bool×Int×Bool:=kC v12 v15 (v15.keys.length+1) u9 0
  let v23:Bool:=fD v12.desc
  let v24:Bool:=fD v15.desc
  let v25:Bool:=eH v15.desc.Value v12.desc.Value
  let v26:Bool:=uM v15.desc v12.desc
  Og rfl [qo.av v12,gK.av v13,fE v14,qo.av v15,eI v16,eB v17,eB v18,eI (lW r19.1),eB r19.2.1,eI r19.2.2.1,eB r19.2.2.2,eB v23,eB v24,eB v25,eB v26] (xc (decide_eq_true (ahT))<|xn) (wC (Lc u11 x1 x2) <|
  wR rfl <|
  wC (Cm u11 v13) <|
  wC (Lc v14.1 x1 x2) <|
  wC (zM v14.1) <|
  wC (JH v15.keys x2) <|
  wC (mZ v12.proto v15.proto) <|
  wC (lU v12.desc) <|
  wC (lU v15.desc) <|
  wC (mZ v15.desc.Value v12.desc.Value) <|
  wC (OB v15.desc v12.desc) <|
  wn) (lc2 (uD x0 x1 x2 x3 v4 v5 v6 v7 v8 u9 u10 u11 v12 v13 v14 v15 v16 v17 v18 (v15.keys.length+1) u9 0) <|
  ln) <|
   rc gU rx<|rc gU (rg (mJ x0 x1 x2 x3 v4 v5 v6 v7 v8 n _ _ _))<|rc gU rx<|rc gU rx<|rc gU rx<|rc gU rx<|rc gU rx<|rc gU (rg (mJ x0 x1 x2 x3 v4 v5 v6 v7 v8 n _ _ _))<|rc gU rx<|rl (rg (mJ x0 x1 x2 x3 v4 v5 v6 v7 v8 n _ _ _))
def R7 : jg:=
 let p0:Pc:=anm::[]
 let p1:Pc:=((V 5),false)::p0
 let p2:Pc:=at6::p0
 let p3:Pc:=((V 5),false)::p2
 ⟨[((.not (V 4)),zz2),((.or (V 5) (qN (V 6) (.li 0))),(zB (V 4))),((.or (qN (W 7 1) (.li 0)) (qN (W 8 2) (.li 0))),(zB (V 4))),((.not (qE (V 9) (.li 0))),(zB (V 12))),((.lb true),(zB (V 4)))],
 [([],(.call 17 [] (zB (V 4)))),
 (p0,(.call 8 [zz8] (zB (V 5)))),
 (p1,(.call 25 [zz8] (zI (V 6)))),
 (p3,(.call 26 [zz8,(zI (V 1))] (.fA [(.agg (iD 7 [0] 0 dN.fH)),(zI (W 7 1))]))),
 (p3,(.call 18 axm (.fA [(.agg [(zL (.var 8 [0,0]))]),(.agg (iD 8 [1] 0 gQ.fH)),(zI (W 8 2))])))],[asy]⟩
def H7 : LH:=.mk [] (.li 0) [] [] 0 [asz] []
theorem e7 : kD Tryz.prog ig iq rZ (rY kA 7 [62,63,20,8,113,114,115,117,119,120,118,121,122,116,123,221,223,222,224,227,228,231,232,233,235,236,237,234,238,240,241,242,244,245,243,246,239,247,214,207,213,212,209,211,210,208,206,205,23,202,188,201,192,200,199,195,198,197,196,194,193,191,190,189,187,182,186,185,184,183,181,178,176,177,175,174,171,167,170,169,168,166,165,162,161,160,151,150,149,148,135,137,139,138,140,141,136,142,143,22,108,104,107,106,105,103,102,101,98,95,97,96,93,94,92,15] [(0,(.mk [1,3,4,6,9] (.mk [(8,(.sc .bool)),(15,(.sc kI))] [(0,[.sl])] [] 44) [(.normal,(.mk [(8,(.sc .bool))] [(0,[.sl])] [] 44)),(.ret,(.mk [(8,(.sc .bool))] [(0,[.sl])] [] 44))])),(2,(.mk [1,3,4,6,9,15,16,17,18,19,20,21,62,63,92,93,94,95,96,97,98,101,102,103,104,105,106,107,108,113,114,115,116,117,118,119,120,121,122,123] (.mk [(8,(.sc .bool)),(22,(.sc kI))] [] [] 122) [(.normal,(.mk [(8,(.sc .bool)),(22,(.sc kI))] [] [] 122)),(.ret,(.mk [(8,(.sc .bool))] [] [] 122))]))]) 3 200 7 [.agg al6,zI (V 1),.agg (cV 2 dI.fH),zL (V 3)] 4=some R7:=by kernel_rfl
theorem GN (x0:dK)(x1:Int)(x2:dI)(x3:List gK):CT Tryz.prog sT 7 [dK.av x0,eI x1,dI.av x2,eL gK.enc x3] (eB (nP x0 x1 x2 x3)):=
 let v4:Bool:=Dy
 let v5:Bool:=Dz x0
 let v6:Int:=jr x0
 let v7:dN×Int:=Oh x0 x1
 let v8:dK×gQ×Int:=jI x0 (gK.mk 5 x1 x2 (dJ.mk 0 (dL.mk 0 0 [] 0) (dL.mk 0 0 [] 0) (dL.mk 0 0 [] 0) false false false) (dL.mk 0 0 [] 0) (dL.mk 0 0 [] 0) [])
 let r9:Bool×Bool×dK×Bool×dK:=jl x1 x2 x3 (x3.length+1) false 0 x0
 wV j_ dX dY e7 H7 (by kernel_rfl) [dK.av x0,eI x1,dI.av x2,eL gK.enc x3,eB v4,eB v5,eI v6,oP v7,fE v8,eI (lW r9.1),eB r9.2.1,dK.av r9.2.2.1,eB r9.2.2.2.1,dK.av r9.2.2.2.2] xn
  (wC (Vm) <|
  wC (Vo x0) <|
  wC (zM x0) <|
  wC (aef x0 x1) <|
  wC (Cm x0 (gK.mk 5 x1 x2 (dJ.mk 0 (dL.mk 0 0 [] 0) (dL.mk 0 0 [] 0) (dL.mk 0 0 [] 0) false false false) (dL.mk 0 0 [] 0) (dL.mk 0 0 [] 0) [])) <|
  wn)
  (lc2 (mJ x0 x1 x2 x3 v4 v5 v6 v7 v8 (x3.length+1) false 0 x0) <|
  ln)
  (show _=eB (bif (!v4) then false else bif (v5||(je v6 0)) then v4 else bif ((je v7.2 0)||(je v8.2.2 0)) then v4 else bif (!(dW (lW r9.1) 0)) then r9.2.2.2.1 else v4) from iC (fun r=>.p (.bool r)) rfl rfl (iC (fun r=>.p (.bool r)) rfl rfl (iC (fun r=>.p (.bool r)) rfl rfl (iC (fun r=>.p (.bool r)) rfl rfl (jZ rfl)))))
theorem GR (x0:dK)(x1:Int)(x2:dI)(x3:List gK):PC Tryz.prog 7 [dK.av x0,eI x1,dI.av x2,eL gK.enc x3] (eB (nP x0 x1 x2 x3)):=(GN x0 x1 x2 x3 trivial).1
end Go.Fw
end
section
namespace Go.Fw
open Go.Proofs
set_option maxRecDepth 100000
theorem AX : Rd Tryz.prog 27 dL.enc dL.wf:=
 (zh Tryz.underlying27 (by kernel_rfl) (iV (m:=1) rfl (by kernel_rfl) (Jk Tryz.underlying5) (iV (m:=1) rfl (by kernel_rfl) (ake Tryz.underlying25) (iV (m:=1) rfl (by kernel_rfl) (adD Tryz.underlying9) (iV (m:=1) rfl (by kernel_rfl) (Jk Tryz.underlying3) (Gs)))))).to (fun x=>dL.mk x.1 x.2.1 x.2.2.1 x.2.2.2.1) (fun _=>rfl) (fun _ h=>⟨h.1,h.2.1,h.2.2.1,h.2.2.2.1⟩)
theorem Zj : Rd Tryz.prog 29 dI.enc dI.wf:=
 (zh Tryz.underlying29 (by kernel_rfl) (iV (m:=1) rfl (by kernel_rfl) (adD Tryz.underlying9) (iV (m:=1) rfl (by kernel_rfl) (Jk Tryz.underlying3) (Gs)))).to (fun x=>dI.mk x.1 x.2.1) (fun _=>rfl) (fun _ h=>⟨h.1,h.2.1⟩)
theorem ace : Rd Tryz.prog 35 dJ.enc dJ.wf:=
 (zh Tryz.underlying35 (by kernel_rfl) (iV (m:=1) rfl (by kernel_rfl) (Jk Tryz.underlying5) (iV (m:=4) rfl (by kernel_rfl) AX (iV (m:=4) rfl (by kernel_rfl) AX (iV (m:=4) rfl (by kernel_rfl) AX (iV (m:=1) rfl (by kernel_rfl) (J_ Tryz.underlying4) (iV (m:=1) rfl (by kernel_rfl) (J_ Tryz.underlying4) (iV (m:=1) rfl (by kernel_rfl) (J_ Tryz.underlying4) (Gs))))))))).to (fun x=>dJ.mk x.1 x.2.1 x.2.2.1 x.2.2.2.1 x.2.2.2.2.1 x.2.2.2.2.2.1 x.2.2.2.2.2.2.1) (fun _=>rfl) (fun _ h=>⟨h.1,h.2.1,h.2.2.1,h.2.2.2.1⟩)
theorem alj : Rd Tryz.prog 98 dM.enc dM.wf:=
 (zh Tryz.underlying98 (by kernel_rfl) (iV (m:=2) rfl (by kernel_rfl) Zj (iV (m:=16) rfl (by kernel_rfl) ace (Gs)))).to (fun x=>dM.mk x.1 x.2.1) (fun _=>rfl) (fun _ h=>⟨h.1,h.2.1⟩)
theorem anK : Rd Tryz.prog 59 dN.enc dN.wf:=
 (zh Tryz.underlying59 (by kernel_rfl) (iV (m:=1) rfl (by kernel_rfl) (Jk Tryz.underlying5) (iV (m:=4) rfl (by kernel_rfl) AX (iV (m:=1) rfl (by kernel_rfl) (J_ Tryz.underlying4) (iV (m:=1) rfl (by kernel_rfl) (NW (m:=18) Tryz.underlying57 (by kernel_rfl) (by decide) (fun _=>rfl) alj) (iV (m:=4) rfl (by kernel_rfl) AX (iV (m:=4) rfl (by kernel_rfl) AX (iV (m:=1) rfl (by kernel_rfl) (adD Tryz.underlying9) (iV (m:=1) rfl (by kernel_rfl) (J_ Tryz.underlying4) (iV (m:=1) rfl (by kernel_rfl) (J_ Tryz.underlying4) (Gs))))))))))).to (fun x=>dN.mk x.1 x.2.1 x.2.2.1 x.2.2.2.1 x.2.2.2.2.1 x.2.2.2.2.2.1 x.2.2.2.2.2.2.1 x.2.2.2.2.2.2.2.1 x.2.2.2.2.2.2.2.2.1) (fun _=>rfl) (fun _ h=>⟨h.1,h.2.1,h.2.2.2.1,h.2.2.2.2.1,h.2.2.2.2.2.1,h.2.2.2.2.2.2.1⟩)
theorem alk : Rd Tryz.prog 24 dK.enc dK.wf:=
 (zh Tryz.underlying24 (by kernel_rfl) (iV (m:=1) rfl (by kernel_rfl) (NW (m:=18) Tryz.underlying22 (by kernel_rfl) (by decide) (fun _=>rfl) anK) (Gs))).to (fun x=>dK.mk x.1) (fun _=>rfl) (fun _ h=>⟨h.1⟩)
theorem anL : Rd Tryz.prog 51 gK.enc gK.wf:=
 (zh Tryz.underlying51 (by kernel_rfl) (iV (m:=1) rfl (by kernel_rfl) (Jk Tryz.underlying5) (iV (m:=1) rfl (by kernel_rfl) (Jk Tryz.underlying3) (iV (m:=2) rfl (by kernel_rfl) Zj (iV (m:=16) rfl (by kernel_rfl) ace (iV (m:=4) rfl (by kernel_rfl) AX (iV (m:=4) rfl (by kernel_rfl) AX (iV (m:=1) rfl (by kernel_rfl) (NW (m:=4) Tryz.underlying49 (by kernel_rfl) (by decide) (fun _=>rfl) AX) (Gs))))))))).to (fun x=>gK.mk x.1 x.2.1 x.2.2.1 x.2.2.2.1 x.2.2.2.2.1 x.2.2.2.2.2.1 x.2.2.2.2.2.2.1) (fun _=>rfl) (fun _ h=>⟨h.1,h.2.1,h.2.2.1,h.2.2.2.1,h.2.2.2.2.1,h.2.2.2.2.2.1,h.2.2.2.2.2.2.1⟩)
end Go.Fw
end
section
namespace Go.Fw
def VU (h:dK)(o:dN)(n:Int):Bool:=
 bif (dW o.Kind 6) then uw h o n
 else bif ((((!(pV o.Target 0))&&(!(((((dW o.Kind 5)&&dR o.Target)&&(decide ((o.Target.Ref:Int)<n)))&&fF h o.Target)&&(dW (h.Objects.getD (o.Target.Ref:Int).toNat default).Kind 6))))||(!(pV o.Handler 0)))||((sNe o.Text [])&&(je o.Kind 3))) then false
 else bif ((((je o.fB.Kind 1)&&(!(dR o.fB)))||(!(fF h o.fB)))||(je (jA o.Props) 0)) then false
 else bif (!(dW (lW (jP h o (o.Props.length+1) false 0).1) 0)) then (jP h o (o.Props.length+1) false 0).2.2
 else bif (dW o.Kind 1) then ((!o.Calls)&&(!o.Makes))
 else bif (dW o.Kind 2) then (((!o.Calls)&&(!o.Makes))&&BU o.Props)
 else bif (dW o.Kind 3) then (((!o.Calls)&&(!o.Makes))&&BX o.Props o.Text)
 else bif (dW o.Kind 4) then (o.Calls&&o.Makes)
 else bif (dW o.Kind 5) then o.Calls
 else false
theorem Kz {h:dK}{n:Int}:kM h n=VU h (h.Objects.getD n.toNat default) n:=rfl
structure alm (h k:dK):Prop where
 len:h.Objects.length=k.Objects.length
 kind:∀i,(h.Objects.getD i default).Kind=(k.Objects.getD i default).Kind
 calls:∀i,(h.Objects.getD i default).Calls=(k.Objects.getD i default).Calls
 makes:∀i,(h.Objects.getD i default).Makes=(k.Objects.getD i default).Makes
theorem aln {h k:dK}(s:alm h k)(v:dL):fF h v=fF k v:=by
 unfold fF EU
 dsimp only
 rw [iZ,iZ,s.len,s.calls,s.makes]
theorem aoU {h k:dK}(s:alm h k){x2:Int}:∀{n:Nat} {a:Bool} {b:Int} {l:List dL},kR h x2 n a b l=kR k x2 n a b l
 |0,_,_,_=>rfl
 |n+1,a,b,l=>by simp only [kR,aln s,aoU s (n:=n)]
theorem alo {h k:dK}(s:alm h k){o:dN}:∀{n:Nat} {a:Bool} {b:Int},jP h o n a b=jP k o n a b
 |0,_,_=>rfl
 |n+1,a,b=>by simp only [jP,aln s,alo s (n:=n)]
theorem anM {h k:dK}(s:alm h k)(o:dN)(n:Int):VU h o n=VU k o n:=by
 unfold VU uw
 dsimp only
 simp only [aln s,aoU s,alo s,s.kind,s.calls,s.makes]
theorem alp {h k:dK}(hk:∀i,DF h i=DF k i)(hr:∀i,CB h i=CB k i):∀{n i:Nat},run h n i=run k n i
 |0,_=>rfl
 |n+1,i=>by simp only [run,hk,hr,alp hk hr (n:=n)]
theorem XM {x0:dK}{u4:List Bool}(hP:Zo x0):∀{n:Nat} {u5:Bool} {u6:Int} {m:List (Int×Bool)} {k:Nat},kQ x0 u4 n u5 u6 m=true->(∀e∈m,e.2=true/\0<=e.1)->0<=u6->run x0 (k+1) u6.toNat=true->run x0 k u6.toNat=false->
  (∀e∈m,run x0 (k+1) e.1.toNat=false)->(iM x0 u4 n u5 u6 m).1=true
 |0,_,_,_,_,h,_,_,_,_,_=>by cases h
 |n+1,u5,u6,m,k,h,hm,h0,hr,hl,hb=>by
  simp only [kQ] at h
  simp only [iM]
  cases hd:(!(!(u4.getD u6.toNat default))) with
  |true=>rfl
  |false=>
   have hg:(nS false u6 m).2=false:=by
    rw [Vb (fun e he=>(hm e he).1)]
    refine decide_eq_false fun hmem=>?_
    obtain ⟨e,he,hee⟩:=List.mem_map.1 hmem
    have:=hb e he
    rw [hee,hr] at this;cases this
   rw [hg]
   cases hq:dW (x0.Objects.getD u6.toNat default).fB.Kind 1 with
   |true=>rfl
   |false=>
    rw [hd,hg,hq] at h
    simp only [cond_false] at h ⊢
    have hnm:u6∉m.map (·.1):=by
     rw [Vb (fun e he=>(hm e he).1)] at hg
     exact of_decide_eq_false hg
    rw [abx hnm] at h ⊢
    have hk:dW (DF x0 u6.toNat) 1=false:=hq
    have hr':run x0 k (CB x0 u6.toNat).toNat=true:=by
     have:run x0 (k+1) u6.toNat=(bif dW (DF x0 u6.toNat) 1 then true else run x0 k (CB x0 u6.toNat).toNat):=rfl
     rw [this,hk] at hr;exact hr
    match k,hr',hl,hb,hr with
    |0,hr',_,_,_=>cases hr'
    |j+1,hr',hl,hb,hr=>
     have hl':run x0 j (CB x0 u6.toNat).toNat=false:=by
      have:run x0 (j+1) u6.toNat=(bif dW (DF x0 u6.toNat) 1 then true else run x0 j (CB x0 u6.toNat).toNat):=rfl
      rw [this,hk] at hl;exact hl
     refine XM hP h (fun e he=>?_) (ak8 hP (yI.1 hq)) hr' hl' (fun e he=>?_)
     .rcases List.mem_append.1 he with he|he
      .exact hm e he
      .simp at he;subst he;exact ⟨rfl,h0⟩
     .rcases List.mem_append.1 he with he|he
      .cases hc:run x0 (j+1) e.1.toNat with
       |false=>rfl
       |true=>have:=RF hc;rw [hb e he] at this;cases this
      .simp at he;subst he;exact hl
theorem Vp {x0:dK}(hP:Zo x0)(hB:x0.Objects.length<=4294967296)(ha:Vf x0):∀(n j:Nat) (u2:Bool) (u4:List Bool),j<=x0.Objects.length->x0.Objects.length-j<n->(lK x0 n u2 j u4).1=true
 |0,j,_,_,_,h=>by omega
 |n+1,j,u2,u4,hj,hn=>by
  simp only [lK,iZ]
  by_cases hlt:j<x0.Objects.length
  .have e1:(!decide ((j:Int)<(x0.Objects.length:Int)))=false:=by rw [decide_eq_true (by omega)];rfl
   rw [e1]
   simp only [cond_false]
   obtain ⟨m,hm⟩:=ha j hlt
   obtain ⟨k,h1,h2⟩:=P8 hm
   have hw:=XM hP (P7 hP (u4:=u4) (u2:=u2) (u3:=(j:Int))) (by simp) (by omega) (k:=k) (by simpa using h1) (by simpa using h2) (by simp)
   rw [hw]
   have e2:(!dW (lW true) 0)=false:=rfl
   simp only [e2,cond_false]
   rw [oM (by omega) (by omega)]
   have e3:((j:Int)+1)=((j+1:Nat):Int):=by omega
   rw [e3]
   exact Vp hP hB ha n (j+1) _ _ (by omega) (by omega)
  .have e1:(!decide ((j:Int)<(x0.Objects.length:Int)))=true:=by rw [decide_eq_false (by omega)];rfl
   rw [e1];rfl
theorem aeg {x0:dK}(hP:Zo x0)(hB:x0.Objects.length<=4294967296)(ha:Vf x0):rW x0=false:=by
 unfold rW
 dsimp only
 rw [iZ,Int.toNat_natCast]
 have:=Vp hP hB ha (x0.Objects.length+1) 0 false (List.replicate x0.Objects.length false) (Nat.zero_le _) (by omega)
 have e0:((0:Nat):Int)=0:=rfl
 rw [e0] at this
 rw [this]
 rfl
theorem alq {α:Type}[Inhabited α]{l:List α}{i j:Nat}{x:α}(hi:i<l.length):(l.set i x).getD j default=if j=i then x else l.getD j default:=by
 rw [List.getD_eq_getElem?_getD,List.getElem?_set]
 by_cases h:i=j
 .subst h;simp [hi]
 .rw [if_neg h,if_neg (fun e=>h e.symm),List.getD_eq_getElem?_getD]
def AY (h:dK)(i:Nat)(o:dN):dK:=⟨h.Objects.set i o⟩
theorem uX {h:dK}{i j:Nat}{o:dN}(hi:i<h.Objects.length):(AY h i o).Objects.getD j default=if j=i then o else h.Objects.getD j default:=alq hi
theorem KA {h:dK}{i:Nat}{o:dN}:(AY h i o).Objects.length=h.Objects.length:=by simp [AY]
theorem aqO {h:dK}{i:Nat}{o:dN}(hi:i<h.Objects.length)(hk:o.Kind=(h.Objects.getD i default).Kind)(hc:o.Calls=(h.Objects.getD i default).Calls)(hm:o.Makes=(h.Objects.getD i default).Makes):alm h (AY h i o):=by
 refine ⟨KA.symm,fun j=>?_,fun j=>?_,fun j=>?_⟩<;>
 .rw [uX hi]
  by_cases e:j=i
  .subst e;rw [if_pos rfl];simp [hk,hc,hm]
  .rw [if_neg e]
theorem HOk.set {h:dK}(k:HOk h){i:Nat}(hi:i<h.Objects.length){o:dN}(hk:o.Kind=(h.Objects.getD i default).Kind)(hc:o.Calls=(h.Objects.getD i default).Calls)(hm:o.Makes=(h.Objects.getD i default).Makes)
  (ho:VU h o (i:Nat)=true) (ha:Vf (AY h i o)):HOk (AY h i o):=by
 have s:=aqO hi hk hc hm
 have asA:∀j,j<(AY h i o).Objects.length->kM (AY h i o) (j:Nat)=true:=fun j hj=>by
  rw [Kz,<- anM s,Int.toNat_natCast,uX hi]
  by_cases e:j=i
  .subst e;rw [if_pos rfl];exact ho
  .rw [if_neg e]
   have:=k.obj j (by rw [KA] at hj;exact hj)
   rw [Kz,Int.toNat_natCast] at this
   exact this
 have hl:(AY h i o).Objects.length<=4096:=by rw [KA];exact k.len
 exact ⟨hl,asA,aeg (Ve asA) (by omega) ha⟩
theorem XO {h:dK}{i:Nat}{o:dN}(hi:i<h.Objects.length)(hp:o.fB=(h.Objects.getD i default).fB)(ha:Vf h):Vf (AY h i o):=by
 have hk:∀j,DF h j=DF (AY h i o) j:=fun j=>by
  unfold DF;rw [uX hi]
  by_cases e:j=i
  .subst e;rw [if_pos rfl,hp]
  .rw [if_neg e]
 have hr:∀j,CB h j=CB (AY h i o) j:=fun j=>by
  unfold CB;rw [uX hi]
  by_cases e:j=i
  .subst e;rw [if_pos rfl,hp]
  .rw [if_neg e]
 intro j hj
 rw [KA] at hj
 obtain ⟨n,hn⟩:=ha j hj
 exact ⟨n,by rw [<- alp hk hr];exact hn⟩
structure anN (h:dK)(o:dN)(n:Int):Prop where
 tg:((((!(pV o.Target 0))&&(!(((((dW o.Kind 5)&&dR o.Target)&&(decide ((o.Target.Ref:Int)<n)))&&fF h o.Target)&&(dW (h.Objects.getD (o.Target.Ref:Int).toNat default).Kind 6))))||(!(pV o.Handler 0)))||((sNe o.Text [])&&(je o.Kind 3)))=false
 pk:((je o.fB.Kind 1)&&(!(dR o.fB)))=false
 pin:fF h o.fB=true
 tc:jA o.Props=0
 pv:∀p∈o.Props,fF h p.dS.Value=true/\fF h p.dS.Get=true/\fF h p.dS.Set=true
 kc:(bif (dW o.Kind 1) then ((!o.Calls)&&(!o.Makes)) else bif (dW o.Kind 4) then (o.Calls&&o.Makes) else o.Calls)=true
theorem GU {l:List dM}(h:jA l=0):l.length<=1024:=by
 by_cases hl:l.length<=1024
 .exact hl
 .unfold jA at h
  dsimp only at h
  rw [iZ,decide_eq_true (by omega)] at h
  cases h
open Classical in
theorem aeh {h:dK}{o:dN}(hB:o.Props.length<=4294967296):∀(n j:Nat) (a:Bool),j<=o.Props.length->o.Props.length-j<n->jP h o n a j=if ∀p∈o.Props.drop j,fF h p.dS.Value=true/\fF h p.dS.Get=true/\fF h p.dS.Set=true then (true,a,default) else (false,default,false)
 |0,j,_,_,hh=>by omega
 |n+1,j,a,hj,hn=>by
  simp only [jP,iZ,Int.toNat_natCast]
  by_cases hlt:j<o.Props.length
  .have e1:(!decide ((j:Int)<(o.Props.length:Int)))=false:=by rw [decide_eq_true (by omega)];rfl
   have e4:o.Props.drop j=o.Props.getD j default::o.Props.drop (j+1):=by
    rw [List.drop_eq_getElem_cons hlt,List.getD_eq_getElem?_getD,List.getElem?_eq_getElem hlt];rfl
   rw [e1,oM (by omega) (by omega)]
   have e2:((j:Int)+1)=((j+1:Nat):Int):=by omega
   rw [e2]
   simp only [cond_false]
   rw [aeh hB n (j+1) a (by omega) (by omega),e4]
   simp only [List.mem_cons,forall_eq_or_imp]
   generalize o.Props.getD j default=p
   cases fF h p.dS.Value<;>cases fF h p.dS.Get<;>cases fF h p.dS.Set<;>simp
  .have e1:(!decide ((j:Int)<(o.Props.length:Int)))=true:=by rw [decide_eq_false (by omega)];rfl
   rw [e1,if_pos (by rw [List.drop_eq_nil_of_le (by omega)];simp)]
   rfl
theorem Vq {h:dK}{o:dN}{n:Int}(hk:o.Kind=1\/o.Kind=4\/o.Kind=5):VU h o n=true↔anN h o n:=by
 have h6:dW o.Kind 6=false:=yI.2 (by omega)
 have h2:dW o.Kind 2=false:=yI.2 (by omega)
 have h3:dW o.Kind 3=false:=yI.2 (by omega)
 have hlast:(bif (dW o.Kind 1) then ((!o.Calls)&&(!o.Makes)) else bif (dW o.Kind 2) then (((!o.Calls)&&(!o.Makes))&&BU o.Props) else bif (dW o.Kind 3) then (((!o.Calls)&&(!o.Makes))&&BX o.Props o.Text) else bif (dW o.Kind 4) then (o.Calls&&o.Makes) else bif (dW o.Kind 5) then o.Calls else false)=(bif (dW o.Kind 1) then ((!o.Calls)&&(!o.Makes)) else bif (dW o.Kind 4) then (o.Calls&&o.Makes) else o.Calls):=by
  rw [h2,h3]
  rcases hk with e|e|e<;>rw [e]<;>rfl
 unfold VU
 rw [h6,hlast]
 simp only [cond_false]
 constructor
 .intro q
  obtain ⟨q1,q⟩:=JB q
  obtain ⟨q2,q⟩:=JB q
  simp only [Bool.or_eq_false_iff,Bool.not_eq_false'] at q2
  have tc:=qC.1 q2.2
  have e:=aeh (h:=h) (o:=o) (by have:=GU tc;omega) (o.Props.length+1) 0 false (Nat.zero_le _) (by omega)
  have e0:((0:Nat):Int)=0:=rfl
  rw [e0] at e
  rw [e] at q
  split at q<;>rename_i hc
  .exact ⟨q1,q2.1.1,q2.1.2,tc,by simpa using hc,q⟩
  .simp [lW,dW] at q
 .intro p
  have e:=aeh (h:=h) (o:=o) (by have:=GU p.tc;omega) (o.Props.length+1) 0 false (Nat.zero_le _) (by omega)
  have e0:((0:Nat):Int)=0:=rfl
  rw [e0,if_pos (by simpa using p.pv)] at e
  rw [p.tg,e,p.pk,p.pin,qC.2 p.tc]
  exact p.kc
end Go.Fw
end
section
namespace Go.Fw
structure HWf (h:dK):Prop where
 ps:∀o∈h.Objects,∀p∈o.Props,p.dS.ok
 pr:∀o∈h.Objects,o.fB.ok
theorem hwf {h:dK}(w:h.wf):HWf h:=⟨fun o ho p hp=>dok ((w.Objects.2 o ho).Props.2 p hp).dS,fun o ho=>vok (w.Objects.2 o ho).fB⟩
theorem HWf.at {h:dK}(w:HWf h)(i:Nat):(∀p∈(h.Objects.getD i default).Props,p.dS.ok)/\(h.Objects.getD i default).fB.ok:=by
 by_cases hi:i<h.Objects.length
 .have:h.Objects.getD i default∈h.Objects:=by rw [List.getD_eq_getElem?_getD,List.getElem?_eq_getElem hi];exact List.getElem_mem hi
  exact ⟨w.ps _ this,w.pr _ this⟩
 .rw [List.getD_eq_getElem?_getD,List.getElem?_eq_none (by omega)]
  exact ⟨fun p hp=>(by cases hp),⟨⟨by decide,by decide⟩,by decide⟩⟩
theorem HWf.set {h:dK}(w:HWf h){i:Nat}{o:dN}(h1:∀p∈o.Props,p.dS.ok)(h2:o.fB.ok):HWf (AY h i o):=by
 refine ⟨fun x hx=>?_,fun x hx=>?_⟩
 .rcases List.mem_or_eq_of_mem_set hx with hx|hx
  .exact w.ps x hx
  .subst hx;exact h1
 .rcases List.mem_or_eq_of_mem_set hx with hx|hx
  .exact w.pr x hx
  .subst hx;exact h2
theorem RG {h:dK}{v:dL}(q:jS h v=true):fF h v=true:=by
 unfold jS at q
 unfold fF EU
 dsimp only at q ⊢
 cases ho:dR v with
 |false=>rw [ho] at q;simp at q;simp [q]
 |true=>
  rw [ho] at q
  simp only [Bool.not_true,cond_false] at q
  obtain ⟨q1,q2⟩:=JB q
  simp only [Bool.or_eq_false_iff,Bool.not_eq_false',decide_eq_false_iff_not] at q1
  rw [q1.1]
  simp only [Bool.not_true,cond_false,Bool.false_or,Bool.and_eq_true,decide_eq_true_eq]
  refine ⟨by omega,?_⟩
  generalize h.Objects.getD v.Ref.toNat default=o at q2 ⊢
  simp only [Bool.or_eq_true,Bool.and_eq_true,Bool.not_eq_true',mD] at q2
  rcases q2 with (⟨a,b⟩|⟨⟨a,b⟩,c⟩)|⟨⟨a,b⟩,c⟩
  .rw [b,a];rfl
  .rw [b,c,a];rfl
  .rw [b,c,a];rfl
structure Asked (h:dK)(a:gK):Prop where
 i0:0<=a.Object
 i1:a.Object.toNat<h.Objects.length
 kind:(h.Objects.getD a.Object.toNat default).Kind=1\/(h.Objects.getD a.Object.toNat default).Kind=4\/(h.Objects.getD a.Object.toNat default).Kind=5
 m2:a.Method=2->jQ h a.Value=true
 key:a.Method=5\/a.Method=6\/a.Method=10->lG a.Key=0
 m6:a.Method=6->lq a.dS=0/\jS h a.dS.Value=true/\jS h a.dS.Get=true/\jS h a.dS.Set=true
 mm:a.Method=1\/a.Method=2\/a.Method=3\/a.Method=4\/a.Method=5\/a.Method=6\/a.Method=10\/a.Method=11
theorem afN {c:Bool}{n b:Int}(hn:n≠0)(h:(bif c then n else b)=0):c=false/\b=0:=by cases c<;>simp_all
theorem aoV {c:Bool}{n b:Int}(h:(bif c&&je n 0 then n else b)=0):(c=true->n=0)/\b=0:=by
 cases c
 .simpa using h
 .simp only [Bool.true_and] at h
  cases hn:je n 0 with
  |true=>rw [hn] at h;exact absurd h (EI.1 hn)
  |false=>rw [hn] at h;exact ⟨fun _=>qC.1 hn,h⟩
theorem ahU {h:dK}{a:gK}(q:jF h a=0):Asked h a:=by
 unfold jF at q
 dsimp only at q
 obtain ⟨q1,q⟩:=afN (by decide) q
 obtain ⟨q2,q⟩:=afN (by decide) q
 obtain ⟨q3,q⟩:=afN (by decide) q
 rw [iZ] at q1
 simp only [Bool.or_eq_false_iff,decide_eq_false_iff_not] at q1
 simp only [Bool.not_eq_false',Bool.or_eq_true,mD] at q2
 have hfin:∀{c:Bool},(bif c then (2:Int) else 0)=0->c=false:=by intro c;cases c<;>simp
 by_cases g:a.Method=1\/a.Method=3\/a.Method=4\/a.Method=11
 .exact ⟨by omega,by omega,q2,fun e=>by omega,fun e=>by omega,fun e=>by omega,by omega⟩
 .have g':(!(dW a.Method 1||(dW a.Method 3||(dW a.Method 4||dW a.Method 11))))=true:=by
   simp only [Bool.not_eq_true',Bool.or_eq_false_iff,yI];omega
  rw [g'] at q q3
  simp only [Bool.true_and] at q q3
  by_cases m2:a.Method=2
  .rw [m2] at q3
   have:jQ h a.Value=true:=by simpa [dW] using q3
   exact ⟨by omega,by omega,q2,fun _=>this,fun e=>by omega,fun e=>by omega,by omega⟩
  .have g2:(!(dW a.Method 2))=true:=by simp only [Bool.not_eq_true',yI];exact m2
   rw [g2] at q
   simp only [Bool.true_and] at q
   by_cases m5:a.Method=5\/a.Method=10
   .have:(dW a.Method 5||dW a.Method 10)=true:=by simp only [Bool.or_eq_true,mD];exact m5
    rw [this] at q
    exact ⟨by omega,by omega,q2,fun e=>by omega,fun _=>q,fun e=>by omega,by omega⟩
   .have:(dW a.Method 5||dW a.Method 10)=false:=by simp only [Bool.or_eq_false_iff,yI];omega
    rw [this] at q
    simp only [cond_false] at q
    by_cases m6:a.Method=6
    .have e6:dW a.Method 6=true:=mD.2 m6
     rw [e6] at q
     obtain ⟨k1,q⟩:=aoV q
     obtain ⟨k2,q⟩:=aoV q
     obtain ⟨k3,q⟩:=afN (by decide) q
     simp only [Bool.true_and,Bool.or_eq_false_iff,Bool.not_eq_false'] at k3
     exact ⟨by omega,by omega,q2,fun e=>by omega,fun _=>k1 rfl,fun _=>⟨k2 rfl,k3.1.1,k3.1.2,k3.2⟩,by omega⟩
    .have e6:dW a.Method 6=false:=yI.2 m6
     rw [e6] at q
     simp at q
theorem azb {α:Type}{l:List α}{i:Nat}{x y:α}(h:y∈l.set i x):y∈l\/y=x:=List.mem_or_eq_of_mem_set h
theorem anO {l:List dM}{k:dI}{d:dJ}:∀p∈(ku l k d).1,p∈l\/p.dS=d:=by
 unfold ku
 dsimp only
 intro p
 cases (je (nC l k) 0) with
 |true=>intro hp;cases hp
 |false=>
  cases (!og d) with
  |true=>intro hp;cases hp
  |false=>
   cases (decide (um l k<0)&&dW (jy dM.enc l) 1024) with
   |true=>intro hp;cases hp
   |false=>
    cases decide (um l k<0) with
    |true=>
     intro hp
     simp only [cond_true,cond_false] at hp
     rcases List.mem_append.1 hp with hp|hp
     .exact .inl (List.mem_of_mem_drop (List.mem_of_mem_take hp))
     .simp at hp;subst hp;exact .inr rfl
    |false=>
     intro hp
     simp only [cond_false] at hp
     rcases azb (List.mem_of_mem_drop (List.mem_of_mem_take hp)) with hp|hp
     .exact .inl hp
     .subst hp;exact .inr rfl
theorem zin {h:dK}:fF h (dL.mk 0 0 [] 0)=true:=by
 unfold fF
 dsimp only
 have e1:jh (dL.mk 0 0 [] 0)=true:=by decide +kernel
 have e2:dR (dL.mk 0 0 [] 0)=false:=by decide +kernel
 rw [e1,e2];rfl
theorem GV {x0:Bool}{x1:dJ}{x2:Bool}{x3:dJ}(h:(gG x0 x1 x2 x3).2.1=true):iP x0 x1 x2 x3=(true,0):=by
 unfold gG at h
 dsimp only at h
 cases hc:(je (iP x0 x1 x2 x3).2 0||!(iP x0 x1 x2 x3).1) with
 |true=>rw [hc] at h;cases h
 |false=>
  simp only [Bool.or_eq_false_iff,Bool.not_eq_false',qC] at hc
  exact Prod.ext hc.2 hc.1
theorem als {h:dK}{x0:Bool}{x1:dJ}{x2:Bool}{x3:dJ}(h1:x1.ok)(h3:x3.ok)(q:(gG x0 x1 x2 x3).2.1=true)(i1:fF h x1.Value=true/\fF h x1.Get=true/\fF h x1.Set=true)(i3:fF h x3.Value=true/\fF h x3.Get=true/\fF h x3.Set=true) :
  fF h (gG x0 x1 x2 x3).1.Value=true/\fF h (gG x0 x1 x2 x3).1.Get=true/\fF h (gG x0 x1 x2 x3).1.Set=true:=by
 rw [ayS h1 h3 (GV q)]
 dsimp only
 unfold mix ny
 dsimp only
 cases x2
 .exact i1
 .simp only [Bool.not_true,cond_false]
  cases ayE x1 x3
  .simp only [cond_false]
   refine ⟨?_,?_,?_⟩
   .cases hb x1.Has 0<;>simp [i1,i3]
   .cases hb x1.Has 2<;>simp [i1,i3]
   .cases hb x1.Has 3<;>simp [i1,i3]
  .exact i1
theorem La.ofT {l:List dM}(hok:∀p∈l,p.dS.ok)(h:jA l=0):La l:=by
 have hl:=GU h
 have:lH l=0:=by rw [<- P6 l (by omega) hok];exact h
 exact La.of (by omega) this
theorem La.aqP {l:List dM}(hok:∀p∈l,p.dS.ok)(h:La l):jA l=0:=by
 rw [P6 l h.big hok];exact h.chk
theorem RH {l:List dM}{k:dI}(h:(kZ l k).2.1=true):∃p∈l,p.Key=k/\(kZ l k).1=p.dS:=by
 unfold kZ at h ⊢
 cases hf:l.find? (isK k) with
 |none=>rw [hf] at h;cases h
 |some p=>
  have:=List.find?_some hf
  exact ⟨p,List.mem_of_find?_eq_some hf,of_decide_eq_true this,rfl⟩
theorem acf {l:List dM}{k:dI}(h:(kZ l k).2.1=false):(kZ l k).1=d00:=by
 unfold kZ at h ⊢
 cases hf:l.find? (isK k) with
 |none=>rfl
 |some p=>rw [hf] at h;cases h
theorem aqQ : d00.ok:=⟨⟨by decide,by decide⟩,⟨⟨by decide,by decide⟩,by decide⟩,⟨⟨by decide,by decide⟩,by decide⟩,⟨⟨by decide,by decide⟩,by decide⟩⟩
theorem GX {l:List dM}(hok:∀p∈l,p.dS.ok){k:dI}:(kZ l k).1.ok:=by
 cases h:(kZ l k).2.1 with
 |true=>obtain ⟨p,hp,-,e⟩:=RH h;rw [e];exact hok p hp
 |false=>rw [acf h];exact aqQ
theorem aqR {h:dK}{l:List dM}(hv:∀p∈l,fF h p.dS.Value=true/\fF h p.dS.Get=true/\fF h p.dS.Set=true){k:dI}:fF h (kZ l k).1.Value=true/\fF h (kZ l k).1.Get=true/\fF h (kZ l k).1.Set=true:=by
 cases hf:(kZ l k).2.1 with
 |true=>obtain ⟨p,hp,-,e⟩:=RH hf;rw [e];exact hv p hp
 |false=>rw [acf hf];exact ⟨zin,zin,zin⟩
structure Obj (h:dK)(a:gK):Prop where
 ok:HOk h
 wf:HWf h
 ak:Asked h a
 po:anN h (h.Objects.getD a.Object.toNat default) (a.Object.toNat:Nat)
 pp:La (h.Objects.getD a.Object.toNat default).Props
 pd:∀p∈(h.Objects.getD a.Object.toNat default).Props,p.dS.ok
theorem Obj.mk' {h:dK}{a:gK}(w:HWf h)(e:(jI h a).2.2=0):Obj h a:=by
 obtain ⟨hC,hw⟩:=abK e
 have k:=w_.1 hC
 have A:=ahU hw
 have:=k.obj _ A.i1
 rw [Kz,Int.toNat_natCast] at this
 have po:=(Vq A.kind).1 this
 exact ⟨k,w,A,po,La.ofT (w.at _).1 po.tc,(w.at _).1⟩
structure Left (h:dK)(a:gK)(x:dK):Prop where
 ok:HOk x
 wf:HWf x
 len:x.Objects.length=h.Objects.length
 el:∀j,j≠a.Object.toNat->x.Objects.getD j default=h.Objects.getD j default
 kd:(x.Objects.getD a.Object.toNat default).Kind=(h.Objects.getD a.Object.toNat default).Kind
theorem Left.refl {h:dK}{a:gK}(B:Obj h a):Left h a h:=⟨B.ok,B.wf,rfl,fun _ _=>rfl,rfl⟩
theorem Left.set {h:dK}{a:gK}(B:Obj h a){o:dN}(hk:o.Kind=(h.Objects.getD a.Object.toNat default).Kind)(hc:o.Calls=(h.Objects.getD a.Object.toNat default).Calls)(hm:o.Makes=(h.Objects.getD a.Object.toNat default).Makes)
  (ho:anN h o (a.Object.toNat:Nat)) (ha:Vf (AY h a.Object.toNat o)) (h1:∀p∈o.Props,p.dS.ok) (h2:o.fB.ok):Left h a (AY h a.Object.toNat o):=by
 refine ⟨B.ok.set B.ak.i1 hk hc hm ((Vq (by rw [hk];exact B.ak.kind)).2 ho) ha,B.wf.set h1 h2,KA,fun j hj=>?_,?_⟩
 .rw [uX B.ak.i1,if_neg hj]
 .rw [uX B.ak.i1,if_pos rfl,hk]
theorem Left.ext {h:dK}{a:gK}(B:Obj h a)(b:Bool):Left h a (AY h a.Object.toNat {h.Objects.getD a.Object.toNat default with Ext:=b}):=
 .set B rfl rfl rfl ⟨B.po.tg,B.po.pk,B.po.pin,B.po.tc,B.po.pv,B.po.kc⟩ (XO B.ak.i1 rfl B.ok.anD) B.pd (B.wf.at _).2
theorem Left.props {h:dK}{a:gK}(B:Obj h a){l:List dM}(h1:jA l=0)(h2:∀p∈l,fF h p.dS.Value=true/\fF h p.dS.Get=true/\fF h p.dS.Set=true)(h3:∀p∈l,p.dS.ok):Left h a (AY h a.Object.toNat {h.Objects.getD a.Object.toNat default with Props:=l}):=
 .set B rfl rfl rfl ⟨B.po.tg,B.po.pk,B.po.pin,h1,h2,B.po.kc⟩ (XO B.ak.i1 rfl B.ok.anD) h3 (B.wf.at _).2
theorem QJ {h:dK}{i:Nat}(k:HOk h){o:dN}(hi:i<h.Objects.length):∀{n:Nat} {u:Bool} {v:dL},hIn h v->jT h (i:Nat) n u v=true->(bif (dW (lW (lu h (i:Nat) n u v).1) 0) then false else (lu h (i:Nat) n u v).2.2.2.1)=false->dR v=true->∃m,run (AY h i o) m v.Ref.toNat=true
 |0,_,_,_,h,_,_=>by cases h
 |n+1,u,v,hv,hT,hq,ho=>by
  simp only [jT] at hT
  simp only [lu] at hq
  rw [ho] at hT hq
  simp only [Bool.not_true,cond_false] at hT hq
  have hin:=hv ho
  cases hr:dW v.Ref (i:Nat) with
  |true=>rw [hr] at hq;simp [lW,dW] at hq
  |false=>
   rw [hr] at hT hq
   simp only [cond_false] at hT hq
   have hne:v.Ref.toNat≠i:=by have:=yI.1 hr;omega
   have hk:DF (AY h i o) v.Ref.toNat=DF h v.Ref.toNat:=by unfold DF;rw [uX hi,if_neg hne]
   have hR:CB (AY h i o) v.Ref.toNat=CB h v.Ref.toNat:=by unfold CB;rw [uX hi,if_neg hne]
   have step:∀m,run (AY h i o) (m+1) v.Ref.toNat=(bif dW (DF h v.Ref.toNat) 1 then true else run (AY h i o) m (CB h v.Ref.toNat).toNat):=fun m=>by
    show (bif dW (DF (AY h i o) v.Ref.toNat) 1 then true else run (AY h i o) m (CB (AY h i o) v.Ref.toNat).toNat)=_
    rw [hk,hR]
   cases hn:dW (DF h v.Ref.toNat) 1 with
   |true=>exact ⟨1,by rw [step,hn];rfl⟩
   |false=>
    have hlt:v.Ref.toNat<h.Objects.length:=by omega
    rcases GI (k.obj _ hlt) with h1|⟨h1,h2⟩
    .simp only [Int.toNat_natCast] at h1
     exact absurd h1 (yI.1 hn)
    .simp only [Int.toNat_natCast] at h1 h2
     cases h6:dW (h.Objects.getD v.Ref.toNat default).Kind 6 with
     |true=>
      exfalso
      have:=k.obj _ hlt
      rw [Kz,Int.toNat_natCast] at this
      unfold VU at this
      rw [h6] at this
      simp only [cond_true] at this
      unfold uw at this
      dsimp only at this
      obtain ⟨hc,-⟩:=JB this
      simp only [Bool.or_eq_false_iff,Bool.not_eq_false'] at hc
      have hc:=hc.1.1.2
      unfold pV at hc
      dsimp only at hc
      rw [Bool.and_eq_true] at hc
      have:=hc.1
      unfold DF at hn
      rw [hn] at this;cases this
     |false=>
      rw [h6] at hT hq
      simp only [cond_false] at hT hq
      obtain ⟨m,hm⟩:=QJ k hi (Zd h2) hT hq h1
      exact ⟨m+1,by rw [step,hn];exact hm⟩
theorem aei {h:dK}{i:Nat}{v:dL}(k:HOk h)(hi:i<h.Objects.length)(hv:hIn h v)(hn:v.Kind=1\/dR v=true)(hb:iQ h (i:Nat) v=false){o:dN}(ho:o.fB=v):Vf (AY h i o):=by
 have kI:DF (AY h i o) i=v.Kind:=by unfold DF;rw [uX hi,if_pos rfl,ho]
 have rI:CB (AY h i o) i=v.Ref:=by unfold CB;rw [uX hi,if_pos rfl,ho]
 have atI:∃m,run (AY h i o) m i=true:=by
  by_cases h1:v.Kind=1
  .refine ⟨1,?_⟩
   show (bif dW (DF (AY h i o) i) 1 then true else _)=true
   rw [kI,mD.2 h1];rfl
  .have ho':dR v=true:=by rcases hn with h|h;exact absurd h h1;exact h
   obtain ⟨m,hm⟩:=QJ (o:=o) k hi hv (Vg (w_.2 k) hv (u3:=false) (x1:=(i:Nat))) (by unfold iQ at hb;exact hb) ho'
   refine ⟨m+1,?_⟩
   show (bif dW (DF (AY h i o) i) 1 then true else run (AY h i o) m (CB (AY h i o) i).toNat)=true
   rw [kI,rI,yI.2 h1];exact hm
 have all:∀(n j:Nat),run h n j=true->∃m,run (AY h i o) m j=true:=by
  intro n
  induction n with
  |zero=>intro j hj;cases hj
  |succ n ih=>
   intro j hj
   by_cases e:j=i
   .subst e;exact atI
   .have hk:DF (AY h i o) j=DF h j:=by unfold DF;rw [uX hi,if_neg e]
    have hR:CB (AY h i o) j=CB h j:=by unfold CB;rw [uX hi,if_neg e]
    have step:∀m,run (AY h i o) (m+1) j=(bif dW (DF h j) 1 then true else run (AY h i o) m (CB h j).toNat):=fun m=>by
     show (bif dW (DF (AY h i o) j) 1 then true else run (AY h i o) m (CB (AY h i o) j).toNat)=_
     rw [hk,hR]
    have hj':(bif dW (DF h j) 1 then true else run h n (CB h j).toNat)=true:=hj
    cases hn:dW (DF h j) 1 with
    |true=>exact ⟨1,by rw [step,hn];rfl⟩
    |false=>
     rw [hn] at hj'
     obtain ⟨m,hm⟩:=ih _ hj'
     exact ⟨m+1,by rw [step,hn];exact hm⟩
 intro j hj
 rw [KA] at hj
 obtain ⟨n,hn⟩:=k.anD j hj
 exact all n j hn
theorem Vr {h:dK}{v:dL}(q:jQ h v=true):v.Kind=1\/dR v=true:=by
 unfold jQ at q
 dsimp only at q
 rw [Bool.and_eq_true,Bool.or_eq_true] at q
 rcases q.1 with h|h
 .exact .inl (mD.1 h)
 .exact .inr h
theorem ahV {h:dK}{v:dL}(q:jQ h v=true):fF h v=true:=by
 unfold jQ at q
 dsimp only at q
 rw [Bool.and_eq_true] at q
 exact RG q.2
theorem Left.proto {h:dK}{a:gK}(B:Obj h a)(h2:a.Method=2)(hv:a.Value.ok)(hb:iQ h a.Object a.Value=false):Left h a (AY h a.Object.toNat {h.Objects.getD a.Object.toNat default with fB:=a.Value}):=by
 have hp:=B.ak.m2 h2
 have hb':iQ h (a.Object.toNat:Nat) a.Value=false:=by
  have:((a.Object.toNat:Nat):Int)=a.Object:=by have:=B.ak.i0;omega
  rw [this];exact hb
 refine .set B rfl rfl rfl ⟨B.po.tg,?_,ahV hp,B.po.tc,B.po.pv,B.po.kc⟩ (aei B.ok B.ak.i1 (abJ hp) (Vr hp) hb' rfl) B.pd hv
 show (je a.Value.Kind 1&&!dR a.Value)=false
 rcases Vr hp with h|h
 .rw [h];rfl
 .rw [h];simp
end Go.Fw
end
section
namespace Go.Fw
abbrev oO (h:dK)(a:gK):dN:=h.Objects.getD a.Object.toNat default
theorem Zk {h:dK}{a:gK}(B:Obj h a){k:dI}(hk:lG k=0):fK (oO h a).Props k=kZ (oO h a).Props k:=
 B.pp.find B.pd (by rw [<- uz];exact hk)
structure ave (h:dK)(a:gK):Prop where
 pu:aqn (oO h a).Props a.Key (gG (oO h a).Ext a.dS (kZ (oO h a).Props a.Key).2.1 (kZ (oO h a).Props a.Key).1).1 (ku (oO h a).Props a.Key (gG (oO h a).Ext a.dS (kZ (oO h a).Props a.Key).2.1 (kZ (oO h a).Props a.Key).1).1).1
theorem Left.put {h:dK}{a:gK}(B:Obj h a)(m:a.Method=6)(hd:a.dS.ok)(h1:(gG (oO h a).Ext a.dS (kZ (oO h a).Props a.Key).2.1 (kZ (oO h a).Props a.Key).1).2.1=true)
  (h2:(ku (oO h a).Props a.Key (gG (oO h a).Ext a.dS (kZ (oO h a).Props a.Key).2.1 (kZ (oO h a).Props a.Key).1).1).2=0) :
  Left h a (AY h a.Object.toNat {oO h a with Props:=(ku (oO h a).Props a.Key (gG (oO h a).Ext a.dS (kZ (oO h a).Props a.Key).2.1 (kZ (oO h a).Props a.Key).1).1).1})/\ave h a:=by
 have hk:iY a.Key=0:=by rw [<- uz];exact B.ak.key (.inr (.inl m))
 have b:=ay_ hd (GX B.pd) (GV h1)
 have pf:=ahR B.pp B.pd hk b.ok h2
 have m6:=B.ak.m6 m
 have ai:=als hd (GX B.pd) h1 ⟨RG m6.2.1,RG m6.2.2.1,RG m6.2.2.2⟩ (aqR B.po.pv (k:=a.Key))
 refine ⟨Left.props B (La.aqP pf.ok pf.tb) (fun p hp=>?_) pf.ok,⟨pf⟩⟩
 rcases anO p hp with h|h
 .exact B.po.pv p h
 .rw [h];exact ai
theorem Left.drop {h:dK}{a:gK}(B:Obj h a)(m:a.Method=10) :
  Left h a (AY h a.Object.toNat {oO h a with Props:=(rV (oO h a).Props a.Key).1}):=by
 have hk:iY a.Key=0:=by rw [<- uz];exact B.ak.key (.inr (.inr m))
 rw [afI B.pp B.pd hk]
 have d:=U_ B.pp B.pd (k:=a.Key)
 exact Left.props B (La.aqP d.ok d.tb) (fun p hp=>B.po.pv p (List.mem_filter.1 hp).1) d.ok
theorem alu {h:dK}{a:gK}(B:Obj h a)(hv:a.Value.ok)(hd:a.dS.ok):Left h a (xw h a).1:=by
 unfold xw
 dsimp only
 cases m1:dW a.Method 1 with
 |true=>exact .refl B
 |false=>
 cases m2:dW a.Method 2 with
 |true=>
  simp only [cond_false,cond_true]
  cases hc:(eH a.Value (h.Objects.getD a.Object.toNat default).fB||!(h.Objects.getD a.Object.toNat default).Ext||iQ h a.Object a.Value) with
  |true=>exact .refl B
  |false=>
   simp only [Bool.or_eq_false_iff] at hc
   exact .proto B (mD.1 m2) hv hc.2
 |false=>
 cases m3:dW a.Method 3 with
 |true=>exact .refl B
 |false=>
 cases m4:dW a.Method 4 with
 |true=>exact .ext B false
 |false=>
 cases m5:dW a.Method 5 with
 |true=>exact .refl B
 |false=>
 cases m6:dW a.Method 6 with
 |true=>
  simp only [cond_false,cond_true]
  rw [Zk B (B.ak.key (.inr (.inl (mD.1 m6))))]
  cases h1:(gG (oO h a).Ext a.dS (kZ (oO h a).Props a.Key).2.1 (kZ (oO h a).Props a.Key).1).2.1 with
  |false=>exact .refl B
  |true=>
   simp only [Bool.not_true,cond_false]
   cases h2:je (ku (oO h a).Props a.Key (gG (oO h a).Ext a.dS (kZ (oO h a).Props a.Key).2.1 (kZ (oO h a).Props a.Key).1).1).2 0 with
   |true=>exact .refl B
   |false=>exact (Left.put B (mD.1 m6) hd h1 (qC.1 h2)).1
 |false=>
 cases m10:dW a.Method 10 with
 |true=>
  simp only [cond_false,cond_true]
  cases (fK (h.Objects.getD a.Object.toNat default).Props a.Key).2.1&&!(fK (h.Objects.getD a.Object.toNat default).Props a.Key).1.Configurable with
  |true=>exact .refl B
  |false=>exact .drop B (mD.1 m10)
 |false=>exact .refl B
theorem RI {h:dK}{a:gK}(h0:0<=a.Object)(h1:a.Object.toNat<h.Objects.length)(hk:(oO h a).Kind=1\/(oO h a).Kind=4\/(oO h a).Kind=5)(hm:a.Method=1\/a.Method=3\/a.Method=4\/a.Method=11\/(a.Method=5/\lG a.Key=0)):jF h a=0:=by
 unfold jF
 dsimp only
 rw [iZ]
 have e1:(decide (a.Object<0)||decide (a.Object>=(h.Objects.length:Int)))=false:=by rw [Bool.or_eq_false_iff];exact ⟨decide_eq_false (by omega),decide_eq_false (by omega)⟩
 have e2:(!(dW (h.Objects.getD a.Object.toNat default).Kind 1||(dW (h.Objects.getD a.Object.toNat default).Kind 4||dW (h.Objects.getD a.Object.toNat default).Kind 5)))=false:=by
  rcases hk with e|e|e<;>(unfold oO at e;rw [e];rfl)
 rw [e1,e2]
 simp only [cond_false]
 rcases hm with e|e|e|e|⟨e,e3⟩
 .rw [e];rfl
 .rw [e];rfl
 .rw [e];rfl
 .rw [e];rfl
 .rw [e];simpa [dW] using e3
theorem afO {h:dK}{a:gK}(hC:jr h=0)(hw:jF h a=0):(jI h a).2.2=0:=by
 rw [ala hC hw]
 unfold xw
 dsimp only
 cases dW a.Method 1 with
 |true=>rfl
 |false=>
 cases dW a.Method 2 with
 |true=>simp only [cond_false,cond_true];cases (eH a.Value (h.Objects.getD a.Object.toNat default).fB||!(h.Objects.getD a.Object.toNat default).Ext||iQ h a.Object a.Value)<;>rfl
 |false=>
 cases dW a.Method 3 with
 |true=>rfl
 |false=>
 cases dW a.Method 4 with
 |true=>rfl
 |false=>
 cases dW a.Method 5 with
 |true=>rfl
 |false=>
 cases dW a.Method 6 with
 |true=>
  simp only [cond_false,cond_true]
  generalize (gG (h.Objects.getD a.Object.toNat default).Ext a.dS (fK (h.Objects.getD a.Object.toNat default).Props a.Key).2.1 (fK (h.Objects.getD a.Object.toNat default).Props a.Key).1)=ap
  generalize ku (h.Objects.getD a.Object.toNat default).Props a.Key ap.1=pt
  cases (!ap.2.1)<;>cases (je pt.2 0)<;>rfl
 |false=>
 cases dW a.Method 10 with
 |true=>simp only [cond_false,cond_true];cases ((fK (h.Objects.getD a.Object.toNat default).Props a.Key).2.1&&!(fK (h.Objects.getD a.Object.toNat default).Props a.Key).1.Configurable)<;>rfl
 |false=>rfl
theorem asB {h:dK}{n:Int}(hC:jr h=0)(h0:0<=n)(h1:n.toNat<h.Objects.length):Oh h n=(h.Objects.getD n.toNat default,0):=by
 unfold Oh
 dsimp only
 rw [qC.2 hC,iZ]
 have e1:(decide (n<0)||decide (n>=(h.Objects.length:Int)))=false:=by rw [Bool.or_eq_false_iff];exact ⟨decide_eq_false (by omega),decide_eq_false (by omega)⟩
 rw [e1];rfl
theorem anP : Dy=true:=by decide +kernel
end Go.Fw
end
section
namespace Go.Fw
theorem XP (v:dL):wY v v=true:=by
 unfold wY
 have e:LP v.Num v.Num=!fEq v.Num v.Num:=rfl
 have s:BF v.Str v.Str=true:=by simp [BF]
 have i:∀x:Int,dW x x=true:=fun x=>mD.2 rfl
 rw [e,s,i,i]
 cases hf:fEq v.Num v.Num with
 |true=>simp [hf]
 |false=>simp;decide +kernel
theorem afP (b:Bool):JL b b=true:=by simp [JL]
theorem aoW (s:List UInt8):BF s s=true:=by simp [BF]
theorem aoX (x:Int):dW x x=true:=mD.2 rfl
theorem alv {l:List dM}(hB:l.length<=4294967296):∀(n j:Nat) (u:Bool),j<=l.length->l.length-j<n->lT l l n u j=(true,u,default)
 |0,j,_,_,h=>by omega
 |n+1,j,u,hj,hn=>by
  simp only [lT,iZ,XP,afP,aoW,aoX,Bool.and_self,Bool.not_true,cond_false]
  by_cases hlt:j<l.length
  .have e1:(!decide ((j:Int)<(l.length:Int)))=false:=by rw [decide_eq_true (by omega)];rfl
   rw [e1,oM (by omega) (by omega)]
   have e2:((j:Int)+1)=((j+1:Nat):Int):=by omega
   rw [e2]
   exact alv hB n (j+1) u (by omega) (by omega)
  .have e1:(!decide ((j:Int)<(l.length:Int)))=true:=by rw [decide_eq_false (by omega)];rfl
   rw [e1];rfl
theorem alx {l:List dM}(hB:l.length<=4294967296):qO l l=true:=by
 unfold qO
 dsimp only
 have:=alv hB (l.length+1) 0 false (Nat.zero_le _) (by omega)
 have e0:((0:Nat):Int)=0:=rfl
 rw [e0] at this
 rw [this,qC.2 rfl];rfl
theorem aly {l:List dN}(hB:l.length<=4294967296)(hp:∀o∈l,o.Props.length<=4294967296):∀(n j:Nat) (u:Bool),j<=l.length->l.length-j<n->kX l l n u j=(true,u,default)
 |0,j,_,_,h=>by omega
 |n+1,j,u,hj,hn=>by
  simp only [kX,iZ,XP,afP,aoW,aoX,Bool.and_self,Bool.not_true,cond_false,Bool.true_and,Int.toNat_natCast]
  by_cases hlt:j<l.length
  .have e1:(!decide ((j:Int)<(l.length:Int)))=false:=by rw [decide_eq_true (by omega)];rfl
   have hm:l.getD j default∈l:=by rw [List.getD_eq_getElem?_getD,List.getElem?_eq_getElem hlt];exact List.getElem_mem hlt
   rw [e1,oM (by omega) (by omega),alx (hp _ hm)]
   have e2:((j:Int)+1)=((j+1:Nat):Int):=by omega
   rw [e2]
   exact aly hB hp n (j+1) u (by omega) (by omega)
  .have e1:(!decide ((j:Int)<(l.length:Int)))=true:=by rw [decide_eq_false (by omega)];rfl
   rw [e1];rfl
theorem aej {h:dK}(hB:h.Objects.length<=4294967296)(hp:∀o∈h.Objects,o.Props.length<=4294967296):PW h h=true:=by
 unfold PW uY
 dsimp only
 have:=aly hB hp (h.Objects.length+1) 0 false (Nat.zero_le _) (by omega)
 have e0:((0:Nat):Int)=0:=rfl
 rw [e0] at this
 rw [this,qC.2 rfl];rfl
theorem aek {h:dK}{o:dN}{n:Int}(q:VU h o n=true):o.Props.length<=1024:=by
 unfold VU at q
 cases h6:dW o.Kind 6 with
 |true=>
  rw [h6] at q
  simp only [cond_true] at q
  unfold uw at q
  dsimp only at q
  obtain ⟨hc,-⟩:=JB q
  rw [iZ] at hc
  simp only [Bool.or_eq_false_iff,decide_eq_false_iff_not] at hc
  have:=hc.1.1.1.1
  omega
 |false=>
  rw [h6] at q
  simp only [cond_false] at q
  obtain ⟨-,q⟩:=JB q
  obtain ⟨q2,q⟩:=JB q
  simp only [Bool.or_eq_false_iff,Bool.not_eq_false'] at q2
  exact GU (qC.1 q2.2)
theorem HOk.props {h:dK}(k:HOk h):∀o∈h.Objects,o.Props.length<=1024:=by
 intro o ho
 obtain ⟨i,hi,rfl⟩:=List.getElem_of_mem ho
 have:=k.obj i hi
 rw [Kz,Int.toNat_natCast,List.getD_eq_getElem?_getD,List.getElem?_eq_getElem hi] at this
 exact aek this
theorem HOk.same {h:dK}(k:HOk h):PW h h=true:=aej (by have:=k.len;omega) fun o ho=>by have:=k.props o ho;omega
end Go.Fw
end
section
namespace Go.Fw
theorem ael {d:dJ}(h:og d=true):lq d=0/\(jD d).Has=d.Has:=by
 unfold og vJ at h
 dsimp only at h
 cases hc:je (lq d) 0 with
 |true=>
  rw [hc] at h
  simp only [cond_true,Bool.and_eq_true] at h
  have h1:=mD.1 h.1
  exact absurd h1 (EI.1 hc)
 |false=>
  rw [hc] at h
  simp only [cond_false,Bool.and_eq_true] at h
  exact ⟨qC.1 hc,mD.1 h.2⟩
theorem ahW {l:List dM}(h:La l)(hok:∀p∈l,p.dS.ok){k:dI}(hf:(kZ l k).2.1=true):lq (kZ l k).1=0/\(jD (kZ l k).1).Has=(kZ l k).1.Has:=by
 obtain ⟨p,hp,-,e⟩:=RH hf
 rw [e]
 exact ael (by rw [akZ (hok p hp)];exact (h.all p hp).2)
theorem ayN {α:Type}[Inhabited α]{l:List α}{i:Nat}(hi:i<l.length):l.getD i default∈l:=by
 rw [List.getD_eq_getElem?_getD,List.getElem?_eq_getElem hi];exact List.getElem_mem hi
theorem afQ (a b:dI):(BF a.Str b.Str&&dW a.Sym b.Sym)=decide (a=b):=by
 cases a;cases b
 simp [BF,dW,Bool.decide_and,ayy]
end Go.Fw
end
section
namespace Go.Fw
theorem anQ {a b:List dI}(h:uZ a b)(k:dI):k∈a↔k∈b:=by
 have e:=h (eP k)
 have m:∀l:List dI,k∈l↔k∈l.filter (fun x=>decide (eP x=eP k)):=fun l=>by simp [List.mem_filter]
 rw [m a,e,<- m b]
theorem alz {l:List dM}(h:La l)(hok:∀p∈l,p.dS.ok):(kH l).1=qI (l.map (·.Key)):=by
 unfold kH
 dsimp only
 have hl:=h.len
 have e:=JA (x0:=l) (by omega) (l.length+1) 0 [] (Nat.zero_le _) (by omega)
 have e0:((0:Nat):Int)=0:=rfl
 rw [e0] at e
 rw [qC.2 (La.aqP hok h),e]
 simp
theorem P_ {l:List dM}(h:La l)(hok:∀p∈l,p.dS.ok)(k:dI):k∈(kH l).1↔k∈l.map (·.Key):=by
 rw [alz h hok]
 have hl:=h.len
 exact anQ (akW (by simp;omega)).2 k
theorem anR {l:List dM}{k:dI}:(kZ l k).2.1=decide (k∈l.map (·.Key)):=by
 unfold kZ
 cases hf:l.find? (isK k) with
 |some p=>
  have h1:=List.mem_of_find?_eq_some hf
  have h2':isK k p=true:=List.find?_some hf
  have h2:=of_decide_eq_true h2'
  exact (decide_eq_true (List.mem_map.2 ⟨p,h1,h2⟩)).symm
 |none=>
  refine (decide_eq_false fun hm=>?_).symm
  obtain ⟨p,hp,hk⟩:=List.mem_map.1 hm
  have:=List.find?_eq_none.1 hf p hp
  exact this (decide_eq_true hk)
theorem acg {l:List dI}{k:dI}(hl:l.length<=4294967296):uy l k=decide (k∈l):=by
 have loop:∀(n j:Nat) (u:Bool),j<=l.length->l.length-j<n->qP l k n u j=if k∈l.drop j then (false,default,true) else (true,u,default):=by
  intro n
  induction n with
  |zero=>intro j u hj hn;omega
  |succ n ih=>
   intro j u hj hn
   simp only [qP,iZ,afQ,Int.toNat_natCast]
   by_cases hlt:j<l.length
   .have e1:(!decide ((j:Int)<(l.length:Int)))=false:=by rw [decide_eq_true (by omega)];rfl
    have hadd:dZ .i64 (j:Int) 1=((j+1:Nat):Int):=by rw [oM (by omega) (by omega)];omega
    have e4:l.drop j=l.getD j default::l.drop (j+1):=by
     rw [List.drop_eq_getElem_cons hlt,List.getD_eq_getElem?_getD,List.getElem?_eq_getElem hlt];rfl
    rw [e1,hadd,e4]
    simp only [cond_false]
    by_cases hk:l.getD j default=k
    .rw [decide_eq_true hk,if_pos (by rw [hk];simp)];rfl
    .rw [decide_eq_false hk]
     simp only [cond_false]
     rw [ih (j+1) u (by omega) (by omega)]
     have:(k∈l.getD j default::l.drop (j+1))↔k∈l.drop (j+1):=by
      rw [List.mem_cons];exact ⟨fun h=>h.resolve_left (fun e=>hk e.symm),.inr⟩
     simp only [this]
   .have e1:(!decide ((j:Int)<(l.length:Int)))=true:=by rw [decide_eq_false (by omega)];rfl
    rw [e1,if_neg (by rw [List.drop_eq_nil_of_le (by omega)];simp)];rfl
 unfold uy
 dsimp only
 have:=loop (l.length+1) 0 false (Nat.zero_le _) (by omega)
 have e0:((0:Nat):Int)=0:=rfl
 rw [e0,List.drop_zero] at this
 rw [this]
 by_cases h:k∈l
 .rw [if_pos h,decide_eq_true h];rfl
 .rw [if_neg h,decide_eq_false h];rfl
structure At (h:dK)(n:Int):Prop where
 ok:HOk h
 wf:HWf h
 i0:0<=n
 i1:n.toNat<h.Objects.length
 kind:(h.Objects.getD n.toNat default).Kind=1\/(h.Objects.getD n.toNat default).Kind=4\/(h.Objects.getD n.toNat default).Kind=5
abbrev At.o (h:dK)(n:Int):dN:=h.Objects.getD n.toNat default
theorem At.po {h:dK}{n:Int}(A:At h n):anN h (At.o h n) (n.toNat:Nat):=by
 have:=A.ok.obj _ A.i1
 rw [Kz,Int.toNat_natCast] at this
 exact (Vq A.kind).1 this
theorem At.pp {h:dK}{n:Int}(A:At h n):La (At.o h n).Props:=La.ofT (A.wf.at _).1 A.po.tc
theorem At.pd {h:dK}{n:Int}(A:At h n):∀p∈(At.o h n).Props,p.dS.ok:=(A.wf.at _).1
theorem afR {h:dK}{n:Int}{k:dI}(A:At h n)(hk:lG k=0):rX h n k=⟨!(At.o h n).Ext,(At.o h n).fB,(kH (At.o h n).Props).1,(kZ (At.o h n).Props k).2.1,(kZ (At.o h n).Props k).1⟩:=by
 have hC:=w_.2 A.ok
 have kd:=A.kind
 unfold rX
 dsimp only
 rw [Ox (afO hC (RI (a:=gK.mk 3 n (dI.mk [] 0) _ _ _ []) A.i0 A.i1 kd (.inr (.inl rfl)))),
  Ox (afO hC (RI (a:=gK.mk 1 n (dI.mk [] 0) _ _ _ []) A.i0 A.i1 kd (.inl rfl))),
  Ox (afO hC (RI (a:=gK.mk 11 n (dI.mk [] 0) _ _ _ []) A.i0 A.i1 kd (.inr (.inr (.inr (.inl rfl)))))),
  Ox (afO hC (RI (a:=gK.mk 5 n k _ _ _ []) A.i0 A.i1 kd (.inr (.inr (.inr (.inr ⟨rfl,hk⟩))))))]
 have hF:fK (At.o h n).Props k=kZ (At.o h n).Props k:=A.pp.find A.pd (by rw [<- uz];exact hk)
 show qo.mk (!(At.o h n).Ext) (At.o h n).fB (kH (At.o h n).Props).1 (fK (At.o h n).Props k).2.1 (fK (At.o h n).Props k).1=_
 rw [hF]
structure Kept (o q:dN)(k:dI):Prop where
 shut:o.Ext=false->q.Ext=false/\q.fB=o.fB/\∀x,x∈q.Props.map (·.Key)->x∈o.Props.map (·.Key)
 fix:(kZ o.Props k).2.1=true->(kZ o.Props k).1.Configurable=false->(kZ q.Props k).2.1=true/\(kZ q.Props k).1.Configurable=false/\JL (kZ q.Props k).1.dV (kZ o.Props k).1.dV=true/\(kZ q.Props k).1.Has=(kZ o.Props k).1.Has/\
  (bif gW (kZ o.Props k).1 then (eH (kZ q.Props k).1.Get (kZ o.Props k).1.Get&&eH (kZ q.Props k).1.Set (kZ o.Props k).1.Set) else ((kZ o.Props k).1.eG||((!(kZ q.Props k).1.eG)&&eH (kZ q.Props k).1.Value (kZ o.Props k).1.Value)))=true
theorem alA {d:dJ}(hd:d.ok)(r:Rc d):(bif gW d then (eH d.Get d.Get&&eH d.Set d.Set) else (d.eG||((!d.eG)&&eH d.Value d.Value)))=true:=by
 rw [sS hd.2.1 (E8 hd.2.1 r.v),sS hd.2.2.1 (zq (sD hd.2.2.1 r.g)),sS hd.2.2.2 (zq (sD hd.2.2.2 r.s))]
 cases gW d<;>cases d.eG<;>rfl
theorem Vs {l:List dM}(h:La l)(hok:∀p∈l,p.dS.ok){k:dI}(hf:(kZ l k).2.1=true):Rc (kZ l k).1:=by
 obtain ⟨p,hp,-,e⟩:=RH hf
 rw [e];exact ak3 (hok p hp) (h.all p hp).2
theorem Kept.same {o:dN}{k:dI}(h:La o.Props)(hok:∀p∈o.Props,p.dS.ok){q:dN}(hs:o.Ext=false->q.Ext=false/\q.fB=o.fB)(hp:q.Props=o.Props):Kept o q k:=by
 refine ⟨fun e=>⟨(hs e).1,(hs e).2,fun x hx=>by rw [hp] at hx;exact hx⟩,fun hf hc=>?_⟩
 rw [hp]
 exact ⟨hf,hc,Aa _,rfl,alA (GX hok) (Vs h hok hf)⟩
structure Stp (h:dK)(a:gK)(n:Int)(k:dI):Prop where
 at':At (xw h a).1 n
 kind:(xw h a).2.1.Kind=1\/(xw h a).2.1.Kind=3
 kept:Kept (At.o h n) (At.o (xw h a).1 n) k
 put:a.Object=n->a.Key=k->(xw h a).2.1.Yes=true->(a.Method=6->(kZ (At.o (xw h a).1 n).Props k).2.1=true)/\(a.Method=10->(kZ (At.o (xw h a).1 n).Props k).2.1=false)
theorem At.left {h x:dK}{a:gK}{n:Int}(A:At h n)(ha0:0<=a.Object)(L:Left h a x):At x n:=by
 refine ⟨L.ok,L.wf,A.i0,by rw [L.len];exact A.i1,?_⟩
 by_cases e:n.toNat=a.Object.toNat
 .rw [e,L.kd,<- e];exact A.kind
 .rw [L.el _ e];exact A.kind
theorem alB {l:List dM}{k:dI}{d:dJ}{m:List dM}(f:aqn l k d m)(hf:(kZ l k).2.1=true):∀x,x∈m.map (·.Key)->x∈l.map (·.Key):=by
 intro x hx
 obtain ⟨p,hp,rfl⟩:=List.mem_map.1 hx
 obtain ⟨i,hi,rfl⟩:=List.getElem_of_mem hp
 have hl:m.length=l.length:=by have:=f.len;rw [hf] at this;exact this
 have:=f.key i (by omega)
 rw [List.getD_eq_getElem?_getD,List.getElem?_eq_getElem hi,List.getD_eq_getElem?_getD,List.getElem?_eq_getElem (by omega)] at this
 exact List.mem_map.2 ⟨l[i]'(by omega),List.getElem_mem _,this.symm⟩
theorem step {h:dK}{a:gK}{n:Int}{k:dI}(A:At h n)(B:Obj h a)(hv:a.Value.ok)(hd:a.dS.ok):Stp h a n k:=by
 have L:=alu B hv hd
 have A':=A.left B.ak.i0 L
 by_cases hne:n.toNat=a.Object.toNat
 case neg=>
  have ho:At.o (xw h a).1 n=At.o h n:=L.el _ hne
  refine ⟨A',?_,?_,fun e=>absurd (by rw [e]) hne⟩
  .unfold xw
   dsimp only
   cases dW a.Method 1 with
   |true=>exact .inl rfl
   |false=>
   cases dW a.Method 2 with
   |true=>simp only [cond_false,cond_true];cases (eH a.Value (h.Objects.getD a.Object.toNat default).fB||!(h.Objects.getD a.Object.toNat default).Ext||iQ h a.Object a.Value)<;>exact .inl rfl
   |false=>
   cases dW a.Method 3 with
   |true=>exact .inl rfl
   |false=>
   cases dW a.Method 4 with
   |true=>exact .inl rfl
   |false=>
   cases dW a.Method 5 with
   |true=>exact .inl rfl
   |false=>
   cases dW a.Method 6 with
   |true=>
    simp only [cond_false,cond_true]
    generalize (gG (h.Objects.getD a.Object.toNat default).Ext a.dS (fK (h.Objects.getD a.Object.toNat default).Props a.Key).2.1 (fK (h.Objects.getD a.Object.toNat default).Props a.Key).1)=ap
    generalize ku (h.Objects.getD a.Object.toNat default).Props a.Key ap.1=pt
    cases (!ap.2.1)<;>cases (je pt.2 0)<;>first|exact .inl rfl|exact .inr rfl
   |false=>
   cases dW a.Method 10 with
   |true=>simp only [cond_false,cond_true];cases ((fK (h.Objects.getD a.Object.toNat default).Props a.Key).2.1&&!(fK (h.Objects.getD a.Object.toNat default).Props a.Key).1.Configurable)<;>exact .inl rfl
   |false=>exact .inl rfl
  .rw [ho];exact .same A.pp A.pd (fun e=>⟨e,rfl⟩) rfl
 case pos=>
  have hn:a.Object=n:=by have:=A.i0;have:=B.ak.i0;omega
  subst hn
  have rid:Kept (At.o h a.Object) (At.o h a.Object) k:=.same A.pp A.pd (fun e=>⟨e,rfl⟩) rfl
  have gt:∀o,At.o (AY h a.Object.toNat o) a.Object=o:=fun o=>by unfold At.o;rw [uX B.ak.i1,if_pos rfl]
  cases m1:dW a.Method 1 with
  |true=>
   have e:xw h a=(h,⟨1,(oO h a).fB,false,false,d0,[],0,[]⟩,0):=by unfold xw;rw [m1];rfl
   rw [e] at A'
   exact ⟨by rw [e];exact A',by rw [e];exact .inl rfl,by rw [e];exact rid,fun _ _ hy=>by rw [e] at hy;cases hy⟩
  |false=>
  cases m2:dW a.Method 2 with
  |true=>
   have e:xw h a=(bif eH a.Value (oO h a).fB||!(oO h a).Ext||iQ h a.Object a.Value then (h,eu (eH a.Value (oO h a).fB),0) else (AY h a.Object.toNat {oO h a with fB:=a.Value},eu true,0)):=by unfold xw;rw [m1,m2];rfl
   have mm:=mD.1 m2
   cases hc:(eH a.Value (oO h a).fB||!(oO h a).Ext||iQ h a.Object a.Value) with
   |true=>
    rw [hc] at e
    simp only [cond_true] at e
    rw [e] at A'
    exact ⟨by rw [e];exact A',by rw [e];exact .inl rfl,by rw [e];exact rid,fun _ _ hy=>⟨fun h=>by omega,fun h=>by omega⟩⟩
   |false=>
    rw [hc] at e
    simp only [cond_false] at e
    simp only [Bool.or_eq_false_iff,Bool.not_eq_false'] at hc
    rw [e] at A'
    refine ⟨by rw [e];exact A',by rw [e];exact .inl rfl,?_,fun _ _ hy=>⟨fun h=>by omega,fun h=>by omega⟩⟩
    rw [e]
    dsimp only
    rw [gt]
    refine .same A.pp A.pd (fun hx=>?_) rfl
    have:(oO h a).Ext=false:=hx
    rw [this] at hc;exact absurd hc.1.2 (by simp)
  |false=>
  cases m3:dW a.Method 3 with
  |true=>
   have e:xw h a=(h,eu (oO h a).Ext,0):=by unfold xw;rw [m1,m2,m3];rfl
   have mm:=mD.1 m3
   rw [e] at A'
   exact ⟨by rw [e];exact A',by rw [e];exact .inl rfl,by rw [e];exact rid,fun _ _ hy=>⟨fun h=>by omega,fun h=>by omega⟩⟩
  |false=>
  cases m4:dW a.Method 4 with
  |true=>
   have e:xw h a=(AY h a.Object.toNat {oO h a with Ext:=false},eu true,0):=by unfold xw;rw [m1,m2,m3,m4];rfl
   have mm:=mD.1 m4
   rw [e] at A'
   refine ⟨by rw [e];exact A',by rw [e];exact .inl rfl,?_,fun _ _ hy=>⟨fun h=>by omega,fun h=>by omega⟩⟩
   rw [e]
   dsimp only
   rw [gt]
   exact .same A.pp A.pd (fun _=>⟨rfl,rfl⟩) rfl
  |false=>
  cases m5:dW a.Method 5 with
  |true=>
   have e:xw h a=(h,⟨1,v00,false,(fK (oO h a).Props a.Key).2.1,(fK (oO h a).Props a.Key).1,[],0,[]⟩,0):=by unfold xw;rw [m1,m2,m3,m4,m5];rfl
   rw [e] at A'
   exact ⟨by rw [e];exact A',by rw [e];exact .inl rfl,by rw [e];exact rid,fun _ _ hy=>by rw [e] at hy;cases hy⟩
  |false=>
  cases m6:dW a.Method 6 with
  |true=>
   have mm:=mD.1 m6
   have hk:=B.ak.key (.inr (.inl mm))
   have e:xw h a=(bif !(gG (oO h a).Ext a.dS (kZ (oO h a).Props a.Key).2.1 (kZ (oO h a).Props a.Key).1).2.1 then (h,eu false,0) else bif je (ku (oO h a).Props a.Key (gG (oO h a).Ext a.dS (kZ (oO h a).Props a.Key).2.1 (kZ (oO h a).Props a.Key).1).1).2 0 then (h,⟨3,v00,false,false,d0,[],2,[116,111,111,32,109,97,110,121]⟩,0) else (AY h a.Object.toNat {oO h a with Props:=(ku (oO h a).Props a.Key (gG (oO h a).Ext a.dS (kZ (oO h a).Props a.Key).2.1 (kZ (oO h a).Props a.Key).1).1).1},eu true,0)):=by
    rw [<- Zk B hk];unfold xw;rw [m1,m2,m3,m4,m5,m6];rfl
   cases h1:(gG (oO h a).Ext a.dS (kZ (oO h a).Props a.Key).2.1 (kZ (oO h a).Props a.Key).1).2.1 with
   |false=>
    rw [h1] at e
    simp only [Bool.not_false,cond_true] at e
    rw [e] at A'
    exact ⟨by rw [e];exact A',by rw [e];exact .inl rfl,by rw [e];exact rid,fun _ _ hy=>by rw [e] at hy;cases hy⟩
   |true=>
    cases h2:je (ku (oO h a).Props a.Key (gG (oO h a).Ext a.dS (kZ (oO h a).Props a.Key).2.1 (kZ (oO h a).Props a.Key).1).1).2 0 with
    |true=>
     rw [h1,h2] at e
     simp only [Bool.not_true,cond_false,cond_true] at e
     rw [e] at A'
     exact ⟨by rw [e];exact A',by rw [e];exact .inr rfl,by rw [e];exact rid,fun _ _ hy=>by rw [e] at hy;cases hy⟩
    |false=>
     obtain ⟨L2,⟨pf⟩⟩:=Left.put B mm hd h1 (qC.1 h2)
     rw [h1,h2] at e
     simp only [Bool.not_true,cond_false] at e
     rw [e] at A'
     have hc:=GV h1
     refine ⟨by rw [e];exact A',by rw [e];exact .inl rfl,?_,fun _ hak hy=>⟨fun _=>?_,fun h=>by omega⟩⟩
     .rw [e]
      dsimp only
      rw [gt]
      refine ⟨fun hx=>⟨hx,rfl,fun x hm=>?_⟩,fun hf hcf=>?_⟩
      .have hx:(oO h a).Ext=false:=hx
       have hfd:(kZ (oO h a).Props a.Key).2.1=true:=by
        cases hq:(kZ (oO h a).Props a.Key).2.1 with
        |true=>rfl
        |false=>
         have:=(ayV hd (GX B.pd) hc).no hq
         rw [hx] at this;cases this
       exact alB pf hfd x hm
      .dsimp only
       by_cases hkk:k=a.Key
       .subst hkk
        have hf':(kZ (oO h a).Props a.Key).2.1=true:=hf
        rw [pf.me]
        rw [hf'] at hc
        have s:=azq hd (GX B.pd) hc hcf
        dsimp only at s
        rw [hf']
        exact ⟨rfl,s⟩
       .rw [pf.el k hkk]
        exact ⟨hf,hcf,Aa _,rfl,alA (GX B.pd) (Vs B.pp B.pd hf)⟩
     .rw [e]
      dsimp only
      rw [gt]
      dsimp only
      rw [<- hak,pf.me]
  |false=>
  cases m10:dW a.Method 10 with
  |true=>
   have mm:=mD.1 m10
   have hk:=B.ak.key (.inr (.inr mm))
   have hk':iY a.Key=0:=by rw [<- uz];exact hk
   have e:xw h a=(bif (kZ (oO h a).Props a.Key).2.1&&!(kZ (oO h a).Props a.Key).1.Configurable then (h,eu false,0) else (AY h a.Object.toNat {oO h a with Props:=(rV (oO h a).Props a.Key).1},eu true,0)):=by
    rw [<- Zk B hk];unfold xw;rw [m1,m2,m3,m4,m5,m6,m10];rfl
   cases hc:((kZ (oO h a).Props a.Key).2.1&&!(kZ (oO h a).Props a.Key).1.Configurable) with
   |true=>
    rw [hc] at e
    simp only [cond_true] at e
    rw [e] at A'
    exact ⟨by rw [e];exact A',by rw [e];exact .inl rfl,by rw [e];exact rid,fun _ _ hy=>by rw [e] at hy;cases hy⟩
   |false=>
    rw [hc,afI B.pp B.pd hk'] at e
    simp only [cond_false] at e
    rw [e] at A'
    have df:=U_ B.pp B.pd (k:=a.Key)
    refine ⟨by rw [e];exact A',by rw [e];exact .inl rfl,?_,fun _ hak hy=>⟨fun h=>by omega,fun _=>?_⟩⟩
    .rw [e]
     dsimp only
     rw [gt]
     refine ⟨fun hx=>⟨hx,rfl,fun x hm=>?_⟩,fun hf hcf=>?_⟩
     .obtain ⟨p,hp,rfl⟩:=List.mem_map.1 hm
      exact List.mem_map.2 ⟨p,(List.mem_filter.1 hp).1,rfl⟩
     .dsimp only
      by_cases hkk:k=a.Key
      .subst hkk
       have hf':(kZ (oO h a).Props a.Key).2.1=true:=hf
       have avf:(kZ (oO h a).Props a.Key).1.Configurable=false:=hcf
       rw [hf',avf] at hc;cases hc
      .rw [df.el k hkk]
       exact ⟨hf,hcf,Aa _,rfl,alA (GX B.pd) (Vs B.pp B.pd hf)⟩
    .rw [e]
     dsimp only
     rw [gt]
     dsimp only
     rw [<- hak,df.me]
  |false=>
   have e:xw h a=(h,⟨1,v00,false,false,d0,(kH (oO h a).Props).1,0,[]⟩,0):=by unfold xw;rw [m1,m2,m3,m4,m5,m6,m10];rfl
   rw [e] at A'
   exact ⟨by rw [e];exact A',by rw [e];exact .inl rfl,by rw [e];exact rid,fun _ _ hy=>by rw [e] at hy;cases hy⟩
theorem XQ {a b:qo}(hl:b.keys.length<=4294967296)(hla:a.keys.length<=4294967296)(h:a.shut=true->∀x∈b.keys,x∈a.keys):∀(n j:Nat) (u:Bool),j<=b.keys.length->b.keys.length-j<n->(kC a b n u j).1=true
 |0,j,_,_,hh=>by omega
 |n+1,j,u,hj,hn=>by
  simp only [kC,iZ,Int.toNat_natCast]
  by_cases hlt:j<b.keys.length
  .have e1:(!decide ((j:Int)<(b.keys.length:Int)))=false:=by rw [decide_eq_true (by omega)];rfl
   have hadd:dZ .i64 (j:Int) 1=((j+1:Nat):Int):=by rw [oM (by omega) (by omega)];omega
   rw [e1,hadd,acg hla]
   simp only [cond_false]
   have:(a.shut&&!decide (b.keys.getD j default∈a.keys))=false:=by
    cases hs:a.shut with
    |false=>rfl
    |true=>rw [decide_eq_true (h hs _ (ayN hlt))];rfl
   rw [this]
   exact XQ hl hla h n (j+1) u (by omega) (by omega)
  .have e1:(!decide ((j:Int)<(b.keys.length:Int)))=true:=by rw [decide_eq_false (by omega)];rfl
   rw [e1];rfl
theorem alC {d e:dJ}(hd:d.ok)(r:Rc d)(hw:(jD d).Has=d.Has)(hD:fD d=false)(h1:JL e.dV d.dV=true)(h2:e.Has=d.Has)(h3:e.Configurable=false)(h4:d.Configurable=false)
  (h5:(bif gW d then (eH e.Get d.Get&&eH e.Set d.Set) else (d.eG||((!e.eG)&&eH e.Value d.Value)))=true) (he:e.ok) (re:Rc e):uM e d=true:=by
 have B:=bits hd.1
 have hd0:hb d.Has 0=false/\hb d.Has 1=false:=by
  rw [uS hd.1,Bool.or_eq_false_iff] at hD;exact hD
 have hA:gW d=true:=by
  cases hA:gW d with
  |true=>rfl
  |false=>
   exfalso
   unfold jD at hw
   dsimp only at hw
   rw [hA] at hw
   simp only [cond_false] at hw
   have hD':fD (dJ.mk (Wu .u8 d.Has 51) d.Value d.Get d.Set d.eG d.dV d.Configurable)=false:=by
    have:fD (dJ.mk (Wu .u8 d.Has 51) d.Value d.Get d.Set d.eG d.dV d.Configurable)=fD d:=by unfold fD;dsimp only;rw [hw]
    rw [this];exact hD
   have hor:∀k:Fin 256,fD (dJ.mk (Wu .u8 ((k:Nat):Int) 51) d.Value d.Get d.Set d.eG d.dV d.Configurable)=true:=by
    intro k
    unfold fD
    dsimp only
    revert k
    decide +kernel
   have:=hor ⟨d.Has.toNat,by have:=hd.1.2;omega⟩
   rw [show ((d.Has.toNat:Nat):Int)=d.Has by have:=hd.1.1;omega] at this
   rw [this] at hD';cases hD'
 rw [hA] at h5
 simp only [cond_true,Bool.and_eq_true] at h5
 have we:e.eG=false:=by
  have:=re.w
  rw [h2,hd0.2] at this
  simpa using this
 have wd:d.eG=false:=by
  have:=r.w
  rw [hd0.2] at this
  simpa using this
 have e1:je e.Has d.Has=false:=qC.2 h2
 have z1:je (jK .u8 e.Has 1) 0=hb e.Has 0:=by
  have:=(bits he.1).z1
  unfold je;unfold dW at this
  cases hq:hb e.Has 0<;>rw [hq] at this<;>simp at this<;>simp [this]
 unfold uM
 dsimp only
 rw [e1,z1,h2,hd0.1,h5.1,h5.2,we,wd,h3,h4,h1]
 simp [JL]
theorem ahX {h:dK}{n:Int}(A:At h n):eH (At.o h n).fB (At.o h n).fB=true:=
 sS (A.wf.at _).2 (by rw [<- AO (A.wf.at _).2];exact ak5 A.po.pin)
theorem Vt {n:Int}{k:dI}{l:List gK}(hk:lG k=0)(hl:∀a∈l,a.Value.ok/\a.dS.ok)(hB:l.length<=4294967296):∀(m j:Nat) (u:Bool) (h:dK),At h n->j<=l.length->(jl n k l m u j h).1=true\/(m+j<=l.length)
 |0,j,_,_,_,hj=>.inr (by omega)
 |m+1,j,u,h,A,hj=>by
  simp only [jl,iZ,Int.toNat_natCast]
  by_cases hlt:j<l.length/\(j:Int)<40
  .have e1:(!(decide ((j:Int)<(l.length:Int))&&decide ((j:Int)<40)))=false:=by rw [decide_eq_true (by omega),decide_eq_true hlt.2];rfl
   have hadd:dZ .i64 (j:Int) 1=((j+1:Nat):Int):=by rw [oM (by omega) (by omega)];omega
   rw [e1,hadd]
   simp only [cond_false]
   obtain ⟨hv,hd⟩:=hl _ (ayN hlt.1)
   generalize l.getD j default=a at hv hd
   by_cases e:(jI h a).2.2=0
   case neg=>
    rw [EI.2 e]
    simp only [cond_true]
    rcases Vt hk hl hB m (j+1) u h A (by omega) with q|q
    .exact .inl q
    .exact .inr (by omega)
   case pos=>
   have B:=Obj.mk' A.wf e
   have S:=step (k:=k) A B hv hd
   have D:=ala (abK e).1 (abK e).2
   have hC:=w_.2 S.at'.ok
   rw [qC.2 e,D,afR A hk,afR S.at' hk,hC]
   have hKl:∀{x:dK},(kH (At.o x n).Props).1.length<=4294967296:=fun {x}=>by have:=XG (l:=(At.o x n).Props);omega
   dsimp only
   simp only [cond_false]
   rw [acg hKl]
   have hmem:∀{x:dK},At x n->decide (k∈(kH (At.o x n).Props).1)=(kZ (At.o x n).Props k).2.1:=fun {x} A=>by
    rw [anR]
    exact decide_eq_decide.2 (P_ A.pp A.pd k)
   rw [hmem S.at',afP]
   have c1:((je 0 0||!true)||(je (xw h a).2.1.Kind 1&&je (xw h a).2.1.Kind 3))=false:=by
    rcases S.kind with q|q<;>rw [q]<;>rfl
   rw [c1]
   simp only [cond_false]
   have c2:(!(At.o h n).Ext&&(!(!(At.o (xw h a).1 n).Ext)||!eH (At.o h n).fB (At.o (xw h a).1 n).fB))=false:=by
    cases hx:(At.o h n).Ext with
    |true=>rfl
    |false=>
     obtain ⟨q1,q2,-⟩:=S.kept.shut hx
     rw [q1,q2,ahX A];rfl
   rw [c2]
   simp only [cond_false]
   have asC:=fun u=>XQ (a:=⟨!(At.o h n).Ext,(At.o h n).fB,(kH (At.o h n).Props).1,(kZ (At.o h n).Props k).2.1,(kZ (At.o h n).Props k).1⟩) (b:=⟨!(At.o (xw h a).1 n).Ext,(At.o (xw h a).1 n).fB,(kH (At.o (xw h a).1 n).Props).1,(kZ (At.o (xw h a).1 n).Props k).2.1,(kZ (At.o (xw h a).1 n).Props k).1⟩) hKl hKl (fun hs x hx=>by
    have hs:(At.o h n).Ext=false:=by simpa using hs
    exact (P_ A.pp A.pd x).2 ((S.kept.shut hs).2.2 x ((P_ S.at'.pp S.at'.pd x).1 hx))) ((kH (At.o (xw h a).1 n).Props).1.length+1) 0 u (Nat.zero_le _) (by show _-0<_;rw [Nat.sub_zero];exact Nat.lt_succ_self _)
   have e0:((0:Nat):Int)=0:=rfl
   simp only [e0] at asC
   rw [asC]
   have e2:(!dW (lW true) 0)=false:=rfl
   simp only [e2,cond_false]
   have c3:(((kZ (At.o h n).Props k).2.1&&!(kZ (At.o h n).Props k).1.Configurable)&&((((((!(kZ (At.o (xw h a).1 n).Props k).2.1)||(kZ (At.o (xw h a).1 n).Props k).1.Configurable)||(!(JL (kZ (At.o (xw h a).1 n).Props k).1.dV (kZ (At.o h n).Props k).1.dV)))||(!(JL (fD (kZ (At.o (xw h a).1 n).Props k).1) (fD (kZ (At.o h n).Props k).1))))||((fD (kZ (At.o h n).Props k).1&&(!(kZ (At.o h n).Props k).1.eG))&&((kZ (At.o (xw h a).1 n).Props k).1.eG||(!(eH (kZ (At.o (xw h a).1 n).Props k).1.Value (kZ (At.o h n).Props k).1.Value)))))||((!(fD (kZ (At.o h n).Props k).1))&&(!(uM (kZ (At.o (xw h a).1 n).Props k).1 (kZ (At.o h n).Props k).1)))))=false:=by
    cases hf:(kZ (At.o h n).Props k).2.1 with
    |false=>rfl
    |true=>
    cases hcf:(kZ (At.o h n).Props k).1.Configurable with
    |true=>rfl
    |false=>
     obtain ⟨s1,s2,s3,s4,s5⟩:=S.kept.fix hf hcf
     have eD:fD (kZ (At.o (xw h a).1 n).Props k).1=fD (kZ (At.o h n).Props k).1:=by unfold fD;rw [s4]
     rw [s1,s2,s3,eD,afP]
     have dok:=GX A.pd (k:=k)
     have R:=Vs A.pp A.pd hf
     have hw:=ahW A.pp A.pd hf
     cases hD:fD (kZ (At.o h n).Props k).1 with
     |true=>
      have hA:gW (kZ (At.o h n).Props k).1=false:=by
       have:=R.da
       rw [<- uS dok.1,<- z_ dok.1,hD] at this
       simpa using this
      rw [hA] at s5
      simp only [cond_false] at s5
      cases hW:(kZ (At.o h n).Props k).1.eG with
      |true=>simp
      |false=>
       rw [hW] at s5
       simp only [Bool.false_or,Bool.and_eq_true,Bool.not_eq_true'] at s5
       rw [s5.1,s5.2];rfl
     |false=>
      have hsame:uM (kZ (At.o (xw h a).1 n).Props k).1 (kZ (At.o h n).Props k).1=true:=alC dok R hw.2 hD s3 s4 s2 hcf s5 (GX S.at'.pd) (Vs S.at'.pp S.at'.pd s1)
      rw [hsame];simp
   rw [c3]
   simp only [cond_false]
   have c4:((((dW a.Object n)&&((BF a.Key.Str k.Str)&&(dW a.Key.Sym k.Sym)))&&(xw h a).2.1.Yes)&&(((dW a.Method 6)&&(!(kZ (At.o (xw h a).1 n).Props k).2.1))||((dW a.Method 10)&&(kZ (At.o (xw h a).1 n).Props k).2.1)))=false:=by
    rw [afQ]
    cases h1:dW a.Object n with
    |false=>rfl
    |true=>
    cases h2:decide (a.Key=k) with
    |false=>rfl
    |true=>
    cases h3:(xw h a).2.1.Yes with
    |false=>rfl
    |true=>
     obtain ⟨p6,p10⟩:=S.put (mD.1 h1) (of_decide_eq_true h2) h3
     cases h6:dW a.Method 6 with
     |true=>rw [p6 (mD.1 h6),yI.2 (show a.Method≠10 by have:=mD.1 h6;omega)];rfl
     |false=>
      cases h10:dW a.Method 10 with
      |true=>rw [p10 (mD.1 h10)];rfl
      |false=>rfl
   rw [c4]
   simp only [Bool.and_false,cond_false]
   have ih:=fun u=>Vt hk hl hB m (j+1) u (xw h a).1 S.at' (by omega)
   cases ((kZ (At.o h n).Props k).2.1&&!(kZ (At.o h n).Props k).1.Configurable) with
   |true=>
    simp only [cond_true]
    rcases ih _ with q|q
    .exact .inl q
    .exact .inr (by omega)
   |false=>
    simp only [cond_false]
    rcases ih _ with q|q
    .exact .inl q
    .exact .inr (by omega)
  .have e1:(!(decide ((j:Int)<(l.length:Int))&&decide ((j:Int)<40)))=true:=by
    cases h1:decide ((j:Int)<(l.length:Int)) with
    |false=>rfl
    |true=>
     have:=of_decide_eq_true h1
     rw [decide_eq_false (by omega)];rfl
   rw [e1];exact .inl rfl
theorem aem {x0:dK}{x1:Int}{x2:dI}{x3:List gK}(w:HWf x0)(hl:∀a∈x3,a.Value.ok/\a.dS.ok)(hB:x3.length<=4294967296):nP x0 x1 x2 x3=true:=by
 unfold nP
 dsimp only
 rw [anP]
 generalize ha:(gK.mk 5 x1 x2 (dJ.mk 0 (dL.mk 0 0 [] 0) (dL.mk 0 0 [] 0) (dL.mk 0 0 [] 0) false false false) (dL.mk 0 0 [] 0) (dL.mk 0 0 [] 0) [])=a
 have ao:a.Object=x1:=by rw [<- ha]
 have am:a.Method=5:=by rw [<- ha]
 have ak:a.Key=x2:=by rw [<- ha]
 simp only [Bool.not_true,cond_false]
 cases (Dz x0||je (jr x0) 0) with
 |true=>rfl
 |false=>
 simp only [cond_false]
 by_cases e:(jI x0 a).2.2=0
 .have B:=Obj.mk' w e
  have A:At x0 x1:=⟨B.ok,w,by rw [<- ao];exact B.ak.i0,by rw [<- ao];exact B.ak.i1,by rw [<- ao];exact B.ak.kind⟩
  have hk:lG x2=0:=by rw [<- ak];exact B.ak.key (.inl am)
  rw [qC.2 e,asB (w_.2 A.ok) A.i0 A.i1]
  simp only [qC.2 rfl,Bool.or_self,cond_false]
  have e0:((0:Nat):Int)=0:=rfl
  have q:=Vt hk hl hB (x3.length+1) 0 false x0 A (Nat.zero_le _)
  rw [e0] at q
  rcases q with q|q
  .rw [q];rfl
  .omega
 .rw [EI.2 e,Bool.or_true];rfl
end Go.Fw
end
