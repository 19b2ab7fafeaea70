
import Derived.Test.YtfccnpibdkkboaaGreatFwH
set_option linter.unusedVariables false
set_option linter.unusedSimpArgs false
set_option linter.unusedSectionVars false
set_option linter.unnecessarySimpa false
section
namespace Go.Fw
open Go.Proofs Go.Lib
set_option maxRecDepth 100000
set_option maxHeartbeats 4000000
theorem ahO {k:Nat}(ih:∀{n:Nat} {l:List dL} {x1 x2 x3:Int},(l.length=n/\n<=4294967296/\0<=x1/\x1<x2/\x2<x3/\x3<=n/\(x3-x1).toNat<k)->SC n 151 [eI x1,eI x2,eI x3] l (eu k l x1 x2 x3)){n:Nat}{l:List dL}{x1 x2 x3:Int}(h:l.length=n/\n<=4294967296/\0<=x1/\x1<x2/\x2<x3/\x3<=n/\(x3-x1).toNat<k+1):SC n 151 [eI x1,eI x2,eI x3] l (eu (k+1) l x1 x2 x3):=by
 refine kpS (M:=[(0,sDa n),(1,eI x1),(2,eI x2),(3,eI x3)]) Tryz.func151 ?_ ⟨rfl,rfl,rfl,rfl,trivial⟩
 have e0:=SI (a:=x1) (b:=x3) (by omega)
 have e1:=wu (a:=IntKind.wrap .i64 (jA .u64 (IntKind.wrap .u64 (eG .i64 x1 x3)) 1)) (b:=x2) (by omega)
 have e2:=uN (a:=eG .i64 (IntKind.wrap .i64 (jA .u64 (IntKind.wrap .u64 (eG .i64 x1 x3)) 1)) x2) (b:=1) (by omega)
 have e3:=uN (a:=eG .i64 (IntKind.wrap .i64 (jA .u64 (IntKind.wrap .u64 (eG .i64 x1 x3)) 1)) x2) (b:=x3) (by omega)
 have e4:=uN (a:=x2) (b:=x1) (by omega)
 have e5:=uN (a:=x3) (b:=x2) (by omega)
 exact kZ (KE.mk @fP.eq_2) (KE.mk @gq.eq_2) (KE.mk @g_.eq_2) (KE.mk @gu.eq_2) (KE.mk @h_.eq_2) (KE.mk (@ahM k l x1 x2 x3)) KCQ.mk
  (J5.mk:J5 (fun (m:Nat) (u4 u5:Int)=>x2<=u4/\u4<=u5/\u5<=x3/\u5-u4<m) (fP l x1) (fun u4 u5=>[(8,eI u4),(9,eI u5)]) (fun _ _=>[]) (fun _ _=>[(3,.rows 1 [[.os 2 2 0 n]]),(2,.rows 2 (List.map dL.enc l))]) [1,2,3,4] ((x3-x2).toNat+1))
  (fun {m:Nat} {u4 u5:Int} (hJ:x2<=u4/\u4<=u5/\u5<=x3/\u5-u4<m)=>(J5.mk:J5 (fun (m:Nat) (u5:Int) (u6:List dL)=>x1<=u5/\u5<=u4-1/\u4<=n/\u4-1-u5<m/\u6.length=n) (gq u4) (fun u5 _=>[(11,eI u5)]) (fun _ _=>[]) (fun _ u6=>[(3,.rows 1 [[.os 2 2 0 n]]),(2,.rows 2 (List.map dL.enc u6))]) [1,2,3,4,8] ((jg .i64 u4 1).toNat+1)))
  (J5.mk:J5 (fun (m:Nat) (u6 u7:Int)=>x1<=u6/\u6<=u7/\u7<=x2/\u7-u6<m) (g_ l x2) (fun u6 u7=>[(12,eI u6),(13,eI u7)]) (fun _ _=>[]) (fun _ _=>[(3,.rows 1 [[.os 2 2 0 n]]),(2,.rows 2 (List.map dL.enc l))]) [1,2,3,4] ((x2-x1).toNat+1))
  (fun {m:Nat} {u6 u7:Int} (hJ:x1<=u6/\u6<=u7/\u7<=x2/\u7-u6<m)=>(J5.mk:J5 (fun (m:Nat) (u7:Int) (u8:List dL)=>u6<=u7/\0<=u6/\u7<=x2/\u7-u6<m/\u8.length=n) (gu u6) (fun u7 _=>[(15,eI u7)]) (fun _ _=>[]) (fun _ u8=>[(3,.rows 1 [[.os 2 2 0 n]]),(2,.rows 2 (List.map dL.enc u8))]) [1,2,3,4,12] ((x2-x1).toNat+1)))
  (J5.mk:J5 (fun (m:Nat) (u8 u9:Int)=>x1<=u8/\u8<=u9/\u9<=x2/\u9<=IntKind.wrap .i64 (jA .u64 (IntKind.wrap .u64 (eG .i64 x1 x3)) 1)/\IntKind.wrap .i64 (jA .u64 (IntKind.wrap .u64 (eG .i64 x1 x3)) 1)+x2-x3<=u8/\u9-u8<m) (h_ l x1 x2 x3) (fun u8 u9=>[(18,eI u8),(19,eI u9)]) (fun _ _=>[]) (fun _ _=>[(3,.rows 1 [[.os 2 2 0 n]]),(2,.rows 2 (List.map dL.enc l))]) [1,2,3,4,16,17,20] ((x3-x1).toNat+1))
  (fun {m:Nat} {u4 u5:Int} (hJ:x2<=u4/\u4<=u5/\u5<=x3/\u5-u4<m)=>have e:=SI (a:=u4) (b:=u5) (by omega);And.intro e (And.intro (wu (a:=IntKind.wrap .i64 (jA .u64 (IntKind.wrap .u64 (eG .i64 u4 u5)) 1)) (b:=1) (by omega)) (uN (a:=u4) (b:=1) (by omega))))
  (fun {m:Nat} {u6 u7:Int} (hJ:x1<=u6/\u6<=u7/\u7<=x2/\u7-u6<m)=>have e:=SI (a:=u6) (b:=u7) (by omega);And.intro e (wu (a:=IntKind.wrap .i64 (jA .u64 (IntKind.wrap .u64 (eG .i64 u6 u7)) 1)) (b:=1) (by omega)))
  (fun {m:Nat} {u6 u7:Int} {u8:List dL} (hJ:u6<=u7/\0<=u6/\u7<=x2/\u7-u6<m/\u8.length=n)=>uN (a:=u7) (b:=1) (by omega))
  (fun {m:Nat} {u8 u9:Int} (hJ:x1<=u8/\u8<=u9/\u9<=x2/\u9<=IntKind.wrap .i64 (jA .u64 (IntKind.wrap .u64 (eG .i64 x1 x3)) 1)/\IntKind.wrap .i64 (jA .u64 (IntKind.wrap .u64 (eG .i64 x1 x3)) 1)+x2-x3<=u8/\u9-u8<m)=>have e:=SI (a:=u8) (b:=u9) (by omega);And.intro e (And.intro (wu (a:=IntKind.wrap .i64 (jA .u64 (IntKind.wrap .u64 (eG .i64 u8 u9)) 1)) (b:=1) (by omega)) (And.intro (uN (a:=jg .i64 (eG .i64 (IntKind.wrap .i64 (jA .u64 (IntKind.wrap .u64 (eG .i64 x1 x3)) 1)) x2) 1) (b:=IntKind.wrap .i64 (jA .u64 (IntKind.wrap .u64 (eG .i64 u8 u9)) 1)) (by omega)) (uN (a:=eG .i64 (IntKind.wrap .i64 (jA .u64 (IntKind.wrap .u64 (eG .i64 x1 x3)) 1)) x2) (b:=u8) (by omega)))))
  (acR.mk @adF) @adE @ih
end Go.Fw
end
