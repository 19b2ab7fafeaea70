
import Derived.Test.YtookhagokgenhaaGreatFwE
set_option linter.unusedVariables false
set_option linter.unusedSimpArgs false
set_option linter.unusedSectionVars false
set_option linter.unnecessarySimpa false
section
namespace Go.Fw
def xZ (r:Bool×Int):AV:=.fA [(.p (.bool r.1)),(.p (.int .i64 r.2))]
def pO (r:Int×Bool):AV:=.fA [(.p (.int .i64 r.1)),(.p (.bool r.2))]
def ji (r:dJ×Bool×Int):AV:=.fA [(dJ.av r.1),(.p (.bool r.2.1)),(.p (.int .i64 r.2.2))]
def Ar (r:dJ×Int):AV:=.fA [(dJ.av r.1),(.p (.int .i64 r.2))]
def Jl (x0:dL):Bool:=
 ((dW x0.Kind 7)||(dW x0.Kind 8))
def Au (x0:Nat):Bool:=
 let v1:Int:=oC x0
 (decide (((IntKind.wrap .i64 v1):Int)<0))
def N7 (x0:Nat):Nat:=
 let v1:Int:=oC x0
 let v2:Nat:=pK (nI .u64 v1 9223372036854775808)
 v2
def Gt (x0:Nat):Nat:=
 let v1:Nat:=jC x0
 v1
def vS (x0:Nat):Bool:=
 let v1:Nat:=Gt x0
 let v2:Nat:=N7 x0
 let v3:Bool:=Au x0
 ((LP x0 x0)||(((fEq v1 x0)&&(Yd v2 4845873199050653695))&&((LP x0 0)||(!v3))))
def jh (x0:dL):Bool:=
 let v1:Bool:=vS x0.Num
 let v2:Bool:=vS x0.Num
 let v3:Bool:=vS (bif (dW x0.Kind 2) then 0 else (bif (dW x0.Kind 3) then 0 else x0.Num))
 bif (((decide (x0.Kind>8))||(decide (x0.Ref<0)))||(decide (((sLen x0.Str):Int) > 4096))) then false
 else bif ((dW x0.Kind 2)&&((LP x0.Num 4607182418800017408)&&((LP x0.Num 0)||(!v1)))) then false
 else bif ((!(dW x0.Kind 2))&&((dW x0.Kind 3)&&(!v2))) then false
 else (((dW x0.Kind x0.Kind)&&(((dW x0.Kind 2)||((dW x0.Kind 3)||(fEq x0.Num 0)))&&((bif (dW x0.Kind 2) then (BF x0.Str []) else (bif (dW x0.Kind 3) then (BF x0.Str []) else ((dW x0.Kind 4)||(BF x0.Str []))))&&(bif (dW x0.Kind 2) then (dW x0.Ref 0) else (bif (dW x0.Kind 3) then (dW x0.Ref 0) else (bif (dW x0.Kind 4) then (dW x0.Ref 0) else (((dW x0.Kind 5)||((dW x0.Kind 6)||((dW x0.Kind 7)||(dW x0.Kind 8))))||(dW x0.Ref 0))))))))&&v3)
def ni (x0:dL):Bool:=
 let v1:Bool:=jh x0
 let v2:Bool:=Jl x0
 (v1&&((dW x0.Kind 0)||v2))
def gW (x0:dJ):Bool:=
 (je (jK .u8 x0.Has 12) 0)
def fD (x0:dJ):Bool:=
 (je (jK .u8 x0.Has 3) 0)
def lq (x0:dJ):Int:=
 let v1:Bool:=fD x0
 let v2:Bool:=gW x0
 let v3:Bool:=jh x0.Value
 let v4:Bool:=ni x0.Get
 let v5:Bool:=ni x0.Set
 bif (((((je (nI .u8 x0.Has 63) 0)||(v1&&v2))||(!v3))||(!v4))||(!v5)) then 90
 else bif ((((je (jK .u8 (FU .u8 x0.Has) 1) 0)&&(!((dW x0.Value.Kind 0)&&((fEq x0.Value.Num 0)&&((BF x0.Value.Str [])&&(dW x0.Value.Ref 0))))))||((je (jK .u8 (FU .u8 x0.Has) 4) 0)&&(!((dW x0.Get.Kind 0)&&((fEq x0.Get.Num 0)&&((BF x0.Get.Str [])&&(dW x0.Get.Ref 0)))))))||((je (jK .u8 (FU .u8 x0.Has) 8) 0)&&(!((dW x0.Set.Kind 0)&&((fEq x0.Set.Num 0)&&((BF x0.Set.Str [])&&(dW x0.Set.Ref 0))))))) then 90
 else bif ((((je (jK .u8 (FU .u8 x0.Has) 2) 0)&&x0.eG)||((je (jK .u8 (FU .u8 x0.Has) 16) 0)&&x0.dV))||((je (jK .u8 (FU .u8 x0.Has) 32) 0)&&x0.Configurable)) then 90
 else 0
def jD (x0:dJ):dJ:=
 let v1:Bool:=gW x0
 (dJ.mk (bif v1 then (Wu .u8 x0.Has 60) else (Wu .u8 x0.Has 51)) x0.Value x0.Get x0.Set x0.eG x0.dV x0.Configurable)
def zi (x0:dJ)(x1:Bool)(x2:dJ):Int:=
 let v3:Int:=lq x0
 let v4:Int:=lq x2
 let v5:dJ:=jD x2
 bif (je v3 0) then v3
 else bif (x1&&((je v4 0)||(je x2.Has v5.Has))) then 90
 else 0
def uK (x0:dJ):Bool:=
 (dW (jK .u8 x0.Has 15) 0)
def dR (x0:dL):Bool:=
 ((decide (x0.Kind>=6))&&(decide (x0.Kind<=8)))
def Aw (x0:dL)(x1:dL):Bool:=
 let v2:Bool:=dR x0
 let v3:Bool:=dR x1
 bif (v2&&v3) then (dW x0.Ref x1.Ref)
 else bif (je x0.Kind x1.Kind) then false
 else bif ((dW x0.Kind 0)||(dW x0.Kind 1)) then true
 else bif ((dW x0.Kind 2)||(dW x0.Kind 3)) then (fEq x0.Num x1.Num)
 else bif (dW x0.Kind 4) then (BF x0.Str x1.Str)
 else bif (dW x0.Kind 5) then (dW x0.Ref x1.Ref)
 else false
def eH (x0:dL)(x1:dL):Bool:=
 let v2:Bool:=Aw x0 x1
 bif (((dW x0.Kind 3)&&(dW x1.Kind 3))&&(LP x0.Num x0.Num)) then (LP x1.Num x1.Num)
 else v2
def BQ (x0:dJ)(x1:dJ):Bool:=
 let v2:Bool:=uK x0
 let v3:Bool:=fD x0
 let v4:Bool:=fD x1
 let v5:Bool:=fD x0
 let v6:Bool:=eH x0.Value x1.Value
 let v7:Bool:=eH x0.Get x1.Get
 let v8:Bool:=eH x0.Set x1.Set
 bif x1.Configurable then true
 else bif x0.Configurable then false
 else bif ((je (jK .u8 x0.Has 16) 0)&&(!(JL x0.dV x1.dV))) then false
 else bif v2 then true
 else bif (!(JL v3 v4)) then false
 else bif v5 then (x1.eG||((!x0.eG)&&((dW (jK .u8 x0.Has 1) 0)||v6)))
 else (((dW (jK .u8 x0.Has 4) 0)||v7)&&((dW (jK .u8 x0.Has 8) 0)||v8))
def iP (x0:Bool)(x1:dJ)(x2:Bool)(x3:dJ):Bool×Int:=
 let v4:Int:=zi x1 x2 x3
 let v5:Bool:=BQ x1 x3
 bif (je v4 0) then (false,v4)
 else bif (!x2) then (x0,0)
 else (v5,0)
def iI (x0:dJ)(x1:Int):Bool:=
 (dW (Nk .u8 (Nj .u8 x0.Has x1) 2) 1)
def jE (x0:dJ):Bool:=
 let v1:Bool:=iI x0 4
 let v2:Bool:=iI x0 8
 (v1||v2)
def kT (x0:dJ):Bool:=
 let v1:Bool:=iI x0 1
 let v2:Bool:=iI x0 2
 (v1||v2)
def MH (x0:Nat)(x1:Nat):Bool:=
 bif ((LP x0 x0)||(LP x1 x1)) then ((LP x0 x0)&&(LP x1 x1))
 else ((fEq x0 x1)&&((LP x0 0)||(fEq ((FloatKind.f64.format.div 4607182418800017408 x0).getD 0) ((FloatKind.f64.format.div 4607182418800017408 x1).getD 0))))
def Jm (x0:dL)(x1:dL):Bool:=
 let v2:Bool:=MH x0.Num x1.Num
 ((((dW x0.Kind x1.Kind)&&(BF x0.Str x1.Str))&&(dW x0.Ref x1.Ref))&&v2)
def jq (x0:dL):Bool:=
 let v1:Bool:=Jm x0 (dL.mk 0 0 [] 0)
 v1
def jL (x0:Nat):Bool:=
 ((fEq x0 0)&&(fGt ((FloatKind.f64.format.div 4607182418800017408 x0).getD 0) 0))
def Jo (x0:Nat):Int×Bool:=
 bif (!((ZK x0 14069245235905429503)&&(Yd x0 4845873199050653695))) then (0,false)
 else bif ((LP (FloatKind.f64.nearest (((FloatKind.f64.decode x0).toInt .zero).getD 0)) x0)||((fEq x0 0)&&(fLt ((FloatKind.f64.format.div 4607182418800017408 x0).getD 0) 0))) then (0,false)
 else ((((FloatKind.f64.decode x0).toInt .zero).getD 0),true)
def Ko (x0:Nat):Bool:=
 let v1:Int×Bool:=Jo x0
 (v1.2||(LP x0 x0))
def mX (x0:dL):Bool:=
 let v1:Bool:=jL x0.Num
 let v2:Bool:=Ko x0.Num
 bif (decide (x0.Kind>8)) then false
 else (((bif (dW x0.Kind 3) then v2 else (bif (dW x0.Kind 2) then (v1||(fEq x0.Num 4607182418800017408)) else v1))&&((BF x0.Str [])||((dW x0.Kind 4)&&(decide (((sLen x0.Str):Int)<=4096)))))&&((dW x0.Ref 0)||((decide (x0.Kind>=5))&&(decide (x0.Ref>0)))))
def aa3 (x0:dL):Bool:=
 ((dW x0.Kind 7)||(dW x0.Kind 8))
def jk (x0:dL):Bool:=
 let v1:Bool:=mX x0
 let v2:Bool:=aa3 x0
 (v1&&((dW x0.Kind 0)||v2))
def kG (x0:dJ):Int:=
 let v1:Bool:=kT x0
 let v2:Bool:=jE x0
 let v3:Bool:=jq x0.Value
 let v4:Bool:=iI x0 1
 let v5:Bool:=mX x0.Value
 let v6:Bool:=jq x0.Get
 let v7:Bool:=iI x0 4
 let v8:Bool:=jk x0.Get
 let v9:Bool:=jq x0.Set
 let v10:Bool:=iI x0 8
 let v11:Bool:=jk x0.Set
 let v12:Bool:=iI x0 2
 let v13:Bool:=iI x0 16
 let v14:Bool:=iI x0 32
 bif ((decide (x0.Has>63))||(v1&&v2)) then 90
 else bif ((((!(bif v4 then v5 else v3))||(!(bif v7 then v8 else v6)))||(!(bif v10 then v11 else v9)))||(!((((!x0.eG)||v12)&&((!x0.dV)||v13))&&((!x0.Configurable)||v14)))) then 90
 else 0
def iW (x0:dJ):Bool:=
 let v1:Int:=kG x0
 ((dW v1 0)&&((dW x0.Has 51)||(dW x0.Has 60)))
def x9 (x0:dL):Bool:=
 (((dW x0.Kind 6)||(dW x0.Kind 7))||(dW x0.Kind 8))
def zk (x0:dL)(x1:dL):Bool:=
 let v2:Bool:=x9 x0
 let v3:Bool:=x9 x1
 bif (v2&&v3) then (dW x0.Ref x1.Ref)
 else bif (je x0.Kind x1.Kind) then false
 else bif ((dW x0.Kind 0)||(dW x0.Kind 1)) then true
 else bif (dW x0.Kind 2) then (fEq x0.Num x1.Num)
 else bif (dW x0.Kind 3) then ((fEq x0.Num x1.Num)||((LP x0.Num x0.Num)&&(LP x1.Num x1.Num)))
 else bif (dW x0.Kind 4) then (BF x0.Str x1.Str)
 else bif (dW x0.Kind 5) then (dW x0.Ref x1.Ref)
 else false
def kK (x0:Bool)(x1:dJ)(x2:Bool)(x3:dJ):Bool×Int:=
 let v4:Int:=kG x1
 let v5:Bool:=iW x3
 let v6:Bool:=iI x1 32
 let v7:Bool:=iI x1 16
 let v8:Bool:=kT x1
 let v9:Bool:=jE x3
 let v10:Bool:=jE x1
 let v11:Bool:=kT x3
 let v12:Bool:=kT x3
 let v13:Bool:=kT x1
 let v14:Bool:=iI x1 1
 let v15:Bool:=zk x1.Value x3.Value
 let v16:Bool:=jE x3
 let v17:Bool:=jE x1
 let v18:Bool:=iI x1 4
 let v19:Bool:=zk x1.Get x3.Get
 let v20:Bool:=iI x1 8
 let v21:Bool:=zk x1.Set x3.Set
 bif ((je v4 0)||(x2&&(!v5))) then (false,90)
 else bif (!x2) then (x0,0)
 else ((((((!(((!x3.Configurable)&&v6)&&x1.Configurable))&&(!(((!x3.Configurable)&&v7)&&(!(JL x1.dV x3.dV)))))&&(!((!x3.Configurable)&&((v8&&v9)||(v10&&v11)))))&&(!(((((!x3.Configurable)&&v12)&&(!x3.eG))&&v13)&&(x1.eG||(v14&&(!v15))))))&&(!((((!x3.Configurable)&&v16)&&v17)&&((v18&&(!v19))||(v20&&(!v21)))))),0)
def gG (x0:Bool)(x1:dJ)(x2:Bool)(x3:dJ):dJ×Bool×Int:=
 let v4:Bool×Int:=iP x0 x1 x2 x3
 let v5:dJ:=jD x1
 let v6:Bool:=fD x1
 let v7:Bool:=gW x3
 let v8:Bool:=gW x1
 let v9:Bool:=fD x3
 let v10:dJ:=jD (dJ.mk (nI .u8 x1.Has 48) (dL.mk 0 0 [] 0) (dL.mk 0 0 [] 0) (dL.mk 0 0 [] 0) false x3.dV x3.Configurable)
 bif ((je v4.2 0)||(!v4.1)) then ((dJ.mk 0 (dL.mk 0 0 [] 0) (dL.mk 0 0 [] 0) (dL.mk 0 0 [] 0) false false false),false,v4.2)
 else bif (!x2) then (v5,true,0)
 else ((dJ.mk (bif ((v6&&v7)||(v8&&v9)) then v10.Has else x3.Has) (dL.mk (bif (je (jK .u8 x1.Has 1) 0) then x1.Value.Kind else (bif ((v6&&v7)||(v8&&v9)) then v10.Value.Kind else x3.Value.Kind)) (bif (je (jK .u8 x1.Has 1) 0) then x1.Value.Num else (bif ((v6&&v7)||(v8&&v9)) then v10.Value.Num else x3.Value.Num)) (bif (je (jK .u8 x1.Has 1) 0) then x1.Value.Str else (bif ((v6&&v7)||(v8&&v9)) then v10.Value.Str else x3.Value.Str)) (bif (je (jK .u8 x1.Has 1) 0) then x1.Value.Ref else (bif ((v6&&v7)||(v8&&v9)) then v10.Value.Ref else x3.Value.Ref))) (dL.mk (bif (je (jK .u8 x1.Has 4) 0) then x1.Get.Kind else (bif ((v6&&v7)||(v8&&v9)) then v10.Get.Kind else x3.Get.Kind)) (bif (je (jK .u8 x1.Has 4) 0) then x1.Get.Num else (bif ((v6&&v7)||(v8&&v9)) then v10.Get.Num else x3.Get.Num)) (bif (je (jK .u8 x1.Has 4) 0) then x1.Get.Str else (bif ((v6&&v7)||(v8&&v9)) then v10.Get.Str else x3.Get.Str)) (bif (je (jK .u8 x1.Has 4) 0) then x1.Get.Ref else (bif ((v6&&v7)||(v8&&v9)) then v10.Get.Ref else x3.Get.Ref))) (dL.mk (bif (je (jK .u8 x1.Has 8) 0) then x1.Set.Kind else (bif ((v6&&v7)||(v8&&v9)) then v10.Set.Kind else x3.Set.Kind)) (bif (je (jK .u8 x1.Has 8) 0) then x1.Set.Num else (bif ((v6&&v7)||(v8&&v9)) then v10.Set.Num else x3.Set.Num)) (bif (je (jK .u8 x1.Has 8) 0) then x1.Set.Str else (bif ((v6&&v7)||(v8&&v9)) then v10.Set.Str else x3.Set.Str)) (bif (je (jK .u8 x1.Has 8) 0) then x1.Set.Ref else (bif ((v6&&v7)||(v8&&v9)) then v10.Set.Ref else x3.Set.Ref))) (bif (je (jK .u8 x1.Has 2) 0) then x1.eG else (bif ((v6&&v7)||(v8&&v9)) then v10.eG else x3.eG)) (bif (je (jK .u8 x1.Has 16) 0) then x1.dV else (bif ((v6&&v7)||(v8&&v9)) then v10.dV else x3.dV)) (bif (je (jK .u8 x1.Has 32) 0) then x1.Configurable else (bif ((v6&&v7)||(v8&&v9)) then v10.Configurable else x3.Configurable))),true,0)
def ny (x0:dJ):dJ:=
 let v1:Bool:=jE x0
 (dJ.mk (bif v1 then 60 else 51) x0.Value x0.Get x0.Set x0.eG x0.dV x0.Configurable)
def Jp (x0:Bool)(x1:dJ)(x2:Bool)(x3:dJ):dJ×Bool×Int:=
 let v4:Bool×Int:=kK x0 x1 x2 x3
 let v5:dJ:=ny x1
 let v6:Bool:=kT x1
 let v7:Bool:=jE x3
 let v8:Bool:=jE x1
 let v9:Bool:=kT x3
 let v10:dJ:=ny x1
 let v11:Bool:=iI x1 16
 let v12:Bool:=iI x1 32
 let v13:Bool:=iI x1 1
 let v14:Bool:=iI x1 2
 let v15:Bool:=iI x1 4
 let v16:Bool:=iI x1 8
 let v17:Bool:=iI x1 16
 let v18:Bool:=iI x1 32
 bif ((je v4.2 0)||(!v4.1)) then ((dJ.mk 0 (dL.mk 0 0 [] 0) (dL.mk 0 0 [] 0) (dL.mk 0 0 [] 0) false false false),false,v4.2)
 else bif (!x2) then (v5,true,0)
 else bif ((v6&&v7)||(v8&&v9)) then ((dJ.mk v10.Has v10.Value v10.Get v10.Set v10.eG (bif (!v11) then x3.dV else v10.dV) (bif (!v12) then x3.Configurable else v10.Configurable)),true,0)
 else ((dJ.mk x3.Has (dL.mk (bif v13 then x1.Value.Kind else x3.Value.Kind) (bif v13 then x1.Value.Num else x3.Value.Num) (bif v13 then x1.Value.Str else x3.Value.Str) (bif v13 then x1.Value.Ref else x3.Value.Ref)) (dL.mk (bif v15 then x1.Get.Kind else x3.Get.Kind) (bif v15 then x1.Get.Num else x3.Get.Num) (bif v15 then x1.Get.Str else x3.Get.Str) (bif v15 then x1.Get.Ref else x3.Get.Ref)) (dL.mk (bif v16 then x1.Set.Kind else x3.Set.Kind) (bif v16 then x1.Set.Num else x3.Set.Num) (bif v16 then x1.Set.Str else x3.Set.Str) (bif v16 then x1.Set.Ref else x3.Set.Ref)) (bif v14 then x1.eG else x3.eG) (bif v17 then x1.dV else x3.dV) (bif v18 then x1.Configurable else x3.Configurable)),true,0)
def vJ (x0:dJ):dJ×Int:=
 let v1:Int:=lq x0
 let v2:dJ:=jD x0
 bif (je v1 0) then ((dJ.mk 0 (dL.mk 0 0 [] 0) (dL.mk 0 0 [] 0) (dL.mk 0 0 [] 0) false false false),v1)
 else (v2,0)
def EM (x0:Nat):dL:=
 (dL.mk 3 x0 [] 0)
def uM (x0:dJ)(x1:dJ):Bool:=
 let v2:Bool:=eH x0.Value x1.Value
 let v3:Bool:=eH x0.Get x1.Get
 let v4:Bool:=eH x0.Set x1.Set
 bif ((je x0.Has x1.Has)||(((je (jK .u8 x0.Has 1) 0)&&(!v2))||(((je (jK .u8 x0.Has 4) 0)&&(!v3))||(((je (jK .u8 x0.Has 8) 0)&&(!v4))||(((je (jK .u8 x0.Has 2) 0)&&(!(JL x0.eG x1.eG)))||(((je (jK .u8 x0.Has 16) 0)&&(!(JL x0.dV x1.dV)))||((je (jK .u8 x0.Has 32) 0)&&(!(JL x0.Configurable x1.Configurable))))))))) then false
 else true
end Go.Fw
end
section
namespace Go.Fw
def kP (r:List dM×Int):AV:=.fA [(.sl (List.map dM.enc r.1) false),(.p (.int .i64 r.2))]
def kV (r:Int×Int):AV:=.fA [(.p (.int .i64 r.1)),(.p (.int .i64 r.2))]
def Az (r:List dI×Int):AV:=.fA [(.sl (List.map dI.enc r.1) false),(.p (.int .i64 r.2))]
def lG (x0:dI):Int:=
 bif (((decide (x0.Sym<0))||(decide (((sLen x0.Str):Int) > 4096)))||((decide (x0.Sym>0))&&(sNe x0.Str []))) then 9
 else 0
def og (x0:dJ):Bool:=
 let v1:dJ×Int:=vJ x0
 ((dW v1.2 0)&&(dW v1.1.Has x0.Has))
def oN (x0:List dM):Nat->Int->Int->(List (dI×Int))->(Bool×Int×List (dI×Int)×Int×List (dI×Int))
 |0,_,_,_=>default
 |n+1,u1,u2,u3=>
  let v4:dM:=x0.getD u2.toNat default
  let v5:Int:=lG v4.Key
  let v6:Bool:=og v4.dS
  let v7:Bool×Int:=nS 0 v4.Key u3
  let v8:List (dI×Int):=nT v4.Key (dZ .i64 u2 1) u3
  bif (!(decide (u2<(jy dM.enc x0)))) then (true,u1,u3,default,default)
  else bif (je v5 0) then (false,default,default,v5,u3)
  else bif (!v6) then (false,default,default,90,u3)
  else bif (decide (v7.2>0)) then (false,default,default,100,u3)
  else oN x0 n u1 (dZ .i64 u2 1) v8
def jA (x0:List dM):Int:=
 let r1:Bool×Int×List (dI×Int)×Int×List (dI×Int):=oN x0 (x0.length+1) 0 0 []
 bif (decide (((jy dM.enc x0):Int) > 1024)) then 4
 else bif (!(dW (lW r1.1) 0)) then r1.2.2.2.1
 else 0
def nC (x0:List dM)(x1:dI):Int:=
 let v2:Int:=jA x0
 let v3:Int:=lG x1
 bif (je v2 0) then v2
 else v3
def wQ (x0:List dM)(x1:dI):Nat->Int->Int->(Bool×Int×Int)
 |0,_,_=>default
 |n+1,u2,u3=>
  let v4:dM:=x0.getD u3.toNat default
  bif (!(decide (u3<(jy dM.enc x0)))) then (true,u2,default)
  else bif ((BF v4.Key.Str x1.Str)&&(dW v4.Key.Sym x1.Sym)) then (false,default,u3)
  else wQ x0 x1 n u2 (dZ .i64 u3 1)
def um (x0:List dM)(x1:dI):Int:=
 let r2:Bool×Int×Int:=wQ x0 x1 (x0.length+1) 0 0
 bif (!(dW (lW r2.1) 0)) then r2.2.2
 else (-1)
def ku (x0:List dM)(x1:dI)(x2:dJ):List dM×Int:=
 let v3:Int:=nC x0 x1
 let v4:Int:=um x0 x1
 let v5:Bool:=og x2
 let v6:List dM:=(x0.drop (0)).take (((jy dM.enc x0):Int).toNat-0)
 let v7:List dM:=v6++[(dM.mk x1 x2)]
 let v8:List dM:=x0.set v4.toNat (dM.mk (x0.getD v4.toNat default).Key x2)
 let v9:List dM:=(v8.drop (0)).take (((jy dM.enc x0):Int).toNat-0)
 bif (je v3 0) then ([],v3)
 else bif (!v5) then ([],90)
 else bif ((decide (v4<0))&&(dW (jy dM.enc x0) 1024)) then ([],100)
 else bif (decide (v4<0)) then (v7,0)
 else (v9,0)
def iY (x0:dI):Int:=
 bif (((decide (x0.Sym<0))||(decide (((sLen x0.Str):Int) > 4096)))||((decide (x0.Sym>0))&&(decide (((sLen x0.Str):Int) > 0)))) then 9
 else 0
def qF (x0:List dM)(x1:dI):Nat->Int->Int->(Bool×Int×Int)
 |0,_,_=>default
 |n+1,u2,u3=>
  let v4:dM:=x0.getD u3.toNat default
  bif (!(decide (u3<(jy dM.enc x0)))) then (true,u2,default)
  else bif ((BF v4.Key.Str x1.Str)&&(dW v4.Key.Sym x1.Sym)) then (false,default,u3)
  else qF x0 x1 n u2 (dZ .i64 u3 1)
def wS (x0:List dM)(x1:dI):Int:=
 let r2:Bool×Int×Int:=qF x0 x1 (x0.length+1) 0 0
 bif (!(dW (lW r2.1) 0)) then r2.2.2
 else (-1)
def uo (x0:List dM):Nat->Int->Int->(Bool×Int×Int)
 |0,_,_=>default
 |n+1,u1,u2=>
  let v3:dM:=x0.getD u2.toNat default
  let v4:Int:=iY v3.Key
  let v5:dM:=x0.getD u2.toNat default
  let v6:Bool:=iW v5.dS
  let v7:List dM:=(x0.drop ((0:Int).toNat)).take (u2.toNat-(0:Int).toNat)
  let v8:dM:=x0.getD u2.toNat default
  let v9:Int:=wS v7 v8.Key
  bif (!(decide (u2<(jy dM.enc x0)))) then (true,u1,default)
  else bif (je v4 0) then (false,default,9)
  else bif (!v6) then (false,default,90)
  else bif (decide (v9>=0)) then (false,default,100)
  else uo x0 n u1 (dZ .i64 u2 1)
def lH (x0:List dM):Int:=
 let r1:Bool×Int×Int:=uo x0 (x0.length+1) 0 0
 bif (decide (((jy dM.enc x0):Int) > 1024)) then 4
 else bif (!(dW (lW r1.1) 0)) then r1.2.2
 else 0
def pR (x0:List dM)(x1:dI):Int:=
 let v2:Int:=lH x0
 let v3:Int:=iY x1
 bif (je v2 0) then v2
 else v3
def rV (x0:List dM)(x1:dI):List dM×Int:=
 let v2:Int:=nC x0 x1
 let v3:Int:=um x0 x1
 let v4:List dM:=(x0.drop ((0:Int).toNat)).take (v3.toNat-(0:Int).toNat)
 let v5:List dM:=(x0.drop (((dZ .i64 v3 1):Int).toNat)).take (((jy dM.enc x0):Int).toNat-((dZ .i64 v3 1):Int).toNat)
 let v6:List dM:=v4++v5
 bif (je v2 0) then ([],v2)
 else bif (decide (v3<0)) then (x0,0)
 else (v6,0)
def vK (x0:List dM)(x1:dI):Nat->(List dM)->Int->(List dM)
 |0,_,_=>default
 |n+1,u3,u4=>
  let v5:dM:=x0.getD u4.toNat default
  let v6:dM:=x0.getD u4.toNat default
  let v7:List dM:=u3++[v6]
  bif (!(decide (u4<(jy dM.enc x0)))) then u3
  else bif (!((BF v5.Key.Str x1.Str)&&(dW v5.Key.Sym x1.Sym))) then vK x0 x1 n v7 (dZ .i64 u4 1)
  else vK x0 x1 n u3 (dZ .i64 u4 1)
def MI (x0:List dM)(x1:dI):List dM×Int:=
 let v2:Int:=pR x0 x1
 let r3:List dM:=vK x0 x1 (x0.length+1) [] 0
 bif (je v2 0) then ([],v2)
 else (r3,0)
def AA (x0:dI):Nat->Int->Bool->Int->Int->(Bool×Int×Bool×Int×Int×Bool)
 |0,_,_,_,_=>default
 |n+1,u1,u2,u3,u4=>
  bif (!(decide (u4<(sLen x0.Str)))) then (true,u1,u2,u3,default,default)
  else bif ((decide (((((x0.Str.getD u4.toNat 0).toNat:Nat):Int):Int)<48))||(decide (((((x0.Str.getD u4.toNat 0).toNat:Nat):Int):Int) > 57))) then (false,default,default,default,0,false)
  else AA x0 n u1 u2 (dZ .i64 (OV .i64 u3 10) (IntKind.wrap .i64 (iU .u8 (((x0.Str.getD u4.toNat 0).toNat:Nat):Int) 48))) (dZ .i64 u4 1)
def uO (x0:dI):Int×Bool:=
 let r1:Bool×Int×Bool×Int×Int×Bool:=AA x0 (((sLen x0.Str):Int).toNat+1) 0 false 0 0
 bif ((((decide (x0.Sym>0))||(BF x0.Str []))||(decide (((sLen x0.Str):Int) > 4)))||((decide (((sLen x0.Str):Int) > 1))&&(dW (((x0.Str.getD (0:Int).toNat 0).toNat:Nat):Int) 48))) then (0,false)
 else bif (!(dW (lW r1.1) 0)) then (r1.2.2.2.2.1,r1.2.2.2.2.2)
 else bif (decide (r1.2.2.2.1>=1024)) then (0,false)
 else (r1.2.2.2.1,true)
def eP (x0:dI):Int×Int:=
 let v1:Int×Bool:=uO x0
 bif v1.2 then (0,v1.1)
 else bif (decide (x0.Sym>0)) then (2,0)
 else (1,0)
def gI (x1:Int):Nat->Int->(List dI)->(Int×List dI)
 |0,u5,u6=>(u5,u6)
 |n+1,u5,u6=>
  let v7:dI:=u6.getD u5.toNat default
  let v8:Int×Int:=eP v7
  let v9:dI:=u6.getD ((iU .i64 u5 1):Int).toNat default
  let v10:Int×Int:=eP v9
  let v11:dI:=u6.getD u5.toNat default
  let v12:dI:=u6.getD ((iU .i64 u5 1):Int).toNat default
  let v13:List dI:=u6.set u5.toNat v12
  let v14:List dI:=v13.set ((iU .i64 u5 1):Int).toNat v11
  bif ((decide (u5>x1))&&(!((decide (v8.1<v10.1))||((dW v8.1 v10.1)&&(decide (v8.2<v10.2)))))) then (u5,u6)
  else bif (!(decide (u5>x1))) then (u5,u6)
  else gI x1 n (iU .i64 u5 1) v14
def fP (x1:Int)(x2:Int):Nat->Int->(List dI)->(List dI)
 |0,_,u4=>u4
 |n+1,u3,u4=>
  let r5:Int×List dI:=gI x1 ((u3-x1).toNat+1) u3 u4
  bif (!(decide (u3<x2))) then u4
  else fP x1 x2 n (dZ .i64 u3 1) r5.2
def gJ (x0:List dI)(x1:Int)(x2:Int):List dI:=
 let r3:List dI:=fP x1 x2 (x2.toNat+1) (dZ .i64 x1 1) x0
 r3
def iG (x1:Int)(x2:Int)(x3:Int):Nat->Int->(List dI)->(List dI)
 |0,_,u5=>u5
 |n+1,u4,u5=>
  let v6:dI:=u5.getD ((dZ .i64 x1 u4):Int).toNat default
  let v7:dI:=u5.getD ((dZ .i64 x2 u4):Int).toNat default
  let v8:List dI:=u5.set ((dZ .i64 x1 u4):Int).toNat v7
  let v9:List dI:=v8.set ((dZ .i64 x2 u4):Int).toNat v6
  bif (!(decide (u4<x3))) then u5
  else iG x1 x2 x3 n (dZ .i64 u4 1) v9
def fG (x0:List dI)(x1:Int)(x2:Int)(x3:Int):List dI:=
 let r4:List dI:=iG x1 x2 x3 (x3.toNat+1) 0 x0
 r4
def gX (x2:Int):Nat->Int->Int->(List dI)->(Int×List dI)
 |0,u4,_,u6=>(u4,u6)
 |n+1,u4,u5,u6=>
  let w7:List dI:=fG u6 (iU .i64 x2 u4) x2 u5
  let v7:List dI:=w7
  let w9:List dI:=fG u6 (iU .i64 x2 u4) (iU .i64 (dZ .i64 x2 u5) u4) u4
  let v9:List dI:=w9
  bif (!(je u4 u5)) then (u4,u6)
  else bif (decide (u4>u5)) then gX x2 n (iU .i64 u4 u5) u5 v7
  else gX x2 n u4 (iU .i64 u5 u4) v9
def jd (x0:List dI)(x1:Int)(x2:Int)(x3:Int):List dI:=
 let r4:Int×List dI:=gX x2 ((x3-x1).toNat+1) (iU .i64 x2 x1) (iU .i64 x3 x2) x0
 let w6:List dI:=fG r4.2 (iU .i64 x2 r4.1) x2 r4.1
 let v6:List dI:=w6
 v6
def gZ (x0:List dI)(x1:Int):Nat->Int->Int->Int
 |0,u4,_=>u4
 |n+1,u4,u5=>
  let v6:dI:=x0.getD ((IntKind.wrap .i64 (jf .u64 (IntKind.wrap .u64 (dZ .i64 u4 u5)) 1)):Int).toNat default
  let v7:Int×Int:=eP v6
  let v8:dI:=x0.getD x1.toNat default
  let v9:Int×Int:=eP v8
  bif (!(decide (u4<u5))) then u4
  else gZ x0 x1 n (bif ((decide (v7.1<v9.1))||((dW v7.1 v9.1)&&(decide (v7.2<v9.2)))) then (dZ .i64 (IntKind.wrap .i64 (jf .u64 (IntKind.wrap .u64 (dZ .i64 u4 u5)) 1)) 1) else u4) (bif ((decide (v7.1<v9.1))||((dW v7.1 v9.1)&&(decide (v7.2<v9.2)))) then u5 else (IntKind.wrap .i64 (jf .u64 (IntKind.wrap .u64 (dZ .i64 u4 u5)) 1)))
def g_ (r4:Int):Nat->Int->(List dI)->(List dI)
 |0,_,u6=>u6
 |n+1,u5,u6=>
  let v7:dI:=u6.getD u5.toNat default
  let v8:dI:=u6.getD ((dZ .i64 u5 1):Int).toNat default
  let v9:List dI:=u6.set u5.toNat v8
  let v10:List dI:=v9.set ((dZ .i64 u5 1):Int).toNat v7
  bif (!(decide (u5<(iU .i64 r4 1)))) then u6
  else g_ r4 n (dZ .i64 u5 1) v10
def iK (x0:List dI)(x2:Int):Nat->Int->Int->Int
 |0,u6,_=>u6
 |n+1,u6,u7=>
  let v8:dI:=x0.getD x2.toNat default
  let v9:Int×Int:=eP v8
  let v10:dI:=x0.getD ((IntKind.wrap .i64 (jf .u64 (IntKind.wrap .u64 (dZ .i64 u6 u7)) 1)):Int).toNat default
  let v11:Int×Int:=eP v10
  bif (!(decide (u6<u7))) then u6
  else iK x0 x2 n (bif ((decide (v9.1<v11.1))||((dW v9.1 v11.1)&&(decide (v9.2<v11.2)))) then u6 else (dZ .i64 (IntKind.wrap .i64 (jf .u64 (IntKind.wrap .u64 (dZ .i64 u6 u7)) 1)) 1)) (bif ((decide (v9.1<v11.1))||((dW v9.1 v11.1)&&(decide (v9.2<v11.2)))) then (IntKind.wrap .i64 (jf .u64 (IntKind.wrap .u64 (dZ .i64 u6 u7)) 1)) else u7)
def h_ (r6:Int):Nat->Int->(List dI)->(List dI)
 |0,_,u8=>u8
 |n+1,u7,u8=>
  let v9:dI:=u8.getD u7.toNat default
  let v10:dI:=u8.getD ((iU .i64 u7 1):Int).toNat default
  let v11:List dI:=u8.set u7.toNat v10
  let v12:List dI:=v11.set ((iU .i64 u7 1):Int).toNat v9
  bif (!(decide (u7>r6))) then u8
  else h_ r6 n (iU .i64 u7 1) v12
def jc (x0:List dI)(x1:Int)(x2:Int)(x3:Int):Nat->Int->Int->Int
 |0,u8,_=>u8
 |n+1,u8,u9=>
  let v10:dI:=x0.getD ((iU .i64 (iU .i64 (dZ .i64 (IntKind.wrap .i64 (jf .u64 (IntKind.wrap .u64 (dZ .i64 x1 x3)) 1)) x2) 1) (IntKind.wrap .i64 (jf .u64 (IntKind.wrap .u64 (dZ .i64 u8 u9)) 1))):Int).toNat default
  let v11:Int×Int:=eP v10
  let v12:dI:=x0.getD ((IntKind.wrap .i64 (jf .u64 (IntKind.wrap .u64 (dZ .i64 u8 u9)) 1)):Int).toNat default
  let v13:Int×Int:=eP v12
  bif (!(decide (u8<u9))) then u8
  else jc x0 x1 x2 x3 n (bif ((decide (v11.1<v13.1))||((dW v11.1 v13.1)&&(decide (v11.2<v13.2)))) then u8 else (dZ .i64 (IntKind.wrap .i64 (jf .u64 (IntKind.wrap .u64 (dZ .i64 u8 u9)) 1)) 1)) (bif ((decide (v11.1<v13.1))||((dW v11.1 v13.1)&&(decide (v11.2<v13.2)))) then (IntKind.wrap .i64 (jf .u64 (IntKind.wrap .u64 (dZ .i64 u8 u9)) 1)) else u9)
def dP : Nat->List dI->Int->Int->Int->List dI
 |0,x0,x1,x2,x3=>x0
 |n+1,x0,x1,x2,x3=>
 let r4:Int:=gZ x0 x1 ((x3-x2).toNat+1) x2 x3
 let r5:List dI:=g_ r4 (((iU .i64 r4 1):Int).toNat+1) x1 x0
 let r6:Int:=iK x0 x2 ((x2-x1).toNat+1) x1 x2
 let r7:List dI:=h_ r6 ((x2-x1).toNat+1) x2 x0
 let r8:Int:=jc x0 x1 x2 x3 ((x3-x1).toNat+1) (bif (decide (x2>(IntKind.wrap .i64 (jf .u64 (IntKind.wrap .u64 (dZ .i64 x1 x3)) 1)))) then (iU .i64 (dZ .i64 (IntKind.wrap .i64 (jf .u64 (IntKind.wrap .u64 (dZ .i64 x1 x3)) 1)) x2) x3) else x1) (bif (decide (x2>(IntKind.wrap .i64 (jf .u64 (IntKind.wrap .u64 (dZ .i64 x1 x3)) 1)))) then (IntKind.wrap .i64 (jf .u64 (IntKind.wrap .u64 (dZ .i64 x1 x3)) 1)) else x2)
 let w9:List dI:=jd x0 r8 x2 (iU .i64 (dZ .i64 (IntKind.wrap .i64 (jf .u64 (IntKind.wrap .u64 (dZ .i64 x1 x3)) 1)) x2) r8)
 let v9:List dI:=w9
 let w11:List dI:=dP n v9 x1 r8 (IntKind.wrap .i64 (jf .u64 (IntKind.wrap .u64 (dZ .i64 x1 x3)) 1))
 let v11:List dI:=w11
 let w13:List dI:=dP n v11 (IntKind.wrap .i64 (jf .u64 (IntKind.wrap .u64 (dZ .i64 x1 x3)) 1)) (iU .i64 (dZ .i64 (IntKind.wrap .i64 (jf .u64 (IntKind.wrap .u64 (dZ .i64 x1 x3)) 1)) x2) r8) x3
 let v13:List dI:=w13
 let w15:List dI:=dP n v9 (IntKind.wrap .i64 (jf .u64 (IntKind.wrap .u64 (dZ .i64 x1 x3)) 1)) (iU .i64 (dZ .i64 (IntKind.wrap .i64 (jf .u64 (IntKind.wrap .u64 (dZ .i64 x1 x3)) 1)) x2) r8) x3
 let v15:List dI:=w15
 let w17:List dI:=dP n x0 x1 r8 (IntKind.wrap .i64 (jf .u64 (IntKind.wrap .u64 (dZ .i64 x1 x3)) 1))
 let v17:List dI:=w17
 let w19:List dI:=dP n v17 (IntKind.wrap .i64 (jf .u64 (IntKind.wrap .u64 (dZ .i64 x1 x3)) 1)) (iU .i64 (dZ .i64 (IntKind.wrap .i64 (jf .u64 (IntKind.wrap .u64 (dZ .i64 x1 x3)) 1)) x2) r8) x3
 let v19:List dI:=w19
 let w21:List dI:=dP n x0 (IntKind.wrap .i64 (jf .u64 (IntKind.wrap .u64 (dZ .i64 x1 x3)) 1)) (iU .i64 (dZ .i64 (IntKind.wrap .i64 (jf .u64 (IntKind.wrap .u64 (dZ .i64 x1 x3)) 1)) x2) r8) x3
 let v21:List dI:=w21
 bif (dW (iU .i64 x2 x1) 1) then r5
 else bif (dW (iU .i64 x3 x2) 1) then r7
 else bif (((decide (r8<x2))&&(decide (x2<(iU .i64 (dZ .i64 (IntKind.wrap .i64 (jf .u64 (IntKind.wrap .u64 (dZ .i64 x1 x3)) 1)) x2) r8))))&&(((decide (x1<r8))&&(decide (r8<(IntKind.wrap .i64 (jf .u64 (IntKind.wrap .u64 (dZ .i64 x1 x3)) 1)))))&&((decide (((IntKind.wrap .i64 (jf .u64 (IntKind.wrap .u64 (dZ .i64 x1 x3)) 1)):Int)<(iU .i64 (dZ .i64 (IntKind.wrap .i64 (jf .u64 (IntKind.wrap .u64 (dZ .i64 x1 x3)) 1)) x2) r8)))&&(decide (((iU .i64 (dZ .i64 (IntKind.wrap .i64 (jf .u64 (IntKind.wrap .u64 (dZ .i64 x1 x3)) 1)) x2) r8):Int)<x3))))) then v13
 else bif (((decide (r8<x2))&&(decide (x2<(iU .i64 (dZ .i64 (IntKind.wrap .i64 (jf .u64 (IntKind.wrap .u64 (dZ .i64 x1 x3)) 1)) x2) r8))))&&((decide (x1<r8))&&(decide (r8<(IntKind.wrap .i64 (jf .u64 (IntKind.wrap .u64 (dZ .i64 x1 x3)) 1)))))) then v11
 else bif (((decide (r8<x2))&&(decide (x2<(iU .i64 (dZ .i64 (IntKind.wrap .i64 (jf .u64 (IntKind.wrap .u64 (dZ .i64 x1 x3)) 1)) x2) r8))))&&((decide (((IntKind.wrap .i64 (jf .u64 (IntKind.wrap .u64 (dZ .i64 x1 x3)) 1)):Int)<(iU .i64 (dZ .i64 (IntKind.wrap .i64 (jf .u64 (IntKind.wrap .u64 (dZ .i64 x1 x3)) 1)) x2) r8)))&&(decide (((iU .i64 (dZ .i64 (IntKind.wrap .i64 (jf .u64 (IntKind.wrap .u64 (dZ .i64 x1 x3)) 1)) x2) r8):Int)<x3)))) then v15
 else bif ((decide (r8<x2))&&(decide (x2<(iU .i64 (dZ .i64 (IntKind.wrap .i64 (jf .u64 (IntKind.wrap .u64 (dZ .i64 x1 x3)) 1)) x2) r8)))) then v9
 else bif (((decide (x1<r8))&&(decide (r8<(IntKind.wrap .i64 (jf .u64 (IntKind.wrap .u64 (dZ .i64 x1 x3)) 1)))))&&((decide (((IntKind.wrap .i64 (jf .u64 (IntKind.wrap .u64 (dZ .i64 x1 x3)) 1)):Int)<(iU .i64 (dZ .i64 (IntKind.wrap .i64 (jf .u64 (IntKind.wrap .u64 (dZ .i64 x1 x3)) 1)) x2) r8)))&&(decide (((iU .i64 (dZ .i64 (IntKind.wrap .i64 (jf .u64 (IntKind.wrap .u64 (dZ .i64 x1 x3)) 1)) x2) r8):Int)<x3)))) then v19
 else bif ((decide (x1<r8))&&(decide (r8<(IntKind.wrap .i64 (jf .u64 (IntKind.wrap .u64 (dZ .i64 x1 x3)) 1))))) then v17
 else bif ((decide (((IntKind.wrap .i64 (jf .u64 (IntKind.wrap .u64 (dZ .i64 x1 x3)) 1)):Int)<(iU .i64 (dZ .i64 (IntKind.wrap .i64 (jf .u64 (IntKind.wrap .u64 (dZ .i64 x1 x3)) 1)) x2) r8)))&&(decide (((iU .i64 (dZ .i64 (IntKind.wrap .i64 (jf .u64 (IntKind.wrap .u64 (dZ .i64 x1 x3)) 1)) x2) r8):Int)<x3))) then v21
 else x0
def gY (x1:Int):Nat->Int->Int->(List dI)->(Int×Int×List dI)
 |0,u2,u3,u4=>(u2,u3,u4)
 |n+1,u2,u3,u4=>
  let w5:List dI:=gJ u4 u2 u3
  let v5:List dI:=w5
  bif (!(decide (u3<=x1))) then (u2,u3,u4)
  else gY x1 n u3 (dZ .i64 u3 20) v5
def fJ (x1:Int)(u7:Int):Nat->Int->Int->(List dI)->(Int×Int×List dI)
 |0,u11,u12,u13=>(u11,u12,u13)
 |n+1,u11,u12,u13=>
  let w14:List dI:=dP ((u12-u11).toNat+1) u13 u11 (dZ .i64 u11 u7) u12
  let v14:List dI:=w14
  bif (!(decide (u12<=x1))) then (u11,u12,u13)
  else fJ x1 u7 n u12 (dZ .i64 u12 (OV .i64 2 u7)) v14
def iJ (x1:Int):Nat->Int->Int->Int->(List dI)->(List dI)
 |0,_,_,_,u10=>u10
 |n+1,u7,u8,u9,u10=>
  let r11:Int×Int×List dI:=fJ x1 u7 ((x1+2*u7).toNat+1) 0 (OV .i64 2 u7) u10
  let w14:List dI:=dP ((x1-r11.1).toNat+1) r11.2.2 r11.1 (dZ .i64 r11.1 u7) x1
  let v14:List dI:=w14
  bif (!(decide (u7<x1))) then u10
  else bif (decide (((dZ .i64 r11.1 u7):Int)<x1)) then iJ x1 n (OV .i64 u7 2) r11.1 r11.2.1 v14
  else iJ x1 n (OV .i64 u7 2) r11.1 r11.2.1 r11.2.2
def eY (x0:List dI)(x1:Int):List dI:=
 let r2:Int×Int×List dI:=gY x1 (x1.toNat+21) 0 20 x0
 let w5:List dI:=gJ r2.2.2 r2.1 x1
 let v5:List dI:=w5
 let r7:List dI:=iJ x1 (x1.toNat+1) 20 r2.1 r2.2.1 v5
 r7
def qI (x0:List dI):List dI:=
 let w1:List dI:=eY x0 (jy dI.enc x0)
 let v1:List dI:=w1
 let v3:List dI:=(v1.drop (0)).take (((jy dI.enc x0):Int).toNat-0)
 bif ((dW (jy dI.enc x0) 0)||(dW (jy dI.enc x0) 1)) then x0
 else v3
def Jq (x0:List dI):List dI:=
 let w1:List dI:=eY x0 (jy dI.enc x0)
 let v1:List dI:=w1
 let v3:List dI:=(v1.drop (0)).take (((jy dI.enc x0):Int).toNat-0)
 bif ((dW (jy dI.enc x0) 0)||(dW (jy dI.enc x0) 1)) then x0
 else v1
def fK (x0:List dM)(x1:dI):dJ×Bool×Int:=
 let v2:Int:=nC x0 x1
 let v3:Int:=um x0 x1
 let v4:dM:=x0.getD v3.toNat default
 bif (je v2 0) then ((dJ.mk 0 (dL.mk 0 0 [] 0) (dL.mk 0 0 [] 0) (dL.mk 0 0 [] 0) false false false),false,v2)
 else bif (decide (v3>=0)) then (v4.dS,true,0)
 else ((dJ.mk 0 (dL.mk 0 0 [] 0) (dL.mk 0 0 [] 0) (dL.mk 0 0 [] 0) false false false),false,0)
def sO (x0:List dM):Nat->(List dI)->Int->(List dI)
 |0,_,_=>default
 |n+1,u2,u3=>
  let v4:dM:=x0.getD u3.toNat default
  let v5:List dI:=u2++[v4.Key]
  bif (!(decide (u3<(jy dM.enc x0)))) then u2
  else sO x0 n v5 (dZ .i64 u3 1)
def kH (x0:List dM):List dI×Int:=
 let v1:Int:=jA x0
 let r2:List dI:=sO x0 (x0.length+1) [] 0
 let v3:List dI:=qI r2
 bif (je v1 0) then ([],v1)
 else (v3,0)
end Go.Fw
end
section
namespace Go.Fw
abbrev LF :=List (Nat×Int)
def LF.ev (v:Nat->Int):LF->Int
 |[]=>0
 |x::r=>x.2*v x.1+LF.ev v r
theorem LF.akm {v:Nat->Int}:∀{a b:LF},LF.ev v (a++b)=a.ev v+b.ev v
 |[],b=>by simp [LF.ev]
 |x::a,b=>by simp only [List.cons_append,LF.ev,LF.akm (a:=a) (b:=b)];omega
def cns (i:Nat)(c:Int)(l:LF):LF:=ZM c fun c=>match c with
 | .ofNat 0=>l
 |c=>(i,c)::l
theorem YS {v:Nat->Int}{i:Nat}{c:Int}{l:LF}:(cns i c l).ev v=c*v i+l.ev v:=by
 unfold cns
 rw [S_]
 split
 .simp
 .rfl
def mrg : Nat->LF->LF->LF
 |0,a,b=>a++b
 |n+1,a,b=>match a with
  |[]=>b
  |x::a'=>match b with
   |[]=>x::a'
   |y::b'=>bif Nat.blt x.1 y.1 then x::mrg n a' (y::b') else bif Nat.blt y.1 x.1 then y::mrg n (x::a') b' else cns x.1 (x.2+y.2) (mrg n a' b')
theorem UH {v:Nat->Int}:∀{n:Nat} {a b:LF},(mrg n a b).ev v=a.ev v+b.ev v
 |0,a,b=>LF.akm
 |n+1,[],b=>by simp [mrg,LF.ev]
 |n+1,x::a,[]=>by simp [mrg,LF.ev]
 |n+1,x::a,y::b=>by
  simp only [mrg]
  cases h:Nat.blt x.1 y.1
  .simp only [cond_false]
   cases h2:Nat.blt y.1 x.1
   .have e:x.1=y.1:=by
     have h1:¬x.1<y.1:=fun q=>by rw [show Nat.blt x.1 y.1=true by rw [Nat.blt_eq];exact q] at h;cases h
     have h3:¬y.1<x.1:=fun q=>by rw [show Nat.blt y.1 x.1=true by rw [Nat.blt_eq];exact q] at h2;cases h2
     omega
    simp only [cond_false,YS,UH (n:=n) (a:=a) (b:=b),LF.ev,e,Int.add_mul];omega
   .simp only [cond_true,LF.ev,UH (n:=n) (a:=x::a) (b:=b)];omega
  .simp only [cond_true,LF.ev,UH (n:=n) (a:=a) (b:=y::b)];omega
def Ru (k:Int):LF->LF
 |[]=>[]
 |x::r=>cns x.1 (k*x.2) (Ru k r)
theorem Gu {v:Nat->Int}{k:Int}:∀{a:LF},(Ru k a).ev v=k*a.ev v
 |[]=>by simp [Ru,LF.ev]
 |x::r=>by simp only [Ru,YS,LF.ev,Gu (a:=r),Int.mul_add,Int.mul_assoc]
def KH (a b:LF):LF:=mrg 60 a b
def qp (a b:LF):LF:=mrg 60 a (Ru (-1) b)
theorem Dw {v:Nat->Int}{a b:LF}:(KH a b).ev v=a.ev v+b.ev v:=UH
theorem lN {v:Nat->Int}{a b:LF}:(qp a b).ev v=a.ev v-b.ev v:=by
 unfold qp;rw [UH,Gu];omega
def cof (i:Nat):LF->Int
 |[]=>0
 |x::r=>bif Nat.beq x.1 i then x.2 else cof i r
def ayO : Int->Bool
 | .ofNat _=>false
 | .negSucc _=>true
theorem ahp {n:Int}:ayO n=true↔n<0:=by cases n<;>simp [ayO]
def adH (n:Int):Int:=match n with | .ofNat m=>.ofNat m | .negSucc m=>.ofNat (m+1)
theorem afk {n:Int}:0<=adH n:=by
 cases n with
 |ofNat m=>simp [adH]
 |negSucc m=>simp [adH];omega
def azt (c d:Int)(N f:LF):LF:=bif Nat.beq c.natAbs d.natAbs then KH N f else match adH d with
 | .ofNat 1=>KH N (Ru (adH c) f)
 |_=>KH (Ru (adH d) N) (Ru (adH c) f)
theorem amX {v:Nat->Int}{c d:Int}{N f:LF}(hN:0<=N.ev v)(hf:0<=f.ev v):0<=(azt c d N f).ev v:=by
 have:=Int.mul_nonneg (afk (n:=d)) hN
 have:=Int.mul_nonneg (afk (n:=c)) hf
 unfold azt
 cases Nat.beq c.natAbs d.natAbs
 .simp only [cond_false]
  split<;>simp only [Dw,Gu]<;>omega
 .simp only [cond_true,Dw];omega
def aoh (c d:Int):Bool:=Nat.blt d.natAbs c.natAbs&&Nat.ble c.natAbs 4
def opp (i:Nat)(ng:Bool):List LF->List LF
 |[]=>[]
 |f::r=>match cof i f with
  | .ofNat 0=>opp i ng r
  | .ofNat (_+1)=>bif ng then f::opp i ng r else opp i ng r
  | .negSucc _=>bif ng then opp i ng r else f::opp i ng r
theorem Kq {i:Nat}{ng:Bool}:∀{fs:List LF} {f:LF},f∈opp i ng fs->f∈fs
 |[],f,h=>by simp [opp] at h
 |g::r,f,h=>by
  unfold opp at h
  split at h
  .exact List.mem_cons_of_mem _ (Kq h)
  .cases ng
   .exact List.mem_cons_of_mem _ (Kq h)
   .simp only [cond_true,List.mem_cons] at h
    rcases h with h|h
    .simp [h]
    .exact List.mem_cons_of_mem _ (Kq h)
  .cases ng
   .simp only [cond_false,List.mem_cons] at h
    rcases h with h|h
    .simp [h]
    .exact List.mem_cons_of_mem _ (Kq h)
   .exact List.mem_cons_of_mem _ (Kq h)
def UJ (fs:List LF):LF->Option (Int×Nat×Nat×List LF)->Option (Int×Nat×Nat×List LF)
 |[],b=>b
 |(0,_)::r,b=>UJ fs r b
 |(i+1,c)::r,b=>
  let o:=opp (i+1) (ayO c) fs
  OW o.length fun n=>match b with
   |none=>UJ fs r (some (c,i+1,n,o))
   |some (c',j,m,o')=>bif Nat.blt n m then UJ fs r (some (c,i+1,n,o)) else UJ fs r (some (c',j,m,o'))
theorem EN {fs:List LF}:∀{N:LF} {b:Option (Int×Nat×Nat×List LF)} {x},(∀y,b=some y->∀f∈y.2.2.2,f∈fs)->UJ fs N b=some x->∀f∈x.2.2.2,f∈fs
 |[],b,x,hb,h=>hb x h
 |(0,_)::r,b,x,hb,h=>EN (N:=r) hb h
 |(i+1,c)::r,b,x,hb,h=>by
  have hs:∀(n:Nat) (y:Int×Nat×Nat×List LF),some (c,i+1,n,opp (i+1) (ayO c) fs)=some y->∀f∈y.2.2.2,f∈fs:=by
   intro n y hy f hf
   simp only [Option.some.injEq] at hy;subst hy
   exact Kq hf
  simp only [UJ,xE] at h
  split at h
  .exact EN (N:=r) (hs _) h
  .rename_i c' j m o'
   cases hl:Nat.blt (opp (i+1) (ayO c) fs).length m
   .rw [hl] at h;exact EN (N:=r) hb h
   .rw [hl] at h;exact EN (N:=r) (hs _) h
def apZ (N:LF):Bool:=match N with
 |[(0,c)]=>ayO c
 |_=>false
def ako (g:LF->Nat->Option Nat):List LF->Nat->Option Nat
 |[],b=>some b
 |f::r,b=>match g f b with
  |none=>none
  |some b'=>ako g r b'
def akp : LF->Bool
 |[]=>true
 |[_]=>true
 |[_,_]=>true
 |_=>false
def ar2 (o:List LF):List LF:=o.filter akp++o.filter fun f=>!(akp f)
theorem akq {o:List LF}{f:LF}(h:f∈ar2 o):f∈o:=by
 rcases List.mem_append.1 h with h|h<;>exact (List.mem_filter.1 h).1
def AB : Nat->List LF->LF->Nat->Option Nat
 |0,_,_,b=>some b
 |d+1,fs,N,b=>match b with
  |0=>some 0
  |b+1=>match UJ fs N none with
   |none=>bif apZ N then none else some b
   |some (c,i,_,o)=>ako (fun f b=>match AB d fs (azt c (cof i f) N f) b with
    |none=>none
    |some b'=>bif aoh c (cof i f) then AB d fs (KH N f) b' else some b') (ar2 o) b
theorem Xp {g:LF->Nat->Option Nat}:∀{l:List LF} {b:Nat},ako g l b=none->∃f∈l,∃b',g f b'=none
 |[],b,h=>by simp [ako] at h
 |f::r,b,h=>by
  simp only [ako] at h
  split at h
  .rename_i hg
   exact ⟨f,List.mem_cons_self ..,b,hg⟩
  .obtain ⟨f',hf',b',hb'⟩:=Xp h
   exact ⟨f',List.mem_cons_of_mem _ hf',b',hb'⟩
theorem Gv {v:Nat->Int}(hv:v 0=1){fs:List LF}(hfs:∀f∈fs,0<=f.ev v):∀{d:Nat} {N:LF} {b:Nat},AB d fs N b=none->¬0<=N.ev v
 |0,N,b,h=>by simp [AB] at h
 |d+1,N,b,h=>by
  intro hN
  simp only [AB] at h
  split at h
  .cases h
  split at h
  .cases hc:apZ N
   .rw [hc] at h;cases h
   .unfold apZ at hc
    split at hc
    .rw [ahp] at hc
     simp only [LF.ev,hv] at hN
     omega
    .cases hc
  .rename_i c i n o hp
   obtain ⟨f,hf,b',h⟩:=Xp h
   have hm:=EN (fs:=fs) (N:=N) (b:=none) (by simp) hp f (akq hf)
   split at h
   .rename_i h'
    exact Gv hv hfs h' (amX hN (hfs f hm))
   .cases hq:aoh c (cof i f)
    .rw [hq] at h;cases h
    .rw [hq] at h
     exact Gv hv hfs h (by rw [Dw];have:=hfs f hm;omega)
def ahq : Option Nat->Bool
 |none=>true
 |some _=>false
def Jr (fs:List LF)(f:LF):Bool:=ahq (AB 3 fs (KH (Ru (-1) f) [(0,-1)]) 60)||(ahq (AB 5 fs (KH (Ru (-1) f) [(0,-1)]) 300)||ahq (AB 8 fs (KH (Ru (-1) f) [(0,-1)]) 1500))
theorem amY {o:Option Nat}(h:ahq o=true):o=none:=by cases o<;>first|rfl|cases h
theorem Kr {v:Nat->Int}(hv:v 0=1){fs:List LF}(hfs:∀f∈fs,0<=f.ev v){f:LF}(h:Jr fs f=true):0<=f.ev v:=by
 have:¬0<=(KH (Ru (-1) f) [(0,-1)]).ev v:=by
  simp only [Jr,Bool.or_eq_true] at h
  rcases h with h|h|h<;>exact Gv hv hfs (amY h)
 rw [Dw,Gu] at this
 simp only [LF.ev,hv] at this
 omega
def vl (ρ:List AV)(az:List Tm):Nat->Int
 |0=>1
 |i+1=>match az[i]? with
  |some t=>(t.den ρ).I
  |none=>0
def Hold (ρ:List AV)(az:List Tm)(f:LF)(x:Int):Prop:=∀bs,az <+: bs->f.ev (vl ρ bs)=x
def Pos (ρ:List AV)(az:List Tm)(f:LF):Prop:=∀bs,az <+: bs->0<=f.ev (vl ρ bs)
theorem Hold.mono {ρ:List AV}{az bs:List Tm}{f:LF}{x:Int}(h:Hold ρ az f x)(hp:az <+: bs):Hold ρ bs f x:=fun cs hc=>h cs (hp.trans hc)
theorem Pos.mono {ρ:List AV}{az bs:List Tm}{f:LF}(h:Pos ρ az f)(hp:az <+: bs):Pos ρ bs f:=fun cs hc=>h cs (hp.trans hc)
def Af (ρ:List AV)(az:List Tm)(fs:List LF):Prop:=∀f∈fs,Pos ρ az f
theorem Af.mono {ρ:List AV}{az bs:List Tm}{fs:List LF}(h:Af ρ az fs)(hp:az <+: bs):Af ρ bs fs:=fun f hf=>(h f hf).mono hp
theorem Af.cons {ρ:List AV}{az:List Tm}{f:LF}{fs:List LF}(h:Pos ρ az f)(k:Af ρ az fs):Af ρ az (f::fs):=fun g hg=>by
 rcases List.mem_cons.1 hg with rfl|hg
 .exact h
 .exact k g hg
theorem Af.app {ρ:List AV}{az:List Tm}{fs gs:List LF}(h:Af ρ az fs)(k:Af ρ az gs):Af ρ az (fs++gs):=fun g hg=>by
 rcases List.mem_append.1 hg with hg|hg
 .exact h g hg
 .exact k g hg
theorem EO {ρ:List AV}{az:List Tm}{fs:List LF}(hfs:Af ρ az fs){f:LF}(h:Jr fs f=true):Pos ρ az f:=fun bs hb=>
 Kr rfl (fun g hg=>hfs g hg bs hb) h
def aa4 (t:Tm):Nat->List Tm->Option Nat
 |_,[]=>none
 |i,x::r=>bif x.beq t then some i else aa4 t (i+1) r
theorem aa5 {t:Tm}:∀{az:List Tm} {i j:Nat},aa4 t i az=some j->i<=j/\az[j-i]?=some t
 |[],i,j,h=>by simp [aa4] at h
 |x::r,i,j,h=>by
  simp only [aa4] at h
  cases hb:x.beq t
  .rw [hb] at h
   obtain ⟨h1,h2⟩:=aa5 (az:=r) h
   refine ⟨by omega,?_⟩
   have:j-i=(j-(i+1))+1:=by omega
   rw [this];simpa using h2
  .rw [hb] at h
   simp only [cond_true,Option.some.injEq] at h
   subst h
   simp [Tm.beq_eq hb]
structure LR where
 az:List Tm
 fs:List LF
 f:LF
def PK (ρ:List AV)(az:List Tm)(r:LR)(x:Int):Prop:=az <+: r.az/\Af ρ r.az r.fs/\Hold ρ r.az r.f x
def oh (t:Tm)(ex:Nat->List LF)(az:List Tm)(fs:List LF):LR:=
 match aa4 t 0 az with
 |some i=>⟨az,fs,[(i+1,1)]⟩
 |none=>OW az.length fun n=>⟨az++[t],ex (n+1)++fs,[(n+1,1)]⟩
theorem afl {az bs:List Tm}{i:Nat}{t:Tm}(h:az[i]?=some t)(hp:az <+: bs):bs[i]?=some t:=by
 obtain ⟨c,rfl⟩:=hp
 have:=(List.getElem?_eq_some_iff.1 h).1
 rw [List.getElem?_append_left this,h]
theorem vC {v:Nat->Int}{i:Nat}:LF.ev v [(i,1)]=v i:=by simp [LF.ev]
theorem zX {ρ:List AV}{t:Tm}{ex:Nat->List LF}{az:List Tm}{fs:List LF}(hfs:Af ρ az fs)
  (hex:∀v:Nat->Int,v 0=1->∀n,v n=(t.den ρ).I->(∀f∈fs,0<=f.ev v)->(∃bs,az <+: bs/\v=vl ρ bs)->∀f∈ex n,0<=f.ev v):PK ρ az (oh t ex az fs) (t.den ρ).I:=by
 unfold oh
 split
 .rename_i i h
  obtain ⟨-,h2⟩:=aa5 h
  refine ⟨List.prefix_refl _,hfs,fun bs hb=>?_⟩
  rw [vC]
  simp only [vl,afl (by simpa using h2) hb]
 .rw [xE]
  have hp:az <+: az++[t]:=List.prefix_append _ _
  have hv:∀bs,az++[t] <+: bs->vl ρ bs (az.length+1)=(t.den ρ).I:=by
   intro bs hb
   have:(az++[t])[az.length]?=some t:=by simp
   simp only [vl,afl this hb]
  refine ⟨hp,Af.app (fun f hf bs hb=>?_) (hfs.mono hp),fun bs hb=>?_⟩
  .exact hex (vl ρ bs) rfl _ (hv bs hb) (fun g hg=>hfs g hg bs (hp.trans hb)) ⟨bs,hp.trans hb,rfl⟩ f hf
  .rw [vC];exact hv bs hb
def vT (k:IntKind)(fs:List LF)(f:LF):Bool:=Jr fs (qp f [(0,k.min)])&&Jr fs (qp [(0,k.max)] f)
theorem afm {k:IntKind}{n:Int}(h0:k.min<=n)(h1:n<=k.max):k.wrap n=n:=by
 cases k<;>simp only [IntKind.min,IntKind.max,IntKind.wrap,IntKind.signed,IntKind.bits] at *<;>simp at *<;>omega
theorem UK {k:IntKind}{v:Nat->Int}(hv:v 0=1){fs:List LF}(hfs:∀f∈fs,0<=f.ev v){f:LF}(h:vT k fs f=true):k.wrap (f.ev v)=f.ev v:=by
 unfold vT at h
 rw [Bool.and_eq_true] at h
 have h1:=Kr hv hfs h.1
 have h2:=Kr hv hfs h.2
 rw [lN] at h1 h2
 simp only [LF.ev,hv] at h1 h2
 exact afm (by omega) (by omega)
def aoi (n:Nat)(f:LF)(c:Int):List LF:=[[(n,1)],qp f (Ru c [(n,1)]),qp (KH (Ru c [(n,1)]) [(0,c-1)]) f]
def aoj (n:Nat)(f:LF)(c:Int):List LF:=[[(n,1)],qp [(0,c-1)] [(n,1)],qp f [(n,1)]]
def aok (n:Nat)(f:LF)(c:Int):List LF:=[qp f (Ru c [(n,1)]),qp (KH (Ru c [(n,1)]) [(0,c-1)]) f]
def YT (n:Nat):List LF:=[[(n,1)]]
def akr (n:Nat):List LF:=[[(n,1)],qp [(0,255)] [(n,1)]]
def Gw (_:Nat):List LF:=[]
def MJ : Int->Bool
 | .ofNat (_+1)=>true
 |_=>false
theorem UL {c:Int}:MJ c=true↔0<c:=by
 cases c with
 |ofNat n=>cases n<;>simp [MJ]<;>omega
 |negSucc n=>simp [MJ]
def adI : Tm->Option Int
 | .li c=>some c
 |_=>none
theorem N8 {t:Tm}{c:Int}(h:adI t=some c):t=.li c:=by
 cases t<;>simp [adI] at h
 subst h;rfl
def ap0 (o:BinOp)(k:IntKind)(x y:Tm)(rx ry:LR):LR:=
 let t:Tm:=.bin o (.int k) x y
 match o with
 | .add=>let f:=KH rx.f ry.f;bif vT k ry.fs f then ⟨ry.az,ry.fs,f⟩ else oh t Gw ry.az ry.fs
 | .sub=>let f:=qp rx.f ry.f;bif vT k ry.fs f then ⟨ry.az,ry.fs,f⟩ else oh t Gw ry.az ry.fs
 | .mul=>match adI y with
  |some c=>let f:=Ru c rx.f;bif vT k ry.fs f then ⟨ry.az,ry.fs,f⟩ else oh t Gw ry.az ry.fs
  |none=>match adI x with
   |some c=>let f:=Ru c ry.f;bif vT k ry.fs f then ⟨ry.az,ry.fs,f⟩ else oh t Gw ry.az ry.fs
   |none=>oh t Gw ry.az ry.fs
 | .quo=>match adI y with
  |some c=>bif MJ c&&(Jr ry.fs rx.f&&vT k ry.fs rx.f) then oh t (fun n=>aoi n rx.f c) ry.az ry.fs else oh t Gw ry.az ry.fs
  |none=>oh t Gw ry.az ry.fs
 | .rem=>match adI y with
  |some c=>bif MJ c&&Jr ry.fs rx.f then oh t (fun n=>aoj n rx.f c) ry.az ry.fs else oh t Gw ry.az ry.fs
  |none=>oh t Gw ry.az ry.fs
 | .shr=>match adI y with
  |some c=>bif Nat.beq c.toNat 1 then oh t (fun n=>aok n rx.f 2) ry.az ry.fs else oh t Gw ry.az ry.fs
  |none=>oh t Gw ry.az ry.fs
 |_=>oh t Gw ry.az ry.fs
def ayz (ks:Pc):Tm->Tm
 | .ite c x y=>match ks.known c with
  |some true=>ayz ks x
  |some false=>ayz ks y
  |none=>.ite c x y
 |t=>t
theorem adJ {ρ:List AV}{ks:Pc}(hk:ks.holds ρ):∀{t:Tm},(ayz ks t).den ρ=t.den ρ:=by
 intro t
 induction t with
 |ite c x y _ rU ihy=>
  simp only [ayz]
  split
  .rename_i h
   rw [rU,Tm.pG,Pc.gV hk h];rfl
  .rename_i h
   rw [ihy,Tm.pG,Pc.gV hk h];rfl
  .rfl
 |_=>rfl
def ar4 (l:List UInt8)(n:Nat):List LF:=OW l.length fun m=>[[(n,1)],qp [(0,(m:Int))] [(n,1)]]
def ap1 : Tm->Option (List UInt8)
 | .ls l=>some l
 |_=>none
theorem amZ {t:Tm}{l:List UInt8}(h:ap1 t=some l):t=.ls l:=by
 cases t<;>simp [ap1] at h;subst h;rfl
def UM (ks:Pc):Tm->List Tm->List LF->LR
 | .ls l,az,fs=>⟨az,fs,OW l.length fun n=>cns 0 (.ofNat n) []⟩
 | .bin o k x y,az,fs=>match o with
  | .add=>match k with
   | .str=>match UM ks x az fs with
    |⟨as1,fs1,f1⟩=>match UM ks y as1 fs1 with
     |⟨as2,YU,f2⟩=>⟨as2,YU,KH f1 f2⟩
   |k=>oh (.slen (.bin .add k x y)) YT az fs
  |o=>oh (.slen (.bin o k x y)) YT az fs
 | .ite c x y,az,fs=>match ks.known c with
  |some true=>UM ks x az fs
  |some false=>UM ks y az fs
  |none=>oh (.slen (.ite c x y)) YT az fs
 | .ah5 x lo hi,az,fs=>match ap1 x with
  |some l=>oh (.slen (.ah5 x lo hi)) (ar4 l) az fs
  |none=>oh (.slen (.ah5 x lo hi)) YT az fs
 |t,az,fs=>oh (.slen t) YT az fs
def lin (ks:Pc):Tm->List Tm->List LF->LR
 | .li c,az,fs=>⟨az,fs,cns 0 c []⟩
 | .bin o kd x y,az,fs=>match kd with
  | .int k=>match lin ks x az fs with
   |⟨as1,fs1,f1⟩=>match lin ks y as1 fs1 with
    |⟨as2,YU,f2⟩=>ap0 o k x y ⟨as1,fs1,f1⟩ ⟨as2,YU,f2⟩
  |kd=>oh (.bin o kd x y) Gw az fs
 | .conv k x,az,fs=>match lin ks x az fs with
  |⟨as1,fs1,f1⟩=>bif vT k fs1 f1 then ⟨as1,fs1,f1⟩ else oh (.conv k x) Gw as1 fs1
 | .ite c x y,az,fs=>match ks.known c with
  |some true=>lin ks x az fs
  |some false=>lin ks y az fs
  |none=>oh (.ite c x y) Gw az fs
 | .rlen x,az,fs=>match ayz ks x with
  | .nl=>⟨az,fs,[]⟩
  |x'=>oh (.rlen x') YT az fs
 | .slen x,az,fs=>UM ks x az fs
 | .byte x i,az,fs=>oh (.byte x i) akr az fs
 |t,az,fs=>oh t Gw az fs
theorem vU {ρ:List AV}{t:Tm}{az:List Tm}{fs:List LF}(hfs:Af ρ az fs):PK ρ az (oh t Gw az fs) (t.den ρ).I:=zX hfs (fun _ _ _ _ _ _ f hf=>by simp [Gw] at hf)
theorem PK.up {ρ:List AV}{az bs:List Tm}{r:LR}{x:Int}(hp:az <+: bs)(h:PK ρ bs r x):PK ρ az r x:=⟨hp.trans h.1,h.2⟩
theorem aks {ρ:List AV}{az:List Tm}{fs:List LF}{k:IntKind}{f:LF}{x:Int}{t:Tm}(hfs:Af ρ az fs)(hf:Hold ρ az f x)(ht:(t.den ρ).I=k.wrap x):PK ρ az (bif vT k fs f then ⟨az,fs,f⟩ else oh t Gw az fs) (t.den ρ).I:=by
 cases h:vT k fs f
 .exact vU hfs
 .refine ⟨List.prefix_refl _,hfs,fun bs hb=>?_⟩
  rw [ht,<- hf bs hb]
  exact (UK rfl (fun g hg=>hfs g hg bs hb) h).symm
theorem Hold.add {ρ:List AV}{az:List Tm}{f g:LF}{x y:Int}(h:Hold ρ az f x)(k:Hold ρ az g y):Hold ρ az (KH f g) (x+y):=fun bs hb=>by rw [Dw,h bs hb,k bs hb]
theorem Hold.sub {ρ:List AV}{az:List Tm}{f g:LF}{x y:Int}(h:Hold ρ az f x)(k:Hold ρ az g y):Hold ρ az (qp f g) (x-y):=fun bs hb=>by rw [lN,h bs hb,k bs hb]
theorem Hold.Ru {ρ:List AV}{az:List Tm}{f:LF}{x c:Int}(h:Hold ρ az f x):Hold ρ az (Go.Fw.Ru c f) (c*x):=fun bs hb=>by rw [Gu,h bs hb]
theorem am0 {ρ:List AV}{o:BinOp}{k:IntKind}{x y:Tm}{rx ry:LR}(h1:Hold ρ rx.az rx.f (x.den ρ).I)(hp:rx.az <+: ry.az)(h2:Hold ρ ry.az ry.f (y.den ρ).I)(hfs:Af ρ ry.az ry.fs) :
  PK ρ ry.az (ap0 o k x y rx ry) ((Tm.bin o (.int k) x y).den ρ).I:=by
 have h1':=h1.mono hp
 unfold ap0
 cases o<;>dsimp only
 case add=>exact aks hfs (h1'.add h2) rfl
 case sub=>exact aks hfs (h1'.sub h2) rfl
 case mul=>
  split
  .rename_i c hc
   have:=N8 hc;subst this
   exact aks hfs (h1'.Ru (c:=c)) (by show k.wrap ((x.den ρ).I*c)=_;rw [Int.mul_comm])
  .split
   .rename_i c hc
    have:=N8 hc;subst this
    exact aks hfs (h2.Ru (c:=c)) rfl
   .exact vU hfs
 case quo=>
  split
  .rename_i c hc
   have:=N8 hc;subst this
   cases hq:MJ c&&(Jr ry.fs rx.f&&vT k ry.fs rx.f)
   .exact vU hfs
   .simp only [Bool.and_eq_true] at hq
    obtain ⟨q1,q2,q3⟩:=hq
    rw [UL] at q1
    rw [cond_true]
    refine zX hfs fun v hv n hn hg hbs f hf=>?_
    obtain ⟨bs,hb,rfl⟩:=hbs
    have a1:=Kr hv hg q2
    have a2:=UK hv hg q3
    have e:=h1' bs hb
    rw [e] at a1 a2
    have hmax:(x.den ρ).I<=k.max/\k.min<=0:=by
     unfold vT at q3
     rw [Bool.and_eq_true] at q3
     have h2:=Kr hv hg q3.2
     rw [lN,e] at h2
     simp only [LF.ev,hv] at h2
     exact ⟨by omega,by cases k<;>decide⟩
    have hn':(vl ρ bs) n=(x.den ρ).I / c:=by
     rw [hn]
     show k.wrap ((x.den ρ).I.tdiv c)=_
     rw [Int.tdiv_eq_ediv_of_nonneg a1]
     have b1:0<=(x.den ρ).I / c:=Int.ediv_nonneg a1 (by omega)
     have b2:(x.den ρ).I / c<=(x.den ρ).I:=Int.ediv_le_self _ a1
     exact afm (by omega) (by omega)
    have b1:0<=(x.den ρ).I / c:=Int.ediv_nonneg a1 (by omega)
    have b3:=Int.mul_ediv_add_emod (x.den ρ).I c
    have b4:=Int.emod_nonneg (x.den ρ).I (show c≠0 by omega)
    have b5:=Int.emod_lt_of_pos (x.den ρ).I q1
    simp only [aoi,List.mem_cons,List.not_mem_nil,or_false] at hf
    rcases hf with rfl|rfl|rfl
    .rw [vC,hn'];exact b1
    .rw [lN,Gu,vC,e,hn'];omega
    .rw [lN,Dw,Gu,vC,e,hn']
     simp only [LF.ev,hv];omega
  .exact vU hfs
 case rem=>
  split
  .rename_i c hc
   have:=N8 hc;subst this
   cases hq:MJ c&&Jr ry.fs rx.f
   .exact vU hfs
   .simp only [Bool.and_eq_true] at hq
    obtain ⟨q1,q2⟩:=hq
    rw [UL] at q1
    rw [cond_true]
    refine zX hfs fun v hv n hn hg hbs f hf=>?_
    obtain ⟨bs,hb,rfl⟩:=hbs
    have a1:=Kr hv hg q2
    have e:=h1' bs hb
    rw [e] at a1
    have hn':(vl ρ bs) n=(x.den ρ).I % c:=by
     rw [hn]
     show (x.den ρ).I.tmod c=_
     exact Int.tmod_eq_emod_of_nonneg a1
    have b4:=Int.emod_nonneg (x.den ρ).I (show c≠0 by omega)
    have b5:=Int.emod_lt_of_pos (x.den ρ).I q1
    have b3:=Int.mul_ediv_add_emod (x.den ρ).I c
    have b6:0<=c*((x.den ρ).I / c):=Int.mul_nonneg (by omega) (Int.ediv_nonneg a1 (by omega))
    simp only [aoj,List.mem_cons,List.not_mem_nil,or_false] at hf
    rcases hf with rfl|rfl|rfl
    .rw [vC,hn'];exact b4
    .rw [lN,vC,hn'];simp only [LF.ev,hv];omega
    .rw [lN,vC,e,hn'];omega
  .exact vU hfs
 case shr=>
  split
  .rename_i c hc
   have:=N8 hc;subst this
   cases hq:Nat.beq c.toNat 1
   .exact vU hfs
   .have hc1:c.toNat=1:=Nat.eq_of_beq_eq_true hq
    rw [cond_true]
    refine zX hfs fun v hv n hn hg hbs f hf=>?_
    obtain ⟨bs,hb,rfl⟩:=hbs
    have e:=h1' bs hb
    have hn':(vl ρ bs) n=(x.den ρ).I / 2:=by
     rw [hn]
     show (x.den ρ).I.fdiv (2 ^ (min c.toNat k.bits))=_
     rw [hc1,Int.fdiv_eq_ediv_of_nonneg _ (Int.pow_nonneg (by omega))]
     cases k<;>rfl
    simp only [aok,List.mem_cons,List.not_mem_nil,or_false] at hf
    rcases hf with rfl|rfl
    .rw [lN,Gu,vC,e,hn'];omega
    .rw [lN,Dw,Gu,vC,e,hn']
     simp only [LF.ev,hv];omega
  .exact vU hfs
 all_goals exact vU hfs
theorem N9 {ρ:List AV}{x:Tm}{az:List Tm}{fs:List LF}(hfs:Af ρ az fs):PK ρ az (oh (.slen x) YT az fs) ((Tm.slen x).den ρ).I:=by
 refine zX hfs fun v hv n hn hg hbs f hf=>?_
 simp only [YT,List.mem_cons,List.not_mem_nil,or_false] at hf
 subst hf
 rw [vC,hn]
 exact Int.natCast_nonneg _
theorem am1 {ρ:List AV}{ks:Pc}(hk:ks.holds ρ):∀{t:Tm} {az:List Tm} {fs:List LF},Af ρ az fs->PK ρ az (UM ks t az fs) ((Tm.slen t).den ρ).I:=by
 intro t
 induction t with
 |ls l=>exact fun {az fs} hfs=>⟨List.prefix_refl _,hfs,fun bs hb=>by simp only [UM,xE,YS];simp [LF.ev,vl,Tm.den,D.I,D.S,sLen]⟩
 |bin o k x y rU ihy=>
  intro az fs hfs
  cases o<;>first|exact N9 hfs|skip
  cases k<;>first|exact N9 hfs|skip
  obtain ⟨a1,a2,a3⟩:=rU hfs
  obtain ⟨b1,b2,b3⟩:=ihy (az:=(UM ks x az fs).az) (fs:=(UM ks x az fs).fs) a2
  refine ⟨a1.trans b1,b2,fun bs hb=>?_⟩
  have h1:=a3.mono b1 bs hb
  have h2:=b3 bs hb
  show LF.ev _ (KH _ _)=_
  rw [Dw,h1,h2]
  simp [Tm.den,qh,D.I,D.S,sLen]
 |ite c x y _ rU ihy=>
  intro az fs hfs
  simp only [UM]
  split
  .rename_i h
   have:=Pc.gV hk h
   have e:((Tm.slen (.ite c x y)).den ρ).I=((Tm.slen x).den ρ).I:=by show (D.i (sLen ((Tm.ite c x y).den ρ).S)).I=_;rw [Tm.pG,this];rfl
   rw [e];exact rU hfs
  .rename_i h
   have:=Pc.gV hk h
   have e:((Tm.slen (.ite c x y)).den ρ).I=((Tm.slen y).den ρ).I:=by show (D.i (sLen ((Tm.ite c x y).den ρ).S)).I=_;rw [Tm.pG,this];rfl
   rw [e];exact ihy hfs
  .exact N9 hfs
 |ah5 x lo hi _ _ _=>
  intro az fs hfs
  simp only [UM]
  split
  .rename_i l hl
   have:=amZ hl;subst this
   refine zX hfs fun v hv n hn hg hbs f hf=>?_
   simp only [ar4,xE,List.mem_cons,List.not_mem_nil,or_false] at hf
   have hle:((Tm.slen (.ah5 (.ls l) lo hi)).den ρ).I<=(l.length:Int):=by
    simp only [Tm.den,D.I,D.S,sLen]
    rw [List.length_take,List.length_drop]
    omega
   rcases hf with rfl|rfl
   .rw [vC,hn];exact Int.natCast_nonneg _
   .rw [lN,vC,hn]
    simp only [LF.ev,hv];omega
  .exact N9 hfs
 |_=>intro az fs hfs;exact N9 hfs
theorem PL {ρ:List AV}{ks:Pc}(hk:ks.holds ρ):∀{t:Tm} {az:List Tm} {fs:List LF},Af ρ az fs->PK ρ az (lin ks t az fs) (t.den ρ).I:=by
 intro t
 induction t with
 |li c=>exact fun {az fs} hfs=>⟨List.prefix_refl _,hfs,fun bs hb=>by simp only [lin,YS];simp [LF.ev,vl,Tm.den,D.I]⟩
 |bin o kd x y rU ihy=>
  intro az fs hfs
  cases kd with
  |int k=>
   obtain ⟨a1,a2,a3⟩:=rU hfs
   obtain ⟨b1,b2,b3⟩:=ihy (az:=(lin ks x az fs).az) (fs:=(lin ks x az fs).fs) a2
   exact PK.up (a1.trans b1) (am0 (rx:=lin ks x az fs) a3 b1 b3 b2)
  |_=>exact vU hfs
 |conv k x ih=>
  intro az fs hfs
  obtain ⟨a1,a2,a3⟩:=ih hfs
  exact PK.up a1 (aks a2 a3 rfl)
 |ite c x y _ rU ihy=>
  intro az fs hfs
  simp only [lin]
  split
  .rename_i h
   have:=Pc.gV hk h
   rw [Tm.pG,this];exact rU hfs
  .rename_i h
   have:=Pc.gV hk h
   rw [Tm.pG,this];exact ihy hfs
  .exact vU hfs
 |rlen x _=>
  intro az fs hfs
  have e:((Tm.rlen x).den ρ).I=((Tm.rlen (ayz ks x)).den ρ).I:=by simp only [Tm.den,adJ hk]
  rw [e]
  simp only [lin]
  split
  .rename_i hc
   rw [hc]
   exact ⟨List.prefix_refl _,hfs,fun bs hb=>rfl⟩
  refine zX hfs fun v hv n hn hg hbs f hf=>?_
  simp only [YT,List.mem_cons,List.not_mem_nil,or_false] at hf
  subst hf
  rw [vC,hn]
  exact Int.natCast_nonneg _
 |slen x _=>intro az fs hfs;exact am1 hk hfs
 |byte x i _ _=>
  intro az fs hfs
  refine zX hfs fun v hv n hn hg hbs f hf=>?_
  have h0:((Tm.byte x i).den ρ).I=(((x.den ρ).S.getD (i.den ρ).I.toNat 0).toNat:Int):=rfl
  have h1:=UInt8.toNat_lt ((x.den ρ).S.getD (i.den ρ).I.toNat 0)
  simp only [akr,List.mem_cons,List.not_mem_nil,or_false] at hf
  rcases hf with rfl|rfl
  .rw [vC,hn,h0];omega
  .rw [lN,vC,hn,h0];simp only [LF.ev,hv];omega
 |_=>exact fun hfs=>vU hfs
def am2 (o:BinOp)(b:Bool)(x y:LF):Option (List LF):=
 let one:LF:=[(0,1)]
 match o,b with
 | .lss,true=>some [qp (qp y x) one]
 | .lss,false=>some [qp x y]
 | .leq,true=>some [qp y x]
 | .leq,false=>some [qp (qp x y) one]
 | .gtr,true=>some [qp (qp x y) one]
 | .gtr,false=>some [qp y x]
 | .geq,true=>some [qp x y]
 | .geq,false=>some [qp (qp y x) one]
 | .eql,true=>some [qp x y,qp y x]
 | .neq,false=>some [qp x y,qp y x]
 |_,_=>none
def Xq (o:BinOp)(b:Bool):Bool:=match o,b with
 | .eql,false=>true
 | .neq,true=>true
 |_,_=>false
theorem afn {o:BinOp}{k:IntKind}{b:Bool}{x y:LF}{X Y:D}{v:Nat->Int}(hv:v 0=1){l:List LF}(h:am2 o b x y=some l)(hx:x.ev v=X.I)(hy:y.ev v=Y.I):(∀f∈l,0<=f.ev v)↔(qh o (.int k) X Y).B=b:=by
 have one:LF.ev v [(0,1)]=1:=by simp [LF.ev,hv]
 cases o<;>cases b<;>simp only [am2] at h<;>first|(cases h;done)|skip
 all_goals
  simp only [Option.some.injEq] at h
  subst h
  simp only [List.mem_cons,List.not_mem_nil,or_false,forall_eq_or_imp,forall_eq,lN,hx,hy,one,qh,D.B,dW,je,decide_eq_true_eq,decide_eq_false_iff_not,beq_iff_eq,bne_eq_false_iff_eq]
  omega
theorem aa6 {o:BinOp}{k:IntKind}{b:Bool}{X Y:D}(h:Xq o b=true):(qh o (.int k) X Y).B=b↔X.I≠Y.I:=by
 cases o<;>cases b<;>simp [Xq] at h<;>simp [qh,D.B,dW,je]
structure AS where
 az:List Tm
 fs:List LF
def VE (ρ:List AV)(s:AS):Prop:=Af ρ s.az s.fs
def ap2 (ks:Pc)(o:BinOp)(b:Bool)(x y:Tm)(s:AS):AS:=
 match lin ks x s.az s.fs with
 |⟨as1,fs1,f1⟩=>match lin ks y as1 fs1 with
  |⟨as2,YU,f2⟩=>match am2 o b f1 f2 with
   |some l=>⟨as2,l++YU⟩
   |none=>bif Xq o b then
     bif Jr YU (qp f1 f2) then ⟨as2,qp (qp f1 f2) [(0,1)]::YU⟩ else bif Jr YU (qp f2 f1) then ⟨as2,qp (qp f2 f1) [(0,1)]::YU⟩ else ⟨as2,YU⟩
    else ⟨as2,YU⟩
def N_ (ks:Pc):Tm->Bool->AS->AS
 | .not x,b,s=>N_ ks x (!b) s
 | .and x y,b,s=>match b with
  |true=>N_ ks y true (N_ ks x true s)
  |false=>s
 | .or x y,b,s=>match b with
  |true=>s
  |false=>N_ ks y false (N_ ks x false s)
 | .bin o kd x y,b,s=>match kd with
  | .int _=>ap2 ks o b x y s
  |_=>s
 |_,_,s=>s
theorem am3 {ρ:List AV}{ks:Pc}(hk:ks.holds ρ){o:BinOp}{k:IntKind}{b:Bool}{x y:Tm}{s:AS}(hs:VE ρ s)(h:((Tm.bin o (.int k) x y).den ρ).B=b):VE ρ (ap2 ks o b x y s):=by
 obtain ⟨a1,a2,a3⟩:=PL hk (t:=x) hs
 obtain ⟨b1,b2,b3⟩:=PL hk (t:=y) (az:=(lin ks x s.az s.fs).az) (fs:=(lin ks x s.az s.fs).fs) a2
 have a3':=a3.mono b1
 unfold ap2
 dsimp only
 split
 .rename_i l hl
  exact Af.app (fun f hf bs hb=>(afn (k:=k) rfl hl (a3' bs hb) (b3 bs hb)).2 h f hf) b2
 .cases hd:Xq o b
  .exact b2
  .have hne:=(aa6 (k:=k) hd).1 h
   simp only [cond_true]
   have one:∀bs,LF.ev (vl ρ bs) [(0,1)]=1:=by simp [LF.ev,vl]
   cases h1:Jr (lin ks y (lin ks x s.az s.fs).az (lin ks x s.az s.fs).fs).fs (qp (lin ks x s.az s.fs).f (lin ks y (lin ks x s.az s.fs).az (lin ks x s.az s.fs).fs).f)
   .simp only [cond_false]
    cases h2:Jr (lin ks y (lin ks x s.az s.fs).az (lin ks x s.az s.fs).fs).fs (qp (lin ks y (lin ks x s.az s.fs).az (lin ks x s.az s.fs).fs).f (lin ks x s.az s.fs).f)
    .exact b2
    .refine Af.cons (fun bs hb=>?_) b2
     have q:=EO b2 h2 bs hb
     rw [lN,a3' bs hb,b3 bs hb] at q
     rw [lN,lN,a3' bs hb,b3 bs hb,one]
     omega
   .refine Af.cons (fun bs hb=>?_) b2
    have q:=EO b2 h1 bs hb
    rw [lN,a3' bs hb,b3 bs hb] at q
    rw [lN,lN,a3' bs hb,b3 bs hb,one]
    omega
theorem UN {ρ:List AV}{ks:Pc}(hk:ks.holds ρ):∀{t:Tm} {b:Bool} {s:AS},VE ρ s->(t.den ρ).B=b->VE ρ (N_ ks t b s):=by
 intro t
 induction t with
 |not x ih=>exact fun hs h=>ih hs (by rw [<- h];simp [Tm.den,D.B])
 |and x y rU ihy=>
  intro b s hs h
  cases b
  .exact hs
  .have h':(x.den ρ).B=true/\(y.den ρ).B=true:=by simpa [Tm.den,D.B] using h
   exact ihy (rU hs h'.1) h'.2
 |or x y rU ihy=>
  intro b s hs h
  cases b
  .have h':(x.den ρ).B=false/\(y.den ρ).B=false:=by simpa [Tm.den,D.B] using h
   exact ihy (rU hs h'.1) h'.2
  .exact hs
 |bin o kd x y _ _=>
  intro b s hs h
  cases kd with
  |int k=>exact am3 hk (k:=k) hs h
  |_=>exact hs
 |_=>exact fun hs _=>hs
def UO (ks:Pc):Pc->AS->AS
 |[],s=>s
 |x::r,s=>N_ ks x.1 x.2 (UO ks r s)
theorem Kt {ρ:List AV}{ks:Pc}(hk:ks.holds ρ):∀{pc:Pc} {s:AS},pc.holds ρ->VE ρ s->VE ρ (UO ks pc s)
 |[],s,_,hs=>hs
 |x::r,s,hp,hs=>UN hk (Kt hk (fun y hy=>hp y (List.mem_cons_of_mem _ hy)) hs) (hp x (List.mem_cons_self ..))
def ap3 (ks:Pc)(o:BinOp)(b:Bool)(x y:Tm)(s:AS):Bool:=
 match lin ks x s.az s.fs with
 |⟨as1,fs1,f1⟩=>match lin ks y as1 fs1 with
  |⟨as2,YU,f2⟩=>match am2 o b f1 f2 with
   |some l=>l.all (Jr YU)
   |none=>Xq o b&&(Jr YU (qp (qp f1 f2) [(0,1)])||Jr YU (qp (qp f2 f1) [(0,1)]))
def H9 (ks:Pc):Tm->Bool->AS->Bool
 | .lb v,b,_=>v == b
 | .not x,b,s=>H9 ks x (!b) s
 | .and x y,b,s=>match b with
  |true=>H9 ks x true s&&H9 ks y true s
  |false=>H9 ks x false s||H9 ks y false (N_ ks x true s)
 | .or x y,b,s=>match b with
  |true=>H9 ks x true s||H9 ks y true (N_ ks x false s)
  |false=>H9 ks x false s&&H9 ks y false s
 | .bin o kd x y,b,s=>match ks.known (.bin o kd x y) with
  |some v=>v == b
  |none=>match kd with
   | .int _=>ap3 ks o b x y s
   |_=>false
 |t,b,_=>match ks.known t with
  |some v=>v == b
  |none=>false
theorem am4 {ρ:List AV}{ks:Pc}(hk:ks.holds ρ){o:BinOp}{k:IntKind}{b:Bool}{x y:Tm}{s:AS}(hs:VE ρ s)(h:ap3 ks o b x y s=true):((Tm.bin o (.int k) x y).den ρ).B=b:=by
 obtain ⟨a1,a2,a3⟩:=PL hk (t:=x) hs
 obtain ⟨b1,b2,b3⟩:=PL hk (t:=y) (az:=(lin ks x s.az s.fs).az) (fs:=(lin ks x s.az s.fs).fs) a2
 have a3':=a3.mono b1
 unfold ap3 at h
 dsimp only at h
 have rf:=List.prefix_refl (lin ks y (lin ks x s.az s.fs).az (lin ks x s.az s.fs).fs).az
 split at h
 .rename_i l hl
  rw [List.all_eq_true] at h
  exact (afn (k:=k) rfl hl (a3' _ rf) (b3 _ rf)).1 fun f hf=>EO b2 (h f hf) _ rf
 .rw [Bool.and_eq_true] at h
  refine (aa6 (k:=k) h.1).2 ?_
  have one:∀bs,LF.ev (vl ρ bs) [(0,1)]=1:=by simp [LF.ev,vl]
  have h2:=h.2
  rw [Bool.or_eq_true] at h2
  rcases h2 with h2|h2
  .have q:=EO b2 h2 _ rf
   rw [lN,lN,a3' _ rf,b3 _ rf,one] at q
   intro e;omega
  .have q:=EO b2 h2 _ rf
   rw [lN,lN,a3' _ rf,b3 _ rf,one] at q
   intro e;omega
theorem afo {ρ:List AV}{ks:Pc}(hk:ks.holds ρ):∀{t:Tm} {b:Bool} {s:AS},VE ρ s->H9 ks t b s=true->(t.den ρ).B=b:=by
 intro t
 have oth:∀{t:Tm} {b:Bool},(match ks.known t with|some v=>v == b|none=>false)=true->(t.den ρ).B=b:=by
  intro t b h
  split at h
  .rename_i v hv
   rw [Pc.gV hk hv];simpa using h
  .cases h
 induction t with
 |lb v=>exact fun hs h=>by simpa [H9,Tm.den,D.B] using h
 |not x ih=>intro b s hs h;have:=ih (b:=!b) hs h;show (!(x.den ρ).B)=b;rw [this];simp
 |and x y rU ihy=>
  intro b s hs h
  cases b
  .simp only [H9,Bool.or_eq_true] at h
   show ((x.den ρ).B&&(y.den ρ).B)=false
   cases hx:(x.den ρ).B
   .rfl
   .rcases h with h|h
    .rw [rU hs h] at hx;cases hx
    .rw [ihy (UN hk hs hx) h];rfl
  .simp only [H9,Bool.and_eq_true] at h
   show ((x.den ρ).B&&(y.den ρ).B)=true
   rw [rU hs h.1,ihy hs h.2];rfl
 |or x y rU ihy=>
  intro b s hs h
  cases b
  .simp only [H9,Bool.and_eq_true] at h
   show ((x.den ρ).B||(y.den ρ).B)=false
   rw [rU hs h.1,ihy hs h.2];rfl
  .simp only [H9,Bool.or_eq_true] at h
   show ((x.den ρ).B||(y.den ρ).B)=true
   cases hx:(x.den ρ).B
   .rcases h with h|h
    .rw [rU hs h] at hx;cases hx
    .rw [ihy (UN hk hs hx) h];rfl
   .rfl
 |bin o kd x y _ _=>
  intro b s hs h
  simp only [H9] at h
  split at h
  .rename_i v hv
   rw [Pc.gV hk hv];simpa using h
  .split at h
   .exact am4 hk hs h
   .cases h
 |_=>exact fun hs h=>oth h
def Js : Tm->Option Tm
 | .ite c _ _=>some c
 | .bin _ _ x y=>match Js x with|some c=>some c|none=>Js y
 | .and x y=>match Js x with|some c=>some c|none=>Js y
 | .or x y=>match Js x with|some c=>some c|none=>Js y
 | .not x=>Js x
 | .conv _ x=>Js x
 | .rlen x=>Js x
 | .slen x=>Js x
 |_=>none
def Ku (ks:Pc):Pc->Option Tm
 |[]=>none
 |x::r=>match Js x.1 with
  |some c=>match ks.known c with|none=>some c|some _=>Ku ks r
  |none=>Ku ks r
def ar5 : Tm->Bool->Bool
 | .not t,b=>ar5 t (!b)
 | .bin o (.int _) _ _,b=>Xq o b
 |_,_=>false
def auC (F:Pc):Pc:=F.filter fun x=>ar5 x.1 x.2
def ay1 : Tm->Bool
 | .not t=>ay1 t
 | .and x y=>ay1 x||ay1 y
 | .or x y=>ay1 x||ay1 y
 | .bin o _ x y=>match o with
  | .lss | .leq | .gtr | .geq | .eql | .neq=>ay1 x||ay1 y
  |_=>true
 | .conv _ _=>true
 | .ite _ _ _=>true
 |_=>false
def asF (F:Pc):AS:=UO F (auC F) (UO F (F.filter fun x=>ay1 x.1) (UO F (F.filter fun x=>!(ay1 x.1)) ⟨[],[]⟩))
theorem Pc.Gx {ρ:List AV}{F:Pc}{p:Tm×Bool->Bool}(h:F.holds ρ):Pc.holds ρ (F.filter p):=fun x hx=>h x (List.mem_filter.1 hx).1
theorem YV {ρ:List AV}{F:Pc}(h:F.holds ρ):VE ρ (asF F):=Kt h (Pc.Gx h) (Kt h (Pc.Gx h) (Kt h (Pc.Gx h) (fun f hf=>by cases hf)))
def hlf (pc:Pc):Tm->Bool->Pc
 | .and x y,b=>match b with
  |true=>[]
  |false=>match pc.known x with
   |some true=>(y,false)::hlf pc y false
   |_=>match pc.known y with
    |some true=>(x,false)::hlf pc x false
    |_=>[]
 | .or x y,b=>match b with
  |false=>[]
  |true=>match pc.known x with
   |some false=>(y,true)::hlf pc y true
   |_=>match pc.known y with
    |some false=>(x,true)::hlf pc x true
    |_=>[]
 | .not x,b=>hlf pc x (!b)
 |_,_=>[]
theorem ap5 {ρ:List AV}{pc:Pc}(h:pc.holds ρ):∀{t:Tm} {b:Bool},(t.den ρ).B=b->Pc.holds ρ (hlf pc t b):=by
 intro t
 induction t with
 |and x y rU ihy=>
  intro b e
  cases b
  .have e':((x.den ρ).B&&(y.den ρ).B)=false:=e
   simp only [hlf]
   split
   .rename_i hx
    rw [Pc.gV h hx,Bool.true_and] at e'
    exact Pc.jo e' (ihy e')
   .split
    .rename_i hy
     rw [Pc.gV h hy,Bool.and_true] at e'
     exact Pc.jo e' (rU e')
    .exact fun x hx=>by cases hx
  .exact fun x hx=>by cases hx
 |or x y rU ihy=>
  intro b e
  cases b
  .exact fun x hx=>by cases hx
  .have e':((x.den ρ).B||(y.den ρ).B)=true:=e
   simp only [hlf]
   split
   .rename_i hx
    rw [Pc.gV h hx,Bool.false_or] at e'
    exact Pc.jo e' (ihy e')
   .split
    .rename_i hy
     rw [Pc.gV h hy,Bool.or_false] at e'
     exact Pc.jo e' (rU e')
    .exact fun x hx=>by cases hx
 |not x ih=>
  intro b e
  have e':(!(x.den ρ).B)=b:=e
  exact ih (by rw [<- e'];simp)
 |_=>intro b e x hx;cases hx
def ahr (G:Pc):Pc:=G.flatMap (fun x=>hlf G x.1 x.2)++G
theorem Oa {ρ:List AV}{G:Pc}(h:G.holds ρ):Pc.holds ρ (ahr G):=fun x hx=>by
 rcases List.mem_append.1 hx with hx|hx
 .obtain ⟨y,hy,hx⟩:=List.mem_flatMap.1 hx
  exact ap5 h (h y hy) x hx
 .exact h x hx
def ayu : Nat->Pc->Tm->Bool
 |0,F,t=>H9 F t true (asF F)
 |n+1,F,t=>H9 F t true (asF F)||(match Ku F ((t,true)::F) with
  |none=>false
  |some c=>ayu n (ahr ((c,true)::F)) t&&ayu n (ahr ((c,false)::F)) t)
theorem zY {ρ:List AV}{t:Tm}:∀{n:Nat} {F:Pc},ayu n F t=true->F.holds ρ->(t.den ρ).B=true
 |0,F,h,hF=>afo hF (YV hF) h
 |n+1,F,h,hF=>by
  simp only [ayu,Bool.or_eq_true] at h
  rcases h with h|h
  .exact afo hF (YV hF) h
  .split at h
   .cases h
   .rename_i c _
    rw [Bool.and_eq_true] at h
    cases hc:(c.den ρ).B
    .exact zY h.2 (Oa (Pc.jo hc hF))
    .exact zY h.1 (Oa (Pc.jo hc hF))
def ayU (F:Pc):Bool:=match asF F with
 |⟨_,fs⟩=>fs.any fun f=>ahq (AB 3 fs f 40)
theorem ahs {ρ:List AV}{F:Pc}(h:ayU F=true)(hF:F.holds ρ):False:=by
 have hs:=YV hF
 unfold ayU at h
 rw [List.any_eq_true] at h
 obtain ⟨f,hf,h⟩:=h
 unfold ahq at h
 split at h
 .rename_i e
  have hp:∀g∈(asF F).fs,0<=g.ev (vl ρ (asF F).az):=fun g hg=>hs g hg _ (List.prefix_refl _)
  exact Gv rfl hp e (hp f hf)
 .cases h
end Go.Fw
end
section
namespace Go.Fw
variable [jU]
inductive Ek where|B|I|F|S|R
def Gy : Ek->D->D->Prop
 | .B,d,d'=>d.B=d'.B
 | .I,d,d'=>d.I=d'.I
 | .F,d,d'=>d.F=d'.F
 | .S,d,d'=>d.S=d'.S
 | .R,d,d'=>d.R=d'.R
theorem Gy.of_eq {e:Ek}{d d':D}(h:d=d'):Gy e d d':=by subst h;cases e<;>rfl
def PN : SV->List Nat->Option SV
 |v,[]=>some v
 | .agg l,j::p=>match CG l j with|some x=>PN x p|none=>none
 | .fA l,j::p=>match CG l j with|some x=>PN x p|none=>none
 |_,_::_=>none
def afp : Ek->SV->Option Tm
 | .B,.sc .bool t=>some t
 | .I,.sc (.int _) t=>some t
 | .F,.sc .kS t=>some t
 | .S,.sc .str t=>some t
 | .R,.sc .sl t=>some t
 | .R,.sf t=>some t
 | .R,.nil=>some .nl
 | .R,.slc [] _=>some .nl
 |_,_=>none
def afq (base:Nat)(l:List SV)(i:Nat)(p:List Nat):Option SV:=match CG l (i-base) with
 |some v=>PN v p
 |none=>none
def aol : SV->Option Tm
 | .slc rows _=>OW rows.length fun n=>some (.li (.ofNat n))
 |v=>match afp .R v with|some t=>some (.rlen t)|none=>none
def ar6 : Kd->Option Ek
 | .bool=>some .B
 | .int _=>some .I
 | .kS=>some .F
 | .str=>some .S
 | .sl=>none
def aza : Tm->Option (Nat×List Nat)
 | .var i p=>some (i,p)
 |_=>none
theorem akt {t:Tm}{x:Nat×List Nat}(h:aza t=some x):t=.var x.1 x.2:=by
 cases t<;>simp [aza] at h
 subst h;rfl
def jW (base:Nat)(l:List SV):Ek->Tm->Option Tm
 |_,.lb v=>some (.lb v)
 |_,.li v=>some (.li v)
 |_,.lf v=>some (.lf v)
 |_,.ls v=>some (.ls v)
 |_,.nl=>some .nl
 |e,.var i p=>bif Nat.blt i base then some (.var i p) else match afq base l i p with
  |some v=>afp e v
  |none=>none
 |_,.bin o k x y=>match ar6 k with
  |none=>none
  |some e=>match jW base l e x with
   |none=>none
   |some x'=>match jW base l e y with
    |none=>none
    |some y'=>some (.bin o k x' y')
 |_,.not x=>match jW base l .B x with|none=>none|some x'=>some (.not x')
 |_,.and x y=>match jW base l .B x with
  |none=>none
  |some x'=>match jW base l .B y with|none=>none|some y'=>some (.and x' y')
 |_,.or x y=>match jW base l .B x with
  |none=>none
  |some x'=>match jW base l .B y with|none=>none|some y'=>some (.or x' y')
 |e,.ite c x y=>match jW base l .B c with
  |none=>none
  |some c'=>match jW base l e x with
   |none=>none
   |some x'=>match jW base l e y with|none=>none|some y'=>some (.ite c' x' y')
 |_,.conv k x=>match jW base l .I x with|none=>none|some x'=>some (.conv k x')
 |_,.slen x=>match jW base l .S x with|none=>none|some x'=>some (.slen x')
 |_,.rlen x=>match aza x with
  |some q=>bif Nat.blt q.1 base then some (.rlen (.var q.1 q.2)) else match afq base l q.1 q.2 with
   |some v=>aol v
   |none=>none
  |none=>match jW base l .R x with|none=>none|some x'=>some (.rlen x')
 |_,.byte x i=>match jW base l .S x with
  |none=>none
  |some x'=>match jW base l .I i with|none=>none|some i'=>some (.byte x' i')
 |_,_=>none
theorem UQ {ρ:List AV}:∀{p:List Nat} {v w:SV},PN v p=some w->ax8 (v.den ρ) p=w.den ρ
 |[],v,w,h=>by
  simp only [PN,Option.some.injEq] at h
  subst h
  cases v.den ρ<;>rfl
 |j::p,v,w,h=>by
  cases v<;>simp only [PN] at h<;>first|(cases h;done)|skip
  all_goals
   split at h
   .rename_i l x hx
    have e:=En (ρ:=ρ) hx
    simp only [SV.den,ax8,List.getD_eq_getElem?_getD,e,Option.getD_some]
    exact UQ h
   .cases h
theorem Xr {ρ:List AV}{e:Ek}{v:SV}{t:Tm}(h:afp e v=some t):Gy e (t.den ρ) (v.den ρ).D:=by
 unfold afp at h
 split at h<;>first|(cases h;done)|(simp only [Option.some.injEq] at h;subst h;rfl)
theorem Rw {ρ:List AV}{base i:Nat}{m:List AV}(hb:base<=ρ.length)(hi:i<base):(ρ.take base++m).getD i eX=ρ.getD i eX:=by
 have:i<(ρ.take base).length:=by rw [List.length_take];omega
 rw [List.getD_eq_getElem?_getD,List.getD_eq_getElem?_getD,List.getElem?_append_left this,List.getElem?_take,if_pos hi]
theorem PO {ρ:List AV}{base:Nat}{l:List SV}(hb:base<=ρ.length){i:Nat}{p:List Nat}{v:SV}(hi:¬i<base)(h:afq base l i p=some v):ax8 ((ρ.take base++dQ ρ l).getD i eX) p=v.den ρ:=by
 unfold afq at h
 split at h
 .rename_i w hw
  have hl:(ρ.take base).length=base:=by rw [List.length_take];omega
  rw [List.getD_eq_getElem?_getD,List.getElem?_append_right (by omega),hl,En hw]
  exact UQ h
 .cases h
theorem EP {ρ:List AV}{base:Nat}{l:List SV}(hb:base<=ρ.length):∀{t:Tm} {e:Ek} {t':Tm},jW base l e t=some t'->Gy e (t'.den ρ) (t.den (ρ.take base++dQ ρ l)):=by
 intro t
 induction t with
 |lb v=>intro e t' h;simp only [jW,Option.some.injEq] at h;subst h;exact .of_eq rfl
 |li v=>intro e t' h;simp only [jW,Option.some.injEq] at h;subst h;exact .of_eq rfl
 |lf v=>intro e t' h;simp only [jW,Option.some.injEq] at h;subst h;exact .of_eq rfl
 |ls v=>intro e t' h;simp only [jW,Option.some.injEq] at h;subst h;exact .of_eq rfl
 |nl=>intro e t' h;simp only [jW,Option.some.injEq] at h;subst h;exact .of_eq rfl
 |var i p=>
  intro e t' h
  simp only [jW] at h
  cases hi:Nat.blt i base
  .rw [hi] at h
   have hi':¬i<base:=fun q=>by rw [show Nat.blt i base=true by rw [Nat.blt_eq];exact q] at hi;cases hi
   simp only [cond_false] at h
   split at h
   .rename_i v hv
    have:=Xr (ρ:=ρ) h
    simp only [Tm.den,PO hb hi' hv]
    exact this
   .cases h
  .rw [hi] at h
   simp only [cond_true,Option.some.injEq] at h;subst h
   rw [Nat.blt_eq] at hi
   exact .of_eq (by simp only [Tm.den,Rw hb hi])
 |bin o k x y rU ihy=>
  intro e t' h
  simp only [jW] at h
  split at h
  .cases h
  rename_i e' he
  split at h
  .cases h
  rename_i x' hx
  split at h
  .cases h
  rename_i y' hy
  simp only [Option.some.injEq] at h;subst h
  have h1:=rU hx
  have h2:=ihy hy
  refine .of_eq ?_
  cases k<;>simp only [ar6,Option.some.injEq] at he<;>first|(cases he;done)|skip
  all_goals
   subst he
   simp only [Gy] at h1 h2
   simp only [Tm.den]
   cases o<;>simp only [qh,h1,h2]
 |not x ih=>
  intro e t' h
  simp only [jW] at h
  split at h
  .cases h
  rename_i x' hx
  simp only [Option.some.injEq] at h;subst h
  have h1:=ih hx
  simp only [Gy] at h1
  exact .of_eq (by simp only [Tm.den,h1])
 |and x y rU ihy=>
  intro e t' h
  simp only [jW] at h
  split at h
  .cases h
  rename_i x' hx
  split at h
  .cases h
  rename_i y' hy
  simp only [Option.some.injEq] at h;subst h
  have h1:=rU hx
  have h2:=ihy hy
  simp only [Gy] at h1 h2
  exact .of_eq (by simp only [Tm.den,h1,h2])
 |or x y rU ihy=>
  intro e t' h
  simp only [jW] at h
  split at h
  .cases h
  rename_i x' hx
  split at h
  .cases h
  rename_i y' hy
  simp only [Option.some.injEq] at h;subst h
  have h1:=rU hx
  have h2:=ihy hy
  simp only [Gy] at h1 h2
  exact .of_eq (by simp only [Tm.den,h1,h2])
 |ite c x y ihc rU ihy=>
  intro e t' h
  simp only [jW] at h
  split at h
  .cases h
  rename_i c' hc
  split at h
  .cases h
  rename_i x' hx
  split at h
  .cases h
  rename_i y' hy
  simp only [Option.some.injEq] at h;subst h
  have h0:=ihc hc
  have h1:=rU hx
  have h2:=ihy hy
  simp only [Gy] at h0
  rw [Tm.pG,Tm.pG,h0]
  cases (c.den (ρ.take base++dQ ρ l)).B
  .exact h2
  .exact h1
 |conv k x ih=>
  intro e t' h
  simp only [jW] at h
  split at h
  .cases h
  rename_i x' hx
  simp only [Option.some.injEq] at h;subst h
  have h1:=ih hx
  simp only [Gy] at h1
  exact .of_eq (by simp only [Tm.den,h1])
 |slen x ih=>
  intro e t' h
  simp only [jW] at h
  split at h
  .cases h
  rename_i x' hx
  simp only [Option.some.injEq] at h;subst h
  have h1:=ih hx
  simp only [Gy] at h1
  exact .of_eq (by simp only [Tm.den,h1])
 |rlen x ih=>
  intro e t' h
  simp only [jW] at h
  split at h
  .rename_i q hq
   have:=akt hq;subst this
   obtain ⟨i,p⟩:=q
   dsimp only at h ⊢
   cases hi:Nat.blt i base
   .rw [hi] at h
    have hi':¬i<base:=fun q=>by rw [show Nat.blt i base=true by rw [Nat.blt_eq];exact q] at hi;cases hi
    simp only [cond_false] at h
    split at h
    .rename_i v hv
     unfold aol at h
     split at h
     .rename_i rows fl
      simp only [xE,Option.some.injEq] at h;subst h
      refine .of_eq ?_
      simp only [Tm.den,PO hb hi' hv,SV.den,AV.D,D.R,m_,f_]
      rfl
     .split at h
      .rename_i t0 ht0
       simp only [Option.some.injEq] at h;subst h
       have:=Xr (ρ:=ρ) ht0
       simp only [Gy] at this
       refine .of_eq ?_
       simp only [Tm.den,PO hb hi' hv,this]
      .cases h
    .cases h
   .rw [hi] at h
    simp only [cond_true,Option.some.injEq] at h;subst h
    rw [Nat.blt_eq] at hi
    exact .of_eq (by simp only [Tm.den,Rw hb hi])
  .split at h
   .cases h
   rename_i x' hx
   simp only [Option.some.injEq] at h;subst h
   have h1:=ih hx
   simp only [Gy] at h1
   exact .of_eq (by simp only [Tm.den,h1])
 |byte x y rU ihy=>
  intro e t' h
  simp only [jW] at h
  split at h
  .cases h
  rename_i x' hx
  split at h
  .cases h
  rename_i y' hy
  simp only [Option.some.injEq] at h;subst h
  have h1:=rU hx
  have h2:=ihy hy
  simp only [Gy] at h1 h2
  exact .of_eq (by simp only [Tm.den,h1,h2])
 |_=>intro e t' h;simp [jW] at h
def G_ (a b:Tm):Tm:=.bin .leq (.int .i64) a b
def tLt (a b:Tm):Tm:=.bin .lss (.int .i64) a b
def tEq (a b:Tm):Tm:=.bin .eql (.int .i64) a b
def am5 (a b:Tm):Tm:=.bin .add (.int .i64) a b
def big : Int:=4294967296
def aku (n:Nat):Tm:=OW n fun n=>ZM (big-(n:Int)) .li
def am6 (n:Nat):Tm:=OW n fun n=>.li (.ofNat n)
def afr (x:Tm):Tm:=.bin .sub (.int .i64) (.li big) x
def Side.cnd : Side->List Tm
 | .tm t=>[t]
 | .row t i _=>[G_ (.li 0) i,tLt i (.rlen t)]
 | .rd _ t i _ _=>[G_ (.li 0) i,tLt i (.rlen t)]
 | .st t i _ _ _=>[G_ (.li 0) i,tLt i (.rlen t)]
 | .sub _ t lo hi _=>match lo,hi with
  |none,none=>[]
  |none,some h=>[G_ (.li 0) h,G_ h (.rlen t)]
  |some l,none=>[G_ (.li 0) l,G_ l (.rlen t)]
  |some l,some h=>[G_ (.li 0) l,G_ l h,G_ h (.rlen t)]
 | .mk len cap _ _=>[G_ (.li 0) len,G_ len cap,G_ cap (.li big)]
 | .app _ x y _=>[G_ (.rlen x) (aku y.length)]
 | .ZR _ x y _=>[G_ (.rlen y) (.li big),G_ (.rlen x) (afr (.rlen y))]
 | .len2 m y=>[G_ (.rlen y) (aku m)]
 | .cat x y=>[G_ (.slen y) (.li big),G_ (.slen x) (afr (.slen y))]
 | .cpy x len _ _=>[G_ len (.rlen x)]
 | .mark _ _ d len _=>[G_ len (.rlen d)]
 | .ags _ x y _=>[G_ (.rlen y) (aku x.length)]
 |_=>[]
def nO (ρ:List AV):List Tm->Prop
 |[]=>True
 |t::r=>(t.den ρ).B=true/\nO ρ r
theorem nO.of {ρ:List AV}:∀{l:List Tm},(∀t∈l,(t.den ρ).B=true)->nO ρ l
 |[],_=>trivial
 |t::r,h=>⟨h t (List.mem_cons_self ..),nO.of fun x hx=>h x (List.mem_cons_of_mem _ hx)⟩
theorem nO.mem {ρ:List AV}:∀{l:List Tm},nO ρ l->∀t∈l,(t.den ρ).B=true
 |[],_,t,ht=>by cases ht
 |x::r,h,t,ht=>by
  rcases List.mem_cons.1 ht with rfl|ht
  .exact h.1
  .exact nO.mem h.2 t ht
structure Sp where
 pre:List Tm
 bnd:List Tm
 post:List Tm
structure BR where
 c:List (Nat×Sp)
 w:List (Nat×Nat×Sp)
def sp0 : Sp:=⟨[],[],[]⟩
def BR.at (T:BR)(f:Nat):Sp:=go T.c
 where go:List (Nat×Sp)->Sp
  |[]=>sp0
  |x::r=>bif Nat.beq x.1 f then x.2 else go r
def BR.atW (T:BR)(f n0:Nat):Sp:=go T.w
 where go:List (Nat×Nat×Sp)->Sp
  |[]=>sp0
  |x::r=>bif Nat.beq x.1 f&&Nat.beq x.2.1 n0 then x.2.2 else go r
def vH.av : vH->AV
 | .rows _ rs=>.sl rs false
 | .kL _ _ rs=>.sl rs false
 |_=>.sl [] true
def avB (l:List (Nat×vH)):List AV:=l.map fun x=>x.2.av
def SB.sv : SB->SV
 | .rows _ rs=>.slc rs false
 | .kL _ _ rs=>.slc rs false
 | .fO _ t=>.sc .sl t
 |_=>.nil
def PS (bl:List (Nat×SB)):List SV:=bl.map fun x=>x.2.sv
theorem ER {ρ:List AV}:∀{bl:List (Nat×SB)},dQ ρ (PS bl)=avB (FV ρ bl)
 |[]=>rfl
 |x::r=>by
  have ih:=ER (ρ:=ρ) (bl:=r)
  simp only [PS,avB,FV,List.map_cons,dQ,List.cons.injEq] at ih ⊢
  refine ⟨?_,by simpa using ih⟩
  cases x.2<;>rfl
def CT (P:Program)(T:BR)(f:FuncId)(az:List AV)(r:AV):Prop:=
 nO az (T.at f).pre->PC P f az r/\(nO az (T.at f).bnd->nO (az++[r]) (T.at f).post)
def CTo (P:Program)(T:BR)(f:FuncId)(az:List AV)(r:AV)(p:List Nat)(sz:Nat):Prop:=
 nO az (T.at f).pre->PCo P f az r p sz/\(nO az (T.at f).bnd->nO (az++[r]) (T.at f).post)
def CTw (P:Program)(T:BR)(f:FuncId)(az:List AV)(bin:List (Nat×vH))(n0:Nat)(r:AV)(KE:List (Nat×vH)):Prop:=
 nO (az++avB bin) (T.atW f n0).pre->PWL P f az bin n0 r KE/\(nO (az++avB bin) (T.atW f n0).bnd->nO (az++avB bin++(r::avB KE)) (T.atW f n0).post)
def spS (T:BR):Side->Option (Sp×List SV×List SV)
 | .call f args r=>some (T.at f,args,args++[r])
 | .KO f args r _ _ _=>some (T.at f,args,args++[r])
 | .pJ f args bl n0 r H_=>some (T.atW f n0,args++PS bl,args++PS bl++(r::PS H_))
 |_=>none
def sbL (l:List SV):List Tm->Option (List Tm)
 |[]=>some []
 |t::r=>match jW 0 l .B t with
  |none=>none
  |some t'=>match sbL l r with|none=>none|some r'=>some (t'::r')
theorem MK {ρ:List AV}{l:List SV}:∀{ts us:List Tm},sbL l ts=some us->(nO ρ us↔nO (dQ ρ l) ts)
 |[],us,h=>by simp only [sbL,Option.some.injEq] at h;subst h;exact Iff.rfl
 |t::r,us,h=>by
  simp only [sbL] at h
  split at h
  .cases h
  rename_i t' ht
  split at h
  .cases h
  rename_i r' hr
  simp only [Option.some.injEq] at h;subst h
  have h1:=EP (ρ:=ρ) (Nat.zero_le _) ht
  simp only [Gy,List.take_zero,List.nil_append] at h1
  exact and_congr (by rw [h1]) (MK hr)
 mutual
def osV : SV->Option (Nat×Tm)
  | .os b _ _ t=>some (b,t)
  | .agg l=>osL l
  | .fn _ x y=>match osL x with|some z=>some z|none=>osL y
  |_=>none
def osL : List SV->Option (Nat×Tm)
  |[]=>none
  |x::r=>match osV x with|some z=>some z|none=>osL r
end
def blT (b:Nat):List (Nat×SB)->Option Tm
 |[]=>none
 |x::r=>bif Nat.beq x.1 b then (match x.2 with | .fO _ t=>some t|_=>none) else blT b r
def osT (args:List SV)(bl:List (Nat×SB)):Tm×Tm:=match osL args with
 |some (b,t)=>match blT b bl with|some t'=>(t,t')|none=>(.li 0,.nl)
 |none=>(.li 0,.nl)
def Side.osE : Side->List Tm
 | .pJ _ args bl _ _ _=>match osL args with
  |some _=>[tEq (osT args bl).1 (.rlen (osT args bl).2)]
  |none=>[]
 |_=>[]
theorem nO.app {ρ:List AV}:∀{a b:List Tm},nO ρ (a++b)->nO ρ a/\nO ρ b
 |[],b,h=>⟨trivial,h⟩
 |x::r,b,h=>⟨⟨h.1,(nO.app h.2).1⟩,(nO.app h.2).2⟩
def Side.wk (P:Program)(T:BR)(ρ:List AV):Side->Prop
 | .under pc s=>Pc.holds ρ pc->s.wk P T ρ
 | .call f args r=>CT P T f (dQ ρ args) (r.den ρ)
 | .KO f args r p sz fl=>CTo P T f (dQ ρ args) (r.den ρ) p sz/\(fl=true->∀row∈Dj p (r.den ρ),zN row=true)
 | .pJ f args bl n0 r H_=>nO ρ (Side.osE (.pJ f args bl n0 r H_))->CTw P T f (dQ ρ args) (FV ρ bl) n0 (r.den ρ) (FV ρ H_)
 |s=>nO ρ s.cnd->s.holds P ρ
def Xt (T:BR)(s:Side):Option (List Tm):=match spS T s with
 |some (sp,l,_)=>match sp.pre with
  |[]=>some s.osE
  |p=>match sbL l p with|some q=>some (q++s.osE)|none=>none
 |none=>some s.cnd
def DZ (F:Pc)(l:List Tm):Bool:=l.all (ayu 2 F)||ayU F
theorem ES {ρ:List AV}{F:Pc}{l:List Tm}(h:DZ F l=true)(hF:F.holds ρ):nO ρ l:=by
 unfold DZ at h
 rw [Bool.or_eq_true,List.all_eq_true] at h
 rcases h with h|h
 .exact nO.of fun t ht=>zY (h t ht) hF
 .exact (ahs h hF).elim
theorem sQ {ρ:List AV}{a b:Pc}(h:Pc.holds ρ a)(k:Pc.holds ρ b):Pc.holds ρ (a++b):=fun x hx=>by
 rcases List.mem_append.1 hx with hx|hx
 .exact h x hx
 .exact k x hx
theorem afs {ρ:List AV}{a b:Pc}(h:Pc.holds ρ (a++b)):Pc.holds ρ a:=fun x hx=>h x (List.mem_append.2 (.inl hx))
theorem aft {ρ:List AV}{a b:Pc}(h:Pc.holds ρ (a++b)):Pc.holds ρ b:=fun x hx=>h x (List.mem_append.2 (.inr hx))
def zl (ρ:List AV):List (Pc×Tm)->Prop
 |[]=>True
 |x::r=>(Pc.holds ρ x.1->(x.2.den ρ).B=true)/\zl ρ r
theorem zl.app {ρ:List AV}:∀{a b:List (Pc×Tm)},zl ρ a->zl ρ b->zl ρ (a++b)
 |[],_,_,h=>h
 |_::_,_,h,k=>⟨h.1,zl.app h.2 k⟩
def adL (pc:Pc)(t:Tm):Option Bool:=match pc.known t with
 |some b=>some b
 |none=>match t with
  | .bin .eql k x y=>match k with
   | .int k=>(match pc.known (.bin .neq (.int k) x y) with|some b=>some (!b)|none=>none)
   |_=>none
  | .bin .neq k x y=>match k with
   | .int k=>(match pc.known (.bin .eql (.int k) x y) with|some b=>some (!b)|none=>none)
   |_=>none
  |_=>none
theorem ahv {ρ:List AV}{pc:Pc}(hp:pc.holds ρ){t:Tm}{b:Bool}(h:adL pc t=some b):(t.den ρ).B=b:=by
 unfold adL at h
 split at h
 .rename_i v hv
  simp only [Option.some.injEq] at h;subst h
  exact Pc.gV hp hv
 .split at h
  .split at h
   .split at h
    .rename_i v hv
     simp only [Option.some.injEq] at h;subst h
     have:=Pc.gV hp hv
     rw [<- this]
     simp [Tm.den,qh,D.B,dW,je,bne]
    .cases h
   .cases h
  .split at h
   .split at h
    .rename_i v hv
     simp only [Option.some.injEq] at h;subst h
     have:=Pc.gV hp hv
     rw [<- this]
     simp [Tm.den,qh,D.B,dW,je,bne]
    .cases h
   .cases h
  .cases h
def Ob (pc:Pc)(l:Pc):Bool:=l.all fun e=>match adL pc e.1 with|some b=>b == e.2|none=>false
theorem aa7 {ρ:List AV}{pc l:Pc}(h:Ob pc l=true)(hp:pc.holds ρ):Pc.holds ρ l:=by
 unfold Ob at h
 rw [List.all_eq_true] at h
 intro e he
 have:=h e he
 split at this
 .rename_i b hb
  rw [ahv hp hb];simpa using this
 .cases this
def xsF (pc:Pc):List (Pc×Tm)->Pc
 |[]=>[]
 |x::r=>bif Ob pc x.1 then (x.2,true)::xsF pc r else xsF pc r
theorem adM {ρ:List AV}{pc:Pc}(hp:pc.holds ρ):∀{xs:List (Pc×Tm)},zl ρ xs->Pc.holds ρ (xsF pc xs)
 |[],_=>fun x hx=>by cases hx
 |x::r,h=>by
  simp only [xsF]
  cases hk:Ob pc x.1
  .exact adM hp h.2
  .exact Pc.jo (h.1 (aa7 hk hp)) (adM hp h.2)
def adN : Tm->Bool->Pc->Pc
 | .and x y,true,acc=>adN x true (adN y true acc)
 | .or x y,false,acc=>adN x false (adN y false acc)
 | .not x,b,acc=>adN x (!b) acc
 |t,b,acc=>(t,b)::acc
theorem am8 {ρ:List AV}:∀{t:Tm} {b:Bool} {acc:Pc},(t.den ρ).B=b->Pc.holds ρ acc->Pc.holds ρ (adN t b acc):=by
 intro t
 induction t with
 |and x y rU ihy=>
  intro b acc h k
  cases b with
  |false=>exact Pc.jo h k
  |true=>
   have h2:((x.den ρ).B&&(y.den ρ).B)=true:=h
   rw [Bool.and_eq_true] at h2
   exact rU h2.1 (ihy h2.2 k)
 |or x y rU ihy=>
  intro b acc h k
  cases b with
  |true=>exact Pc.jo h k
  |false=>
   have h2:((x.den ρ).B||(y.den ρ).B)=false:=h
   rw [Bool.or_eq_false_iff] at h2
   exact rU h2.1 (ihy h2.2 k)
 |not x ih=>
  intro b acc h k
  have h2:(!(x.den ρ).B)=b:=h
  exact ih (by rw [<- h2,Bool.not_not]) k
 |_=>intro b acc h k;exact Pc.jo h k
def azr : Pc->Pc
 |[]=>[]
 |x::r=>adN x.1 x.2 (azr r)
theorem afu {ρ:List AV}:∀{pc:Pc},Pc.holds ρ pc->Pc.holds ρ (azr pc)
 |[],h=>h
 |x::r,h=>am8 (h x (List.mem_cons_self ..)) (afu fun y hy=>h y (List.mem_cons_of_mem _ hy))
def ayk (F:Pc)(xs:List (Pc×Tm))(pc:Pc):Pc:=pc++(xsF (azr pc++F) xs++F)
theorem yc {ρ:List AV}{F:Pc}{xs:List (Pc×Tm)}{pc:Pc}(hF:Pc.holds ρ F)(hx:zl ρ xs)(hp:Pc.holds ρ pc):Pc.holds ρ (ayk F xs pc):=
 sQ hp (sQ (adM (sQ (afu hp) hF) hx) hF)
def akv (F:Pc)(T:BR)(xs:List (Pc×Tm)):Pc->Side->Bool
 |pc,.under pc' s=>akv F T xs (pc'++pc) s
 |pc,s=>match Xt T s with
  |none=>false
  |some []=>true
  |some l=>DZ (ayk F xs pc) l
def mkX (pc:Pc):Tm->Pc×Tm
 | .or c d=>((c,false)::pc,d)
 |t=>(pc,t)
theorem ap6 {ρ:List AV}{pc:Pc}{t:Tm}(h:Pc.holds ρ pc->(t.den ρ).B=true):Pc.holds ρ (mkX pc t).1->((mkX pc t).2.den ρ).B=true:=by
 cases t<;>try exact h
 rename_i c d
 intro hp
 have h1:((c.den ρ).B||(d.den ρ).B)=true:=h fun x hx=>hp x (List.mem_cons_of_mem _ hx)
 have h2:(c.den ρ).B=false:=hp (c,false) (List.mem_cons_self ..)
 rw [Bool.or_eq_true] at h1
 rcases h1 with h1|h1
 .rw [h1] at h2;cases h2
 .exact h1
def ap7 : Side->List (Pc×Tm)
 | .st t _ _ _ n=>[([],tEq (.rlen n) (.rlen t))]
 | .mk len _ _ n=>[([],tEq (.rlen n) len)]
 | .app _ x y n=>[([],tEq (.rlen n) (am5 (.rlen x) (am6 y.length)))]
 | .ZR _ x y n=>[([],tEq (.rlen n) (am5 (.rlen x) (.rlen y)))]
 | .ags _ x y n=>[([],tEq (.rlen n) (am5 (.rlen y) (am6 x.length)))]
 | .cpy x _ _ n=>[([],tEq (.rlen n) (.rlen x))]
 | .mark _ _ d _ n=>[([],tEq (.rlen n) (.rlen d))]
 | .sub _ t lo hi n=>match lo,hi with
  |none,none=>[([],tEq (.rlen n) (.rlen t))]
  |none,some h=>[([],tEq (.rlen n) h)]
  |some l,none=>[([],G_ (.rlen n) (.rlen t)),([(G_ (.rlen t) (.li big),true)],tEq (.rlen n) (.bin .sub (.int .i64) (.rlen t) l))]
  |some l,some h=>[([],G_ (.rlen n) (.rlen t)),([(G_ (.rlen t) (.li big),true)],tEq (.rlen n) (.bin .sub (.int .i64) h l))]
 |_=>[]
def YW (pc:Pc):List (Pc×Tm)->List (Pc×Tm)
 |[]=>[]
 |x::r=>(x.1++pc,x.2)::YW pc r
theorem Xu {ρ:List AV}{pc:Pc}:∀{l xs:List (Pc×Tm)},(Pc.holds ρ pc->zl ρ l)->zl ρ xs->zl ρ (YW pc l++xs)
 |[],xs,_,h=>h
 |x::r,xs,h,k=>⟨fun hp=>(h (aft hp)).1 (afs hp),Xu (fun hp=>(h hp).2) k⟩
def am9 (pc:Pc):List Tm->List (Pc×Tm)
 |[]=>[]
 |t::r=>mkX pc t::am9 pc r
theorem afv {ρ:List AV}{pc:Pc}:∀{l:List Tm} {xs:List (Pc×Tm)},(Pc.holds ρ pc->nO ρ l)->zl ρ xs->zl ρ (am9 pc l++xs)
 |[],xs,_,h=>h
 |t::r,xs,h,k=>⟨ap6 fun hp=>(h hp).1,afv (fun hp=>(h hp).2) k⟩
def KY (F:Pc)(T:BR)(xs:List (Pc×Tm)):Pc->Side->List (Pc×Tm)
 |pc,.under pc' s=>KY F T xs (pc'++pc) s
 |pc,s=>match spS T s with
  |none=>YW pc (ap7 s)++xs
  |some (sp,l,l2)=>match sp.post with
   |[]=>xs
   |post=>match sbL l sp.bnd with
    |none=>xs
    |some b=>bif DZ (ayk F xs pc) b then (match sbL l2 post with|some q=>am9 pc q++xs|none=>xs) else xs
def vG (P:Program)(T:BR)(ρ:List AV):List (Pc×Side)->Prop
 |[]=>True
 |x::r=>(Pc.holds ρ x.1->x.2.wk P T ρ)/\vG P T ρ r
def aa8 (F:Pc)(T:BR)(xs:List (Pc×Tm)):List (Pc×Side)->Bool
 |[]=>true
 |x::r=>akv F T xs x.1 x.2&&aa8 F T (KY F T xs x.1 x.2) r
def sdX (F:Pc)(T:BR)(xs:List (Pc×Tm)):List (Pc×Side)->List (Pc×Tm)
 |[]=>xs
 |x::r=>sdX F T (KY F T xs x.1 x.2) r
theorem am_ {P:Program}{ρ:List AV}{s:Side}(h:s.holds P ρ):zl ρ (ap7 s):=by
 have eq:∀{a b:Tm},(a.den ρ).I=(b.den ρ).I->((tEq a b).den ρ).B=true:=fun h=>by
  show dW _ _=true
  exact mD.2 h
 have rl:∀{t:Tm},((Tm.rlen t).den ρ).I=((t.den ρ).R.length:Int):=rfl
 have nat:∀{n:Nat},((am6 n).den ρ).I=(n:Int):=by intro n;unfold am6;rw [xE];rfl
 have add:∀{a b:Tm},((am5 a b).den ρ).I=dZ .i64 (a.den ρ).I (b.den ρ).I:=rfl
 cases s<;>try exact trivial
 case st t i off cells n=>
  obtain ⟨row,-,-,h3⟩:=h
  exact ⟨fun _=>eq (by rw [rl,rl,h3];simp),trivial⟩
 case mk len cap z n=>
  obtain ⟨h1,-,-,h4⟩:=h
  exact ⟨fun _=>eq (by rw [rl,h4];simp;omega),trivial⟩
 case app sz x y n=>
  obtain ⟨-,h2,h3⟩:=h
  refine ⟨fun _=>eq ?_,trivial⟩
  rw [rl,h3,add,rl,nat,oM (by omega) (by omega)]
  simp [f_]
 case ZR sz x y n=>
  obtain ⟨-,-,h2,h3⟩:=h
  refine ⟨fun _=>eq ?_,trivial⟩
  rw [rl,h3,add,rl,rl,oM (by omega) (by omega)]
  simp
 case ags sz x y n=>
  obtain ⟨h2,h3⟩:=h
  refine ⟨fun _=>eq ?_,trivial⟩
  rw [rl,h3,add,rl,nat,oM (by omega) (by omega)]
  simp [f_];omega
 case cpy x len y n=>
  obtain ⟨h1,h2⟩:=h
  refine ⟨fun _=>eq ?_,trivial⟩
  rw [rl,rl,h2]
  simp only [List.length_append,List.length_take,List.length_drop];omega
 case mark m t d len n=>
  obtain ⟨-,-,h3,-⟩:=h
  exact ⟨fun _=>eq (by rw [rl,rl,h3]),trivial⟩
 case sub sz t lo hi n=>
  obtain ⟨-,h1,h2,h3,h4⟩:=h
  have hl:=congrArg List.length h4
  rw [List.length_take,List.length_drop] at hl
  have ar_:Pc.holds ρ [(G_ (.rlen t) (.li big),true)]->((t.den ρ).R.length:Int)<=4294967296:=fun hp=>by
   have:=hp (_,true) (List.mem_cons_self ..)
   have q:m_ (t.den ρ).R<=big:=of_decide_eq_true this
   unfold m_ big at q;exact q
  have le:((G_ (.rlen n) (.rlen t)).den ρ).B=true:=by
   show decide (m_ (n.den ρ).R<=m_ (t.den ρ).R)=true
   exact decide_eq_true (by unfold m_;omega)
  cases lo with
  |none=>
   cases hi with
   |none=>
    have e1:Wy ρ 0 none=0:=rfl
    have e2:Wy ρ (t.den ρ).R.length none=(t.den ρ).R.length:=rfl
    rw [e1,e2] at hl
    exact ⟨fun _=>eq (by rw [rl,rl];omega),trivial⟩
   |some b=>
    have e1:Wy ρ 0 none=0:=rfl
    have e2:Wy ρ (t.den ρ).R.length (some b)=(b.den ρ).I:=rfl
    rw [e1,e2] at hl;rw [e2] at h3;rw [e1,e2] at h2
    exact ⟨fun _=>eq (by rw [rl];omega),trivial⟩
  |some a=>
   have e1:Wy ρ 0 (some a)=(a.den ρ).I:=rfl
   rw [e1] at h1
   cases hi with
   |none=>
    have e2:Wy ρ (t.den ρ).R.length none=(t.den ρ).R.length:=rfl
    rw [e1,e2] at h2;rw [e1,e2] at hl
    refine ⟨fun _=>le,fun hp=>eq ?_,trivial⟩
    have hb:=ar_ hp
    show _=iU .i64 (m_ (t.den ρ).R) (a.den ρ).I
    unfold m_
    rw [rl,wM (by omega) (by omega)]
    omega
   |some b=>
    have e2:Wy ρ (t.den ρ).R.length (some b)=(b.den ρ).I:=rfl
    rw [e1,e2] at h2;rw [e1,e2] at hl;rw [e2] at h3
    refine ⟨fun _=>le,fun hp=>eq ?_,trivial⟩
    have hb:=ar_ hp
    show _=iU .i64 (b.den ρ).I (a.den ρ).I
    rw [rl,wM (by omega) (by omega)]
    omega
theorem Kv {ρ:List AV}{a:List SV}{b:SV}:dQ ρ (a++[b])=dQ ρ a++[b.den ρ]:=by rw [l7];rfl
theorem ana {P:Program}{ρ:List AV}{F:Pc}{T:BR}{xs:List (Pc×Tm)}(hF:Pc.holds ρ F)(hx:zl ρ xs):∀{s:Side} {pc:Pc},akv F T xs pc s=true->(Pc.holds ρ pc->s.wk P T ρ)->(Pc.holds ρ pc->s.holds P ρ)/\zl ρ (KY F T xs pc s):=by
 intro s
 have plain:∀{s:Side} {pc:Pc},(∀pc' s',s≠.under pc' s')->spS T s=none->(s.wk P T ρ↔(nO ρ s.cnd->s.holds P ρ))->akv F T xs pc s=true->(Pc.holds ρ pc->s.wk P T ρ)->(Pc.holds ρ pc->s.holds P ρ)/\zl ρ (KY F T xs pc s):=by
  intro s pc hu hs hwk h hw
  have hh:Pc.holds ρ pc->s.holds P ρ:=fun hp=>by
   refine hwk.1 (hw hp) ?_
   have h':(match Xt T s with|none=>false|some []=>true|some l=>DZ (ayk F xs pc) l)=true:=by
    cases s<;>first|exact h|exact absurd rfl (hu _ _)
   unfold Xt at h'
   rw [hs] at h'
   dsimp only at h'
   split at h'
   .cases h'
   .rename_i e;simp only [Option.some.injEq] at e;rw [e];trivial
   .rename_i l _ e;simp only [Option.some.injEq] at e;rw [e];exact ES h' (yc hF hx hp)
  have e:KY F T xs pc s=YW pc (ap7 s)++xs:=by
   cases s<;>first|exact absurd rfl (hu _ _)|(simp only [KY,hs])
  rw [e]
  exact ⟨hh,Xu (fun hp=>am_ (hh hp)) hx⟩
 have calls:∀{s:Side} {pc:Pc} {sp:Sp} {l l2:List SV} {A:Prop},spS T s=some (sp,l,l2)->(∀pc' s',s≠.under pc' s')->(s.wk P T ρ->nO ρ s.osE->nO (dQ ρ l) sp.pre->s.holds P ρ/\(nO (dQ ρ l) sp.bnd->nO (dQ ρ l2) sp.post))->akv F T xs pc s=true->(Pc.holds ρ pc->s.wk P T ρ)->(Pc.holds ρ pc->s.holds P ρ)/\zl ρ (KY F T xs pc s):=by
  intro s pc sp l l2 A hs hu hwk h hw
  have hpre:Pc.holds ρ pc->nO ρ s.osE/\nO (dQ ρ l) sp.pre:=fun hp=>by
   have h':(match Xt T s with|none=>false|some []=>true|some l=>DZ (ayk F xs pc) l)=true:=by
    cases s<;>first|exact h|exact absurd rfl (hu _ _)
   have h2:∃l',Xt T s=some l'/\nO ρ l':=by
    split at h'
    .cases h'
    .rename_i e;exact ⟨_,e,trivial⟩
    .rename_i l' _ e;exact ⟨_,e,ES h' (yc hF hx hp)⟩
   obtain ⟨l',e,hl'⟩:=h2
   unfold Xt at e
   rw [hs] at e
   dsimp only at e
   split at e
   .rename_i ep
    simp only [Option.some.injEq] at e;subst e
    rw [ep];exact ⟨hl',trivial⟩
   .split at e
    .rename_i q hq
     simp only [Option.some.injEq] at e;subst e
     exact ⟨(nO.app hl').2,(MK hq).1 (nO.app hl').1⟩
    .cases e
  refine ⟨fun hp=>(hwk (hw hp) (hpre hp).1 (hpre hp).2).1,?_⟩
  have e:KY F T xs pc s=(match sp.post with
   |[]=>xs
   |post=>match sbL l sp.bnd with
    |none=>xs
    |some b=>bif DZ (ayk F xs pc) b then (match sbL l2 post with|some q=>am9 pc q++xs|none=>xs) else xs):=by
   cases s<;>first|exact absurd rfl (hu _ _)|(simp only [KY,hs])
  rw [e]
  split
  .exact hx
  .split
   .exact hx
   .rename_i b hb
    cases hpv:DZ (ayk F xs pc) b
    .exact hx
    .simp only [cond_true]
     split
     .rename_i q hq
      refine afv (fun hp=>?_) hx
      have h1:=(MK hb).1 (ES hpv (yc hF hx hp))
      exact (MK hq).2 ((hwk (hw hp) (hpre hp).1 (hpre hp).2).2 h1)
     .exact hx
 induction s with
 |under pc' s ih=>
  intro pc h hw
  obtain ⟨h1,h2⟩:=ih (pc:=pc'++pc) h (fun hp=>hw (aft hp) (afs hp))
  exact ⟨fun hp hp'=>h1 (sQ hp' hp),h2⟩
 |call f args r=>
  intro pc h hw
  refine calls (A:=True) rfl (by intro _ _ e;cases e) (fun hk _ hp=>?_) h hw
  have:=hk hp
  exact ⟨this.1,fun hb=>by rw [Kv];exact this.2 hb⟩
 |KO f args r p sz fl=>
  intro pc h hw
  refine calls (A:=True) rfl (by intro _ _ e;cases e) (fun hk _ hp=>?_) h hw
  have:=hk.1 hp
  exact ⟨⟨this.1,hk.2⟩,fun hb=>by rw [Kv];exact this.2 hb⟩
 |pJ f args bl n0 r H_=>
  intro pc h hw
  refine calls (A:=True) rfl (by intro _ _ e;cases e) (fun hk ho hp=>?_) h hw
  rw [l7,ER] at hp
  have:=hk ho hp
  refine ⟨this.1,fun hb=>?_⟩
  rw [l7,ER] at hb
  have q:=this.2 hb
  rw [l7,l7,ER]
  show nO (_++(r.den ρ::dQ ρ (PS H_))) _
  rw [ER];exact q
 |_=>intro pc h hw;exact plain (by intro _ _ e;cases e) rfl Iff.rfl h hw
theorem UR {P:Program}{ρ:List AV}{F:Pc}{T:BR}(hF:Pc.holds ρ F):∀{sd:List (Pc×Side)} {xs:List (Pc×Tm)},zl ρ xs->aa8 F T xs sd=true->vG P T ρ sd->wu P ρ sd/\zl ρ (sdX F T xs sd)
 |[],xs,hx,_,_=>⟨trivial,hx⟩
 |x::r,xs,hx,h,hw=>by
  simp only [aa8,Bool.and_eq_true] at h
  obtain ⟨h1,h2⟩:=ana hF hx h.1 hw.1
  obtain ⟨h3,h4⟩:=UR hF h2 h.2 hw.2
  exact ⟨⟨h1,h3⟩,h4⟩
inductive LH where
 |mk (inv:List Tm) (mt:Tm) (ft:List (Tm×Int)) (xs:List (Pc×Tm)) (at':Nat) (sub:List LH) (post:List (List Tm))
def LH.inv : LH->List Tm | .mk a _ _ _ _ _ _=>a
def LH.mt : LH->Tm | .mk _ a _ _ _ _ _=>a
def Tm.Oc : Tm->Bool | .nl=>true|_=>false
def LH.ft : LH->List (Tm×Int) | .mk _ _ a _ _ _ _=>a
def LH.xs : LH->List (Pc×Tm) | .mk _ _ _ a _ _ _=>a
def LH.at' : LH->Nat | .mk _ _ _ _ a _ _=>a
def LH.sub : LH->List LH | .mk _ _ _ _ _ a _=>a
def LH.post : LH->List (List Tm) | .mk _ _ _ _ _ _ a=>a
def Ag : LH:=.mk [] (.li 0) [] [] 0 [] []
def hdH : List LH->LH | []=>Ag|x::_=>x
def tlH : List LH->List LH | []=>[]|_::r=>r
def ftV (ρ:List AV):List (Tm×Int)->Int
 |[]=>0
 |x::r=>x.2*(x.1.den ρ).I+ftV ρ r
def ftL (ks:Pc):List (Tm×Int)->List Tm->List LF->LR
 |[],az,fs=>⟨az,fs,[]⟩
 |x::r,az,fs=>match lin ks x.1 az fs with
  |⟨as1,fs1,f1⟩=>match ftL ks r as1 fs1 with
   |⟨as2,YU,f2⟩=>⟨as2,YU,KH (Ru x.2 f1) f2⟩
theorem akw {ρ:List AV}{ks:Pc}(hk:ks.holds ρ):∀{l:List (Tm×Int)} {az:List Tm} {fs:List LF},Af ρ az fs->PK ρ az (ftL ks l az fs) (ftV ρ l)
 |[],az,fs,h=>⟨List.prefix_refl _,h,fun bs hb=>rfl⟩
 |x::r,az,fs,h=>by
  obtain ⟨a1,a2,a3⟩:=PL hk (t:=x.1) h
  obtain ⟨b1,b2,b3⟩:=akw hk (l:=r) (az:=(lin ks x.1 az fs).az) (fs:=(lin ks x.1 az fs).fs) a2
  exact ⟨a1.trans b1,b2,(a3.mono b1).Ru.add b3⟩
def akx (F:Pc)(s:AS)(mt:Tm)(ft:List (Tm×Int)):Bool:=
 match s with
 |⟨az,fs⟩=>match lin F mt az fs with
  |⟨as1,fs1,f1⟩=>match ftL F ft as1 fs1 with
   |⟨_,YU,f2⟩=>Jr YU (Go.Fw.qp f2 f1)
theorem aky {ρ:List AV}{F:Pc}{mt:Tm}{ft:List (Tm×Int)}{s:AS}(h0:VE ρ s)(h:akx F s mt ft=true)(hF:F.holds ρ):(mt.den ρ).I<=ftV ρ ft:=by
 unfold akx at h
 obtain ⟨a1,a2,a3⟩:=PL hF (t:=mt) h0
 obtain ⟨b1,b2,b3⟩:=akw hF (l:=ft) a2
 have q:=EO b2 h _ (List.prefix_refl _)
 rw [lN,(a3.mono b1) _ (List.prefix_refl _),b3 _ (List.prefix_refl _)] at q
 omega
def akz (F:Pc)(mt:Tm)(ft:List (Tm×Int)):Bool:=akx F (asF F) mt ft
def akA : Nat->Pc->Tm->List (Tm×Int)->Bool
 |0,F,mt,ft=>akz F mt ft
 |n+1,F,mt,ft=>akz F mt ft||(match Ku F ((mt,true)::F) with
  |none=>false
  |some c=>akA n ((c,true)::F) mt ft&&akA n ((c,false)::F) mt ft)
theorem aa9 {ρ:List AV}{F:Pc}{mt:Tm}{ft:List (Tm×Int)}(h:akz F mt ft=true)(hF:F.holds ρ):(mt.den ρ).I<=ftV ρ ft:=aky (YV hF) h hF
theorem YX {ρ:List AV}{mt:Tm}{ft:List (Tm×Int)}:∀{n:Nat} {F:Pc},akA n F mt ft=true->F.holds ρ->(mt.den ρ).I<=ftV ρ ft
 |0,F,h,hF=>aa9 h hF
 |n+1,F,h,hF=>by
  simp only [akA,Bool.or_eq_true] at h
  rcases h with h|h
  .exact aa9 h hF
  .split at h
   .cases h
   .rename_i c _
    rw [Bool.and_eq_true] at h
    cases hc:(c.den ρ).B
    .exact YX h.2 (Pc.jo hc hF)
    .exact YX h.1 (Pc.jo hc hF)
def Tm.ren (f:Nat->Nat):Tm->Tm
 | .var i p=>OW (f i) fun j=>.var j p
 | .bin o k x y=>.bin o k (x.ren f) (y.ren f)
 | .and x y=>.and (x.ren f) (y.ren f)
 | .or x y=>.or (x.ren f) (y.ren f)
 | .byte x y=>.byte (x.ren f) (y.ren f)
 | .not x=>.not (x.ren f)
 | .neg k x=>.neg k (x.ren f)
 | .com k x=>.com k (x.ren f)
 | .conv k x=>.conv k (x.ren f)
 | .toF x=>.toF (x.ren f)
 | .ZL x=>.ZL (x.ren f)
 | .slen x=>.slen (x.ren f)
 | .rlen x=>.rlen (x.ren f)
 | .bts x=>.bts (x.ren f)
 | .sbs x=>.sbs (x.ren f)
 | .ite c x y=>.ite (c.ren f) (x.ren f) (y.ren f)
 | .ah5 c x y=>.ah5 (c.ren f) (x.ren f) (y.ren f)
 |t=>t
theorem Tm.anb {f:Nat->Nat}{n:Nat}{ρ σ:List AV}(h:∀i,i<n->ρ.getD (f i) eX=σ.getD i eX):∀{t:Tm},t.lt n=true->(t.ren f).den ρ=t.den σ:=by
 intro t
 induction t with
 |lb|li|lf|ls|nl=>intro _;rfl
 |var i p=>intro hl;simp only [Tm.ren,xE,Tm.den];rw [h i (Nat.le_of_ble_eq_true hl)]
 |bin o k x y rU ihy=>intro hl;simp only [Tm.lt,Bool.and_eq_true] at hl;simp only [Tm.ren,Tm.den,rU hl.1,ihy hl.2]
 |and x y rU ihy=>intro hl;simp only [Tm.lt,Bool.and_eq_true] at hl;simp only [Tm.ren,Tm.den,rU hl.1,ihy hl.2]
 |or x y rU ihy=>intro hl;simp only [Tm.lt,Bool.and_eq_true] at hl;simp only [Tm.ren,Tm.den,rU hl.1,ihy hl.2]
 |byte x y rU ihy=>intro hl;simp only [Tm.lt,Bool.and_eq_true] at hl;simp only [Tm.ren,Tm.den,rU hl.1,ihy hl.2]
 |ite c x y ihc rU ihy=>intro hl;simp only [Tm.lt,Bool.and_eq_true] at hl;simp only [Tm.ren,Tm.den,ihc hl.1,rU hl.2.1,ihy hl.2.2]
 |ah5 c x y ihc rU ihy=>intro hl;simp only [Tm.lt,Bool.and_eq_true] at hl;simp only [Tm.ren,Tm.den,ihc hl.1,rU hl.2.1,ihy hl.2.2]
 |not x ih=>intro hl;simp only [Tm.ren,Tm.den,ih hl]
 |neg k x ih=>intro hl;simp only [Tm.ren,Tm.den,ih hl]
 |com k x ih=>intro hl;simp only [Tm.ren,Tm.den,ih hl]
 |conv k x ih=>intro hl;simp only [Tm.ren,Tm.den,ih hl]
 |toF x ih=>intro hl;simp only [Tm.ren,Tm.den,ih hl]
 |ZL x ih=>intro hl;simp only [Tm.ren,Tm.den,ih hl]
 |slen x ih=>intro hl;simp only [Tm.ren,Tm.den,ih hl]
 |rlen x ih=>intro hl;simp only [Tm.ren,Tm.den,ih hl]
 |bts x ih=>intro hl;simp only [Tm.ren,Tm.den,ih hl]
 |sbs x ih=>intro hl;simp only [Tm.ren,Tm.den,ih hl]
def shf (base pos i:Nat):Nat:=bif Nat.blt i base then i else i-base+pos
def QE (base:Nat)(pos n:Nat)(pc:Pc):List Tm->List (Pc×Tm)
 |[]=>[]
 |t::r=>bif t.lt (base+n) then (pc,t.ren (shf base pos))::QE base pos n pc r else QE base pos n pc r
def YZ : List (List Tm)->Nat->List Tm
 |[],_=>[]
 |x::_,0=>x
 |_::r,k+1=>YZ r k
def anc (base:Nat)(ms:List Nat)(k:Nat):Pc:=match ms with
 |[_,_]=>match k with
  |0=>[(.bin .eql (.int .i64) (.var base []) (.li 0),true)]
  |_=>[(.bin .eql (.int .i64) (.var base []) (.li 0),false)]
 |_=>[]
def bnF : List Tm->Pc
 |[]=>[]
 |t::r=>(G_ (.rlen t) (.li big),true)::bnF r
theorem akB {ρ:List AV}:∀{bn:List Tm},(∀t∈bn,(t.den ρ).R.length<=4294967296)->Pc.holds ρ (bnF bn)
 |[],_=>fun x hx=>by cases hx
 |t::r,h=>Pc.jo (by
  have:=h t (List.mem_cons_self ..)
  show decide (m_ (t.den ρ).R<=big)=true
  exact decide_eq_true (by unfold m_ big;omega)) (akB fun x hx=>h x (List.mem_cons_of_mem _ hx))
def aa_ (outs:List (Tm×Nat×List SV))(ms:List Nat):Bool:=outs.all fun o=>match o.2.1 with
 |0=>true
 |k+1=>Nat.ble (k+1) ms.length&&Nat.ble (ms.getD k 0) o.2.2.length
def bnC (F:Pc)(xs:List (Pc×Tm))(pc:Pc)(bn:List Tm):Pc:=
 bif (let F':=ayk F xs pc;bn.all fun t=>ayu 1 F' (G_ (.rlen t) (.li big))) then pc else bnF bn++pc
def afx (F:Pc)(xs:List (Pc×Tm)):Lo->LH->List (Pc×Tm)
 | .mk pc base _ _ outs _ _ ms bn,h=>match h.post with
  |[]=>xs
  |p=>bif aa_ outs ms then match ms with
    |[n]=>let c:=bnC F xs pc bn;QE base (ayo base ms 0) n (anc base ms 0++c) (YZ p 0)++xs
    |[n,n']=>let c:=bnC F xs pc bn;QE base (ayo base ms 0) n (anc base ms 0++c) (YZ p 0)++(QE base (ayo base ms 1) n' (anc base ms 1++c) (YZ p 1)++xs)
    |_=>xs
   else xs
def akC (e:Bool)(S:List AV->Prop)(outs:List (Tm×Nat×List SV))(ρ0:List AV)(m:Nat):Nat->List AV->Nat->List AV->Prop
 |0,_,_,_=>e=false
 |n+1,vs,k,us=>∃cs,vs.length=m/\iT (ρ0++vs++cs)=true/\S (ρ0++vs++cs)/\
  match CJ (ρ0++vs++cs) outs with
  |none=>False
  |some (0,l)=>akC e S outs ρ0 m n (dQ (ρ0++vs++cs) l) k us
  |some (j+1,l)=>k=j/\us=dQ (ρ0++vs++cs) l
 mutual
def Lo.wk (P:Program)(T:BR):Lo->LH->List AV->Prop
  | .mk pc base m entry outs sd aw ms bn,h=>fun ρ=>Pc.holds ρ pc->(∀t∈bn,(t.den ρ).R.length<=4294967296)->base<=ρ.length/\∃(n k:Nat) (us:List AV),(0<n/\ftV ρ h.ft<(n:Int))/\
   akC h.mt.Oc (fun σ=>zl σ h.xs/\vG P T σ sd/\Xv P T aw h.sub σ) outs (ρ.take base) m n (dQ ρ entry) k us/\ajy ρ base ms k us
def Xv (P:Program)(T:BR):List Lo->List LH->List AV->Prop
  |[],_=>fun _=>True
  |x::r,hs=>fun σ=>x.wk P T (hdH hs) σ/\Xv P T r (tlH hs) σ
end
def akD (base:Nat)(l:List SV)(F:Pc)(t:Tm):Bool:=match jW base l .B t with
 |some t'=>ayu 2 F t'
 |none=>false
theorem akE {ρ:List AV}{base:Nat}{l:List SV}(hb:base<=ρ.length){F:Pc}{t:Tm}(h:akD base l F t=true)(hF:Pc.holds ρ F):(t.den (ρ.take base++dQ ρ l)).B=true:=by
 unfold akD at h
 split at h
 .rename_i t' ht
  have h1:=zY h hF
  have h2:=EP hb ht
  simp only [Gy] at h2
  rw [<- h2];exact h1
 .cases h
def adO (F:Pc)(xs:List (Pc×Tm))(q:List Tm)(Q:Pc):Nat->Pc->Bool
 |0,G=>DZ (ayk F xs G) q
 |n+1,G=>match Ku (ayk F xs G) Q with
  |none=>DZ (ayk F xs G) q
  |some c=>adO F xs q Q n (jG c true G)&&adO F xs q Q n (jG c false G)
theorem Oe {ρ:List AV}{F:Pc}{xs:List (Pc×Tm)}{q:List Tm}{Q:Pc}(hF:Pc.holds ρ F)(hx:zl ρ xs):∀{n:Nat} {G:Pc},adO F xs q Q n G=true->Pc.holds ρ G->nO ρ q
 |0,G,h,hG=>ES h (yc hF hx hG)
 |n+1,G,h,hG=>by
  simp only [adO] at h
  split at h
  .exact ES h (yc hF hx hG)
  .rename_i c _
   rw [Bool.and_eq_true] at h
   cases hc:(c.den ρ).B
   .exact Oe hF hx h.2 (gq hc hG)
   .exact Oe hF hx h.1 (gq hc hG)
def ap8 (F:Pc)(xs:List (Pc×Tm))(t:Tm)(G:Pc):Bool:=match Ku (ayk F xs G) [(t,true)] with
 |none=>false
 |some c=>adO F xs [t] [(t,true)] 3 (ahr (jG c true G))&&adO F xs [t] [(t,true)] 3 (ahr (jG c false G))
theorem ane {ρ:List AV}{F:Pc}{xs:List (Pc×Tm)}{t:Tm}{G:Pc}(hF:Pc.holds ρ F)(hx:zl ρ xs)(h:ap8 F xs t G=true)(hG:Pc.holds ρ G):(t.den ρ).B=true:=by
 unfold ap8 at h
 split at h
 .cases h
 .rename_i c _
  rw [Bool.and_eq_true] at h
  cases hc:(c.den ρ).B
  .exact (Oe hF hx h.2 (Oa (gq hc hG))).1
  .exact (Oe hF hx h.1 (Oa (gq hc hG))).1
def anf (base:Nat)(l:List SV)(F:Pc)(xs:List (Pc×Tm))(G:Pc)(t:Tm):Bool:=match jW base l .B t with
 |some t'=>ayu 2 (ayk F xs G) t'||ap8 F xs t' G
 |none=>false
theorem afy {ρ:List AV}{base:Nat}{l:List SV}(hb:base<=ρ.length){F:Pc}{xs:List (Pc×Tm)}{G:Pc}{t:Tm}(hF:Pc.holds ρ F)(hx:zl ρ xs)(h:anf base l F xs G t=true)(hG:Pc.holds ρ G):(t.den (ρ.take base++dQ ρ l)).B=true:=by
 unfold anf at h
 split at h
 .rename_i t' ht
  have h2:=EP hb ht
  simp only [Gy] at h2
  rw [<- h2]
  rw [Bool.or_eq_true] at h
  rcases h with h|h
  .exact zY h (yc hF hx hG)
  .exact ane hF hx h hG
 .cases h
def abb (base:Nat)(inv:List Tm)(mt:Tm)(post:List (List Tm))(F:Pc)(xs:List (Pc×Tm))(G:Pc)(k:Nat)(l:List SV):Bool:=
 match k with
 |0=>
  let F':=ayk F xs G
  inv.all (anf base l F xs G)&&(mt.Oc||(ayu 2 F' (G_ (.li 1) mt)&&(match jW base l .I mt with|some mt'=>ayu 2 F' (tLt mt' mt)|none=>false)))
 |k+1=>match YZ post k with
  |[]=>true
  |p=>p.all (anf base l F xs G)
def ahw (base:Nat)(inv:List Tm)(mt:Tm)(post:List (List Tm))(F:Pc)(xs:List (Pc×Tm)):Pc->List (Tm×Nat×List SV)->Bool
 |_,[]=>true
 |G,[o]=>abb base inv mt post F xs G o.2.1 o.2.2
 |G,o::o'::r=>abb base inv mt post F xs (jG o.1 true G) o.2.1 o.2.2&&ahw base inv mt post F xs (jG o.1 false G) (o'::r)
def afz (base:Nat)(inv:List Tm)(mt:Tm)(post:List (List Tm))(ρ:List AV)(k:Nat)(l:List SV):Prop:=match k with
 |0=>(∀t∈inv,(t.den (ρ.take base++dQ ρ l)).B=true)/\(mt.Oc=true\/(1<=(mt.den ρ).I/\(mt.den (ρ.take base++dQ ρ l)).I<(mt.den ρ).I))
 |k+1=>∀t∈YZ post k,(t.den (ρ.take base++dQ ρ l)).B=true
theorem abd {ρ:List AV}{base:Nat}{inv:List Tm}{mt:Tm}{post:List (List Tm)}{F:Pc}{xs:List (Pc×Tm)}{G:Pc}{k:Nat}{l:List SV}(hb:base<=ρ.length)(h:abb base inv mt post F xs G k l=true)(hF:Pc.holds ρ F)(hx:zl ρ xs)(hG:Pc.holds ρ G):afz base inv mt post ρ k l:=by
 have hF':=yc hF hx hG
 cases k with
 |zero=>
  simp only [abb,Bool.and_eq_true,Bool.or_eq_true] at h
  obtain ⟨h1,h23⟩:=h
  rw [List.all_eq_true] at h1
  refine ⟨fun t ht=>afy hb hF hx (h1 t ht) hG,?_⟩
  rcases h23 with h23|⟨h2,h3⟩
  .exact .inl h23
  refine .inr ⟨?_,?_⟩
  .exact of_decide_eq_true (p:=(1:Int)<=(mt.den ρ).I) (zY h2 hF')
  .split at h3
   .rename_i mt' hm
    have q:=EP hb hm
    simp only [Gy] at q
    rw [<- q]
    exact of_decide_eq_true (p:=(mt'.den ρ).I<(mt.den ρ).I) (zY h3 hF')
   .cases h3
 |succ k=>
  simp only [abb] at h
  intro t ht
  split at h
  .rename_i e;rw [e] at ht;cases ht
  .rw [List.all_eq_true] at h
   exact afy hb hF hx (h t ht) hG
theorem Y0 {ρ:List AV}{base:Nat}{inv:List Tm}{mt:Tm}{post:List (List Tm)}{F:Pc}{xs:List (Pc×Tm)}(hb:base<=ρ.length)(hF:Pc.holds ρ F)(hx:zl ρ xs):∀{outs:List (Tm×Nat×List SV)} {G:Pc} {k:Nat} {l:List SV},ahw base inv mt post F xs G outs=true->Pc.holds ρ G->CJ ρ outs=some (k,l)->afz base inv mt post ρ k l
 |[],G,k,l,_,_,hs=>by simp [CJ] at hs
 |[o],G,k,l,h,hG,hs=>by
  simp only [CJ,Option.some.injEq] at hs
  simp only [ahw,hs] at h
  exact abd hb h hF hx hG
 |o::o'::r,G,k,l,h,hG,hs=>by
  simp only [ahw,Bool.and_eq_true] at h
  simp only [CJ] at hs
  cases hg:(o.1.den ρ).B
  .rw [hg] at hs
   exact Y0 hb hF hx h.2 (gq hg hG) hs
  .rw [hg] at hs
   simp only [cond_true,Option.some.injEq] at hs
   rw [hs] at h
   exact abd hb h.1 hF hx (gq hg hG)
def ahx (n:Nat):Pc->Pc
 |[]=>[]
 |x::r=>bif x.1.lt n then x::ahx n r else ahx n r
theorem afA {n:Nat}{ρ σ:List AV}(h:AgreeV n ρ σ):∀{pc:Pc},pc.holds ρ->(ahx n pc).holds σ
 |[],_=>fun x hx=>by cases hx
 |x::r,hp=>by
  have ih:=afA h (pc:=r) fun y hy=>hp y (List.mem_cons_of_mem _ hy)
  simp only [ahx]
  cases hl:x.1.lt n
  .exact ih
  .exact Pc.jo (by rw [<- Tm.qm h hl];exact hp x (List.mem_cons_self ..)) ih
def Dx (l:List Tm):Pc:=l.map fun t=>(t,true)
theorem UU {ρ:List AV}{l:List Tm}(h:∀t∈l,(t.den ρ).B=true):Pc.holds ρ (Dx l):=fun x hx=>by
 unfold Dx at hx
 obtain ⟨t,ht,rfl⟩:=List.mem_map.1 hx
 exact h t ht
def ahy (F:Pc)(T:BR):List (Pc×Side)->Nat->List Lo->List LH->List (Pc×Tm)->List (Pc×Tm)
 |sd,_,[],_,xs=>sdX F T xs sd
 |sd,k,x::r,hs,xs=>ahy F T (sd.drop ((hdH hs).at' - k)) (hdH hs).at' r (tlH hs) (afx F (sdX F T xs (sd.take ((hdH hs).at' - k))) x (hdH hs))
 mutual
def akF (F:Pc)(T:BR)(xs:List (Pc×Tm)):Lo->LH->Bool
  | .mk pc base m entry outs sd aw ms bn,h=>
   let F0:=ayk (bnF bn++F) xs pc
   let Fr:=Dx h.inv++ahx base F0
   (h.mt.lt (base+m)&&h.inv.all fun t=>t.lt (base+m))&&((h.mt.Oc||match jW base entry .I h.mt with|some mt'=>akA 2 F0 mt' h.ft|none=>false)&&h.inv.all (akD base entry F0)&&(ahz Fr T sd 0 aw h.sub h.xs&&ahw base h.inv h.mt h.post Fr (ahy Fr T sd 0 aw h.sub h.xs) [] outs))
def ahz (F:Pc)(T:BR):List (Pc×Side)->Nat->List Lo->List LH->List (Pc×Tm)->Bool
  |sd,_,[],_,xs=>aa8 F T xs sd
  |sd,k,x::r,hs,xs=>
   let n:=(hdH hs).at' - k
   aa8 F T xs (sd.take n)&&(let xs1:=sdX F T xs (sd.take n);akF F T xs1 x (hdH hs)&&ahz F T (sd.drop n) (hdH hs).at' r (tlH hs) (afx F xs1 x (hdH hs)))
end
theorem Xw {n:Nat}{a b:List AV}(h:n<=a.length):AgreeV n a (a++b):=fun i hi=>by
 rw [List.getD_eq_getElem?_getD,List.getD_eq_getElem?_getD,List.getElem?_append_left (by omega)]
theorem akG {S' S:List AV->Prop}{outs:List (Tm×Nat×List SV)}{ρ0:List AV}{base m:Nat}{inv:List Tm}{mt:Tm}{post:List (List Tm)}{Fb:Pc}{xs:List (Pc×Tm)}(hl0:ρ0.length=base)
  (hlt:(mt.lt (base+m)&&inv.all fun t=>t.lt (base+m))=true)
  (hFb:∀σ,AgreeV base ρ0 σ->Pc.holds σ Fb)
  (hS:∀σ,Pc.holds σ (Dx inv++Fb)->S' σ->S σ/\zl σ xs)
  (ho:ahw base inv mt post (Dx inv++Fb) xs [] outs=true):∀{n:Nat} {vs:List AV} {k:Nat} {us:List AV},(mt.Oc=true\/0<n)->(∀t∈inv,(t.den (ρ0++vs)).B=true)->(mt.Oc=true\/(mt.den (ρ0++vs)).I<(n:Int))->akC mt.Oc S' outs ρ0 m n vs k us->adl S outs ρ0 m n vs k us/\∀t∈YZ post k,(t.den (ρ0++us)).B=true
 |0,_,_,_,h0,_,_,hr=>by
  rcases h0 with h0|h0
  .have hr':mt.Oc=false:=hr
   rw [h0] at hr';cases hr'
  .exact absurd h0 (Nat.lt_irrefl _)
 |n+1,vs,k,us,_,hi,hm,hr=>by
  obtain ⟨cs,h1,h2,h3,h4⟩:=hr
  rw [Bool.and_eq_true,List.all_eq_true] at hlt
  have hag:AgreeV (base+m) (ρ0++vs) (ρ0++vs++cs):=Xw (by rw [List.length_append];omega)
  have hF:Pc.holds (ρ0++vs++cs) (Dx inv++Fb):=sQ (UU fun t ht=>by rw [<- Tm.qm hag (hlt.2 t ht)];exact hi t ht) (hFb _ (by rw [List.append_assoc];exact Xw (by omega)))
  have hb:base<=(ρ0++vs++cs).length:=by simp only [List.length_append];omega
  have ht:(ρ0++vs++cs).take base=ρ0:=by rw [List.append_assoc,<- hl0,List.take_left]
  have hX:=hS _ hF h3
  split at h4
  .exact h4.elim
  .rename_i l hsel
   have q:=Y0 hb hF hX.2 ho (fun x hx=>by cases hx) hsel
   simp only [afz] at q
   rw [ht] at q
   obtain ⟨q1,q23⟩:=q
   have hq:(mt.Oc=true\/0<n)/\(mt.Oc=true\/(mt.den (ρ0++dQ (ρ0++vs++cs) l)).I<(n:Int)):=by
    rcases q23 with q|⟨q2,q3⟩
    .exact ⟨.inl q,.inl q⟩
    .rw [<- Tm.qm hag hlt.1] at q2 q3
     rcases hm with hm|hm
     .exact ⟨.inl hm,.inl hm⟩
     .exact ⟨.inr (by omega),.inr (by omega)⟩
   obtain ⟨z1,z2⟩:=akG hl0 (by rw [Bool.and_eq_true,List.all_eq_true];exact hlt) hFb hS ho hq.1 q1 hq.2 h4
   exact ⟨⟨cs,h1,h2,hX.1,by rw [hsel];exact z1⟩,z2⟩
  .rename_i j l hsel
   have q:=Y0 hb hF hX.2 ho (fun x hx=>by cases hx) hsel
   simp only [afz] at q
   rw [ht] at q
   obtain ⟨rfl,rfl⟩:=h4
   exact ⟨⟨cs,h1,h2,hX.1,by rw [hsel];exact ⟨rfl,rfl⟩⟩,q⟩
theorem akH {ρ:List AV}{base pos n:Nat}{pc:Pc}{l:List Tm}(h:Pc.holds ρ pc->∀t:Tm,t.lt (base+n)=true->(t∈l->((t.ren (shf base pos)).den ρ).B=true)){xs:List (Pc×Tm)}(hx:zl ρ xs):zl ρ (QE base pos n pc l++xs):=by
 induction l with
 |nil=>exact hx
 |cons t r ih=>
  simp only [QE]
  have ih':=ih fun hp t' h1 h2=>h hp t' h1 (List.mem_cons_of_mem _ h2)
  cases hl:t.lt (base+n)
  .exact ih'
  .exact ⟨fun hp=>h hp t hl (List.mem_cons_self ..),ih'⟩
theorem ap9 {ρ us:List AV}{base pos:Nat}(hb:base<=ρ.length)(h:∀(i:Nat) (u:AV),us[i]?=some u->ρ.getD (pos+i) eX=u){n:Nat}(hn:n<=us.length){t:Tm}(hl:t.lt (base+n)=true):(t.ren (shf base pos)).den ρ=t.den (ρ.take base++us):=by
 refine Tm.anb (n:=base+n) (fun i hi=>?_) hl
 unfold shf
 cases hlt:Nat.blt i base
 .have hi':¬i<base:=fun q=>by rw [show Nat.blt i base=true by rw [Nat.blt_eq];exact q] at hlt;cases hlt
  have hl':(ρ.take base).length=base:=by rw [List.length_take];omega
  simp only [cond_false]
  have:i-base<us.length:=by omega
  have e:=h (i-base) us[i-base] (by simp [this])
  rw [Nat.add_comm,e,List.getD_eq_getElem?_getD,List.getElem?_append_right (by omega),hl']
  simp [this]
 .rw [Nat.blt_eq] at hlt
  simp only [cond_true]
  exact (Rw hb hlt).symm
theorem abe {ρ:List AV}:∀{outs:List (Tm×Nat×List SV)} {x:Nat×List SV},CJ ρ outs=some x->∃o∈outs,o.2=x
 |[],_,h=>by simp [CJ] at h
 |[o],x,h=>by simp only [CJ,Option.some.injEq] at h;exact ⟨o,by simp,h⟩
 |o::o'::r,x,h=>by
  simp only [CJ] at h
  cases hg:(o.1.den ρ).B
  .rw [hg] at h
   obtain ⟨q,q1,q2⟩:=abe h
   exact ⟨q,List.mem_cons_of_mem _ q1,q2⟩
  .rw [hg] at h
   simp only [cond_true,Option.some.injEq] at h
   exact ⟨o,List.mem_cons_self ..,h⟩
theorem akI {S:List AV->Prop}{outs:List (Tm×Nat×List SV)}{ρ0:List AV}{m:Nat}{ms:List Nat}(hL:aa_ outs ms=true):∀{n:Nat} {vs:List AV} {k:Nat} {us:List AV},adl S outs ρ0 m n vs k us->k<ms.length/\ms.getD k 0<=us.length
 |0,_,_,_,h=>h.elim
 |n+1,vs,k,us,h=>by
  obtain ⟨cs,h1,h2,h3,h4⟩:=h
  split at h4
  .exact h4.elim
  .exact akI hL h4
  .rename_i j l hsel
   obtain ⟨rfl,rfl⟩:=h4
   obtain ⟨o,q1,q2⟩:=abe hsel
   unfold aa_ at hL
   rw [List.all_eq_true] at hL
   have:=hL o q1
   rw [q2,Bool.and_eq_true] at this
   rw [fZ]
   exact ⟨Nat.le_of_ble_eq_true this.1,Nat.le_of_ble_eq_true this.2⟩
theorem akJ {ρ:List AV}{base pos n:Nat}{pc:Pc}{l:List Tm}{xs:List (Pc×Tm)}(h:Pc.holds ρ pc->base<=ρ.length/\∃us:List AV,n<=us.length/\(∀(i:Nat) (u:AV),us[i]?=some u->ρ.getD (pos+i) eX=u)/\∀t∈l,(t.den (ρ.take base++us)).B=true)(hx:zl ρ xs):zl ρ (QE base pos n pc l++xs):=
 akH (fun hp t hl ht=>by
  obtain ⟨hb,us,h1,h2,h3⟩:=h hp
  rw [ap9 hb h2 h1 hl]
  exact h3 t ht) hx
def Lo.res (L:Lo)(post:List (List Tm))(ρ:List AV):Prop:=match L with
 | .mk pc base _ _ outs _ _ ms bn=>Pc.holds ρ pc->(∀t∈bn,(t.den ρ).R.length<=4294967296)->base<=ρ.length/\∃(k:Nat) (us:List AV),(aa_ outs ms=true->k<ms.length/\ms.getD k 0<=us.length)/\ajy ρ base ms k us/\∀t∈YZ post k,(t.den (ρ.take base++us)).B=true
theorem adP {ρ:List AV}{F:Pc}{xs:List (Pc×Tm)}{pc:Pc}{bn:List Tm}(hF:Pc.holds ρ F)(hx:zl ρ xs)(h:Pc.holds ρ (bnC F xs pc bn)):Pc.holds ρ pc/\∀t∈bn,(t.den ρ).R.length<=4294967296:=by
 have key:∀{t:Tm},((G_ (.rlen t) (.li big)).den ρ).B=true->(t.den ρ).R.length<=4294967296:=by
  intro t h
  have h2:m_ (t.den ρ).R<=big:=of_decide_eq_true h
  unfold m_ big at h2;omega
 unfold bnC at h
 dsimp only at h
 cases hq:(bn.all fun t=>ayu 1 (ayk F xs pc) (G_ (.rlen t) (.li big)))
 .rw [hq] at h
  simp only [cond_false] at h
  refine ⟨fun x hx=>h x (List.mem_append.2 (.inr hx)),fun t ht=>key (h (_,true) (List.mem_append.2 (.inl ?_)))⟩
  clear hq h
  induction bn with
  |nil=>cases ht
  |cons a r ih=>
   rcases List.mem_cons.1 ht with rfl|ht
   .exact List.mem_cons_self ..
   .exact List.mem_cons_of_mem _ (ih ht)
 .rw [hq] at h
  rw [List.all_eq_true] at hq
  exact ⟨h,fun t ht=>key (zY (hq t ht) (yc hF hx h))⟩
theorem akK {ρ:List AV}{base n n' k k0:Nat}{us:List AV}{c:Pc}(hk0:k0=0\/k0=1)(hk:k<2)(hr:ajy ρ base [n,n'] k us)(h:Pc.holds ρ (anc base [n,n'] k0++c)):k=k0:=by
 have h1:=hr.1 (by show 1<2;omega)
 have e:(((Tm.bin .eql (.int .i64) (.var base []) (.li 0)).den ρ).B)=dW ((ax8 (ρ.getD base eX) []).D.I) 0:=rfl
 have e2:ax8 (ρ.getD base eX) []=ρ.getD base eX:=by cases ρ.getD base eX<;>rfl
 rw [e2,h1] at e
 rcases hk0 with rfl|rfl
 .have q:=h (_,true) (List.mem_append.2 (.inl (List.mem_cons_self ..)))
  dsimp only at q
  rw [e,mD] at q
  omega
 .have q:=h (_,false) (List.mem_append.2 (.inl (List.mem_cons_self ..)))
  dsimp only at q
  rw [e,yI] at q
  omega
theorem akL {L:Lo}{H:LH}{ρ:List AV}{F:Pc}{xs:List (Pc×Tm)}(hF:Pc.holds ρ F)(hx:zl ρ xs)(h:L.res H.post ρ):zl ρ (afx F xs L H):=by
 obtain ⟨pc,base,m,entry,outs,sd,aw,ms,bn⟩:=L
 simp only [afx]
 split
 .exact hx
 .rename_i p _
  cases hL:aa_ outs ms
  .exact hx
  .simp only [cond_true]
   have sub:∀{a b:Pc},Pc.holds ρ (a++b)->Pc.holds ρ b:=fun h x hx=>h x (List.mem_append.2 (.inr hx))
   split
   .rename_i n
    refine akJ (fun hp=>?_) hx
    obtain ⟨h1,h2⟩:=adP hF hx (sub hp)
    obtain ⟨hb,k,us,q1,q2,q3⟩:=h h1 h2
    have hk:=q1 hL
    have:k=0:=by have:=hk.1;simp at this;exact this
    subst this
    exact ⟨hb,us,hk.2,q2.2,q3⟩
   .rename_i n n'
    refine akJ (fun hp=>?_) (akJ (fun hp=>?_) hx)
    .obtain ⟨h1,h2⟩:=adP hF hx (sub hp)
     obtain ⟨hb,k,us,q1,q2,q3⟩:=h h1 h2
     have hk:=q1 hL
     have:=akK (.inl rfl) hk.1 q2 hp
     subst this
     exact ⟨hb,us,hk.2,q2.2,q3⟩
    .obtain ⟨h1,h2⟩:=adP hF hx (sub hp)
     obtain ⟨hb,k,us,q1,q2,q3⟩:=h h1 h2
     have hk:=q1 hL
     have:=akK (.inr rfl) hk.1 q2 hp
     subst this
     exact ⟨hb,us,hk.2,q2.2,q3⟩
   .exact hx
theorem UW {P:Program}{T:BR}{ρ:List AV}:∀{n:Nat} {sd:List (Pc×Side)},vG P T ρ sd->vG P T ρ (sd.take n)/\vG P T ρ (sd.drop n)
 |0,sd,h=>⟨trivial,h⟩
 |n+1,[],h=>⟨trivial,trivial⟩
 |n+1,x::r,h=>⟨⟨h.1,(UW (n:=n) h.2).1⟩,(UW (n:=n) h.2).2⟩
theorem QF {P:Program}{ρ:List AV}:∀{n:Nat} {sd:List (Pc×Side)},wu P ρ (sd.take n)->wu P ρ (sd.drop n)->wu P ρ sd
 |0,sd,_,h=>h
 |n+1,[],_,_=>trivial
 |n+1,x::r,h,k=>⟨h.1,QF (n:=n) h.2 k⟩
 mutual
theorem akM {P:Program}{T:BR}:∀{L:Lo} {H:LH} {ρ:List AV} {F:Pc} {xs:List (Pc×Tm)},akF F T xs L H=true->Pc.holds ρ F->zl ρ xs->L.wk P T H ρ->L.holds P ρ/\L.res H.post ρ
  | .mk pc base m entry outs sd aw ms bn,H,ρ,F,xs,h,hF,hx,hw=>by
   simp only [akF,Bool.and_eq_true] at h
   obtain ⟨h0,⟨hft,h1⟩,h4,h3⟩:=h
   have all:Pc.holds ρ pc->(∀t∈bn,(t.den ρ).R.length<=4294967296)->base<=ρ.length/\∃n k us,(adl (fun σ=>jw P σ sd/\Zn P aw σ) outs (ρ.take base) m n (dQ ρ entry) k us/\∀t∈YZ H.post k,(t.den (ρ.take base++us)).B=true)/\ajy ρ base ms k us:=by
    intro hp hbn
    simp only [Lo.wk] at hw
    obtain ⟨hb,n,k,us,⟨hn0,hn⟩,hr,hres⟩:=hw hp hbn
    have hF0:=yc (sQ (akB hbn) hF) hx hp
    have hl:(ρ.take base).length=base:=by rw [List.length_take];omega
    rw [List.all_eq_true] at h1
    have hm:H.mt.Oc=true\/(H.mt.den (ρ.take base++dQ ρ entry)).I<(n:Int):=by
     rw [Bool.or_eq_true] at hft
     rcases hft with hft|hft
     .exact .inl hft
     refine .inr ?_
     split at hft
     .rename_i mt' hm
      have q:=EP hb hm
      simp only [Gy] at q
      have q2:=YX hft hF0
      omega
     .cases hft
    refine ⟨hb,n,k,us,akG (xs:=ahy (Dx H.inv++ahx base (ayk (bnF bn++F) xs pc)) T sd 0 aw H.sub H.xs) hl (by rw [Bool.and_eq_true];exact h0) (fun σ hag=>?_) (fun σ hF' hS=>?_) h3 (.inr hn0) (fun t ht=>akE hb (h1 t ht) hF0) hm hr,hres⟩
    .refine afA (fun i hi=>?_) hF0
     rw [<- hag i hi]
     have:=Rw (ρ:=ρ) (m:=[]) hb hi
     simpa using this.symm
    .obtain ⟨z1,z2,z3⟩:=Y3 h4 hF' hS.1 hS.2.1 hS.2.2
     exact ⟨⟨z1.ok,z2⟩,z3⟩
   refine ⟨?_,?_⟩
   .unfold Lo.holds
    intro hp hbn
    obtain ⟨hb,n,k,us,⟨z1,_⟩,z2⟩:=all hp hbn
    exact ⟨hb,n,k,us,z1,z2⟩
   .intro hp hbn
    obtain ⟨hb,n,k,us,⟨z1,z3⟩,z2⟩:=all hp hbn
    exact ⟨hb,k,us,fun hL=>akI hL z1,z2,z3⟩
theorem Y3 {P:Program}{T:BR}:∀{l:List Lo} {sd:List (Pc×Side)} {k:Nat} {hs:List LH} {ρ:List AV} {F:Pc} {xs:List (Pc×Tm)},ahz F T sd k l hs xs=true->Pc.holds ρ F->zl ρ xs->vG P T ρ sd->Xv P T l hs ρ->wu P ρ sd/\Zn P l ρ/\zl ρ (ahy F T sd k l hs xs)
  |[],sd,k,hs,ρ,F,xs,h,hF,hx,hw,_=>by
   simp only [ahz] at h
   obtain ⟨h1,h2⟩:=UR hF hx h hw
   exact ⟨h1,trivial,h2⟩
  |x::r,sd,k,hs,ρ,F,xs,h,hF,hx,hw,hl=>by
   simp only [ahz,Bool.and_eq_true] at h
   simp only [Xv] at hl
   obtain ⟨w1,w2⟩:=UW (n:=(hdH hs).at' - k) hw
   obtain ⟨a1,a2⟩:=UR hF hx h.1 w1
   obtain ⟨b1,b2⟩:=akM h.2.1 hF a2 hl.1
   obtain ⟨c1,c2,c3⟩:=Y3 h.2.2 hF (akL hF a2 b2) w2 hl.2
   exact ⟨QF a1 c1,⟨b1,c2⟩,c3⟩
end
 mutual
def adQ : SV->Pc
  | .sc .sl t=>[(G_ (.rlen t) (.li big),true)]
  | .agg l=>ET l
  | .fA l=>ET l
  | .os _ _ _ t=>[(G_ t (.li big),true)]
  | .fn _ x y=>ET x++ET y
  |_=>[]
def ET : List SV->Pc
  |[]=>[]
  |x::r=>adQ x++ET r
end
 mutual
theorem ang {ρ:List AV}:∀{v:SV},(v.den ρ).bnd->Pc.holds ρ (adQ v)
  | .sc k t,h=>by
   cases k<;>simp only [adQ]<;>first|(intro x hx;cases hx;done)|skip
   exact Pc.jo (by
    have:(t.den ρ).R.length<=4294967296:=h.1
    show decide (m_ (t.den ρ).R<=big)=true
    exact decide_eq_true (by unfold m_ big;omega)) fun x hx=>by cases hx
  | .agg l,h=>by simp only [adQ];exact zZ h
  | .fA l,h=>by simp only [adQ];exact zZ h
  | .os b sz off t,h=>by
   simp only [adQ]
   exact Pc.jo (by
    have:(t.den ρ).I.toNat<=4294967296:=h
    show decide ((t.den ρ).I<=big)=true
    exact decide_eq_true (by unfold big;omega)) fun x hx=>by cases hx
  | .c _,_=>fun x hx=>by cases hx
  | .nil,_=>fun x hx=>by cases hx
  | .sf _,_=>fun x hx=>by cases hx
  | .slc _ _,_=>fun x hx=>by cases hx
  | .vp _ _,_=>fun x hx=>by cases hx
  | .op _ _ _ _,_=>fun x hx=>by cases hx
  | .fn _ _ _,h=>by simp only [adQ];exact sQ (zZ h.1) (zZ h.2)
  | .mP _ _,_=>fun x hx=>by cases hx
  | .mp _,_=>fun x hx=>by cases hx
theorem zZ {ρ:List AV}:∀{l:List SV},KG (dQ ρ l)->Pc.holds ρ (ET l)
  |[],_=>fun x hx=>by cases hx
  |x::r,h=>by simp only [ET];exact sQ (ang h.1) (zZ h.2)
end
def abf (args:List SV)(sp:Sp):Pc:=match sbL args sp.pre with
 |some l=>Dx l
 |none=>[]
def abg (T:BR)(sp:Sp)(args bd:List SV)(H:LH)(sd:List (Pc×Side))(aw:List Lo):Bool:=
 let F:=abf args sp++ET bd
 ahz F T sd 0 aw H.sub H.xs
theorem abh {ρ:List AV}{args:List SV}{sp:Sp}(h:nO (dQ ρ args) sp.pre):Pc.holds ρ (abf args sp):=by
 unfold abf
 split
 .rename_i l hl
  exact UU ((MK hl).2 h).mem
 .exact fun x hx=>by cases hx
theorem Rx {P:Program}{T:BR}{sp:Sp}{ρ:List AV}{args bd:List SV}{H:LH}{sd:List (Pc×Side)}{aw:List Lo}(h:abg T sp args bd H sd aw=true)(hp:nO (dQ ρ args) sp.pre)(hb:Pc.holds ρ (ET bd))(hx:zl ρ H.xs)(hw:vG P T ρ sd)(hl:Xv P T aw H.sub ρ):wu P ρ sd/\Zn P aw ρ/\zl ρ (ahy (abf args sp++ET bd) T sd 0 aw H.sub H.xs):=
 Y3 h (sQ (abh hp) hb) hx hw hl
def ahA (F:Pc)(xs:List (Pc×Tm))(l:SV->Option (List SV))(post:List Tm):Pc->List (Tm×SV)->Bool
  |_,[]=>true
  |G,[o]=>afB F xs l post G o.2
  |G,o::o'::r=>afB F xs l post (jG o.1 true G) o.2&&ahA F xs l post (jG o.1 false G) (o'::r)
 where afB (F:Pc) (xs:List (Pc×Tm)) (l:SV->Option (List SV)) (post:List Tm) (G:Pc) (v:SV):Bool:=match l v with
  |none=>false
  |some l=>match sbL l post with
   |none=>false
   |some q=>adO F xs q (q.map fun t=>(t,true)) 6 (ahr G)
theorem anh {ρ:List AV}{F:Pc}{xs:List (Pc×Tm)}{l:SV->Option (List SV)}{post:List Tm}{A:AV->List AV}(hl:∀v m,l v=some m->dQ ρ m=A (v.den ρ))(hF:Pc.holds ρ F)(hx:zl ρ xs):∀{rs:List (Tm×SV)} {G:Pc},rs≠[]->ahA F xs l post G rs=true->Pc.holds ρ G->nO (A (qV ρ rs)) post:=by
 have one:∀{G:Pc} {v:SV},ahA.afB F xs l post G v=true->Pc.holds ρ G->nO (A (v.den ρ)) post:=by
  intro G v h hG
  unfold ahA.afB at h
  split at h
  .cases h
  rename_i m hm
  split at h
  .cases h
  rename_i q hq
  rw [<- hl v m hm]
  exact (MK hq).1 (Oe hF hx h (Oa hG))
 intro rs
 induction rs with
 |nil=>intro G hne;exact absurd rfl hne
 |cons o r ih=>
  intro G _ h hG
  cases r with
  |nil=>exact one h hG
  |cons o' r=>
   simp only [ahA,Bool.and_eq_true] at h
   simp only [qV]
   cases hg:(o.1.den ρ).B
   .exact ih (by simp) h.2 (gq hg hG)
   .exact one h.1 (gq hg hG)
def akN (args bd:List SV)(sp:Sp):Bool:=match sbL args sp.bnd with
 |none=>false
 |some l=>(ET bd).all fun x=>x.2&&l.any fun t=>t.beq x.1
theorem akO {ρ:List AV}{args bd:List SV}{sp:Sp}(h:akN args bd sp=true)(hb:nO (dQ ρ args) sp.bnd):Pc.holds ρ (ET bd):=by
 unfold akN at h
 split at h
 .cases h
 rename_i l hl
 rw [List.all_eq_true] at h
 have hb':=((MK hl).2 hb).mem
 intro x hx
 have q:=h x hx
 rw [Bool.and_eq_true,List.any_eq_true] at q
 obtain ⟨q1,t,q2,q3⟩:=q
 rw [q1,<- Tm.beq_eq q3]
 exact hb' t q2
def abj (T:BR)(sp:Sp)(args bd:List SV)(H:LH)(R:jg)(l:SV->Option (List SV)):Bool:=match sp.post with
 |[]=>true
 |post=>match R.rs with
  |[]=>false
  |_::_=>akN args bd sp&&(let F:=abf args sp++ET bd;ahA F (ahy F T R.sd 0 R.aw H.sub H.xs) l post [] R.rs)
theorem Y4 {P:Program}{T:BR}{sp:Sp}{ρ:List AV}{args bd:List SV}{H:LH}{R:jg}{l:SV->Option (List SV)}{A:AV->List AV}(hl:∀v m,l v=some m->dQ ρ m=A (v.den ρ))(hc:abg T sp args bd H R.sd R.aw=true)(h:abj T sp args bd H R l=true)(hp:nO (dQ ρ args) sp.pre)(hb:nO (dQ ρ args) sp.bnd)(hx:zl ρ H.xs)(hw:vG P T ρ R.sd)(hlw:Xv P T R.aw H.sub ρ):nO (A (qV ρ R.rs)) sp.post:=by
 unfold abj at h
 split at h
 .rename_i e;rw [e];trivial
 .rename_i e
  split at h
  .cases h
  .rename_i er
   rw [Bool.and_eq_true] at h
   have hbd:=akO h.1 hb
   obtain ⟨-,-,hX⟩:=Rx hc hp hbd hx hw hlw
   exact anh hl (sQ (abh hp) hbd) hX (by rw [er];simp) h.2 (fun x hx=>by cases hx)
theorem auG {P:Program}(hm:P.follows .mixedOrders=true){X:ql}(hX:∀σ:List AV,iT σ=true->oJ P σ X){I0:Ew}(h0:∀σ:List AV,iT σ=true->n_ P σ I0){md:Md}{FC:FuncId->zT}{uJ CF f nv:Nat}{args:List SV}{R:jg}{az:List AV}{r:AV}{T:BR}
  (h:kD P X I0 md FC uJ CF f args nv=some R) (H:LH) (hc:(abg T (T.at f) args args H R.sd R.aw&&abj T (T.at f) args args H R fun v=>some (args++[v]))=true) (ρ:List AV) (hρ:iT ρ=true) (hx:zl ρ H.xs) (hw:vG P T ρ R.sd) (hl:Xv P T R.aw H.sub ρ) (ha:dQ ρ args=az) (hr:qV ρ R.rs=r):CT P T f az r:=fun hpre=>by
 subst ha
 rw [Bool.and_eq_true] at hc
 refine ⟨apB fun hb=>?_,fun hb=>?_⟩
 .obtain ⟨h1,h2,-⟩:=Rx hc.1 hpre (zZ hb) hx hw hl
  exact aj_ hm hX h0 (rs:=R.rs) (sd:=R.sd) (aw:=R.aw) h hρ h1 h2 rfl hr
 .subst hr
  exact Y4 (A:=fun r=>dQ ρ args++[r]) (fun v m hm=>by simp only [Option.some.injEq] at hm;subst hm;exact Kv) hc.1 hc.2 hpre hb hx hw hl
theorem asc {P:Program}(hm:P.follows .mixedOrders=true){X:ql}(hX:∀σ:List AV,iT σ=true->oJ P σ X){I0:Ew}(h0:∀σ:List AV,iT σ=true->n_ P σ I0){md:Md}{FC:FuncId->zT}{uJ CF f nv:Nat}{args:List SV}{R:jg}{az:List AV}{r:AV}{p:List Nat}{sz:Nat}{T:BR}
  (h:ady P X I0 md FC uJ CF f args nv p sz=some R) (H:LH) (hc:(abg T (T.at f) args args H R.sd R.aw&&abj T (T.at f) args args H R fun v=>some (args++[v]))=true) (ρ:List AV) (hρ:iT ρ=true) (hx:zl ρ H.xs) (hw:vG P T ρ R.sd) (hl:Xv P T R.aw H.sub ρ) (ha:dQ ρ args=az) (hr:qV ρ R.rs=r):CTo P T f az r p sz:=fun hpre=>by
 subst ha
 rw [Bool.and_eq_true] at hc
 refine ⟨afh fun hb=>?_,fun hb=>?_⟩
 .obtain ⟨h1,h2,-⟩:=Rx hc.1 hpre (zZ hb) hx hw hl
  exact apP hm hX h0 (rs:=R.rs) (sd:=R.sd) (aw:=R.aw) h hρ h1 h2 rfl hr
 .subst hr
  exact Y4 (A:=fun r=>dQ ρ args++[r]) (fun v m hm=>by simp only [Option.some.injEq] at hm;subst hm;exact Kv) hc.1 hc.2 hpre hb hx hw hl
def Xx (vw:List (Nat×Nat))(cs:List SV):Nat->List (Nat×SB)->Option (List SV)
 |_,[]=>some []
 |j,(b,k)::r=>match vw.find? (fun x=>Nat.beq x.1 b) with
  |some _=>match CG cs j with
   |some (.sc .sl t)=>match Xx vw cs (j+1) r with|some l=>some (.sc .sl t::l)|none=>none
   |_=>none
  |none=>match Xx vw cs j r with|some l=>some (k.sv::l)|none=>none
theorem ap_ {ρ:List AV}{k:SB}:k.sv.den ρ=(k.den ρ).av:=by cases k<;>rfl
theorem PU {ρ:List AV}{vw:List (Nat×Nat)}{cs:List SV}:∀{bl:List (Nat×SB)} {j:Nat} {l:List SV},Xx vw cs j bl=some l->dQ ρ l=avB (uj ρ vw (dQ ρ cs) j bl)
 |[],j,l,h=>by simp only [Xx,Option.some.injEq] at h;subst h;rfl
 |(b,k)::r,j,l,h=>by
  simp only [Xx] at h
  simp only [uj]
  split at h
  .rename_i x hx
   rw [hx]
   split at h
   .rename_i t ht
    split at h
    .rename_i l' hl
     simp only [Option.some.injEq] at h;subst h
     have e:=En (ρ:=ρ) ht
     have ih:=PU (ρ:=ρ) hl
     show _::dQ ρ l'=_::avB (uj ρ vw (dQ ρ cs) (j+1) r)
     rw [ih]
     simp only [List.getD_eq_getElem?_getD,e,Option.getD_some]
     rfl
    .cases h
   .cases h
  .rename_i hx
   rw [hx]
   split at h
   .rename_i l' hl
    simp only [Option.some.injEq] at h;subst h
    have ih:=PU (ρ:=ρ) hl
    show _::dQ ρ l'=_::avB (uj ρ vw (dQ ρ cs) j r)
    rw [ih,ap_]
   .cases h
def akP (args:List SV)(bl:List (Nat×SB))(vw:List (Nat×Nat)):SV->Option (List SV)
 | .fA (r::cs)=>match Xx vw cs 0 bl with
  |some l=>some (args++PS bl++(r::l))
  |none=>none
 |_=>none
def auH (az:List AV)(ρ:List AV)(vw:List (Nat×Nat))(bl:List (Nat×SB)):AV->List AV
 | .fA (r::cs)=>az++(r::avB (uj ρ vw cs 0 bl))
 |_=>[]
theorem ase {P:Program}(hm:P.follows .mixedOrders=true){X:ql}(hX:∀σ:List AV,iT σ=true->oJ P σ X){I0:Ew}(h0:∀σ:List AV,iT σ=true->n_ P σ I0){md:Md}{FC:FuncId->zT}{uJ CF f nv:Nat}{args:List SV}{R:jg}{az:List AV}{r:AV}{cs:List AV}{bl:List (Nat×SB)}{vw:List (Nat×Nat)}{n0:Nat}{bin KE:List (Nat×vH)}{T:BR}
  (h:NU P X I0 md FC uJ CF f args nv bl vw n0=some R) (H:LH) (hc:(abg T (T.atW f n0) (args++PS bl) args H R.sd R.aw&&abj T (T.atW f n0) (args++PS bl) args H R (akP args bl vw))=true) (ρ:List AV) (hρ:iT ρ=true) (hx:zl ρ H.xs) (hw:vG P T ρ R.sd) (hl:Xv P T R.aw H.sub ρ) (ha:dQ ρ args=az) (hb:FV ρ bl=bin) (hr:qV ρ R.rs=.fA (r::cs)) (hb2:uj ρ vw cs 0 bl=KE):CTw P T f az bin n0 r KE:=fun hpre=>by
 subst ha;subst hb;subst hb2
 rw [Bool.and_eq_true] at hc
 have e:dQ ρ (args++PS bl)=dQ ρ args++avB (FV ρ bl):=by rw [l7,ER]
 rw [<- e] at hpre ⊢
 refine ⟨apT fun hbd=>?_,fun hbd=>?_⟩
 .obtain ⟨h1,h2,-⟩:=Rx hc.1 hpre (zZ hbd) hx hw hl
  exact arY hm hX h0 (rs:=R.rs) (sd:=R.sd) (aw:=R.aw) h hρ h1 h2 rfl rfl hr rfl
 .have q:=Y4 (A:=auH (dQ ρ (args++PS bl)) ρ vw bl) (fun v m hm=>by
   unfold akP at hm
   split at hm
   .split at hm
    .rename_i l hl
     simp only [Option.some.injEq] at hm;subst hm
     rw [l7]
     show _=_++(_::avB (uj ρ vw (dQ ρ _) 0 bl))
     rw [<- PU hl];rfl
    .cases hm
   .cases hm) hc.1 hc.2 hpre hbd hx hw hl
  rw [hr] at q
  exact q
end Go.Fw
end
section
namespace Go.Fw
variable [jU]
open Go.Lib
def Jt (len:Tm)(n:Nat):Tm:=.bin .eql (.int .i64) len (.li (.ofNat n))
def ani (pc:Pc)(len:Tm):Tm:=match pc.known (Jt len 0),pc.known (Jt len 1) with
 |some true,_=>.li 0
 |_,some true=>.li 1
 |_,_=>len
def aoo : Option SV->Option (List SV)
 |some (.agg l)=>some l
 |_=>none
def aop (P:Program)(th:Tr SB)(nx nv:Nat)(pc:Pc)(ti tj:Tm)(b sz:Nat)(len t:Tm)(e:TypeId):Option CR:=
 match aoo (ayC P nv [] e),aoo (ayC P (nv+1) [] e) with
 |some x,some y=>bif Nat.beq x.length sz&&(Nat.beq y.length sz&&(Bj P e == some (true,sz))) then
  some ⟨[(.lb true,⟨.c .undef,wrT th [(b,some (.fO sz (.var (nv+3) [])))],nx⟩)],nv+4,
   (([.tm (.bin .leq (.int .i64) (.li 0) ti),.tm (.bin .lss (.int .i64) ti (.rlen t)),.tm (.bin .leq (.int .i64) (.li 0) tj),.tm (.bin .lss (.int .i64) tj (.rlen t)),.row t ti x,.row t tj y,.st t ti 0 y (.var (nv+2) []),.st (.var (nv+2) []) tj 0 x (.var (nv+3) [])]:List Side)++acI len t).map fun s=>(pc,s)⟩ else none
 |_,_=>none
def Y5 (P:Program)(c:YM):Ew:=fun pc th nx nv f args=>
 bif Nat.beq f c.vo then
  match args with
  |[.mP t (.os b sz off len)]=>match aj3 P t with
   |some _=>some ⟨[(.lb true,⟨.agg [.c (.at P.globals.size t),.op nx 1 (.li 0) 0,.sc (.int .u64) (.li 151)],wrT th [(nx,some (.rows 1 [[.os b sz off len]]))],nx+1⟩)],nv,[]⟩
   |none=>none
  |_=>none
 else bif Nat.beq f c.ln then
  match args with
  |[.agg [.c (.at g t),.op b1 1 (.li 0) 0,.sc (.int .u64) (.li 151)]]=>match aj3 P t,th.get b1 with
   |some _,some (.rows 1 [[.os b sz off len]])=>bif Nat.beq g P.globals.size then some ⟨[(.lb true,⟨.sc (.int .i64) (ani pc len),th,nx⟩)],nv,[(pc,.tm (.bin .leq (.int .i64) (.li 0) len))]⟩ else none
   |_,_=>none
  |_=>none
 else bif Nat.beq f c.sw then
  match args with
  |[.mP t (.os b sz off len)]=>match aj3 P t with
   |some e=>bif afb P e then
    some ⟨[(Jt len 0,⟨.fn c.l1 [] [],th,nx⟩),(Jt len 1,⟨.fn c.l2 [] [],th,nx⟩),(.lb true,⟨.fn c.l9 [] [.os b sz off len,.c (.at P.globals.size e)],th,nx⟩)],nv,[(pc,.tm (.bin .leq (.int .i64) (.li 0) len))]⟩ else none
   |none=>none
  |_=>none
 else bif Nat.beq f c.l9 then
  match args with
  |[.sc (.int .i64) ti,.sc (.int .i64) tj,.os b sz 0 len,.c (.at g e)]=>match th.get b with
   |some (.fO sz' t)=>bif Nat.beq g P.globals.size&&Nat.beq sz sz' then aop P th nx nv pc ti tj b sz len t e else none
   |_=>none
  |_=>none
 else none
theorem le0 {P:Program}{ρ:List AV}{len:Tm}(h:Side.holds P ρ (.tm (.bin .leq (.int .i64) (.li 0) len))):0<=(len.den ρ).I:=of_decide_eq_true h
theorem tmH {P:Program}{ρ:List AV}{t:Tm}{p:Prop}[Decidable p](h:Side.holds P ρ (.tm t))(e:(t.den ρ).B=decide p:=by rfl):p:=of_decide_eq_true (e▸h)
theorem anj {ρ:List AV}{pc:Pc}{len:Tm}(hp:pc.holds ρ):((ani pc len).den ρ).I=(len.den ρ).I:=by
 have e:∀n:Nat,pc.known (Jt len n)=some true->(len.den ρ).I=(n:Int):=fun n h=>by
  have:=Pc.gV hp h
  simpa [Jt,Tm.den,qh,D.B,D.I,dW] using this
 unfold ani
 split
 .rw [e 0 (by assumption)];rfl
 .rw [e 1 (by assumption)];rfl
 .rfl
theorem adR {P:Program}{c:YM}(hc:aod P c):∀σ:List AV,iT σ=true->n_ P σ (Y5 P c):=by
 intro ρ hfz pc th nx nv f args R h hp hs base w E ah vs hah hh hG hrep o a he next Q hnext
 unfold Y5 at h
 cases h1:Nat.beq f c.vo
 case true=>
  rw [h1] at h
  simp only [cond_true] at h
  obtain rfl:=Nat.eq_of_beq_eq_true h1
  split at h
  .rename_i t b sz off len
   split at h
   .rename_i e hel
    simp only [Option.some.injEq] at h;subst h
    obtain ⟨i,hi,hd,-⟩:=YN hel
    obtain ⟨v,rfl,hv⟩:=Uy hrep
    obtain ⟨u,rfl,hu⟩:=afc hv
    obtain ⟨p,cc,rfl⟩:=Ux hu
    obtain ⟨w',E',hw',q1,q2,q3⟩:=XT hh (Nat.le_refl nx) t (cs:=[SV.den ρ (.os b sz off len)]) (vs:=#[.slice p ((len.den ρ).I.toNat) cc]) ⟨rfl,fun i x y h1 h2=>by
     match i,h1,h2 with
     |0,h1,h2=>cases h1;cases h2;exact hu⟩ (by simp [SV.den,AV.jM])
    refine wJ hc.vo he (run_valueOf_slice t e i hi hd p _ cc w) ?_
    rw [<- hw']
    refine hnext _ rfl _ _ E' (qU ah [(nx,some (.rows 1 [[SV.den ρ (.os b sz off len)]]))]) (O_ hah) q1 (q2.weaken fun b hb=>⟨Nat.le_of_succ_le hb,Nat.ne_of_gt hb⟩) ?_
    refine .agg _ _ rfl (fun c hc=>by simp only [dQ,List.mem_cons,List.not_mem_nil,or_false] at hc;rcases hc with rfl|rfl|rfl<;>rfl) fun i x y h1 h2=>?_
    match i,h1,h2 with
    |0,h1,h2=>cases h1;cases h2;exact .p rfl
    |1,h1,h2=>cases h1;cases h2;exact q3
    |2,h1,h2=>cases h1;cases h2;exact .p rfl
   .cases h
  .cases h
 case false=>
 rw [h1] at h
 simp only [cond_false] at h
 cases h2:Nat.beq f c.ln
 case true=>
  rw [h2] at h
  simp only [cond_true] at h
  obtain rfl:=Nat.eq_of_beq_eq_true h2
  split at h
  .rename_i g t b1
   split at h
   .rename_i x y z b sz off len hel hb1
    cases hg:Nat.beq g P.globals.size
    .simp [hg] at h
    .simp only [hg,cond_true,Option.some.injEq] at h;subst h
     obtain rfl:=Nat.eq_of_beq_eq_true hg
     obtain ⟨i,hi,hd,hpk⟩:=YN hel
     obtain ⟨v,rfl,hv⟩:=Uy hrep
     obtain ⟨vs,rfl,ha⟩:∃vs:Array Value,v=.agg vs/\iE w E (dQ ρ [.c (.at P.globals.size t),.op b1 1 (.li 0) 0,.sc (.int .u64) (.li 151)]) vs.toList:=by
      cases hv with|agg cs vs hl hs h=>exact ⟨vs,rfl,by simpa using hl,fun i x y h1 h2=>h i x y h1 (by simpa using h2)⟩
     obtain ⟨v0,v1,v2,hvs⟩:∃v0 v1 v2,vs.toList=[v0,v1,v2]:=by
      match hm:vs.toList,(show vs.toList.length=3 by rw [<- ha.1];rfl) with
      |[v0,v1,v2],_=>exact ⟨v0,v1,v2,rfl⟩
     obtain rfl:vs=#[v0,v1,v2]:=by apply Array.ext';simpa using hvs
     have r0:=(ha.2 0 _ v0 rfl rfl).iw
     have r2:=(ha.2 2 _ v2 rfl rfl).iw
     obtain ⟨cb,ob,r1,hown⟩:=(ha.2 1 _ v1 rfl rfl).R_
     subst r0;subst r1;subst r2
     rcases hh.blk b1 _ (hah _ _ hb1) with ⟨_,h0⟩|⟨c',o',arr,tt,g1,g2,g3,g4,g5⟩
     .simp [SB.den,iL] at h0
     .rw [hown] at g1;cases g1
      obtain ⟨u,hu1,hu2⟩:=g5.2.2.2 0 _ 0 _ rfl rfl
      obtain ⟨p,cc,rfl⟩:=Ux hu2
      have hcell:w.cell? ⟨cb,ob+0*1+0,none⟩=some (.slice p ((len.den ρ).I.toNat) cc):=by
       simp only [World.cell?,g4]
       simp at hu1 ⊢
       exact hu1
      refine wJ hc.ln he (run_valueLen_slice t _ i hi hd hpk _ p _ cc w hcell) ?_
      refine hnext _ rfl _ _ E ah hah (Step.refl _ _ _) hh ?_
      have h0:=le0 (hs (pc,.tm (.bin .leq (.int .i64) (.li 0) len)) (by simp) hp)
      show Rep w E (.p (.int .i64 ((ani pc len).den ρ).I)) _
      rw [anj hp,Int.toNat_of_nonneg h0]
      exact .p rfl
   .cases h
  .cases h
 case false=>
 rw [h2] at h
 simp only [cond_false] at h
 cases h3:Nat.beq f c.sw
 case true=>
  rw [h3] at h
  simp only [cond_true] at h
  obtain rfl:=Nat.eq_of_beq_eq_true h3
  split at h
  .rename_i t b sz off len
   split at h
   .rename_i e hel
    cases hb:afb P e
    .simp [hb] at h
    .simp only [hb,cond_true,Option.some.injEq] at h;subst h
     have h0:=le0 (hs (pc,.tm (.bin .leq (.int .i64) (.li 0) len)) (by simp) hp)
     obtain ⟨i,hi,hd,-⟩:=YN hel
     obtain ⟨ie,hie,hk,hsk⟩:=aj7 hb
     obtain ⟨v,rfl,hv⟩:=Uy hrep
     obtain ⟨u,rfl,hu⟩:=afc hv
     obtain ⟨p,cc,rfl⟩:=Ux hu
     have g0:∀n:Nat,(Tm.den ρ (Jt len n)).B=decide ((len.den ρ).I=(n:Int)):=fun n=>by
      show dW _ _=_;unfold dW;exact ayy
     by_cases e0:(len.den ρ).I.toNat=0
     .refine wJ hc.sw he (run_swapper_slice t e i ie hi hd hie 25 hk p _ cc c.l1 (by rw [hsk,if_pos e0];exact hc.n1) w) ?_
      refine hnext ⟨.fn c.l1 [] [],th,nx⟩ ?_ _ _ E ah hah (Step.refl _ _ _) hh ?_
      .have:(Tm.den ρ (Jt len 0)).B=true:=by rw [g0];exact decide_eq_true (by omega)
       simp only [su,this,cond_true]
      .rw [hsk,if_pos e0,if_pos (by omega)]
       exact .fn _ _ _ _ _ rfl rfl (fun i c v h=>by simp [dQ] at h) (fun i c v h=>by simp [dQ] at h)
     .have b0:(Tm.den ρ (Jt len 0)).B=false:=by rw [g0];exact decide_eq_false (by omega)
      by_cases e1:(len.den ρ).I.toNat=1
      .refine wJ hc.sw he (run_swapper_slice t e i ie hi hd hie 25 hk p _ cc c.l2 (by rw [hsk,if_neg e0,if_pos e1];exact hc.n2) w) ?_
       refine hnext ⟨.fn c.l2 [] [],th,nx⟩ ?_ _ _ E ah hah (Step.refl _ _ _) hh ?_
       .have:(Tm.den ρ (Jt len 1)).B=true:=by rw [g0];exact decide_eq_true (by omega)
        simp only [su,b0,this,cond_true,cond_false]
       .rw [hsk,if_neg e0,if_pos e1]
        exact .fn _ _ _ _ _ rfl rfl (fun i c v h=>by simp [dQ] at h) (fun i c v h=>by simp [dQ] at h)
      .have b1:(Tm.den ρ (Jt len 1)).B=false:=by rw [g0];exact decide_eq_false (by omega)
       refine wJ hc.sw he (run_swapper_slice t e i ie hi hd hie 25 hk p _ cc c.l9 (by rw [hsk,if_neg e0,if_neg e1];exact hc.n9) w) ?_
       refine hnext ⟨.fn c.l9 [] [.os b sz off len,.c (.at P.globals.size e)],th,nx⟩ ?_ _ _ E ah hah (Step.refl _ _ _) hh ?_
       .simp only [su,b0,b1,cond_false]
       rw [hsk,if_neg e0,if_neg e1,if_neg (by omega)]
       refine .fn _ _ _ _ _ rfl rfl (fun i c v h=>by simp [dQ] at h) (fun i x y h1 h2=>?_)
       match i,h1,h2 with
       |0,h1,h2=>cases h1;cases h2;exact hu
       |1,h1,h2=>cases h1;cases h2;exact .p rfl
   .cases h
  .cases h
 case false=>
 rw [h3] at h
 simp only [cond_false] at h
 cases h4:Nat.beq f c.l9
 case false=>simp [h4] at h
 case true=>
  rw [h4] at h
  simp only [cond_true] at h
  obtain rfl:=Nat.eq_of_beq_eq_true h4
  split at h
  .rename_i ti tj b sz len g e
   split at h
   .rename_i sz' t hb
    cases hg:Nat.beq g P.globals.size&&Nat.beq sz sz'
    .simp [hg] at h
    simp only [hg,cond_true] at h
    simp only [Bool.and_eq_true] at hg
    obtain ⟨g1,g4⟩:=hg
    obtain rfl:=Nat.eq_of_beq_eq_true g1
    obtain rfl:=Nat.eq_of_beq_eq_true g4
    unfold aop at h
    split at h
    .rename_i x y hx hy
     cases hgg:Nat.beq x.length sz&&(Nat.beq y.length sz&&(Bj P e == some (true,sz)))
     .simp [hgg] at h
     simp only [hgg,cond_true,Option.some.injEq] at h;subst h
     simp only [Bool.and_eq_true,beq_iff_eq] at hgg
     obtain ⟨g5,g6,g7⟩:=hgg
     have lx:=Nat.eq_of_beq_eq_true g5
     have ly:=Nat.eq_of_beq_eq_true g6
     have hab:=hah _ _ hb
     have side:∀s,s∈(([.tm (.bin .leq (.int .i64) (.li 0) ti),.tm (.bin .lss (.int .i64) ti (.rlen t)),.tm (.bin .leq (.int .i64) (.li 0) tj),.tm (.bin .lss (.int .i64) tj (.rlen t)),.row t ti x,.row t tj y,.st t ti 0 y (.var (nv+2) []),.st (.var (nv+2) []) tj 0 x (.var (nv+3) [])]:List Side)++acI len t)->s.holds P ρ:=fun s hm=>hs (pc,s) (List.mem_map.2 ⟨s,hm,rfl⟩) hp
     have i0:0<=(ti.den ρ).I:=tmH (side _ (List.mem_append_left _ (List.mem_of_getElem? (i:=0) rfl)))
     have i1:(ti.den ρ).I<((t.den ρ).R.length:Int):=tmH (side _ (List.mem_append_left _ (List.mem_of_getElem? (i:=1) rfl)))
     have j0:0<=(tj.den ρ).I:=tmH (side _ (List.mem_append_left _ (List.mem_of_getElem? (i:=2) rfl)))
     have j1:(tj.den ρ).I<((t.den ρ).R.length:Int):=tmH (side _ (List.mem_append_left _ (List.mem_of_getElem? (i:=3) rfl)))
     obtain ⟨-,rx⟩:=side _ (List.mem_append_left _ (List.mem_of_getElem? (i:=4) rfl))
     obtain ⟨-,ry⟩:=side _ (List.mem_append_left _ (List.mem_of_getElem? (i:=5) rfl))
     obtain ⟨rw1,sx1,sx2,sx3⟩:=side _ (List.mem_append_left _ (List.mem_of_getElem? (i:=6) rfl))
     obtain ⟨rw2,sy1,sy2,sy3⟩:=side _ (List.mem_append_left _ (List.mem_of_getElem? (i:=7) rfl))
     have hlen:(len.den ρ).I.toNat=(t.den ρ).R.length:=Q_ (P:=P) fun s hm=>side s (List.mem_append_right _ hm)
     have lx':(dQ ρ x).length=sz:=by rw [fZ,lx]
     have ly':(dQ ρ y).length=sz:=by rw [fZ,ly]
     rw [rx] at sx1;cases sx1
     rw [ayD (by rw [lx',ly'])] at sx3
     obtain ⟨I,hI⟩:∃I,I=(ti.den ρ).I.toNat:=⟨_,rfl⟩
     obtain ⟨J,hJ⟩:∃J,J=(tj.den ρ).I.toNat:=⟨_,rfl⟩
     have rj:∃z,((t.den ρ).R.set I (dQ ρ y))[J]?=some z/\z.length=sz:=by
      rw [List.getElem?_set]
      by_cases eij:I=J
      .rw [if_pos eij,if_pos (by omega)];exact ⟨_,rfl,ly'⟩
      .rw [if_neg eij,hJ];exact ⟨_,ry,ly'⟩
     obtain ⟨z,rz,lz⟩:=rj
     rw [sx3,<- hI,<- hJ,rz] at sy1;cases sy1
     rw [ayD (by rw [lx',lz]),sx3] at sy3
     rw [<- hI] at rx sy3
     rw [<- hJ] at ry sy3
     obtain ⟨v0,v1,v2,v3,rfl⟩:∃v0 v1 v2 v3,vs=[v0,v1,v2,v3]:=by
      match vs,hrep.1 with
      |[v0,v1,v2,v3],_=>exact ⟨v0,v1,v2,v3,rfl⟩
     have r0:=(hrep.2 0 _ v0 rfl rfl).iw
     have r1:=(hrep.2 1 _ v1 rfl rfl).iw
     have r3:=(hrep.2 3 _ v3 rfl rfl).iw
     have r2:=hrep.2 2 _ v2 rfl rfl
     subst r0;subst r1;subst r3
     obtain ⟨n,hn⟩:∃n,n=(len.den ρ).I.toNat:=⟨_,rfl⟩
     have hi:I<n:=by omega
     have hj:J<n:=by omega
     obtain ⟨c0,o0,cap,hown,rfl⟩:∃c0 o0 cap,E.own b=.at c0 o0/\v2=.slice (some ⟨c0,o0+0*sz,none⟩) n cap:=by
      generalize hm:SV.den ρ (.os b sz 0 len)=A at r2
      have hm:A=.os b sz 0 n:=by rw [hn];exact hm.symm
      subst hm
      cases r2 with
      |mM=>omega
      |os _ _ _ _ c0 o0 cap hb=>exact ⟨c0,o0,cap,hb,rfl⟩
     have hnb:¬nx<=b:=fun hc=>by have:=hh.aen hc;rw [hab] at this;cases this
     have px:Rep w E (.op b sz I 0) (.pointer (some ⟨c0,o0+I*sz+0,none⟩)):=.op _ _ _ _ _ _ hown
     have py:Rep w E (.op b sz J 0) (.pointer (some ⟨c0,o0+J*sz+0,none⟩)):=.op _ _ _ _ _ _ hown
     obtain ⟨q1,vx,rfl,-,ex,hvx⟩:=Io (K:=fun r=>r=⟨.agg (dQ ρ x),[],[b]⟩) hh (t:=e) (a:=.op b sz I 0) (by
      unfold MR
      rw [g7]
      dsimp only [gu]
      rw [hab]
      dsimp only [SB.den]
      refine ⟨rfl,?_⟩
      rw [rx]
      refine ⟨by simp [lx'],?_⟩
      simp [<- lx']) px
     obtain ⟨q2,vy,rfl,-,ey,hvy⟩:=Io (K:=fun r=>r=⟨.agg (dQ ρ y),[],[b]⟩) hh (t:=e) (a:=.op b sz J 0) (by
      unfold MR
      rw [g7]
      dsimp only [gu]
      rw [hab]
      dsimp only [SB.den]
      refine ⟨rfl,?_⟩
      rw [ry]
      refine ⟨by simp [ly'],?_⟩
      simp [<- ly']) py
     obtain ⟨q3,w1,E1,rfl,s1,st1,hh1,-⟩:=OL (K:=fun r=>r=⟨.p undef,[(b,some (.rows sz ((t.den ρ).R.set I (dQ ρ y))))],[b]⟩) (id:=b) hh (t:=e) (a:=.op b sz I 0) (v:=.agg (dQ ρ y)) (by
      unfold Fv
      rw [g7]
      dsimp only [gu]
      rw [hab]
      dsimp only [SB.den]
      refine ⟨rfl,rfl,ly',?_⟩
      rw [rx]
      refine ⟨by simp [lx'],?_⟩
      show _=_
      rw [show AV.cells (.agg (dQ ρ y))=dQ ρ y from rfl,ayD (by rw [lx',ly'])]) px hvy
     obtain ⟨q4,w2,E2,rfl,s2,st2,hh2,-⟩:=OL (K:=fun r=>r=⟨.p undef,[(b,some (.rows sz (((t.den ρ).R.set I (dQ ρ y)).set J (dQ ρ x))))],[b]⟩) (id:=b) hh1 (t:=e) (a:=.op b sz J 0) (v:=.agg (dQ ρ x)) (by
      unfold Fv
      rw [g7]
      dsimp only [gu]
      rw [show qU ah [(b,some (.rows sz ((t.den ρ).R.set I (dQ ρ y))))] b=some (.rows sz ((t.den ρ).R.set I (dQ ρ y))) by simp [qU,upd]]
      refine ⟨rfl,rfl,lx',?_⟩
      rw [rz]
      refine ⟨by simp [lz],?_⟩
      show _=_
      rw [show AV.cells (.agg (dQ ρ x))=dQ ρ x from rfl,ayD (by rw [lx',lz])]) (py.mono st1.ext) (hvx.mono st1.ext)
     have hrun:(Extern.ReflectliteSwapper.swap false #[.int .i64 (ti.den ρ).I,.int .i64 (tj.den ρ).I,.slice (some ⟨c0,o0+0*sz,none⟩) n cap,typeHandle P e]).run P w=.ok (.tuple #[]) w2:=by
      rw [show (ti.den ρ).I=(I:Int) by omega,show (tj.den ρ).I=(J:Int) by omega,aj8 I J _ _ _ _ hi hj]
      rw [adv] at ex ey
      rw [aaW] at s1 s2
      have ai:(⟨c0,o0,none⟩:Addr).add (I*sz)=⟨c0,o0+I*sz+0,none⟩:=by
       simp [Addr.add]
      have aj:(⟨c0,o0,none⟩:Addr).add (J*sz)=⟨c0,o0+J*sz+0,none⟩:=by
       simp [Addr.add]
      simp only [Nat.add_zero] at ai aj ex ey s1 s2
      simp [Extern.ReflectliteSwapper.exchange,Extern.Rtype.ofHandle,handleType,typeHandle,Result.andThen,adw g7,ai,aj,ex,ey,s1,s2]
     refine wJ hc.l9 he hrun ?_
     refine hnext _ rfl _ _ E2 (qU ah [(b,some (.rows sz (((t.den ρ).R.set I (dQ ρ y)).set J (dQ ρ x))))]) ?_ (st1.trans st2) ?_ (.p rfl)
     .have:=O_ (ρ:=ρ) (wr:=[(b,some (.fO sz (.var (nv+3) [])))]) hah
      simp only [List.map_cons,List.map_nil,Option.map_some,SB.den,sy3] at this ⊢
      exact this
     .have e2:qU (qU ah [(b,some (.rows sz ((t.den ρ).R.set I (dQ ρ y))))]) [(b,some (.rows sz (((t.den ρ).R.set I (dQ ρ y)).set J (dQ ρ x))))]=qU ah [(b,some (.rows sz (((t.den ρ).R.set I (dQ ρ y)).set J (dQ ρ x))))]:=by
       simp only [qU]
       exact JI _ _ _ _
      rw [e2] at hh2
      exact hh2.weaken fun b' hb'=>⟨⟨hb',fun e=>hnb (e▸hb')⟩,fun e=>hnb (e▸hb')⟩
    .cases h
   .cases h
  .cases h
def aqb (l:List FuncId):Nat->SV->Bool
 |0,_=>true
 |n+1,.fn f _ _=>l.contains f
 |n+1,.agg cs=>cs.any (aqb l n)
 |_,_=>false
def aqc (l:List FuncId)(I:Ew):Ew:=fun pc th nx nv f args=>bif args.any (aqb l 5) then none else I pc th nx nv f args
theorem ank {P:Program}{l:List FuncId}{I:Ew}(h:∀σ:List AV,iT σ=true->n_ P σ I):∀σ:List AV,iT σ=true->n_ P σ (aqc l I):=by
 intro σ hσ pc th nx nv f args R hR
 unfold aqc at hR
 cases hb:args.any (aqb l 5)
 .rw [hb] at hR;exact h σ hσ pc th nx nv f args R hR
 .rw [hb] at hR;cases hR
end Go.Fw
end
section
namespace Go.Fw
variable [jU]
abbrev V (n:Nat):Tm:=.var n []
abbrev W (n j:Nat):Tm:=.var n [j]
abbrev kI : Kd:=.int .i64
abbrev kU : Kd:=.int .u8
abbrev zI (t:Tm):SV:=.sc (.int .i64) t
abbrev zU (t:Tm):SV:=.sc (.int .u8) t
abbrev zB (t:Tm):SV:=.sc .bool t
abbrev zS (t:Tm):SV:=.sc .str t
abbrev zF (t:Tm):SV:=.sc .kS t
abbrev zL (t:Tm):SV:=.sc .sl t
abbrev qL (a b:Tm):Tm:=.bin .lss (.int .i64) a b
abbrev qM (a b:Tm):Tm:=.bin .leq (.int .i64) a b
abbrev qG (a b:Tm):Tm:=.bin .gtr (.int .i64) a b
abbrev qH (a b:Tm):Tm:=.bin .geq (.int .i64) a b
abbrev qE (a b:Tm):Tm:=.bin .eql (.int .i64) a b
abbrev qN (a b:Tm):Tm:=.bin .neq (.int .i64) a b
abbrev uE (a b:Tm):Tm:=.bin .eql (.int .u8) a b
abbrev uN (a b:Tm):Tm:=.bin .neq (.int .u8) a b
abbrev sE (a b:Tm):Tm:=.bin .eql .str a b
abbrev sN (a b:Tm):Tm:=.bin .neq .str a b
abbrev aI (a b:Tm):Tm:=.bin .add (.int .i64) a b
abbrev mI (a b:Tm):Tm:=.bin .sub (.int .i64) a b
abbrev cV (n:Nat)(l:List Kd):List SV:=iD n [] 0 l
abbrev cW (n j:Nat)(l:List Kd):List SV:=iD n [] j l
abbrev eI (n:Int):AV:=.p (.int .i64 n)
abbrev eU (n:Int):AV:=.p (.int .u8 n)
abbrev eB (b:Bool):AV:=.p (.bool b)
abbrev eF (n:Nat):AV:=.p (.float .f64 n)
abbrev eS (s:List UInt8):AV:=.str s
abbrev eL {α:Type}(f:α->List AV)(l:List α):AV:=.sl (List.map f l) false
class Fz (a:AV):Prop where h:a.fz=true
class QG (l:List AV):Prop where h:iT l=true
class VF {α:Type}(f:α->List AV):Prop where h:∀x,iT (f x)=true
instance {v : Value}:Fz (.p v):=⟨rfl⟩
instance {s : List UInt8}:Fz (.str s):=⟨rfl⟩
instance {l : List AV} [h:QG l]:Fz (.agg l):=⟨h.h⟩
instance {l : List AV} [h:QG l]:Fz (.fA l):=⟨h.h⟩
instance {α : Type} {f:α->List AV} [h:VF f] {l:List α}:Fz (.sl (List.map f l) false):=⟨fzs h.h l⟩
instance : QG []:=⟨rfl⟩
instance : Fz eX:=⟨rfl⟩
instance {a : AV} {l:List AV} [h:Fz a] [k:QG l]:QG (a::l):=⟨fQ h.h k.h⟩
theorem afC : ∀{a b:List AV},iT a=true->iT b=true->iT (a++b)=true
 |[],b,_,h=>h
 |x::r,b,h1,h2=>by
  simp only [iT,Bool.and_eq_true,List.cons_append] at h1 ⊢
  exact ⟨h1.1,afC h1.2 h2⟩
instance {a b:List AV} [h:QG a] [k:QG b]:QG (a++b):=⟨afC h.h k.h⟩
instance (priority :=low) {α:Type} {f:α->List AV} [h:VF f] {x:α}:QG (f x):=⟨h.h x⟩
instance {b : Bool} {x y:List AV} [h:QG x] [k:QG y]:QG (bif b then x else y):=⟨fzb h.h k.h⟩
instance : VF rowB:=⟨amD⟩
instance : VF DY:=⟨amE⟩
instance : VF ajV:=⟨ajW⟩
instance : VF apD:=⟨amF⟩
instance {K V:Type} {f:K->List AV} {g:V->List AV} [h:VF f] [k:VF g]:VF (zW f g):=⟨amR h.h k.h⟩
class OE {α:Type}(f:α->List AV)(n:outParam Nat):Prop where h:∀x,(f x).length=n
instance : OE rowB 1:=⟨fun _=>rfl⟩
instance : OE DY 1:=⟨fun _=>rfl⟩
instance : OE ajV 1:=⟨fun _=>rfl⟩
instance : OE apD 1:=⟨fun _=>rfl⟩
theorem OE.KF {α:Type}{f:α->List AV}{n:Nat}[h:OE f n](l:List α):lI n (l.map f):=by
 intro row hr
 obtain ⟨x,-,rfl⟩:=List.mem_map.1 hr
 exact h.h x
section
variable {P : Program} {T:BR} {ρ:List AV} {pc:Pc} {r:List (Pc×Side)}
theorem wn : vG P T ρ []:=trivial
theorem wX {s:Side}(h:Pc.holds ρ pc->s.wk P T ρ)(k:vG P T ρ r):vG P T ρ ((pc,s)::r):=⟨h,k⟩
theorem wT (k:vG P T ρ r){t:Tm}:vG P T ρ ((pc,.tm t)::r):=⟨fun _ h=>h.1,k⟩
theorem Y6 {a b:Tm}(h:((G_ a b).den ρ).B=true):(a.den ρ).I<=(b.den ρ).I:=of_decide_eq_true h
theorem ltH {a b:Tm}(h:((tLt a b).den ρ).B=true):(a.den ρ).I<(b.den ρ).I:=of_decide_eq_true h
theorem wR {t i:Tm}{cells:List SV}{α:Type}{f:α->List AV}{l:List α}(ht:(t.den ρ).R=List.map f l)(k:vG P T ρ r)[Inhabited α](hc:dQ ρ cells=f (l.getD (i.den ρ).I.toNat default):=by rfl):vG P T ρ ((pc,.row t i cells)::r):=by
 refine ⟨fun _ h=>?_,k⟩
 have h0:0<=(i.den ρ).I:=Y6 h.1
 have h1:(i.den ρ).I<m_ (t.den ρ).R:=ltH h.2.1
 refine ⟨h0,?_⟩
 rw [ht] at h1 ⊢
 rw [hc]
 exact (aoc h0 (by simpa [m_] using h1)).2
theorem Vu {t i:Tm}{off:Nat}{ty:Bool×Nat}{v:SV}{α:Type}{f:α->List AV}{l:List α}(ht:(t.den ρ).R=List.map f l)(k:vG P T ρ r)[Inhabited α]{y:AV}(hv:v.den ρ=y:=by rfl)(hc:apart ty (f (l.getD (i.den ρ).I.toNat default)) off (fun x=>x=y):=by first|exact rfl|exact ⟨Nat.le_of_ble_eq_true rfl,rfl⟩):vG P T ρ ((pc,.rd ty t i off v)::r):=by
 refine ⟨fun _ h=>?_,k⟩
 have h0:0<=(i.den ρ).I:=Y6 h.1
 have h1:(i.den ρ).I<m_ (t.den ρ).R:=ltH h.2.1
 refine ⟨f (l.getD (i.den ρ).I.toNat default),?_,?_⟩
 .rw [ht] at h1 ⊢
  exact (aoc h0 (by simpa [m_] using h1)).2
 .rw [hv];exact hc
theorem wSt {t i m:Tm}{off:Nat}{cells:List SV}{α:Type}{f:α->List AV}{l:List α}(y:α)(ht:(t.den ρ).R=List.map f l)(k:vG P T ρ r)[Inhabited α]{N:Nat}[hn:OE f N](hm:(m.den ρ).R=List.map f (l.set (i.den ρ).I.toNat y):=by rfl)(hc:Nat.ble (off+cells.length) N=true:=by rfl)(hy:f y=lay (f (l.getD (i.den ρ).I.toNat default)) off (dQ ρ cells):=by rfl):vG P T ρ ((pc,.st t i off cells m)::r):=by
 refine ⟨fun _ h=>?_,k⟩
 have h0:0<=(i.den ρ).I:=Y6 h.1
 have h1:(i.den ρ).I<m_ (t.den ρ).R:=ltH h.2.1
 rw [ht] at h1
 have h2:(i.den ρ).I<(l.length:Int):=by simpa [m_] using h1
 obtain ⟨row,q1,q2,q3⟩:=amS (off:=off) (cells:=dQ ρ cells) (f:=f) (l:=l) y h0 h2 hn.h (by rw [fZ];exact hc) hy
 exact ⟨row,by rw [ht];exact q1,by rw [<- fZ (ρ:=ρ)];exact q2,by rw [hm,ht];exact q3⟩
theorem UY {t m:Tm}{lo hi:Option Tm}{sz:Nat}{α:Type}{f:α->List AV}{l:List α}(ht:(t.den ρ).R=List.map f l)(k:vG P T ρ r)[hn:OE f sz](hm:(m.den ρ).R=List.map f ((l.drop (Wy ρ 0 lo).toNat).take ((Wy ρ l.length hi).toNat-(Wy ρ 0 lo).toNat)):=by rfl):vG P T ρ ((pc,.sub sz t lo hi m)::r):=by
 refine ⟨fun _ h=>?_,k⟩
 have e:(t.den ρ).R.length=l.length:=by rw [ht];simp
 show lI sz (t.den ρ).R/\_
 rw [e]
 have hl:(((Tm.rlen t).den ρ).I:Int)=l.length:=by show m_ (t.den ρ).R=_;unfold m_;rw [e]
 refine ⟨by rw [ht];exact OE.KF l,?_,?_,?_,by rw [hm,ht];simp⟩
 .cases lo with
  |none=>exact Int.le_refl _
  |some a=>cases hi with
   |none=>exact Y6 h.1
   |some b=>exact Y6 h.1
 .cases lo with
  |none=>cases hi with
   |none=>exact Int.natCast_nonneg _
   |some b=>exact Y6 h.1
  |some a=>cases hi with
   |none=>have:=Y6 h.2.1;rw [hl] at this;exact this
   |some b=>exact Y6 h.2.1
 .cases lo with
  |none=>cases hi with
   |none=>exact Int.le_refl _
   |some b=>have:=Y6 h.2.1;rw [hl] at this;exact this
  |some a=>cases hi with
   |none=>exact Int.le_refl _
   |some b=>have:=Y6 h.2.2.1;rw [hl] at this;exact this
theorem akQ {k:Nat}:((aku k).den ρ).I=big-k:=by
 unfold aku;rw [xE,S_];rfl
theorem Y7 {t:Tm}:((Tm.rlen t).den ρ).I=((t.den ρ).R.length:Int):=rfl
theorem wMk {len cap m:Tm}{z:List SV}{α:Type}{f:α->List AV}(y:α)(hm:(m.den ρ).R=List.map f (List.replicate (len.den ρ).I.toNat y))(k:vG P T ρ r)(hy:f y=dQ ρ z:=by rfl):vG P T ρ ((pc,.mk len cap z m)::r):=by
 refine ⟨fun _ h=>?_,k⟩
 exact ⟨Y6 h.1,Y6 h.2.1,Y6 h.2.2.1,by rw [hm,List.map_replicate,hy]⟩
theorem asf {x m:Tm}{y:List (List SV)}{sz:Nat}{α:Type}{f:α->List AV}{l:List α}(q:List α)(hx:(x.den ρ).R=List.map f l)(k:vG P T ρ r)[hn:OE f sz](hy:iL ρ y=List.map f q:=by rfl)(hm:(m.den ρ).R=List.map f (l++q):=by rfl):vG P T ρ ((pc,.app sz x y m)::r):=by
 refine ⟨fun _ h=>?_,k⟩
 have h1:=Y6 h.1
 rw [akQ,Y7] at h1
 unfold big at h1
 exact ⟨by rw [hx];exact OE.KF l,by omega,by rw [hm,hx,hy];simp⟩
theorem asg {x y:Tm}(h:nO ρ [G_ (.rlen y) (.li big),G_ (.rlen x) (afr (.rlen y))]):(x.den ρ).R.length+(y.den ρ).R.length<=4294967296:=by
 have h1:=Y6 h.1
 have h2:=Y6 h.2.1
 have e:(((afr (.rlen y)).den ρ).I)=iU .i64 big (m_ (y.den ρ).R):=rfl
 rw [Y7] at h1 h2
 have h1':((y.den ρ).R.length:Int)<=big:=h1
 rw [e,wM (by unfold m_;unfold big at *;omega) (by unfold m_;unfold big at *;omega)] at h2
 unfold m_ at h2
 unfold big at h2
 omega
theorem ash {x y m:Tm}{sz:Nat}{α:Type}{f:α->List AV}{l q:List α}(hx:(x.den ρ).R=List.map f l)(hy:(y.den ρ).R=List.map f q)(k:vG P T ρ r)[hn:OE f sz](hm:(m.den ρ).R=List.map f (l++q):=by rfl):vG P T ρ ((pc,.ZR sz x y m)::r):=by
 refine ⟨fun _ h=>?_,k⟩
 exact ⟨by rw [hx];exact OE.KF l,by rw [hy];exact OE.KF q,asg h,by rw [hm,hx,hy];simp⟩
theorem abk (k:vG P T ρ r){m:Nat}{y:Tm}:vG P T ρ ((pc,.len2 m y)::r):=by
 refine ⟨fun _ h=>?_,k⟩
 have h1:=Y6 h.1
 rw [akQ,Y7] at h1
 unfold big at h1
 show m+_<=_
 omega
theorem adS {m:Nat}{t:Tm}{α:Type}{f:α->List AV}{l:List α}(ht:(t.den ρ).R=List.map f l)(k:vG P T ρ r)[hn:OE f m]:vG P T ρ ((pc,.KF m t)::r):=
 ⟨fun _ _=>by show lI m _;rw [ht];exact OE.KF l,k⟩
theorem auK {x len y m:Tm}{α:Type}{f:α->List AV}{l q:List α}(hx:(x.den ρ).R=List.map f l)(hy:(y.den ρ).R=List.map f q)(k:vG P T ρ r)(hm:(m.den ρ).R=List.map f (q.take (len.den ρ).I.toNat++l.drop (min q.length (len.den ρ).I.toNat)):=by rfl):vG P T ρ ((pc,.cpy x len y m)::r):=by
 refine ⟨fun _ h=>?_,k⟩
 have h1:=Y6 h.1
 rw [Y7] at h1
 exact ⟨by omega,by rw [hm,hx,hy];simp⟩
theorem wC {f:FuncId}{args:List SV}{v:SV}{az:List AV}{y:AV}(h:CT P T f az y)(k:vG P T ρ r)(ha:dQ ρ args=az:=by rfl)(hv:v.den ρ=y:=by rfl):vG P T ρ ((pc,.call f args v)::r):=by
 subst ha;subst hv
 exact ⟨fun _=>h,k⟩
theorem ctP {f:FuncId}{az:List AV}{y:AV}(h:PC P f az y)(hT:T.at f=sp0:=by rfl):CT P T f az y:=fun _=>⟨h,fun _=>by rw [hT];trivial⟩
theorem ctW {f:FuncId}{az:List AV}{y:AV}(hr:y.flat=true)(h:CTw P T f az [] 0 y [])(h1:(T.atW f 0).pre=(T.at f).pre:=by rfl)(hT:(T.at f).post=[]:=by rfl):CT P T f az y:=fun hp=>by
 rw [<- h1] at hp
 exact ⟨akd hr (h (by simpa [avB] using hp)).1,fun _=>by rw [hT];trivial⟩
theorem wCp {f:FuncId}{args:List SV}{v:SV}{az:List AV}{y:AV}(h:Pc.holds ρ pc->CT P T f az y)(k:vG P T ρ r)(ha:dQ ρ args=az:=by rfl)(hv:v.den ρ=y:=by rfl):vG P T ρ ((pc,.call f args v)::r):=by
 subst ha;subst hv
 exact ⟨h,k⟩
theorem aqd {f:FuncId}{az:List AV}{y z:AV}{p:List Nat}{sz:Nat}(e:KG az->y=z)(h:CTo P T f az y p sz)(hT:(T.at f).post=[]:=by rfl):CTo P T f az z p sz:=fun hp=>⟨afh fun hb=>e hb▸(h hp).1,fun _=>by rw [hT];trivial⟩
theorem anl {f:FuncId}{az:List AV}{y z:AV}{p:List Nat}{sz:Nat}(e:y=z)(h:CTo P T f az y p sz):CTo P T f az z p sz:=e▸h
theorem wO {f:FuncId}{args:List SV}{v:SV}{p:List Nat}{sz:Nat}{az:List AV}{y:AV}(h:CTo P T f az y p sz)(k:vG P T ρ r)(ha:dQ ρ args=az:=by rfl)(hv:v.den ρ=y:=by rfl):vG P T ρ ((pc,.KO f args v p sz false)::r):=by
 subst ha;subst hv
 exact ⟨fun _=>⟨h,fun e=>by cases e⟩,k⟩
theorem wOf {f:FuncId}{args:List SV}{v:SV}{p:List Nat}{sz:Nat}{az:List AV}{y:AV}(h:CTo P T f az y p sz){α:Type}{g:α->List AV}{l:List α}(hl:Dj p (v.den ρ)=List.map g l)(k:vG P T ρ r)(hg:∀x,zN (g x)=true:=by intro _;rfl)(ha:dQ ρ args=az:=by rfl)(hv:v.den ρ=y:=by rfl):vG P T ρ ((pc,.KO f args v p sz true)::r):=by
 subst ha;subst hv
 refine ⟨fun _=>⟨h,fun _ row hr=>?_⟩,k⟩
 rw [hl] at hr
 obtain ⟨x,-,rfl⟩:=List.mem_map.1 hr
 exact hg x
theorem wW {f:FuncId}{args:List SV}{bl H_:List (Nat×SB)}{n0:Nat}{v:SV}{az:List AV}{y:AV}{b b':List (Nat×vH)}(h:CTw P T f az b n0 y b')(k:vG P T ρ r)(ha:dQ ρ args=az:=by rfl)(hb:FV ρ bl=b:=by rfl)(hv:v.den ρ=y:=by rfl)(hb':FV ρ H_=b':=by rfl):vG P T ρ ((pc,.pJ f args bl n0 v H_)::r):=by
 subst ha;subst hb;subst hv;subst hb'
 exact ⟨fun _ _=>h,k⟩
theorem wWp {f:FuncId}{args:List SV}{bl H_:List (Nat×SB)}{n0:Nat}{v:SV}{az:List AV}{y:AV}{b b':List (Nat×vH)}(h:Pc.holds ρ pc->CTw P T f az b n0 y b')(k:vG P T ρ r)(ha:dQ ρ args=az:=by rfl)(hb:FV ρ bl=b:=by rfl)(hv:v.den ρ=y:=by rfl)(hb':FV ρ H_=b':=by rfl):vG P T ρ ((pc,.pJ f args bl n0 v H_)::r):=by
 subst ha;subst hb;subst hv;subst hb'
 exact ⟨fun hp _=>h hp,k⟩
theorem wWL {f:FuncId}{args:List SV}{bl H_:List (Nat×SB)}{n0:Nat}{v:SV}{az:List AV}{y:AV}{b b':List (Nat×vH)}(h:((osT args bl).1.den ρ).I.toNat=((osT args bl).2.den ρ).R.length->CTw P T f az b n0 y b')(k:vG P T ρ r)(he:(osL args).isSome=true:=by rfl)(ha:dQ ρ args=az:=by rfl)(hb:FV ρ bl=b:=by rfl)(hv:v.den ρ=y:=by rfl)(hb':FV ρ H_=b':=by rfl):vG P T ρ ((pc,.pJ f args bl n0 v H_)::r):=by
 subst ha;subst hb;subst hv;subst hb'
 refine ⟨fun _ ho=>h ?_,k⟩
 simp only [Side.osE] at ho
 cases e:osL args with
 |none=>rw [e] at he;cases he
 |some z=>
  rw [e] at ho
  have:=mD.1 ho.1
  rw [this];exact Int.toNat_natCast _
theorem wU {pc':Pc}{s:Side}(h:vG P T ρ [(pc',s)])(k:vG P T ρ r):vG P T ρ ((pc,.under pc' s)::r):=⟨fun _ hp=>h.1 hp,k⟩
theorem asi {t d len n:Tm}{u:List (Int×Bool)}{l:List Bool}(ht:(t.den ρ).R=List.map (zW DY rowB) u)(hd:(d.den ρ).R=List.map rowB l)(hk:Pc.holds ρ pc->∀e∈u,0<=e.1/\e.1<(len.den ρ).I)(k:vG P T ρ r)(hn:(n.den ρ).R=List.map rowB (NV u l):=by rfl):vG P T ρ ((pc,.mark ⟨false,1,false,1⟩ t d len n)::r):=by
 refine ⟨fun hp h=>?_,k⟩
 have h1:(len.den ρ).I<=m_ (d.den ρ).R:=Y6 h.1
 have hk:=hk hp
 have e0:(t.den ρ).R.map (qY ⟨false,1,false,1⟩)=u.map fun e=>(.p (.int .i64 e.1),.p (.bool e.2)):=by
  rw [ht,List.map_map];rfl
 have e1:(d.den ρ).R.length=l.length:=by rw [hd,List.length_map]
 unfold m_ at h1
 refine ⟨by omega,?_,?_,?_⟩
 .rw [e0]
  intro e he
  obtain ⟨x,hx,rfl⟩:=List.mem_map.1 he
  have:=hk x hx
  exact ⟨_,_,rfl,this.1,by omega⟩
 .rw [hn,hd];simp [NV]
 .intro i hi
  rw [e1] at hi
  rw [e0,hn,hd]
  have e2:((u.map fun e=>((AV.p (.int .i64 e.1),AV.p (.bool e.2)):AV×AV)).any fun e=>Nat.beq (kOf e.1) i)=u.any fun e=>Nat.beq e.1.toNat i:=by
   rw [List.any_map];rfl
  rw [e2]
  simp only [List.getElem?_map,NV,List.getElem?_mapIdx]
  rw [List.getElem?_eq_getElem hi]
  simp only [Option.map_some]
  cases hq:u.any fun e=>Nat.beq e.1.toNat i
  .simp
  .simp [rowB,TT]
theorem aoq {K V:Type}[DecidableEq K]{f:K->List AV}{g:V->List AV}{kt:TypeId}{m:MSh}{t ft:Tm}{kk z v:SV}(hk:∀a b:K,aeq P 10000 kt (nJ m.ka (f a)) (nJ m.ka (f b))=some (decide (a=b)))(key:K)(zero:V){l:List (K×V)}(ht:(t.den ρ).R=List.map (zW f g) l)(k:vG P T ρ r)(hf:∀k,(f k).length=m.kn:=by intro _;rfl)(h1:kk.den ρ=nJ m.ka (f key):=by rfl)(h2:z.den ρ=nJ m.va (g zero):=by rfl)(h3:(ft.den ρ).B=(nS zero key l).1:=by rfl)(h4:v.den ρ=nJ m.va (g (nS zero key l).2):=by rfl):vG P T ρ ((pc,.look kt m t kk z ft v)::r):=by
 refine ⟨fun _ _=>?_,k⟩
 show ∃r,_
 rw [h1,h2,h3,h4,ht]
 exact Xn hk hf key zero l
theorem asj {K V:Type}[DecidableEq K]{f:K->List AV}{g:V->List AV}{kt:TypeId}{m:MSh}{t nt:Tm}{kk v:SV}(hk:∀a b:K,aeq P 10000 kt (nJ m.ka (f a)) (nJ m.ka (f b))=some (decide (a=b)))(key:K)(val:V){l:List (K×V)}(ht:(t.den ρ).R=List.map (zW f g) l)(k:vG P T ρ r)(hf:∀k,(f k).length=m.kn:=by intro _;rfl)(h1:kk.den ρ=nJ m.ka (f key):=by rfl)(h2:v.den ρ=nJ m.va (g val):=by rfl)(h3:(nt.den ρ).R=List.map (zW f g) (nT key val l):=by rfl):vG P T ρ ((pc,.put kt m t kk v nt)::r):=by
 refine ⟨fun _ _=>?_,k⟩
 show ∃r,_
 rw [h1,h2,h3,ht]
 exact aa1 hk hf key val l
end
def uP (P:Program)(T:BR)(L:Lo)(H:LH)(ρ0:List AV)(n:Nat)(vs:List AV)(r:Nat×List AV):Prop:=
 match L with
 | .mk _ _ m _ outs sd aw _ _=>akC H.mt.Oc (fun σ=>zl σ H.xs/\vG P T σ sd/\Xv P T aw H.sub σ) outs ρ0 m n vs r.1 r.2
def asl (e:Bool)(S:List AV->Prop)(outs:List (Tm×Nat×List SV))(ρ0:List AV)(m n:Nat)(σ:List AV)(o:Option (Nat×List SV))(r:Nat×List AV):Prop:=
 match o with
 |none=>False
 |some (0,l)=>akC e S outs ρ0 m n (dQ σ l) r.1 r.2
 |some (j+1,l)=>r.1=j/\r.2=dQ σ l
def QV (P:Program)(T:BR)(L:Lo)(H:LH)(ρ0:List AV)(n:Nat)(σ:List AV)(o:Option (Nat×List SV))(r:Nat×List AV):Prop:=
 match L with
 | .mk _ _ m _ outs sd aw _ _=>asl H.mt.Oc (fun σ=>zl σ H.xs/\vG P T σ sd/\Xv P T aw H.sub σ) outs ρ0 m n σ o r
theorem l0 {P:Program}{T:BR}{L:Lo}{H:LH}{ρ0 vs:List AV}{r:Nat×List AV}(h:H.mt.Oc=false:=by rfl):uP P T L H ρ0 0 vs r:=by cases L;exact h
theorem Og {P:Program}{T:BR}{H:LH}{ρ0 vs:List AV}{n:Nat}{r:Nat×List AV}{pc:Pc}{base m:Nat}{entry:List SV}{outs:List (Tm×Nat×List SV)}{sd:List (Pc×Side)}{aw:List Lo}{ms:List Nat}{bn:List Tm}{L:Lo}(hL:L=.mk pc base m entry outs sd aw ms bn)
  (cs:List AV) [hf:QG (ρ0++vs++cs)] (hx:zl (ρ0++vs++cs) H.xs) (hw:vG P T (ρ0++vs++cs) sd) (hl:Xv P T aw H.sub (ρ0++vs++cs)) (h:QV P T L H ρ0 n (ρ0++vs++cs) (CJ (ρ0++vs++cs) outs) r) (hm:vs.length=m:=by rfl):uP P T L H ρ0 (n+1) vs r:=by
 subst hL
 refine ⟨cs,hm,hf.h,⟨hx,hw,hl⟩,?_⟩
 unfold QV asl at h
 dsimp only at h
 split at h
 .exact h.elim
 .rename_i l e;first|exact h|(rw [e];exact h)
 .rename_i j l e;first|exact h|(rw [e];exact h)
theorem rcf {P:Program}{T:BR}{L:Lo}{H:LH}{ρ0 σ:List AV}{n:Nat}{R:Type}(rk:R->Nat×List AV){g:Tm}{x:Nat×List SV}{y:Tm×Nat×List SV}{l:List (Tm×Nat×List SV)}{c:Bool}{a b:R}(h1:c=true->QV P T L H ρ0 n σ (some x) (rk a))(h2:c=false->QV P T L H ρ0 n σ (CJ σ (y::l)) (rk b))(hg:(g.den σ).B=c:=by rfl):QV P T L H ρ0 n σ (CJ σ ((g,x)::y::l)) (rk (bif c then a else b)):=by
 simp only [CJ,hg]
 cases c
 .exact h2 rfl
 .exact h1 rfl
theorem rc {P:Program}{T:BR}{L:Lo}{H:LH}{ρ0 σ:List AV}{n:Nat}{R:Type}(rk:R->Nat×List AV){g:Tm}{x:Nat×List SV}{y:Tm×Nat×List SV}{l:List (Tm×Nat×List SV)}{c:Bool}{a b:R}(h1:QV P T L H ρ0 n σ (some x) (rk a))(h2:QV P T L H ρ0 n σ (CJ σ (y::l)) (rk b))(hg:(g.den σ).B=c:=by rfl):QV P T L H ρ0 n σ (CJ σ ((g,x)::y::l)) (rk (bif c then a else b)):=
 rcf rk (fun _=>h1) (fun _=>h2) hg
theorem rl {P:Program}{T:BR}{L:Lo}{H:LH}{ρ0 σ:List AV}{n:Nat}{r:Nat×List AV}{g:Tm}{x:Nat×List SV}(h:QV P T L H ρ0 n σ (some x) r):QV P T L H ρ0 n σ (CJ σ [(g,x)]) r:=h
theorem rg {P:Program}{T:BR}{L:Lo}{H:LH}{ρ0 σ vs:List AV}{n:Nat}{r:Nat×List AV}{l:List SV}(h:uP P T L H ρ0 n vs r)(hl:dQ σ l=vs:=by rfl):QV P T L H ρ0 n σ (some (0,l)) r:=by
 subst hl
 cases L;exact h
theorem rx {P:Program}{T:BR}{L:Lo}{H:LH}{ρ0 σ:List AV}{n:Nat}{r:Nat×List AV}{j:Nat}{l:List SV}(h1:r.1=j:=by rfl)(h2:r.2=dQ σ l:=by rfl):QV P T L H ρ0 n σ (some (j+1,l)) r:=by
 cases L;exact ⟨h1,h2⟩
theorem Xy {c a b:Bool}(h:c=false)(k:(bif c then a else b)=true):b=true:=by subst h;exact k
theorem ln {P:Program}{T:BR}{hs:List LH}{ρ:List AV}:Xv P T [] hs ρ:=trivial
theorem fuR {α:Type}{f:α->List AV}{l:List α}:1*m_ (List.map f l)+0<((l.length+1:Nat):Int):=by simp [m_];omega
theorem fuN {x:Int}:1*x+0<((x.toNat+1:Nat):Int):=by omega
theorem lc1 {P:Program}{T:BR}{ρ ρ0 vs:List AV}{hs:List LH}{ls:List Lo}{n m0:Nat}{us:List AV}{pc:Pc}{base m:Nat}{entry:List SV}{outs:List (Tm×Nat×List SV)}{sd:List (Pc×Side)}{aw:List Lo}{bn:List Tm}{L:Lo}
  (h:uP P T L (hdH hs) ρ0 n vs (0,us)) (k:Xv P T ls (tlH hs) ρ) (hL:L=.mk pc base m entry outs sd aw [m0] bn:=by rfl) (hb:Nat.ble base ρ.length=true:=by rfl) (h0:ρ.take base=ρ0:=by rfl) (hv:dQ ρ entry=vs:=by rfl)
  (hn:ftV ρ (hdH hs).ft<(n:Int):=by first|exact fuR|exact fuN) (hu:(ρ.drop base).take us.length=us:=by rfl) (hn0:Nat.blt 0 n=true:=by rfl):Xv P T (L::ls) hs ρ:=by
 subst hL;subst h0;subst hv
 refine ⟨?_,k⟩
 simp only [Lo.wk]
 rw [Nat.blt_eq] at hn0
 exact fun _ _=>⟨Nat.le_of_ble_eq_true hb,n,0,us,⟨hn0,hn⟩,h,fun h=>by simp at h,ajY hu⟩
theorem lc2 {P:Program}{T:BR}{ρ ρ0 vs:List AV}{hs:List LH}{ls:List Lo}{n m0 m1:Nat}{b:Bool}{u0 u1:List AV}{pc:Pc}{base m:Nat}{entry:List SV}{outs:List (Tm×Nat×List SV)}{sd:List (Pc×Side)}{aw:List Lo}{bn:List Tm}{L:Lo}
  (h:uP P T L (hdH hs) ρ0 n vs (Xi b u0 u1)) (k:Xv P T ls (tlH hs) ρ) (hL:L=.mk pc base m entry outs sd aw [m0,m1] bn:=by rfl) (hb:Nat.ble base ρ.length=true:=by rfl) (h0:ρ.take base=ρ0:=by rfl) (hv:dQ ρ entry=vs:=by rfl)
  (hn:ftV ρ (hdH hs).ft<(n:Int):=by first|exact fuR|exact fuN) (hk:(ρ.getD base eX).D.I=lW b:=by rfl) (hu0:(ρ.drop (base+1)).take u0.length=u0:=by rfl) (hu1:(ρ.drop (base+1+m0)).take u1.length=u1:=by rfl) (hn0:Nat.blt 0 n=true:=by rfl):Xv P T (L::ls) hs ρ:=by
 subst hL;subst h0;subst hv
 refine ⟨?_,k⟩
 simp only [Lo.wk]
 rw [Nat.blt_eq] at hn0
 refine fun _ _=>⟨Nat.le_of_ble_eq_true hb,n,(Xi b u0 u1).1,(Xi b u0 u1).2,⟨hn0,hn⟩,h,fun _=>?_,?_⟩
 .rw [hk];cases b<;>rfl
 .cases b
  .intro i u hu
   have:=ajY hu1 i u hu
   have e:ayo base [m0,m1] (Xi false u0 u1).1=base+1+m0:=by show (base+1)+(m0+0)=_;omega
   rw [e];exact this
  .intro i u hu
   have:=ajY hu0 i u hu
   have e:ayo base [m0,m1] (Xi true u0 u1).1=base+1:=rfl
   rw [e];exact this
theorem xn {ρ:List AV}:zl ρ []:=trivial
theorem xc {ρ:List AV}{pc:Pc}{t:Tm}{r:List (Pc×Tm)}(h:(t.den ρ).B=true)(k:zl ρ r):zl ρ ((pc,t)::r):=⟨fun _=>h,k⟩
theorem xp {ρ:List AV}{pc:Pc}{t:Tm}{r:List (Pc×Tm)}(h:Pc.holds ρ pc->(t.den ρ).B=true)(k:zl ρ r):zl ρ ((pc,t)::r):=⟨h,k⟩
section
variable {P : Program} {T:BR} {X:ql} {I0:Ew} {md:Md} {FC:FuncId->zT} {uJ CF f nv:Nat} {args:List SV} {az:List AV} {r:AV} {R:jg}
theorem wV (hm:P.follows .mixedOrders=true)(hX:∀σ:List AV,iT σ=true->oJ P σ X)(h0:∀σ:List AV,iT σ=true->n_ P σ I0)(h:kD P X I0 md FC uJ CF f args nv=some R)(H:LH)(hc:(abg T (T.at f) args args H R.sd R.aw&&abj T (T.at f) args args H R fun v=>some (args++[v]))=true)(ρ:List AV)[hρ:QG ρ](hx:zl ρ H.xs)(hw:vG P T ρ R.sd)(hl:Xv P T R.aw H.sub ρ)(hr:qV ρ R.rs=r)(ha:dQ ρ args=az:=by rfl):CT P T f az r:=
 auG hm hX h0 h H hc ρ hρ.h hx hw hl ha hr
theorem mkO (hm:P.follows .mixedOrders=true)(hX:∀σ:List AV,iT σ=true->oJ P σ X)(h0:∀σ:List AV,iT σ=true->n_ P σ I0){p:List Nat}{sz:Nat}(h:ady P X I0 md FC uJ CF f args nv p sz=some R)(H:LH)(hc:(abg T (T.at f) args args H R.sd R.aw&&abj T (T.at f) args args H R fun v=>some (args++[v]))=true)(ρ:List AV)[hρ:QG ρ](hx:zl ρ H.xs)(hw:vG P T ρ R.sd)(hl:Xv P T R.aw H.sub ρ)(hr:qV ρ R.rs=r)(ha:dQ ρ args=az:=by rfl):CTo P T f az r p sz:=
 asc hm hX h0 h H hc ρ hρ.h hx hw hl ha hr
theorem mkW (hm:P.follows .mixedOrders=true)(hX:∀σ:List AV,iT σ=true->oJ P σ X)(h0:∀σ:List AV,iT σ=true->n_ P σ I0){cs:List AV}{bl:List (Nat×SB)}{vw:List (Nat×Nat)}{n0:Nat}{bin KE:List (Nat×vH)}(h:NU P X I0 md FC uJ CF f args nv bl vw n0=some R)(H:LH)(hc:(abg T (T.atW f n0) (args++PS bl) args H R.sd R.aw&&abj T (T.atW f n0) (args++PS bl) args H R (akP args bl vw))=true)(ρ:List AV)[hρ:QG ρ](hx:zl ρ H.xs)(hw:vG P T ρ R.sd)(hl:Xv P T R.aw H.sub ρ)(hr:qV ρ R.rs=.fA (r::cs))(ha:dQ ρ args=az:=by rfl)(hb:FV ρ bl=bin:=by rfl)(hb2:uj ρ vw cs 0 bl=KE:=by rfl):CTw P T f az bin n0 r KE:=
 ase hm hX h0 h H hc ρ hρ.h hx hw hl ha hb hr hb2
end
end Go.Fw
end
section
namespace Go.Fw
def UZ (x0:List UInt8):dI:=
 (dI.mk x0 0)
def PV (x0:dL):dJ:=
 (dJ.mk 51 x0 (dL.mk 0 0 [] 0) (dL.mk 0 0 [] 0) true true true)
end Go.Fw
end
section
namespace Go.Fw
def fE (r:dK×gQ×Int):AV:=.fA [(dK.av r.1),(gQ.av r.2.1),(.p (.int .i64 r.2.2))]
def pU (r:dK×gQ):AV:=.fA [(dK.av r.1),(gQ.av r.2)]
def oP (r:dN×Int):AV:=.fA [(dN.av r.1),(.p (.int .i64 r.2))]
def oD (x0:List UInt8):dI:=
 (dI.mk x0 0)
def uq : dJ:=
 let v0:dL:=EM 4619567317775286272
 let v1:dJ:=PV v0
 v1
def Ju (x0:Int):dL:=
 (dL.mk 6 0 [] x0)
def qJ : dK:=
 let v0:dI:=oD [97]
 let v1:dJ:=uq
 let v2:dL:=Ju 0
 (dK.mk [(dN.mk 1 (dL.mk 1 0 [] 0) true [(dM.mk v0 v1)] (dL.mk 0 0 [] 0) (dL.mk 0 0 [] 0) [] false false),(dN.mk 1 v2 true [] (dL.mk 0 0 [] 0) (dL.mk 0 0 [] 0) [] false false)])
def iM (x0:dK)(u4:List Bool):Nat->Bool->Int->(List (Int×Bool))->(Bool×Bool×Int×List (Int×Bool)×Bool×List (Int×Bool))
 |0,_,_,_=>default
 |n+1,u5,u6,u7=>
  let v8:Bool:=u4.getD u6.toNat default
  let v9:Bool×Bool:=nS false u6 u7
  let v10:List (Int×Bool):=nT u6 true u7
  let v11:dN:=x0.Objects.getD u6.toNat default
  bif (!(!v8)) then (true,u5,u6,u7,default,default)
  else bif v9.2 then (false,default,default,default,true,u7)
  else bif (dW v11.fB.Kind 1) then (true,u5,u6,v10,default,default)
  else iM x0 u4 n u5 v11.fB.Ref v10
def kQ (x0:dK)(u4:List Bool):Nat->Bool->Int->(List (Int×Bool))->Bool
 |0,_,_,_=>false
 |n+1,u5,u6,u7=>
  let v8:Bool:=u4.getD u6.toNat default
  let v9:Bool×Bool:=nS false u6 u7
  let v10:List (Int×Bool):=nT u6 true u7
  let v11:dN:=x0.Objects.getD u6.toNat default
  bif (!(!v8)) then true
  else bif v9.2 then true
  else bif (dW v11.fB.Kind 1) then true
  else kQ x0 u4 n u5 v11.fB.Ref v10
def lK (x0:dK):Nat->Bool->Int->(List Bool)->(Bool×Bool×List Bool×Bool×List Bool)
 |0,_,_,_=>default
 |n+1,u2,u3,u4=>
  let r5:Bool×Bool×Int×List (Int×Bool)×Bool×List (Int×Bool):=iM x0 u4 (x0.Objects.length+3) u2 u3 []
  let v11:List Bool:=NV r5.2.2.2.1 u4
  bif (!(decide (u3<(jy dN.enc x0.Objects)))) then (true,u2,u4,default,default)
  else bif (!(dW (lW r5.1) 0)) then (false,default,default,r5.2.2.2.2.1,u4)
  else lK x0 n r5.2.1 (dZ .i64 u3 1) v11
def rW (x0:dK):Bool:=
 let v1:List Bool:=List.replicate ((jy dN.enc x0.Objects):Int).toNat false
 let r2:Bool×Bool×List Bool×Bool×List Bool:=lK x0 (x0.Objects.length+1) false 0 v1
 bif (!(dW (lW r2.1) 0)) then r2.2.2.2.1
 else false
def pV (x0:dL)(x1:Int):Bool:=
 let v2:Bool:=jh x0
 ((dW x0.Kind x1)&&v2)
def EU (x0:dN):Int:=
 bif x0.Makes then 8
 else bif x0.Calls then 7
 else 6
def fF (x0:dK)(x1:dL):Bool:=
 let v2:Bool:=jh x1
 let v3:Bool:=dR x1
 let v4:dN:=x0.Objects.getD x1.Ref.toNat default
 let v5:Int:=EU v4
 bif (!v2) then false
 else ((!v3)||((decide (x1.Ref<(jy dN.enc x0.Objects)))&&(dW v5 x1.Kind)))
def kR (x0:dK)(x2:Int):Nat->Bool->Int->(List dL)->(Bool×Bool×List dL×Bool×List dL)
 |0,_,_,_=>default
 |n+1,u6,u7,u8=>
  let v9:dL:=u8.getD u7.toNat default
  let v10:Bool:=dR v9
  let v11:Bool:=fF x0 v9
  bif (!(decide (u7<2))) then (true,u6,u8,default,default)
  else bif (((!v10)||(!v11))||(decide (v9.Ref>=x2))) then (false,default,default,false,u8)
  else kR x0 x2 n u6 (dZ .i64 u7 1) u8
def uw (x0:dK)(x1:dN)(x2:Int):Bool:=
 let v3:Bool:=pV x1.fB 1
 let v4:Bool:=pV x1.Target 1
 let v5:Bool:=pV x1.Handler 1
 let r6:Bool×Bool×List dL×Bool×List dL:=kR x0 x2 ((2:Int).toNat+1) false 0 [x1.Target,x1.Handler]
 let v11:dN:=x0.Objects.getD x1.Target.Ref.toNat default
 bif (((((decide (((jy dM.enc x1.Props):Int) > 0))||x1.Ext)||(!v3))||(sNe x1.Text []))||(x1.Makes&&(!x1.Calls))) then false
 else bif (v4&&v5) then true
 else bif (!(dW (lW r6.1) 0)) then r6.2.2.2.1
 else ((JL v11.Calls x1.Calls)&&(JL v11.Makes x1.Makes))
def kW (x0:Nat)(x1:List dM):Nat->Int->Int->(Bool×Int×Int)
 |0,_,_=>default
 |n+1,u2,u3=>
  let v4:dM:=x1.getD u3.toNat default
  let v5:Int×Bool:=uO v4.Key
  bif (!(decide (u3<(jy dM.enc x1)))) then (true,u2,default)
  else bif (v5.2&&(decide (v5.1>=(((FloatKind.f64.decode x0).toInt .zero).getD 0)))) then (false,default,u3)
  else kW x0 x1 n u2 (dZ .i64 u3 1)
def o_ (x0:Nat)(x1:List dM):Int:=
 let r2:Bool×Int×Int:=kW x0 x1 (x1.length+1) 0 0
 bif (!(dW (lW r2.1) 0)) then r2.2.2
 else (-1)
def nK (x0:Nat)(x1:List dM):Bool:=
 let w2:Int:=o_ x0 x1
 let r2:Int:=w2
 (decide (r2>=0))
def BU (x0:List dM):Bool:=
 let v1:dM:=x0.getD (0:Int).toNat default
 let v2:dI:=UZ [108,101,110,103,116,104]
 let v3:dM:=x0.getD (0:Int).toNat default
 let v4:Bool:=fD v3.dS
 let w5:Bool:=nK v3.dS.Value.Num x0
 let r5:Bool:=w5
 bif ((dW (jy dM.enc x0) 0)||(!((BF v1.Key.Str v2.Str)&&(dW v1.Key.Sym v2.Sym)))) then false
 else bif (((((!v4)||v3.dS.dV)||v3.dS.Configurable)||(je v3.dS.Value.Kind 3))||(!((ZK v3.dS.Value.Num 0)&&(Yd v3.dS.Value.Num 4652218415073722368)))) then false
 else (!r5)
def lQ (x0:List dM)(x1:List UInt8):Nat->Int->Int->(Bool×Int×Int)
 |0,_,_=>default
 |n+1,u2,u3=>
  let v4:dM:=x0.getD u3.toNat default
  let v5:Int×Bool:=uO v4.Key
  let v6:dI:=UZ [108,101,110,103,116,104]
  bif (!(decide (u3<(jy dM.enc x0)))) then (true,u2,default)
  else bif ((v5.2&&(decide (v5.1<(sLen x1))))||((BF v4.Key.Str v6.Str)&&(dW v4.Key.Sym v6.Sym))) then (false,default,u3)
  else lQ x0 x1 n u2 (dZ .i64 u3 1)
def qK (x0:List dM)(x1:List UInt8):Int:=
 let r2:Bool×Int×Int:=lQ x0 x1 (x0.length+1) 0 0
 bif (!(dW (lW r2.1) 0)) then r2.2.2
 else (-1)
def oQ (x0:List dM)(x1:List UInt8):Bool:=
 let w2:Int:=qK x0 x1
 let r2:Int:=w2
 (decide (r2>=0))
def BX (x0:List dM)(x1:List UInt8):Bool:=
 let w2:Bool:=oQ x0 x1
 let r2:Bool:=w2
 ((decide (((sLen x1):Int)<=4096))&&(!r2))
def jP (x0:dK)(v2:dN):Nat->Bool->Int->(Bool×Bool×Bool)
 |0,_,_=>default
 |n+1,u12,u13=>
  let v14:dM:=v2.Props.getD u13.toNat default
  let v15:Bool:=fF x0 v14.dS.Value
  let v16:Bool:=fF x0 v14.dS.Get
  let v17:Bool:=fF x0 v14.dS.Set
  bif (!(decide (u13<(jy dM.enc v2.Props)))) then (true,u12,default)
  else bif (((!v15)||(!v16))||(!v17)) then (false,default,false)
  else jP x0 v2 n u12 (dZ .i64 u13 1)
def kM (x0:dK)(x1:Int):Bool:=
 let v2:dN:=x0.Objects.getD x1.toNat default
 let v3:Bool:=uw x0 v2 x1
 let v4:Bool:=dR v2.Target
 let v5:Bool:=fF x0 v2.Target
 let v6:dN:=x0.Objects.getD v2.Target.Ref.toNat default
 let v7:Bool:=pV v2.Target 0
 let v8:Bool:=pV v2.Handler 0
 let v9:Bool:=dR v2.fB
 let v10:Bool:=fF x0 v2.fB
 let v11:Int:=jA v2.Props
 let r12:Bool×Bool×Bool:=jP x0 v2 (v2.Props.length+1) false 0
 let v15:Bool:=BU v2.Props
 let v16:Bool:=BX v2.Props v2.Text
 bif (dW v2.Kind 6) then v3
 else bif ((((!v7)&&(!(((((dW v2.Kind 5)&&v4)&&(decide (v2.Target.Ref<x1)))&&v5)&&(dW v6.Kind 6))))||(!v8))||((sNe v2.Text [])&&(je v2.Kind 3))) then false
 else bif ((((je v2.fB.Kind 1)&&(!v9))||(!v10))||(je v11 0)) then false
 else bif (!(dW (lW r12.1) 0)) then r12.2.2
 else bif (dW v2.Kind 1) then ((!v2.Calls)&&(!v2.Makes))
 else bif (dW v2.Kind 2) then (((!v2.Calls)&&(!v2.Makes))&&v15)
 else bif (dW v2.Kind 3) then (((!v2.Calls)&&(!v2.Makes))&&v16)
 else bif (dW v2.Kind 4) then (v2.Calls&&v2.Makes)
 else bif (dW v2.Kind 5) then v2.Calls
 else false
def qw (x0:dK):Nat->Int->Int->(Bool×Int×Int)
 |0,_,_=>default
 |n+1,u1,u2=>
  let v3:Bool:=kM x0 u2
  bif (!(decide (u2<(jy dN.enc x0.Objects)))) then (true,u1,default)
  else bif (!v3) then (false,default,9)
  else qw x0 n u1 (dZ .i64 u2 1)
def jr (x0:dK):Int:=
 let r1:Bool×Int×Int:=qw x0 (x0.Objects.length+1) 0 0
 let v4:Bool:=rW x0
 bif (decide (((jy dN.enc x0.Objects):Int) > 4096)) then 9
 else bif (!(dW (lW r1.1) 0)) then r1.2.2
 else bif v4 then 9
 else 0
def jS (x0:dK)(x1:dL):Bool:=
 let v2:Bool:=dR x1
 let v3:Bool:=jh x1
 let v4:Bool:=jh x1
 let v5:dN:=x0.Objects.getD x1.Ref.toNat default
 bif (!v2) then v3
 else bif ((!v4)||(decide (x1.Ref>=(jy dN.enc x0.Objects)))) then false
 else ((((dW x1.Kind 8)&&v5.Makes)||(((dW x1.Kind 7)&&v5.Calls)&&(!v5.Makes)))||(((dW x1.Kind 6)&&(!v5.Calls))&&(!v5.Makes)))
def jQ (x0:dK)(x1:dL):Bool:=
 let v2:Bool:=dR x1
 let v3:Bool:=jS x0 x1
 (((dW x1.Kind 1)||v2)&&v3)
def jF (x0:dK)(x1:gK):Int:=
 let v2:dN:=x0.Objects.getD x1.Object.toNat default
 let v3:Bool:=jQ x0 x1.Value
 let v4:Int:=lG x1.Key
 let v5:Int:=lG x1.Key
 let v6:Int:=lq x1.dS
 let v7:Bool:=jS x0 x1.dS.Value
 let v8:Bool:=jS x0 x1.dS.Get
 let v9:Bool:=jS x0 x1.dS.Set
 bif ((decide (x1.Object<0))||(decide (x1.Object>=(jy dN.enc x0.Objects)))) then 2
 else bif (!((dW v2.Kind 1)||((dW v2.Kind 4)||(dW v2.Kind 5)))) then 2
 else bif ((!((dW x1.Method 1)||((dW x1.Method 3)||((dW x1.Method 4)||(dW x1.Method 11)))))&&((dW x1.Method 2)&&(!v3))) then 9
 else bif ((!((dW x1.Method 1)||((dW x1.Method 3)||((dW x1.Method 4)||(dW x1.Method 11)))))&&((!(dW x1.Method 2))&&((dW x1.Method 5)||(dW x1.Method 10)))) then v4
 else bif ((!((dW x1.Method 1)||((dW x1.Method 3)||((dW x1.Method 4)||(dW x1.Method 11)))))&&((!(dW x1.Method 2))&&((dW x1.Method 6)&&(je v5 0)))) then v5
 else bif ((!((dW x1.Method 1)||((dW x1.Method 3)||((dW x1.Method 4)||(dW x1.Method 11)))))&&((!(dW x1.Method 2))&&((dW x1.Method 6)&&(je v6 0)))) then v6
 else bif ((!((dW x1.Method 1)||((dW x1.Method 3)||((dW x1.Method 4)||(dW x1.Method 11)))))&&((!(dW x1.Method 2))&&((dW x1.Method 6)&&(((!v7)||(!v8))||(!v9))))) then 9
 else bif ((!((dW x1.Method 1)||((dW x1.Method 3)||((dW x1.Method 4)||(dW x1.Method 11)))))&&((!(dW x1.Method 2))&&(!(dW x1.Method 6)))) then 2
 else 0
def EW (x0:dN):dN:=
 x0
def lS (x0:dK):Nat->Int->(List dN)->(List dN)
 |0,_,_=>default
 |n+1,u3,u4=>
  let v5:dN:=u4.getD u3.toNat default
  let v6:dN:=EW v5
  let v7:List dN:=u4.set u3.toNat v6
  bif (!(decide (u3<(jy dN.enc x0.Objects)))) then u4
  else lS x0 n (dZ .i64 u3 1) v7
def zn (x0:dK):dK:=
 let v1:List dN:=List.replicate ((jy dN.enc x0.Objects):Int).toNat (dN.mk 0 (dL.mk 0 0 [] 0) false [] (dL.mk 0 0 [] 0) (dL.mk 0 0 [] 0) [] false false)
 let v2:List dN:=x0.Objects.take ((jy dN.enc x0.Objects):Int).toNat++v1.drop (min x0.Objects.length ((jy dN.enc x0.Objects):Int).toNat)
 let r3:List dN:=lS x0 (x0.Objects.length+1) 0 v2
 let v4:List dN:=(r3.drop (0)).take (((jy dN.enc x0.Objects):Int).toNat-0)
 (dK.mk v4)
def Jv (x0:dK):dK:=
 let v1:List dN:=List.replicate ((jy dN.enc x0.Objects):Int).toNat (dN.mk 0 (dL.mk 0 0 [] 0) false [] (dL.mk 0 0 [] 0) (dL.mk 0 0 [] 0) [] false false)
 let v2:List dN:=x0.Objects.take ((jy dN.enc x0.Objects):Int).toNat++v1.drop (min x0.Objects.length ((jy dN.enc x0.Objects):Int).toNat)
 let r3:List dN:=lS x0 (x0.Objects.length+1) 0 v2
 let v4:List dN:=(r3.drop (0)).take (((jy dN.enc x0.Objects):Int).toNat-0)
 (dK.mk r3)
def eu (x0:Bool):gQ:=
 (gQ.mk 1 (dL.mk 0 0 [] 0) x0 false (dJ.mk 0 (dL.mk 0 0 [] 0) (dL.mk 0 0 [] 0) (dL.mk 0 0 [] 0) false false false) [] 0 [])
def lu (x0:dK)(x1:Int):Nat->Bool->dL->(Bool×Bool×dL×Bool×dL)
 |0,_,_=>default
 |n+1,u3,u4=>
  let v5:Bool:=dR u4
  let v6:dN:=x0.Objects.getD u4.Ref.toNat default
  bif (!v5) then (true,u3,u4,default,default)
  else bif (dW u4.Ref x1) then (false,default,default,true,u4)
  else bif (dW v6.Kind 6) then (false,default,default,false,u4)
  else lu x0 x1 n u3 v6.fB
def jT (x0:dK)(x1:Int):Nat->Bool->dL->Bool
 |0,_,_=>false
 |n+1,u3,u4=>
  let v5:Bool:=dR u4
  let v6:dN:=x0.Objects.getD u4.Ref.toNat default
  bif (!v5) then true
  else bif (dW u4.Ref x1) then true
  else bif (dW v6.Kind 6) then true
  else jT x0 x1 n u3 v6.fB
def iQ (x0:dK)(x1:Int)(x2:dL):Bool:=
 let r3:Bool×Bool×dL×Bool×dL:=lu x0 x1 (x0.Objects.length+1) false x2
 bif (dW (lW r3.1) 0) then false
 else r3.2.2.2.1
def jI (x0:dK)(x1:gK):dK×gQ×Int:=
 let v2:Int:=jr x0
 let v3:Int:=jF x0 x1
 let v4:dK:=zn x0
 let v5:dN:=v4.Objects.getD x1.Object.toNat default
 let v6:dN:=v4.Objects.getD x1.Object.toNat default
 let v7:Bool:=eH x1.Value v6.fB
 let v8:gQ:=eu true
 let v9:dN:=v4.Objects.getD x1.Object.toNat default
 let v10:Bool:=iQ x0 x1.Object x1.Value
 let v11:gQ:=eu false
 let v12:List dN:=v4.Objects.set x1.Object.toNat (dN.mk (v4.Objects.getD x1.Object.toNat default).Kind x1.Value (v4.Objects.getD x1.Object.toNat default).Ext (v4.Objects.getD x1.Object.toNat default).Props (v4.Objects.getD x1.Object.toNat default).Target (v4.Objects.getD x1.Object.toNat default).Handler (v4.Objects.getD x1.Object.toNat default).Text (v4.Objects.getD x1.Object.toNat default).Calls (v4.Objects.getD x1.Object.toNat default).Makes)
 let v13:gQ:=eu true
 let v14:dN:=v4.Objects.getD x1.Object.toNat default
 let v15:gQ:=eu v14.Ext
 let v16:List dN:=v4.Objects.set x1.Object.toNat (dN.mk (v4.Objects.getD x1.Object.toNat default).Kind (v4.Objects.getD x1.Object.toNat default).fB false (v4.Objects.getD x1.Object.toNat default).Props (v4.Objects.getD x1.Object.toNat default).Target (v4.Objects.getD x1.Object.toNat default).Handler (v4.Objects.getD x1.Object.toNat default).Text (v4.Objects.getD x1.Object.toNat default).Calls (v4.Objects.getD x1.Object.toNat default).Makes)
 let v17:gQ:=eu true
 let v18:dN:=v4.Objects.getD x1.Object.toNat default
 let v19:dJ×Bool×Int:=fK v18.Props x1.Key
 let v20:dN:=v4.Objects.getD x1.Object.toNat default
 let v21:dJ×Bool×Int:=fK v20.Props x1.Key
 let v22:dN:=v4.Objects.getD x1.Object.toNat default
 let v23:dJ×Bool×Int:=gG v22.Ext x1.dS v21.2.1 v21.1
 let v24:gQ:=eu false
 let v25:dN:=v4.Objects.getD x1.Object.toNat default
 let v26:List dM×Int:=ku v25.Props x1.Key v23.1
 let v27:List dN:=v4.Objects.set x1.Object.toNat (dN.mk (v4.Objects.getD x1.Object.toNat default).Kind (v4.Objects.getD x1.Object.toNat default).fB (v4.Objects.getD x1.Object.toNat default).Ext v26.1 (v4.Objects.getD x1.Object.toNat default).Target (v4.Objects.getD x1.Object.toNat default).Handler (v4.Objects.getD x1.Object.toNat default).Text (v4.Objects.getD x1.Object.toNat default).Calls (v4.Objects.getD x1.Object.toNat default).Makes)
 let v28:gQ:=eu true
 let v29:dN:=v4.Objects.getD x1.Object.toNat default
 let v30:dJ×Bool×Int:=fK v29.Props x1.Key
 let v31:gQ:=eu false
 let v32:dN:=v4.Objects.getD x1.Object.toNat default
 let v33:List dM×Int:=rV v32.Props x1.Key
 let v34:List dN:=v4.Objects.set x1.Object.toNat (dN.mk (v4.Objects.getD x1.Object.toNat default).Kind (v4.Objects.getD x1.Object.toNat default).fB (v4.Objects.getD x1.Object.toNat default).Ext v33.1 (v4.Objects.getD x1.Object.toNat default).Target (v4.Objects.getD x1.Object.toNat default).Handler (v4.Objects.getD x1.Object.toNat default).Text (v4.Objects.getD x1.Object.toNat default).Calls (v4.Objects.getD x1.Object.toNat default).Makes)
 let v35:gQ:=eu true
 let v36:dN:=v4.Objects.getD x1.Object.toNat default
 let v37:List dI×Int:=kH v36.Props
 let v38:List dN:=(v12.drop (0)).take (((jy dN.enc v4.Objects):Int).toNat-0)
 let v39:List dN:=(v16.drop (0)).take (((jy dN.enc v4.Objects):Int).toNat-0)
 let v40:List dN:=(v27.drop (0)).take (((jy dN.enc v4.Objects):Int).toNat-0)
 let v41:List dN:=(v34.drop (0)).take (((jy dN.enc v4.Objects):Int).toNat-0)
 bif (je v2 0) then ((dK.mk []),(gQ.mk 0 (dL.mk 0 0 [] 0) false false (dJ.mk 0 (dL.mk 0 0 [] 0) (dL.mk 0 0 [] 0) (dL.mk 0 0 [] 0) false false false) [] 0 []),v2)
 else bif (je v3 0) then ((dK.mk []),(gQ.mk 0 (dL.mk 0 0 [] 0) false false (dJ.mk 0 (dL.mk 0 0 [] 0) (dL.mk 0 0 [] 0) (dL.mk 0 0 [] 0) false false false) [] 0 []),v3)
 else bif (dW x1.Method 1) then (v4,(gQ.mk 1 v5.fB false false (dJ.mk 0 (dL.mk 0 0 [] 0) (dL.mk 0 0 [] 0) (dL.mk 0 0 [] 0) false false false) [] 0 []),0)
 else bif ((dW x1.Method 2)&&v7) then (v4,v8,0)
 else bif ((dW x1.Method 2)&&((!v9.Ext)||v10)) then (v4,v11,0)
 else bif (dW x1.Method 2) then ((dK.mk v38),v13,0)
 else bif (dW x1.Method 3) then (v4,v15,0)
 else bif (dW x1.Method 4) then ((dK.mk v39),v17,0)
 else bif (dW x1.Method 5) then (v4,(gQ.mk 1 (dL.mk 0 0 [] 0) false v19.2.1 v19.1 [] 0 []),0)
 else bif ((dW x1.Method 6)&&(!v23.2.1)) then (v4,v24,0)
 else bif ((dW x1.Method 6)&&(je v26.2 0)) then (v4,(gQ.mk 3 (dL.mk 0 0 [] 0) false false (dJ.mk 0 (dL.mk 0 0 [] 0) (dL.mk 0 0 [] 0) (dL.mk 0 0 [] 0) false false false) [] 2 [116,111,111,32,109,97,110,121]),0)
 else bif (dW x1.Method 6) then ((dK.mk v40),v28,0)
 else bif ((dW x1.Method 10)&&(v30.2.1&&(!v30.1.Configurable))) then (v4,v31,0)
 else bif (dW x1.Method 10) then ((dK.mk v41),v35,0)
 else (v4,(gQ.mk 1 (dL.mk 0 0 [] 0) false false (dJ.mk 0 (dL.mk 0 0 [] 0) (dL.mk 0 0 [] 0) (dL.mk 0 0 [] 0) false false false) v37.1 0 []),0)
def jX (x0:dK)(x1:gK):dK×gQ:=
 let v2:dK×gQ×Int:=jI x0 x1
 bif (je v2.2.2 0) then (x0,(gQ.mk 0 (dL.mk 0 0 [] 0) false false (dJ.mk 0 (dL.mk 0 0 [] 0) (dL.mk 0 0 [] 0) (dL.mk 0 0 [] 0) false false false) [] 0 []))
 else (v2.1,v2.2.1)
def Dy : Bool:=
 let v0:dK:=qJ
 let v1:dI:=oD [97]
 let v2:dK×gQ:=jX v0 (gK.mk 5 0 v1 (dJ.mk 0 (dL.mk 0 0 [] 0) (dL.mk 0 0 [] 0) (dL.mk 0 0 [] 0) false false false) (dL.mk 0 0 [] 0) (dL.mk 0 0 [] 0) [])
 let v3:dK:=qJ
 let v4:dI:=oD [97]
 let v5:dK×gQ:=jX v3 (gK.mk 5 1 v4 (dJ.mk 0 (dL.mk 0 0 [] 0) (dL.mk 0 0 [] 0) (dL.mk 0 0 [] 0) false false false) (dL.mk 0 0 [] 0) (dL.mk 0 0 [] 0) [])
 let v6:dJ:=uq
 let v7:Bool:=uM v2.2.dS v6
 (((((dW v2.2.Kind 1)&&v2.2.Found)&&v7)&&(dW v5.2.Kind 1))&&(!v5.2.Found))
def yg (x0:dK):Nat->Bool->Int->(Bool×Bool×Bool)
 |0,_,_=>default
 |n+1,u1,u2=>
  let v3:dN:=x0.Objects.getD u2.toNat default
  let v4:dN:=x0.Objects.getD u2.toNat default
  let v5:dN:=x0.Objects.getD u2.toNat default
  bif (!(decide (u2<(jy dN.enc x0.Objects)))) then (true,u1,default)
  else bif (((decide (((jy dM.enc v3.Props):Int) > 100))&&(decide (((jy dM.enc v4.Props):Int)<1020)))||(decide (((jy dM.enc v5.Props):Int) > 1100))) then (false,default,true)
  else yg x0 n u1 (dZ .i64 u2 1)
def Dz (x0:dK):Bool:=
 let r1:Bool×Bool×Bool:=yg x0 (x0.Objects.length+1) false 0
 bif (((decide (((jy dN.enc x0.Objects):Int) > 60))&&(decide (((jy dN.enc x0.Objects):Int)<=4096)))||(decide (((jy dN.enc x0.Objects):Int) > 5000))) then true
 else bif (!(dW (lW r1.1) 0)) then r1.2.2
 else false
def Oh (x0:dK)(x1:Int):dN×Int:=
 let v2:Int:=jr x0
 let v3:dN:=x0.Objects.getD x1.toNat default
 let v4:dN:=EW v3
 bif (je v2 0) then ((dN.mk 0 (dL.mk 0 0 [] 0) false [] (dL.mk 0 0 [] 0) (dL.mk 0 0 [] 0) [] false false),v2)
 else bif ((decide (x1<0))||(decide (x1>=(jy dN.enc x0.Objects)))) then ((dN.mk 0 (dL.mk 0 0 [] 0) false [] (dL.mk 0 0 [] 0) (dL.mk 0 0 [] 0) [] false false),2)
 else (v4,0)
def wY (x0:dL)(x1:dL):Bool:=
 ((dW x0.Kind x1.Kind)&&((fEq (bif ((LP x0.Num x0.Num)&&(LP x1.Num x1.Num)) then 0 else x0.Num) (bif ((LP x0.Num x0.Num)&&(LP x1.Num x1.Num)) then 0 else x1.Num))&&((BF x0.Str x1.Str)&&(dW x0.Ref x1.Ref))))
def lT (x0:List dM)(x1:List dM):Nat->Bool->Int->(Bool×Bool×Bool)
 |0,_,_=>default
 |n+1,u2,u3=>
  let v4:dM:=x0.getD u3.toNat default
  let v5:dM:=x1.getD u3.toNat default
  let v6:Bool:=wY v4.dS.Value v5.dS.Value
  let v7:Bool:=wY v4.dS.Get v5.dS.Get
  let v8:Bool:=wY v4.dS.Set v5.dS.Set
  bif (!(decide (u3<(jy dM.enc x0)))) then (true,u2,default)
  else bif (!(((((((((BF v4.Key.Str v5.Key.Str)&&(dW v4.Key.Sym v5.Key.Sym))&&(dW v4.dS.Has v5.dS.Has))&&(JL v4.dS.eG v5.dS.eG))&&(JL v4.dS.dV v5.dS.dV))&&(JL v4.dS.Configurable v5.dS.Configurable))&&v6)&&v7)&&v8)) then (false,default,false)
  else lT x0 x1 n u2 (dZ .i64 u3 1)
def qO (x0:List dM)(x1:List dM):Bool:=
 let r2:Bool×Bool×Bool:=lT x0 x1 (x0.length+1) false 0
 bif (je (jy dM.enc x0) (jy dM.enc x1)) then false
 else bif (!(dW (lW r2.1) 0)) then r2.2.2
 else true
def kX (x0:List dN)(x1:List dN):Nat->Bool->Int->(Bool×Bool×Bool)
 |0,_,_=>default
 |n+1,u2,u3=>
  let v4:dN:=x0.getD u3.toNat default
  let v5:dN:=x1.getD u3.toNat default
  let v6:Bool:=wY v4.fB v5.fB
  let v7:Bool:=wY v4.Target v5.Target
  let v8:Bool:=wY v4.Handler v5.Handler
  let w9:Bool:=qO v4.Props v5.Props
  let r9:Bool:=w9
  bif (!(decide (u3<(jy dN.enc x0)))) then (true,u2,default)
  else bif (!(((((((((dW v4.Kind v5.Kind)&&v6)&&(JL v4.Ext v5.Ext))&&v7)&&v8)&&(BF v4.Text v5.Text))&&(JL v4.Calls v5.Calls))&&(JL v4.Makes v5.Makes))&&r9)) then (false,default,false)
  else kX x0 x1 n u2 (dZ .i64 u3 1)
def uY (x0:List dN)(x1:List dN):Bool:=
 let r2:Bool×Bool×Bool:=kX x0 x1 (x0.length+1) false 0
 bif (je (jy dN.enc x0) (jy dN.enc x1)) then false
 else bif (!(dW (lW r2.1) 0)) then r2.2.2
 else true
def PW (x0:dK)(x1:dK):Bool:=
 let w2:Bool:=uY x0.Objects x1.Objects
 let r2:Bool:=w2
 r2
def rX (x0:dK)(x1:Int)(x2:dI):qo:=
 let v3:dK×gQ:=jX x0 (gK.mk 3 x1 (dI.mk [] 0) (dJ.mk 0 (dL.mk 0 0 [] 0) (dL.mk 0 0 [] 0) (dL.mk 0 0 [] 0) false false false) (dL.mk 0 0 [] 0) (dL.mk 0 0 [] 0) [])
 let v4:dK×gQ:=jX x0 (gK.mk 1 x1 (dI.mk [] 0) (dJ.mk 0 (dL.mk 0 0 [] 0) (dL.mk 0 0 [] 0) (dL.mk 0 0 [] 0) false false false) (dL.mk 0 0 [] 0) (dL.mk 0 0 [] 0) [])
 let v5:dK×gQ:=jX x0 (gK.mk 11 x1 (dI.mk [] 0) (dJ.mk 0 (dL.mk 0 0 [] 0) (dL.mk 0 0 [] 0) (dL.mk 0 0 [] 0) false false false) (dL.mk 0 0 [] 0) (dL.mk 0 0 [] 0) [])
 let v6:dK×gQ:=jX x0 (gK.mk 5 x1 x2 (dJ.mk 0 (dL.mk 0 0 [] 0) (dL.mk 0 0 [] 0) (dL.mk 0 0 [] 0) false false false) (dL.mk 0 0 [] 0) (dL.mk 0 0 [] 0) [])
 (qo.mk (!v3.2.Yes) v4.2.Value v5.2.Keys v6.2.Found v6.2.dS)
def qP (x0:List dI)(x1:dI):Nat->Bool->Int->(Bool×Bool×Bool)
 |0,_,_=>default
 |n+1,u2,u3=>
  let v4:dI:=x0.getD u3.toNat default
  bif (!(decide (u3<(jy dI.enc x0)))) then (true,u2,default)
  else bif ((BF v4.Str x1.Str)&&(dW v4.Sym x1.Sym)) then (false,default,true)
  else qP x0 x1 n u2 (dZ .i64 u3 1)
def uy (x0:List dI)(x1:dI):Bool:=
 let r2:Bool×Bool×Bool:=qP x0 x1 (x0.length+1) false 0
 bif (!(dW (lW r2.1) 0)) then r2.2.2
 else false
def kC (v12:qo)(v15:qo):Nat->Bool->Int->(Bool×Bool×Int×Bool)
 |0,_,_=>default
 |n+1,u19,u20=>
  let v21:dI:=v15.keys.getD u20.toNat default
  let v22:Bool:=uy v12.keys v21
  bif (!(decide (u20<(jy dI.enc v15.keys)))) then (true,u19,u20,default)
  else bif (v12.shut&&(!v22)) then (false,default,default,false)
  else kC v12 v15 n u19 (dZ .i64 u20 1)
def jl (x1:Int)(x2:dI)(x3:List gK):Nat->Bool->Int->dK->(Bool×Bool×dK×Bool×dK)
 |0,_,_,_=>default
 |n+1,u9,u10,u11=>
  let v12:qo:=rX u11 x1 x2
  let v13:gK:=x3.getD u10.toNat default
  let v14:dK×gQ×Int:=jI u11 v13
  let v15:qo:=rX v14.1 x1 x2
  let v16:Int:=jr v14.1
  let v17:Bool:=uy v15.keys x2
  let v18:Bool:=eH v12.proto v15.proto
  let r19:Bool×Bool×Int×Bool:=kC v12 v15 (v15.keys.length+1) u9 0
  let v23:Bool:=fD v12.desc
  let v24:Bool:=fD v15.desc
  let v25:Bool:=eH v15.desc.Value v12.desc.Value
  let v26:Bool:=uM v15.desc v12.desc
  bif (!((decide (u10<(jy gK.enc x3)))&&(decide (u10<40)))) then (true,u9,u11,default,default)
  else bif (je v14.2.2 0) then jl x1 x2 x3 n u9 (dZ .i64 u10 1) u11
  else bif (((je v16 0)||(!(JL v17 v15.found)))||((je v14.2.1.Kind 1)&&(je v14.2.1.Kind 3))) then (false,default,default,false,u11)
  else bif (v12.shut&&((!v15.shut)||(!v18))) then (false,default,default,false,u11)
  else bif (!(dW (lW r19.1) 0)) then (false,default,default,r19.2.2.2,u11)
  else bif ((v12.found&&(!v12.desc.Configurable))&&((((((!v15.found)||v15.desc.Configurable)||(!(JL v15.desc.dV v12.desc.dV)))||(!(JL v24 v23)))||((v23&&(!v12.desc.eG))&&(v15.desc.eG||(!v25))))||((!v23)&&(!v26)))) then (false,default,default,false,u11)
  else bif ((v12.found&&(!v12.desc.Configurable))&&((((dW v13.Object x1)&&((BF v13.Key.Str x2.Str)&&(dW v13.Key.Sym x2.Sym)))&&v14.2.1.Yes)&&(((dW v13.Method 6)&&(!v15.found))||((dW v13.Method 10)&&v15.found)))) then (false,default,default,false,u11)
  else bif (v12.found&&(!v12.desc.Configurable)) then jl x1 x2 x3 n r19.2.1 (dZ .i64 u10 1) v14.1
  else bif ((((dW v13.Object x1)&&((BF v13.Key.Str x2.Str)&&(dW v13.Key.Sym x2.Sym)))&&v14.2.1.Yes)&&(((dW v13.Method 6)&&(!v15.found))||((dW v13.Method 10)&&v15.found))) then (false,default,default,false,u11)
  else jl x1 x2 x3 n r19.2.1 (dZ .i64 u10 1) v14.1
def nP (x0:dK)(x1:Int)(x2:dI)(x3:List gK):Bool:=
 let v4:Bool:=Dy
 let v5:Bool:=Dz x0
 let v6:Int:=jr x0
 let v7:dN×Int:=Oh x0 x1
 let v8:dK×gQ×Int:=jI x0 (gK.mk 5 x1 x2 (dJ.mk 0 (dL.mk 0 0 [] 0) (dL.mk 0 0 [] 0) (dL.mk 0 0 [] 0) false false false) (dL.mk 0 0 [] 0) (dL.mk 0 0 [] 0) [])
 let r9:Bool×Bool×dK×Bool×dK:=jl x1 x2 x3 (x3.length+1) false 0 x0
 bif (!v4) then false
 else bif (v5||(je v6 0)) then v4
 else bif ((je v7.2 0)||(je v8.2.2 0)) then v4
 else bif (!(dW (lW r9.1) 0)) then r9.2.2.2.1
 else v4
end Go.Fw
end
section
namespace Go.Fw
def ltK (a b:dI):Bool:=(decide (((eP a).1:Int)<(eP b).1))||((dW (eP a).1 (eP b).1)&&(decide (((eP a).2:Int)<(eP b).2)))
theorem Oi {a b:dI}:ltK a b=true↔(eP a).1<(eP b).1\/((eP a).1=(eP b).1/\(eP a).2<(eP b).2):=by
 simp [ltK,YR]
theorem abl {a b:dI}:ltK a b=false↔¬((eP a).1<(eP b).1\/((eP a).1=(eP b).1/\(eP a).2<(eP b).2)):=by
 rw [<- Oi];simp
def Jw (l:List dI):Prop:=l.Pairwise fun a b=>ltK b a=false
def uZ (l m:List dI):Prop:=∀p:Int×Int,l.filter (fun k=>decide (eP k=p))=m.filter (fun k=>decide (eP k=p))
theorem uZ.refl (l:List dI):uZ l l:=fun _=>rfl
theorem uZ.symm {l m:List dI}(h:uZ l m):uZ m l:=fun p=>(h p).symm
theorem uZ.trans {l m n:List dI}(h:uZ l m)(k:uZ m n):uZ l n:=fun p=>(h p).trans (k p)
theorem uZ.app {a b c d:List dI}(h:uZ a b)(k:uZ c d):uZ (a++c) (b++d):=fun p=>by rw [List.filter_append,List.filter_append,h p,k p]
theorem uZ.swap {a b:List dI}(h:∀x∈a,∀y∈b,ltK y x=true):uZ (a++b) (b++a):=by
 intro p
 rw [List.filter_append,List.filter_append]
 by_cases ha:a.filter (fun k=>decide (eP k=p))=[]
 .rw [ha];simp
 .by_cases hb:b.filter (fun k=>decide (eP k=p))=[]
  .rw [hb];simp
  .obtain ⟨x,hx⟩:=List.exists_mem_of_ne_nil _ ha
   obtain ⟨y,hy⟩:=List.exists_mem_of_ne_nil _ hb
   rw [List.mem_filter] at hx hy
   have h1:=of_decide_eq_true hx.2
   have h2:=of_decide_eq_true hy.2
   have:=Oi.1 (h x hx.1 y hy.1)
   rw [h1,h2] at this
   omega
theorem uZ.afF {a b:List dI}(h:uZ a b):∀x,x∈a->x∈b:=by
 intro x hx
 have h1:x∈a.filter (fun k=>decide (eP k=eP x)):=List.mem_filter.2 ⟨hx,by simp⟩
 rw [h] at h1
 exact (List.mem_filter.1 h1).1
theorem ayh {a b c:dI}(h:ltK b a=false)(k:ltK c b=false):ltK c a=false:=by
 rw [abl] at *;omega
theorem aym {a b c:dI}(h:ltK b a=false)(k:ltK b c=true):ltK a c=true:=by
 rw [abl] at h;rw [Oi] at *;omega
theorem QW {a b c:dI}(h:ltK a b=true)(k:ltK c b=false):ltK a c=true:=by
 rw [abl] at k;rw [Oi] at *;omega
theorem PX {a b:dI}(h:ltK a b=true):ltK b a=false:=by
 rw [Oi] at h;rw [abl];omega
theorem BZ {α:Type}[Inhabited α]{A B:List α}{x:α}{i:Int}(h:i=A.length):(A++x::B).getD i.toNat default=x:=by
 subst h;simp
theorem ayl {α:Type}{A B:List α}{x y:α}{i:Int}(h:i=A.length):(A++x::B).set i.toNat y=A++y::B:=by
 subst h;simp
theorem azs {A M B:List dI}{x y:dI}{i j:Int}(hi:i=A.length)(hj:j=A.length+1+M.length) :
  ((A++x::(M++y::B)).set i.toNat y).set j.toNat x=A++y::(M++x::B):=by
 rw [ayl hi,show A++y::(M++y::B)=(A++y::M)++y::B by simp,ayl (by simp;omega)]
 simp
theorem He {a b n:Int}:∀(k:Nat) (P Y1 X2 M X1 Y2 T:List dI) (i:Int),a=P.length->i=Y1.length->Y1.length=X1.length->X2.length=Y2.length->b=a+i+X2.length+M.length->n=i+X2.length->X2.length<k->a+b+n<4294967296->
  iG a b n k i (P++Y1++X2++M++X1++Y2++T)=P++Y1++Y2++M++X1++X2++T
 |0,P,Y1,X2,M,X1,Y2,T,i,ha,hi,h1,h2,hb,hn,hk,hlim=>by omega
 |k+1,P,Y1,X2,M,X1,Y2,T,i,ha,hi,h1,h2,hb,hn,hk,hlim=>by
  simp only [iG]
  cases X2 with
  |nil=>
   have:Y2=[]:=List.length_eq_zero_iff.1 (by simpa using h2.symm)
   subst this
   have hd:decide (i<n)=false:=decide_eq_false (by simp at hn;omega)
   simp [hd]
  |cons x X=>
   cases Y2 with
   |nil=>simp at h2
   |cons y Y=>
    simp only [List.length_cons] at *
    have hd:decide (i<n)=true:=decide_eq_true (by omega)
    have e1:dZ .i64 a i=a+i:=oM (by omega) (by omega)
    have e2:dZ .i64 b i=b+i:=oM (by omega) (by omega)
    have e3:dZ .i64 i 1=i+1:=oM (by omega) (by omega)
    simp only [hd,Bool.not_true,cond_false,e1,e2,e3]
    have q1:P++Y1++x::X++M++X1++y::Y++T=(P++Y1)++x::((X++M++X1)++y::(Y++T)):=by simp
    have q2:P++Y1++x::X++M++X1++y::Y++T=((P++Y1)++x::(X++M++X1))++y::(Y++T):=by simp
    have g1:(P++Y1++x::X++M++X1++y::Y++T).getD (a+i).toNat default=x:=by rw [q1];exact BZ (by simp;omega)
    have g2:(P++Y1++x::X++M++X1++y::Y++T).getD (b+i).toNat default=y:=by rw [q2];exact BZ (by simp;omega)
    rw [g1,g2,q1,azs (by simp;omega) (by simp;omega)]
    have:=He k P (Y1++[y]) X M (X1++[x]) Y T (i+1) ha (by simp;omega) (by simp;omega) (by omega) (by omega) (by omega) (by omega) hlim
    rw [show P++Y1++y::(X++M++X1++x::(Y++T))=P++(Y1++[y])++X++M++(X1++[x])++Y++T by simp,this]
    simp
theorem Gz {P X M Y T:List dI}{a b n:Int}(ha:a=P.length)(hx:n=X.length)(hy:n=Y.length)(hb:b=a+n+M.length)(hlim:a+b+n<4294967296) :
  fG (P++X++M++Y++T) a b n=P++Y++M++X++T:=by
 unfold fG
 have:=He (a:=a) (b:=b) (n:=n) (n.toNat+1) P [] X M [] Y T 0 ha rfl rfl (by omega) (by omega) (by omega) (by omega) hlim
 simpa using this
theorem GH {m:Int}:∀(k:Nat) (P A B T:List dI) (i j:Int),m=P.length+A.length->i=A.length->j=B.length->0<A.length->0<B.length->A.length+B.length<k->4*(P.length+A.length+B.length)<4294967296->
  ∃P' A' B' T',(gX m k i j (P++A++B++T)).2=P'++A'++B'++T'/\(gX m k i j (P++A++B++T)).1=A'.length/\A'.length=B'.length/\m=P'.length+A'.length/\P'++B'++A'++T'=P++B++A++T/\0<A'.length/\A'.length<=A.length/\A'.length<=B.length
 |0,P,A,B,T,i,j,hm,hi,hj,hA,hB,hk,hlim=>by omega
 |k+1,P,A,B,T,i,j,hm,hi,hj,hA,hB,hk,hlim=>by
  simp only [gX]
  by_cases he:A.length=B.length
  .have hd:je i j=false:=qC.2 (by omega)
   simp only [hd,Bool.not_false,cond_true]
   exact ⟨P,A,B,T,rfl,hi,he,by omega,rfl,hA,Nat.le_refl _,by omega⟩
  .have hd:je i j=true:=EI.2 (by omega)
   simp only [hd,Bool.not_true,cond_false]
   have e1:iU .i64 m i=m-i:=wM (by omega) (by omega)
   by_cases hg:i > j
   .have hgd:decide (i > j)=true:=decide_eq_true hg
    have e2:iU .i64 i j=i-j:=wM (by omega) (by omega)
    simp only [hgd,cond_true,e1,e2]
    have hA1:A=A.take B.length++A.drop B.length:=(List.take_append_drop _ _).symm
    generalize hX:A.take B.length=X at *
    generalize hA2:A.drop B.length=A2 at *
    have lX:X.length=B.length:=by rw [<- hX];simp;omega
    have lA:A.length=X.length+A2.length:=by rw [hA1];simp
    have sw:fG (P++A++B++T) (m-i) m j=P++B++A2++X++T:=by
     have:=Gz (P:=P) (X:=X) (M:=A2) (Y:=B) (T:=T) (a:=m-i) (b:=m) (n:=j) (by omega) (by omega) (by omega) (by omega) (by omega)
     rw [hA1,show P++(X++A2)++B++T=P++X++A2++B++T by simp];exact this
    rw [sw]
    obtain ⟨P',A',B',T',q1,q2,q3,q4,q5,q6,q7,q8⟩:=GH (m:=m) k (P++B) A2 X T (i-j) j (by simp;omega) (by omega) (by omega) (by omega) (by omega) (by omega) (by simp;omega)
    refine ⟨P',A',B',T',q1,q2,q3,q4,?_,q6,by omega,by omega⟩
    rw [q5,hA1];simp
   .have hgd:decide (i > j)=false:=decide_eq_false hg
    have e2:iU .i64 j i=j-i:=wM (by omega) (by omega)
    have e3:dZ .i64 m j=m+j:=oM (by omega) (by omega)
    have e4:iU .i64 (m+j) i=m+j-i:=wM (by omega) (by omega)
    simp only [hgd,cond_false,e1,e2,e3,e4]
    have hB1:B=B.take (B.length-A.length)++B.drop (B.length-A.length):=(List.take_append_drop _ _).symm
    generalize hX:B.take (B.length-A.length)=B1 at *
    generalize hA2:B.drop (B.length-A.length)=B2 at *
    have lB1:B1.length=B.length-A.length:=by rw [<- hX];simp
    have lB:B.length=B1.length+B2.length:=by rw [hB1];simp
    have sw:fG (P++A++B++T) (m-i) (m+j-i) i=P++B2++B1++A++T:=by
     have:=Gz (P:=P) (X:=A) (M:=B1) (Y:=B2) (T:=T) (a:=m-i) (b:=m+j-i) (n:=i) (by omega) (by omega) (by omega) (by omega) (by omega)
     rw [hB1,show P++A++(B1++B2)++T=P++A++B1++B2++T by simp];exact this
    rw [sw]
    obtain ⟨P',A',B',T',q1,q2,q3,q4,q5,q6,q7,q8⟩:=GH (m:=m) k P B2 B1 (A++T) i (j-i) (by omega) (by omega) (by omega) (by omega) (by omega) (by omega) (by omega)
    rw [show P++B2++B1++A++T=P++B2++B1++(A++T) by simp]
    refine ⟨P',A',B',T',q1,q2,q3,q4,?_,q6,by omega,by omega⟩
    rw [q5,hB1];simp
theorem ahB {P A B T:List dI}{a m b:Int}(ha:a=P.length)(hm:m=a+A.length)(hb:b=m+B.length)(hA:0<A.length)(hB:0<B.length)(hlim:4*(P.length+A.length+B.length)<4294967296) :
  jd (P++A++B++T) a m b=P++B++A++T:=by
 unfold jd
 dsimp only
 have e1:iU .i64 m a=m-a:=wM (by omega) (by omega)
 have e2:iU .i64 b m=b-m:=wM (by omega) (by omega)
 rw [e1,e2]
 obtain ⟨P',A',B',T',q1,q2,q3,q4,q5,q6,q7,q8⟩:=GH (m:=m) ((b-a).toNat+1) P A B T (m-a) (b-m) (by omega) (by omega) (by omega) hA hB (by omega) hlim
 rw [q1,q2]
 have e3:iU .i64 m (A'.length:Int)=m-A'.length:=wM (by omega) (by omega)
 rw [e3]
 have lim:(P'.length:Int)+A'.length<=P.length+A.length:=by omega
 have:=Gz (P:=P') (X:=A') (M:=[]) (Y:=B') (T:=T') (a:=m-A'.length) (b:=m) (n:=A'.length) (by omega) rfl (by omega) (by simp) (by omega)
 simp only [List.append_nil] at this
 rw [this,q5]
end Go.Fw
end
section
namespace Go.Fw
theorem Hf {a:Int}:∀(k:Nat) (P S T:List dI) (x:dI) (j:Int),a=P.length->j=P.length+S.length->S.length<k->P.length+S.length<4294967296->Jw S->
  ∃S1 S2,S=S1++S2/\(∀y∈S1,ltK x y=false)/\(∀y∈S2,ltK x y=true)/\(gI a k j (P++S++x::T)).2=P++S1++x::(S2++T)
 |0,P,S,T,x,j,ha,hj,hk,hlim,hs=>by omega
 |k+1,P,S,T,x,j,ha,hj,hk,hlim,hs=>by
  simp only [gI]
  rcases List.eq_nil_or_concat S with rfl|⟨S',y,rfl⟩
  .have hd:decide (j > a)=false:=decide_eq_false (by simp at hj;omega)
   refine ⟨[],[],rfl,by simp,by simp,?_⟩
   simp [hd]
  .simp only [List.concat_eq_append,List.length_append,List.length_cons,List.length_nil] at *
   have hd:decide (j > a)=true:=decide_eq_true (by omega)
   have e1:iU .i64 j 1=j-1:=wM (by omega) (by omega)
   have g1:(P++(S'++[y])++x::T).getD j.toNat default=x:=BZ (by simp;omega)
   have g2:(P++(S'++[y])++x::T).getD (j-1).toNat default=y:=by
    rw [show P++(S'++[y])++x::T=(P++S')++y::(x::T) by simp];exact BZ (by simp;omega)
   have hs':Jw S':=(List.pairwise_append.1 hs).1
   have hsy:∀z∈S',ltK y z=false:=fun z hz=>(List.pairwise_append.1 hs).2.2 z hz y (by simp)
   simp only [hd,e1,g1,g2,Bool.true_and,Bool.not_true,cond_false]
   have hl:(decide (((eP x).1:Int)<(eP y).1)||dW (eP x).1 (eP y).1&&decide (((eP x).2:Int)<(eP y).2))=ltK x y:=rfl
   rw [hl]
   cases hlt:ltK x y
   .refine ⟨S'++[y],[],by simp,?_,by simp,by simp⟩
    intro z hz
    rcases List.mem_append.1 hz with hz|hz
    .exact ayh (hsy z hz) hlt
    .simp at hz;subst hz;exact hlt
   .simp only [Bool.not_true,cond_false]
    have sw:(((P++(S'++[y])++x::T).set j.toNat y).set (j-1).toNat x)=P++S'++x::(y::T):=by
     rw [ayl (by simp;omega),show P++(S'++[y])++y::T=(P++S')++y::(y::T) by simp,ayl (by simp;omega)]
    rw [sw]
    obtain ⟨S1,S2,q1,q2,q3,q4⟩:=Hf k P S' (y::T) x (j-1) ha (by omega) (by omega) (by omega) hs'
    refine ⟨S1,S2++[y],by rw [q1];simp,q2,fun z hz=>?_,by rw [q4];simp⟩
    rcases List.mem_append.1 hz with hz|hz
    .exact q3 z hz
    .simp at hz;subst hz;exact hlt
theorem afG {S1 S2:List dI}{x:dI}(hs:Jw (S1++S2))(h1:∀y∈S1,ltK x y=false)(h2:∀y∈S2,ltK x y=true):Jw (S1++x::S2):=by
 obtain ⟨a1,a2,a3⟩:=List.pairwise_append.1 hs
 refine List.pairwise_append.2 ⟨a1,List.pairwise_cons.2 ⟨fun y hy=>PX (h2 y hy),a2⟩,fun y hy z hz=>?_⟩
 cases hz with
 |head=>exact h1 y hy
 |tail _ hz=>exact a3 y hy z hz
theorem afH {S1 S2:List dI}{x:dI}(h2:∀y∈S2,ltK x y=true):uZ (S1++x::S2) (S1++S2++[x]):=by
 rw [List.append_assoc]
 refine uZ.app (uZ.refl _) (uZ.symm (uZ.swap (a:=S2) (b:=[x]) fun y hy z hz=>?_))
 simp at hz;subst hz;exact h2 y hy
theorem Hg {a b:Int}:∀(k:Nat) (P S R T:List dI) (i:Int),a=P.length->i=P.length+S.length->b=i+R.length->R.length<k->P.length+S.length+R.length<4294967296->Jw S->
  ∃S',fP a b k i (P++S++R++T)=P++S'++T/\Jw S'/\uZ S' (S++R)
 |0,P,S,R,T,i,ha,hi,hb,hk,hlim,hs=>by omega
 |k+1,P,S,R,T,i,ha,hi,hb,hk,hlim,hs=>by
  simp only [fP]
  cases R with
  |nil=>
   have hd:decide (i<b)=false:=decide_eq_false (by simp at hb;omega)
   refine ⟨S,by simp [hd],hs,by simp;exact uZ.refl _⟩
  |cons x R=>
   simp only [List.length_cons] at *
   have hd:decide (i<b)=true:=decide_eq_true (by omega)
   have e1:dZ .i64 i 1=i+1:=oM (by omega) (by omega)
   simp only [hd,Bool.not_true,cond_false,e1]
   obtain ⟨S1,S2,q1,q2,q3,q4⟩:=Hf (a:=a) ((i-a).toNat+1) P S (R++T) x i ha hi (by omega) (by omega) hs
   rw [show P++S++x::R++T=P++S++x::(R++T) by simp,q4]
   have hs2:=afG (q1▸hs) q2 q3
   obtain ⟨S',r1,r2,r3⟩:=Hg (a:=a) (b:=b) k P (S1++x::S2) R T (i+1) ha (by rw [q1] at hi;simp at hi ⊢;omega) (by omega) (by omega) (by rw [q1] at hlim;simp at hlim ⊢;omega) hs2
   refine ⟨S',by rw [<- r1];simp,r2,r3.trans ?_⟩
   rw [show S++x::R=(S++[x])++R by simp,q1]
   exact uZ.app (afH q3) (uZ.refl _)
theorem Oj {P M T:List dI}{a b:Int}(ha:a=P.length)(hb:b=a+M.length)(hlim:P.length+M.length<4294967296) :
  ∃M',gJ (P++M++T) a b=P++M'++T/\Jw M'/\uZ M' M:=by
 unfold gJ
 dsimp only
 have e1:dZ .i64 a 1=a+1:=oM (by omega) (by omega)
 rw [e1]
 cases M with
 |nil=>
  refine ⟨[],?_,List.Pairwise.nil,uZ.refl _⟩
  simp only [List.length_nil] at hb
  simp only [fP]
  have hd:decide (a+1<b)=false:=decide_eq_false (by omega)
  simp [hd]
 |cons x M=>
  simp only [List.length_cons] at *
  obtain ⟨S',r1,r2,r3⟩:=Hg (a:=a) (b:=b) (b.toNat+1) P [x] M T (a+1) ha (by simp;omega) (by omega) (by omega) (by simp;omega) (List.pairwise_singleton _ _)
  exact ⟨S',by rw [<- r1];simp,r2,by simpa using r3⟩
abbrev aqf (a b:Int):Int:=IntKind.wrap .i64 (jf .u64 (IntKind.wrap .u64 (dZ .i64 a b)) 1)
theorem Kw {a b:Int}(h0:0<=a)(h1:0<=b)(h2:a+b<9223372036854775807):aqf a b=(a+b) / 2:=by
 have e:dZ .i64 a b=a+b:=oM (by omega) (by omega)
 show IntKind.wrap .i64 (jf .u64 (IntKind.wrap .u64 (dZ .i64 a b)) 1)=_
 rw [e,aus (by omega) (by omega)]
def bs (q:Int->Bool):Nat->Int->Int->Int
 |0,i,_=>i
 |n+1,i,j=>bif decide (i<j) then (bif q ((i+j) / 2) then bs q n ((i+j) / 2+1) j else bs q n i ((i+j) / 2)) else i
theorem abm {q:Int->Bool}:∀(n:Nat) {i j:Int},i<=j->i<=bs q n i j/\bs q n i j<=j
 |0,i,j,h=>by simp [bs,h]
 |n+1,i,j,h=>by
  simp only [bs]
  by_cases hlt:i<j
  .simp only [hlt,decide_true,cond_true]
   cases q ((i+j) / 2) with
   |true=>simp only [cond_true];have:=abm (q:=q) n (i:=(i+j) / 2+1) (j:=j) (by omega);omega
   |false=>simp only [cond_false];have:=abm (q:=q) n (i:=i) (j:=(i+j) / 2) (by omega);omega
  .simp only [hlt,decide_false,cond_false];omega
theorem abn {q:Int->Bool}:∀(n:Nat) {i j:Int},i<=j->(j-i).toNat<n->(∀c d,i<=c->c<=d->d<j->q d=true->q c=true)->
  (∀c,i<=c->c<bs q n i j->q c=true)/\(∀c,bs q n i j<=c->c<j->q c=false)
 |0,i,j,h,hn,hm=>by omega
 |n+1,i,j,h,hn,hm=>by
  simp only [bs]
  by_cases hlt:i<j
  .simp only [hlt,decide_true,cond_true]
   cases hq:q ((i+j) / 2) with
   |true=>
    simp only [cond_true]
    obtain ⟨h1,h2⟩:=abn (q:=q) n (i:=(i+j) / 2+1) (j:=j) (by omega) (by omega) (fun c d a b e=>hm c d (by omega) b e)
    refine ⟨fun c hc hl=>?_,h2⟩
    by_cases h3:c<=(i+j) / 2
    .exact hm c _ hc h3 (by omega) hq
    .exact h1 c (by omega) hl
   |false=>
    simp only [cond_false]
    obtain ⟨h1,h2⟩:=abn (q:=q) n (i:=i) (j:=(i+j) / 2) (by omega) (by omega) (fun c d a b e=>hm c d a b (by omega))
    refine ⟨h1,fun c hc hl=>?_⟩
    by_cases h3:c<(i+j) / 2
    .exact h2 c hc h3
    .cases hqc:q c with
     |false=>rfl
     |true=>rw [hm _ c (by omega) (by omega) hl hqc] at hq;cases hq
  .simp only [hlt,decide_false,cond_false]
   exact ⟨fun c h1 h2=>by omega,fun c h1 h2=>by omega⟩
abbrev gt (l:List dI)(i:Int):dI:=l.getD i.toNat default
theorem akR {x0:List dI}{a:Int}:∀(n:Nat) {i j:Int},0<=i->i<=j->j<=4294967296->gZ x0 a n i j=bs (fun c=>ltK (gt x0 c) (gt x0 a)) n i j
 |0,i,j,_,_,_=>rfl
 |n+1,i,j,h0,h1,h2=>by
  simp only [gZ,bs]
  rw [show IntKind.wrap .i64 (jf .u64 (IntKind.wrap .u64 (dZ .i64 i j)) 1)=(i+j) / 2 from Kw h0 (by omega) (by omega)]
  have e:dZ .i64 ((i+j) / 2) 1=(i+j) / 2+1:=oM (by omega) (by omega)
  rw [e]
  by_cases hlt:i<j
  .simp only [hlt,decide_true,Bool.not_true,cond_false,cond_true]
   show gZ x0 a n (bif ltK (gt x0 ((i+j) / 2)) (gt x0 a) then _ else _) (bif ltK (gt x0 ((i+j) / 2)) (gt x0 a) then _ else _)=_
   cases ltK (gt x0 ((i+j) / 2)) (gt x0 a) with
   |true=>simp only [cond_true];exact akR n (by omega) (by omega) h2
   |false=>simp only [cond_false];exact akR n h0 (by omega) (by omega)
  .simp only [hlt,decide_false,Bool.not_false,cond_true,cond_false]
theorem akS {x0:List dI}{m:Int}:∀(n:Nat) {i j:Int},0<=i->i<=j->j<=4294967296->iK x0 m n i j=bs (fun c=>!ltK (gt x0 m) (gt x0 c)) n i j
 |0,i,j,_,_,_=>rfl
 |n+1,i,j,h0,h1,h2=>by
  simp only [iK,bs]
  rw [show IntKind.wrap .i64 (jf .u64 (IntKind.wrap .u64 (dZ .i64 i j)) 1)=(i+j) / 2 from Kw h0 (by omega) (by omega)]
  have e:dZ .i64 ((i+j) / 2) 1=(i+j) / 2+1:=oM (by omega) (by omega)
  rw [e]
  by_cases hlt:i<j
  .simp only [hlt,decide_true,Bool.not_true,cond_false,cond_true]
   show iK x0 m n (bif ltK (gt x0 m) (gt x0 ((i+j) / 2)) then _ else _) (bif ltK (gt x0 m) (gt x0 ((i+j) / 2)) then _ else _)=_
   cases ltK (gt x0 m) (gt x0 ((i+j) / 2)) with
   |true=>simp only [cond_true,Bool.not_true,cond_false];exact akS n h0 (by omega) (by omega)
   |false=>simp only [cond_false,Bool.not_false,cond_true];exact akS n (by omega) (by omega) h2
  .simp only [hlt,decide_false,Bool.not_false,cond_true,cond_false]
theorem akT {x0:List dI}{a m b:Int}(ha:0<=a)(hab:a<=b)(hb:b<=4294967296)(hm0:0<=m)(hm1:m<=b):∀(n:Nat) {i j:Int},0<=i->i<=j->j<=4294967296->
  jc x0 a m b n i j=bs (fun c=>!ltK (gt x0 ((a+b) / 2+m-1-c)) (gt x0 c)) n i j
 |0,i,j,_,_,_=>rfl
 |n+1,i,j,h0,h1,h2=>by
  simp only [jc,bs]
  rw [show IntKind.wrap .i64 (jf .u64 (IntKind.wrap .u64 (dZ .i64 i j)) 1)=(i+j) / 2 from Kw h0 (by omega) (by omega),
   show IntKind.wrap .i64 (jf .u64 (IntKind.wrap .u64 (dZ .i64 a b)) 1)=(a+b) / 2 from Kw ha (by omega) (by omega)]
  have e:dZ .i64 ((i+j) / 2) 1=(i+j) / 2+1:=oM (by omega) (by omega)
  have e2:dZ .i64 ((a+b) / 2) m=(a+b) / 2+m:=oM (by omega) (by omega)
  have e3:iU .i64 ((a+b) / 2+m) 1=(a+b) / 2+m-1:=wM (by omega) (by omega)
  have e4:iU .i64 ((a+b) / 2+m-1) ((i+j) / 2)=(a+b) / 2+m-1-(i+j) / 2:=wM (by omega) (by omega)
  rw [e,e2,e3,e4]
  by_cases hlt:i<j
  .simp only [hlt,decide_true,Bool.not_true,cond_false,cond_true]
   show jc x0 a m b n (bif ltK (gt x0 ((a+b) / 2+m-1-(i+j) / 2)) (gt x0 ((i+j) / 2)) then _ else _) (bif ltK (gt x0 ((a+b) / 2+m-1-(i+j) / 2)) (gt x0 ((i+j) / 2)) then _ else _)=_
   cases ltK (gt x0 ((a+b) / 2+m-1-(i+j) / 2)) (gt x0 ((i+j) / 2)) with
   |true=>simp only [cond_true,Bool.not_true,cond_false];exact akT ha hab hb hm0 hm1 n h0 (by omega) (by omega)
   |false=>simp only [cond_false,Bool.not_false,cond_true];exact akT ha hab hb hm0 hm1 n (by omega) (by omega) h2
  .simp only [hlt,decide_false,Bool.not_false,cond_true,cond_false]
theorem aor {r:Int}:∀(k:Nat) (P B R:List dI) (x:dI) (i:Int),i=P.length->r=P.length+1+B.length->B.length<k->P.length+B.length+1<4294967296->
  g_ r k i (P++x::(B++R))=P++B++x::R
 |0,P,B,R,x,i,hi,hr,hk,hlim=>by omega
 |k+1,P,B,R,x,i,hi,hr,hk,hlim=>by
  simp only [g_]
  have e0:iU .i64 r 1=r-1:=wM (by omega) (by omega)
  rw [e0]
  cases B with
  |nil=>
   have hd:decide (i<r-1)=false:=decide_eq_false (by simp at hr;omega)
   simp [hd]
  |cons y B=>
   simp only [List.length_cons] at *
   have hd:decide (i<r-1)=true:=decide_eq_true (by omega)
   have e1:dZ .i64 i 1=i+1:=oM (by omega) (by omega)
   simp only [hd,Bool.not_true,cond_false,e1]
   have g1:(P++x::(y::B++R)).getD i.toNat default=x:=BZ hi
   have g2:(P++x::(y::B++R)).getD (i+1).toNat default=y:=by
    rw [show P++x::(y::B++R)=(P++[x])++y::(B++R) by simp];exact BZ (by simp;omega)
   rw [g1,g2,ayl hi,show P++y::(y::B++R)=(P++[y])++y::(B++R) by simp,ayl (by simp;omega)]
   rw [aor k (P++[y]) B R x (i+1) (by simp;omega) (by simp;omega) (by omega) (by simp;omega)]
   simp
theorem aos {r:Int}:∀(k:Nat) (R A T:List dI) (y:dI) (i:Int),r=R.length->i=R.length+A.length->A.length<k->R.length+A.length+1<4294967296->
  h_ r k i (R++A++y::T)=R++y::(A++T)
 |0,R,A,T,y,i,hr,hi,hk,hlim=>by omega
 |k+1,R,A,T,y,i,hr,hi,hk,hlim=>by
  simp only [h_]
  rcases List.eq_nil_or_concat A with rfl|⟨A',z,rfl⟩
  .have hd:decide (i > r)=false:=decide_eq_false (by simp at hi;omega)
   simp [hd]
  .simp only [List.concat_eq_append,List.length_append,List.length_cons,List.length_nil] at *
   have hd:decide (i > r)=true:=decide_eq_true (by omega)
   have e1:iU .i64 i 1=i-1:=wM (by omega) (by omega)
   have g1:(R++(A'++[z])++y::T).getD i.toNat default=y:=BZ (by simp;omega)
   have g2:(R++(A'++[z])++y::T).getD (i-1).toNat default=z:=by
    rw [show R++(A'++[z])++y::T=(R++A')++z::(y::T) by simp];exact BZ (by simp;omega)
   simp only [hd,Bool.not_true,cond_false,e1,g1,g2]
   rw [ayl (by simp;omega),show R++(A'++[z])++z::T=(R++A')++z::(z::T) by simp,ayl (by simp;omega)]
   rw [show R++A'++y::z::T=R++A'++y::(z::T) by simp,aos k R A' (z::T) y (i-1) hr (by omega) (by omega) (by omega)]
   simp
end Go.Fw
end
section
namespace Go.Fw
theorem EX {a b n:Int}:∀{k:Nat} {i:Int} {l:List dI},(iG a b n k i l).length=l.length
 |0,i,l=>rfl
 |k+1,i,l=>by
  simp only [iG,Bool.cond_eq_ite]
  split
  .rfl
  .rw [EX];simp
theorem D5 {x0:List dI}{a b n:Int}:(fG x0 a b n).length=x0.length:=EX
theorem EY {a:Int}:∀{k:Nat} {i:Int} {l:List dI},(gI a k i l).2.length=l.length
 |0,i,l=>rfl
 |k+1,i,l=>by
  simp only [gI,Bool.cond_eq_ite]
  split
  .rfl
  .split
   .rfl
   .rw [EY];simp
theorem EZ {a b:Int}:∀{k:Nat} {i:Int} {l:List dI},(fP a b k i l).length=l.length
 |0,i,l=>rfl
 |k+1,i,l=>by
  simp only [fP,Bool.cond_eq_ite]
  split
  .rfl
  .rw [EZ,EY]
theorem tu {x0:List dI}{a b:Int}:(gJ x0 a b).length=x0.length:=EZ
theorem D6 {m:Int}:∀{k:Nat} {i j:Int} {l:List dI},(gX m k i j l).2.length=l.length
 |0,i,j,l=>rfl
 |k+1,i,j,l=>by
  simp only [gX,Bool.cond_eq_ite]
  split
  .rfl
  .split
   .rw [D6,D5]
   .rw [D6,D5]
theorem adV {x0:List dI}{a m b:Int}:(jd x0 a m b).length=x0.length:=by
 simp only [jd,D5,D6]
theorem Hl {r:Int}:∀{k:Nat} {i:Int} {l:List dI},(g_ r k i l).length=l.length
 |0,i,l=>rfl
 |k+1,i,l=>by
  simp only [g_,Bool.cond_eq_ite]
  split
  .rfl
  .rw [Hl];simp
theorem Ho {r:Int}:∀{k:Nat} {i:Int} {l:List dI},(h_ r k i l).length=l.length
 |0,i,l=>rfl
 |k+1,i,l=>by
  simp only [h_,Bool.cond_eq_ite]
  split
  .rfl
  .rw [Ho];simp
theorem uQ : ∀{n:Nat} {x0:List dI} {a m b:Int},(dP n x0 a m b).length=x0.length
 |0,x0,a,m,b=>rfl
 |n+1,x0,a,m,b=>by
  unfold dP
  dsimp only
  refine (xY ?_ (xY ?_ (xY ?_ (xY ?_ (xY ?_ (xY ?_ (xY ?_ (xY ?_ (xY ?_ ?_)))))))))
  all_goals first|rfl|simp only [Hl,Ho,uQ (n:=n),adV]
theorem KZ {x1:Int}:∀{n:Nat} {a b:Int} {l:List dI},(gY x1 n a b l).2.2.length=l.length
 |0,a,b,l=>rfl
 |n+1,a,b,l=>by
  simp only [gY,Bool.cond_eq_ite]
  split
  .rfl
  .rw [KZ,tu]
theorem B_ {x1 s:Int}:∀{n:Nat} {a b:Int} {l:List dI},(fJ x1 s n a b l).2.2.length=l.length
 |0,a,b,l=>rfl
 |n+1,a,b,l=>by
  simp only [fJ,Bool.cond_eq_ite]
  split
  .rfl
  .rw [B_,uQ]
theorem D7 {x1:Int}:∀{n:Nat} {s a b:Int} {l:List dI},(iJ x1 n s a b l).length=l.length
 |0,s,a,b,l=>rfl
 |n+1,s,a,b,l=>by
  simp only [iJ,Bool.cond_eq_ite]
  split
  .rfl
  .split
   .rw [D7,uQ,B_]
   .rw [D7,B_]
theorem ML {x0:List dI}{x1:Int}:(eY x0 x1).length=x0.length:=by
 simp only [eY,D7,tu,KZ]
theorem U0 (x0:List dI)(hb:x0.length<=4294967296):Jq x0=qI x0:=by
 unfold Jq qI
 dsimp only
 rw [iZ]
 have hs:(eY x0 (x0.length:Int)).length=x0.length:=ML
 have:((eY x0 (x0.length:Int)).drop 0).take ((x0.length:Int).toNat-0)=eY x0 x0.length:=by
  rw [List.drop_zero];exact List.take_of_length_le (by omega)
 rw [this]
end Go.Fw
end
