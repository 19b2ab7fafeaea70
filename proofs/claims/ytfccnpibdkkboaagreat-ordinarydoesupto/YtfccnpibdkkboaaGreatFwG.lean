
import Derived.Test.YtfccnpibdkkboaaGreatFwF
import Derived.Test.YtfccnpibdkkboaaGreatFwE
set_option linter.unusedVariables false
set_option linter.unusedSimpArgs false
set_option linter.unusedSectionVars false
set_option linter.unnecessarySimpa false
section
namespace Go.Fw
def lq (x0:dP):Bool:=
 let v1:Bool:=jr x0
 ((dV x0.Kind 1)&&v1)
def xP (x0:dQ)(x1:Int):dP:=
 (dP.mk (bif x0.Makes then 8 else (bif x0.Calls then 7 else 6)) 0 [] x1)
def kT (x0:dK)(x1:dP):Bool:=
 let v2:Bool:=jr x1
 let v3:Bool:=fV x1
 let v4:dQ:=x0.Objects.getD (x1.Ref:Int).toNat default
 let v5:dP:=xP v4 x1.Ref
 bif (!v2) then false
 else bif (!v3) then true
 else ((decide ((x1.Ref:Int)<(jc dQ.enc x0.Objects)))&&((dV v5.Kind x1.Kind)&&((fEq v5.Num x1.Num)&&((wJ v5.Str x1.Str)&&(dV v5.Ref x1.Ref)))))
def vK (x0:dK)(x1:dQ)(x2:Int):Bool:=
 let v3:Bool:=lq x1.fB
 let v4:Bool:=lq x1.Target
 let v5:Bool:=lq x1.Handler
 let v6:Bool:=lq x1.Target
 let v7:Bool:=lq x1.Handler
 let v8:Bool:=fV x1.Target
 let v9:Bool:=fV x1.Handler
 let v10:Bool:=kT x0 x1.Target
 let v11:Bool:=kT x0 x1.Handler
 let v12:dQ:=x0.Objects.getD (x1.Target.Ref:Int).toNat default
 bif (((((decide (((jc dJ.enc x1.Props):Int) > 0))||x1.Ext)||(!v3))||(YZ x1.Text []))||(x1.Makes&&(!x1.Calls))) then false
 else bif (v4||v5) then (v6&&v7)
 else bif ((((((!v8)||(!v9))||(decide ((x1.Target.Ref:Int)>=x2)))||(decide ((x1.Handler.Ref:Int)>=x2)))||(!v10))||(!v11)) then false
 else ((Nh v12.Calls x1.Calls)&&(Nh v12.Makes x1.Makes))
def sH (x0:dP):Bool:=
 let v1:Bool:=jr x0
 ((dV x0.Kind 0)&&v1)
def tZ (x0:dK)(x1:dQ)(x2:Int):Bool:=
 let v3:Bool:=fV x1.Target
 let v4:Bool:=kT x0 x1.Target
 let v5:dQ:=x0.Objects.getD (x1.Target.Ref:Int).toNat default
 (((((dV x1.Kind 5)&&v3)&&(decide ((x1.Target.Ref:Int)<x2)))&&v4)&&(dV v5.Kind 6))
def o8 (x0:dK)(x1:List dJ):Nat->Bool->Int->(Bool×Bool×Bool)
 |0,_,_=>default
 |n+1,u3,u4=>
  let v5:dJ:=x1.getD (u4:Int).toNat default
  let v6:Bool:=kT x0 v5.dY.Value
  let v7:Bool:=kT x0 v5.dY.Get
  let v8:Bool:=kT x0 v5.dY.Set
  bif (!(decide ((u4:Int)<(jc dJ.enc x1)))) then (true,u3,default)
  else bif (((!v6)||(!v7))||(!v8)) then (false,default,false)
  else o8 x0 x1 n u3 (eG .i64 u4 1)
def zZ (x0:dK)(x1:List dJ):Bool:=
 let v2:Int:=iY x1
 let r3:Bool×Bool×Bool:=o8 x0 x1 (x1.length+1) false 0
 bif (iO v2 0) then false
 else bif (!(dV (kP r3.1) 0)) then r3.2.2
 else true
def kW (x0:List dJ)(x1:Int):Nat->Bool->Int->(Bool×Bool×Bool)
 |0,_,_=>default
 |n+1,u2,u3=>
  let v4:dJ:=x0.getD (u3:Int).toNat default
  let v5:Int×Bool:=nN v4.Key
  bif (!(decide ((u3:Int)<(jc dJ.enc x0)))) then (true,u2,default)
  else bif (v5.2&&(decide ((v5.1:Int)>=x1))) then (false,default,false)
  else kW x0 x1 n u2 (eG .i64 u3 1)
def xQ (x0:List dJ)(x1:Int):Bool:=
 let r2:Bool×Bool×Bool:=kW x0 x1 (x0.length+1) false 0
 bif (!(dV (kP r2.1) 0)) then r2.2.2
 else true
def xR (x0:List dJ):Bool:=
 let v1:dJ:=x0.getD (0:Int).toNat default
 let v2:dJ:=x0.getD (0:Int).toNat default
 let v3:Bool:=xQ x0 (((FloatKind.f64.decode v2.dY.Value.Num).toInt .zero).getD 0)
 bif ((dV (jc dJ.enc x0) 0)||(!((wJ v1.Key.Str [108,101,110,103,116,104])&&(dV v1.Key.Sym 0)))) then false
 else bif (((((iO (jS .u8 v2.dY.Has 12) 0)||v2.dY.fE)||v2.dY.Configurable)||(iO v2.dY.Value.Kind 3))||(!((Qq v2.dY.Value.Num 0)&&(OT v2.dY.Value.Num 4652218415073722368)))) then false
 else v3
def kX (x0:List dJ)(x1:List UInt8):Nat->Bool->Int->(Bool×Bool×Bool)
 |0,_,_=>default
 |n+1,u2,u3=>
  let v4:dJ:=x0.getD (u3:Int).toNat default
  let v5:Int×Bool:=nN v4.Key
  let v6:dJ:=x0.getD (u3:Int).toNat default
  bif (!(decide ((u3:Int)<(jc dJ.enc x0)))) then (true,u2,default)
  else bif ((v5.2&&(decide ((v5.1:Int)<(sLen x1))))||((wJ v6.Key.Str [108,101,110,103,116,104])&&(dV v6.Key.Sym 0))) then (false,default,false)
  else kX x0 x1 n u2 (eG .i64 u3 1)
def xU (x0:List dJ)(x1:List UInt8):Bool:=
 let r2:Bool×Bool×Bool:=kX x0 x1 (x0.length+1) false 0
 bif (decide (((sLen x1):Int) > 4096)) then false
 else bif (!(dV (kP r2.1) 0)) then r2.2.2
 else true
def jX (x0:dK)(x1:Int):Bool:=
 let v2:dQ:=x0.Objects.getD (x1:Int).toNat default
 let v3:Bool:=vK x0 v2 x1
 let v4:Bool:=sH v2.Target
 let v5:Bool:=tZ x0 v2 x1
 let v6:Bool:=sH v2.Handler
 let v7:Bool:=fV v2.fB
 let v8:Bool:=kT x0 v2.fB
 let v9:Bool:=zZ x0 v2.Props
 let v10:Bool:=xR v2.Props
 let v11:Bool:=xU v2.Props v2.Text
 bif (dV v2.Kind 6) then v3
 else bif ((((!v4)&&(!v5))||(!v6))||((YZ v2.Text [])&&(iO v2.Kind 3))) then false
 else bif ((((iO v2.fB.Kind 1)&&(!v7))||(!v8))||(!v9)) then false
 else bif (dV v2.Kind 1) then ((!v2.Calls)&&(!v2.Makes))
 else bif (dV v2.Kind 2) then (((!v2.Calls)&&(!v2.Makes))&&v10)
 else bif (dV v2.Kind 3) then (((!v2.Calls)&&(!v2.Makes))&&v11)
 else bif (dV v2.Kind 4) then (v2.Calls&&v2.Makes)
 else bif (dV v2.Kind 5) then v2.Calls
 else false
def lW (x0:dK):Nat->Bool->Int->(Bool×Bool×Bool)
 |0,_,_=>default
 |n+1,u1,u2=>
  let v3:Bool:=jX x0 u2
  bif (!(decide ((u2:Int)<(jc dQ.enc x0.Objects)))) then (true,u1,default)
  else bif (!v3) then (false,default,false)
  else lW x0 n u1 (eG .i64 u2 1)
def iI (x0:dK)(u6:Int):Nat->Bool->Int->(List Int)->(Bool×Bool×Int×List Int×Bool×List Int)
 |0,_,_,_=>default
 |n+1,u8,u9,u10=>
  let v11:Int:=u10.getD (u9:Int).toNat default
  let v12:List Int:=u10.set (u9:Int).toNat (eG .i64 u6 1)
  let v13:dQ:=x0.Objects.getD (u9:Int).toNat default
  let v14:dQ:=x0.Objects.getD (u9:Int).toNat default
  let v15:Int:=v12.getD (v14.fB.Ref:Int).toNat default
  bif (!(dV v11 0)) then (true,u8,u9,u10,default,default)
  else bif (dV v13.fB.Kind 1) then (true,u8,u9,v12,default,default)
  else bif (dV v15 (eG .i64 u6 1)) then (false,default,default,default,false,v12)
  else iI x0 u6 n u8 v14.fB.Ref v12
def kY (x0:dK)(u6:Int):Nat->Bool->Int->(List Int)->Bool
 |0,_,_,_=>false
 |n+1,u8,u9,u10=>
  let v11:Int:=u10.getD (u9:Int).toNat default
  let v12:List Int:=u10.set (u9:Int).toNat (eG .i64 u6 1)
  let v13:dQ:=x0.Objects.getD (u9:Int).toNat default
  let v14:dQ:=x0.Objects.getD (u9:Int).toNat default
  let v15:Int:=v12.getD (v14.fB.Ref:Int).toNat default
  bif (!(dV v11 0)) then true
  else bif (dV v13.fB.Kind 1) then true
  else bif (dV v15 (eG .i64 u6 1)) then true
  else kY x0 u6 n u8 v14.fB.Ref v12
def nD (x0:dK)(u6:Int):Nat->Int->(List Int)->(Int×List Int)
 |0,_,_=>default
 |n+1,u14,u15=>
  let v16:Int:=u15.getD (u14:Int).toNat default
  let v17:List Int:=u15.set (u14:Int).toNat (-1)
  let v18:dQ:=x0.Objects.getD (u14:Int).toNat default
  let v19:dQ:=x0.Objects.getD (u14:Int).toNat default
  bif (!(dV v16 (eG .i64 u6 1))) then (u14,u15)
  else bif (dV v18.fB.Kind 1) then (u14,v17)
  else nD x0 u6 n v19.fB.Ref v17
def kK (x0:dK)(u6:Int):Nat->Int->(List Int)->Bool
 |0,_,_=>false
 |n+1,u14,u15=>
  let v16:Int:=u15.getD (u14:Int).toNat default
  let v17:List Int:=u15.set (u14:Int).toNat (-1)
  let v18:dQ:=x0.Objects.getD (u14:Int).toNat default
  let v19:dQ:=x0.Objects.getD (u14:Int).toNat default
  bif (!(dV v16 (eG .i64 u6 1))) then true
  else bif (dV v18.fB.Kind 1) then true
  else kK x0 u6 n v19.fB.Ref v17
def nG (x0:dK):Nat->Bool->Int->(List Int)->(Bool×Bool×List Int×Bool×List Int)
 |0,_,_,_=>default
 |n+1,u5,u6,u7=>
  let r8:Bool×Bool×Int×List Int×Bool×List Int:=iI x0 u6 (x0.Objects.length+1) u5 u6 u7
  let r14:Int×List Int:=nD x0 u6 (x0.Objects.length+1) u6 r8.2.2.2.1
  bif (!(decide ((u6:Int)<(jc dQ.enc x0.Objects)))) then (true,u5,u7,default,default)
  else bif (!(dV (kP r8.1) 0)) then (false,default,default,r8.2.2.2.2.1,r8.2.2.2.2.2)
  else nG x0 n r8.2.1 (eG .i64 u6 1) r14.2
def rC (x0:dK):Bool:=
 let r1:Bool×Bool×Bool:=lW x0 (x0.Objects.length+1) false 0
 let v4:List Int:=List.replicate ((jc dQ.enc x0.Objects):Int).toNat 0
 let r5:Bool×Bool×List Int×Bool×List Int:=nG x0 (x0.Objects.length+1) r1.2.1 0 v4
 bif (decide (((jc dQ.enc x0.Objects):Int) > 4096)) then false
 else bif (!(dV (kP r1.1) 0)) then r1.2.2
 else bif (!(dV (kP r5.1) 0)) then r5.2.2.2.1
 else true
def nO (x0:dK)(x1:dP):Bool:=
 let v2:Bool:=jr x1
 let v3:Bool:=fV x1
 let v4:dQ:=x0.Objects.getD (x1.Ref:Int).toNat default
 let v5:dP:=xP v4 x1.Ref
 bif (!v2) then false
 else bif (!v3) then true
 else ((decide ((x1.Ref:Int)<(jc dQ.enc x0.Objects)))&&((dV v5.Kind x1.Kind)&&((fEq v5.Num x1.Num)&&((wJ v5.Str x1.Str)&&(dV v5.Ref x1.Ref)))))
def nU (x0:dK)(x1:Int):Nat->Bool->dP->(Bool×Bool×dP×Bool×dP)
 |0,_,_=>default
 |n+1,u3,u4=>
  let v5:Bool:=fV u4
  let v6:dQ:=x0.Objects.getD (u4.Ref:Int).toNat default
  let v7:dQ:=x0.Objects.getD (u4.Ref:Int).toNat default
  bif (!v5) then (true,u3,u4,default,default)
  else bif (dV u4.Ref x1) then (false,default,default,true,u4)
  else bif (dV v6.Kind 6) then (false,default,default,false,u4)
  else nU x0 x1 n u3 v7.fB
def oK (x0:dK)(x1:Int):Nat->Bool->dP->Bool
 |0,_,_=>false
 |n+1,u3,u4=>
  let v5:Bool:=fV u4
  let v6:dQ:=x0.Objects.getD (u4.Ref:Int).toNat default
  let v7:dQ:=x0.Objects.getD (u4.Ref:Int).toNat default
  bif (!v5) then true
  else bif (dV u4.Ref x1) then true
  else bif (dV v6.Kind 6) then true
  else oK x0 x1 n u3 v7.fB
def wB (x0:dK)(x1:Int)(x2:dP):Bool:=
 let r3:Bool×Bool×dP×Bool×dP:=nU x0 x1 (x0.Objects.length+1) false x2
 bif (dV (kP r3.1) 0) then false
 else r3.2.2.2.1
def o9 (x0:dP)(x1:dP):Bool:=
 ((((dV x0.Kind x1.Kind)&&(wJ x0.Str x1.Str))&&(dV x0.Ref x1.Ref))&&((fEq x0.Num x1.Num)||((Ll x0.Num x0.Num)&&(Ll x1.Num x1.Num))))
def qC (x0:dM)(x1:dM):Bool:=
 let v2:Bool:=o9 x0.Value x1.Value
 let v3:Bool:=o9 x0.Get x1.Get
 let v4:Bool:=o9 x0.Set x1.Set
 (((((((dV x0.Has x1.Has)&&(Nh x0.iw x1.iw))&&(Nh x0.fE x1.fE))&&(Nh x0.Configurable x1.Configurable))&&v2)&&v3)&&v4)
def lY (x0:List dL)(x1:List dL):Nat->Bool->Int->(Bool×Bool×Bool)
 |0,_,_=>default
 |n+1,u2,u3=>
  let v4:dL:=x0.getD (u3:Int).toNat default
  let v5:dL:=x1.getD (u3:Int).toNat default
  bif (!(decide ((u3:Int)<(jc dL.enc x0)))) then (true,u2,default)
  else bif (!((wJ v4.Str v5.Str)&&(dV v4.Sym v5.Sym))) then (false,default,false)
  else lY x0 x1 n u2 (eG .i64 u3 1)
def sJ (x0:List dL)(x1:List dL):Bool:=
 let r2:Bool×Bool×Bool:=lY x0 x1 (x0.length+1) false 0
 bif (iO (jc dL.enc x0) (jc dL.enc x1)) then false
 else bif (!(dV (kP r2.1) 0)) then r2.2.2
 else true
end Go.Fw
end
section
namespace Go.Fw
def qM (x0:dQ):dQ:=
 x0
def oG (x0:dK):Nat->Int->dK->dK
 |0,_,_=>default
 |n+1,u1,u2=>
  let v3:dQ:=x0.Objects.getD (u1:Int).toNat default
  let v4:dQ:=qM v3
  let v5:List dQ:=u2.Objects++[v4]
  bif (!(decide ((u1:Int)<(jc dQ.enc x0.Objects)))) then u2
  else oG x0 n (eG .i64 u1 1) (dK.mk v5)
def qN (x0:dK):dK:=
 let r1:dK:=oG x0 (x0.Objects.length+1) 0 (dK.mk [])
 r1
def kR (x0:dQ)(x1:dQ):Nat->Bool->Int->(Bool×Bool×Bool)
 |0,_,_=>default
 |n+1,u5,u6=>
  let v7:dJ:=x0.Props.getD (u6:Int).toNat default
  let v8:dJ:=x1.Props.getD (u6:Int).toNat default
  let v9:dJ:=x0.Props.getD (u6:Int).toNat default
  let v10:dJ:=x1.Props.getD (u6:Int).toNat default
  let v11:Bool:=qC v9.dY v10.dY
  bif (!(decide ((u6:Int)<(jc dJ.enc x0.Props)))) then (true,u5,default)
  else bif ((!((wJ v7.Key.Str v8.Key.Str)&&(dV v7.Key.Sym v8.Key.Sym)))||(!v11)) then (false,default,false)
  else kR x0 x1 n u5 (eG .i64 u6 1)
def qE (x0:dQ)(x1:dQ):Bool:=
 let v2:Bool:=o9 x0.fB x1.fB
 let v3:Bool:=o9 x0.Target x1.Target
 let v4:Bool:=o9 x0.Handler x1.Handler
 let r5:Bool×Bool×Bool:=kR x0 x1 (x0.Props.length+1) false 0
 bif (((((((((iO x0.Kind x1.Kind)||(!v2))||(!(Nh x0.Ext x1.Ext)))||(!v3))||(!v4))||(YZ x0.Text x1.Text))||(!(Nh x0.Calls x1.Calls)))||(!(Nh x0.Makes x1.Makes)))||(iO (jc dJ.enc x0.Props) (jc dJ.enc x1.Props))) then false
 else bif (!(dV (kP r5.1) 0)) then r5.2.2
 else true
def qo (x0:dK)(x1:dK):Nat->Bool->Int->(Bool×Bool×Bool)
 |0,_,_=>default
 |n+1,u2,u3=>
  let v4:dQ:=x0.Objects.getD (u3:Int).toNat default
  let v5:dQ:=x1.Objects.getD (u3:Int).toNat default
  let v6:Bool:=qE v4 v5
  bif (!(decide ((u3:Int)<(jc dQ.enc x0.Objects)))) then (true,u2,default)
  else bif (!v6) then (false,default,false)
  else qo x0 x1 n u2 (eG .i64 u3 1)
def zy (x0:dK)(x1:dK):Bool:=
 let r2:Bool×Bool×Bool:=qo x0 x1 (x0.Objects.length+1) false 0
 bif (iO (jc dQ.enc x0.Objects) (jc dQ.enc x1.Objects)) then false
 else bif (!(dV (kP r2.1) 0)) then r2.2.2
 else true
end Go.Fw
end
section
namespace Go.Fw
def IX (r:List dJ×gZ):AV:=.kS [(.sl (List.map dJ.enc r.1) false),(gZ.av r.2)]
def Gv (r:List dJ×Bool):AV:=.kS [(.sl (List.map dJ.enc r.1) false),(.p (.bool r.2))]
def Gw (r:dQ×gZ):AV:=.kS [(dQ.av r.1),(gZ.av r.2)]
def oH (x0:Int):Bool:=
 ((((decide ((x0:Int)>=1))&&(decide ((x0:Int)<=6)))||(dV x0 10))||(dV x0 11))
def lD (x0:dK)(x1:iK):Int:=
 let v2:Int:=iy x1.Key
 let v3:Int:=jl x1.dY
 let v4:Bool:=nO x0 x1.dY.Value
 let v5:Bool:=nO x0 x1.dY.Get
 let v6:Bool:=nO x0 x1.dY.Set
 let v7:Bool:=fV x1.Value
 let v8:Bool:=nO x0 x1.Value
 bif ((((dV x1.Method 5)||(dV x1.Method 6))||(dV x1.Method 10))&&(iO v2 0)) then 9
 else bif ((dV x1.Method 6)&&(iO v3 0)) then 90
 else bif ((dV x1.Method 6)&&(((!v4)||(!v5))||(!v6))) then 9
 else bif (((dV x1.Method 2)&&(iO x1.Value.Kind 1))&&(!v7)) then 9
 else bif ((dV x1.Method 2)&&(!v8)) then 9
 else 0
def Hu (x0:dP):gZ:=
 (gZ.mk 1 x0 false false (dM.mk 0 (dP.mk 0 0 [] 0) (dP.mk 0 0 [] 0) (dP.mk 0 0 [] 0) false false false) [] 0 [])
def rD (x0:Bool):gZ:=
 (gZ.mk 1 (dP.mk 0 0 [] 0) x0 false (dM.mk 0 (dP.mk 0 0 [] 0) (dP.mk 0 0 [] 0) (dP.mk 0 0 [] 0) false false false) [] 0 [])
def Hw (x0:Int)(x1:List UInt8):gZ:=
 (gZ.mk 3 (dP.mk 0 0 [] 0) false false (dM.mk 0 (dP.mk 0 0 [] 0) (dP.mk 0 0 [] 0) (dP.mk 0 0 [] 0) false false false) [] x0 x1)
def EZ (x0:List UInt8):gZ:=
 let v1:gZ:=Hw 2 x0
 v1
def yQ (x0:List dJ)(x1:Bool)(x2:dL)(x3:dM):List dJ×gZ:=
 let v4:dM×Bool×Int:=uP x0 x2
 let v5:dM×Bool×Int:=vI x1 x3 v4.2.1 v4.1
 let v6:gZ:=rD false
 let v7:gZ:=EZ [116,111,111,32,109,97,110,121]
 let v8:List dJ×Int:=BA x0 x2 v5.1
 let v9:gZ:=rD true
 bif (!v5.2.1) then (x0,v6)
 else bif ((!v4.2.1)&&(decide (((jc dJ.enc x0):Int)>=1024))) then (x0,v7)
 else (v8.1,v9)
def yR (x0:List dJ)(x1:dL):List dJ×Bool:=
 let v2:dM×Bool×Int:=uP x0 x1
 let v3:List dJ×Int:=wV x0 x1
 bif (!v2.2.1) then (x0,true)
 else bif (!v2.1.Configurable) then (x0,false)
 else (v3.1,true)
def sK (x0:dK)(x1:iK):dQ×gZ:=
 let v2:dQ:=x0.Objects.getD (x1.Object:Int).toNat default
 let v3:dQ:=qM v2
 let v4:gZ:=Hu v3.fB
 let v5:Bool:=sD x1.Value v3.fB
 let v6:gZ:=rD true
 let v7:Bool:=wB x0 x1.Object x1.Value
 let v8:gZ:=rD false
 let v9:gZ:=rD true
 let v10:gZ:=rD v3.Ext
 let v11:gZ:=rD true
 let v12:dM×Bool×Int:=uP v3.Props x1.Key
 let v13:List dJ×gZ:=yQ v3.Props v3.Ext x1.Key x1.dY
 let v14:List dJ×Bool:=yR v3.Props x1.Key
 let v15:gZ:=rD v14.2
 let v16:List dL×Int:=wW v3.Props
 bif (dV x1.Method 1) then (v3,v4)
 else bif ((dV x1.Method 2)&&v5) then (v3,v6)
 else bif ((dV x1.Method 2)&&((!v3.Ext)||v7)) then (v3,v8)
 else bif (dV x1.Method 2) then ((dQ.mk v3.Kind x1.Value v3.Ext v3.Props v3.Target v3.Handler v3.Text v3.Calls v3.Makes),v9)
 else bif (dV x1.Method 3) then (v3,v10)
 else bif (dV x1.Method 4) then ((dQ.mk v3.Kind v3.fB false v3.Props v3.Target v3.Handler v3.Text v3.Calls v3.Makes),v11)
 else bif (dV x1.Method 5) then (v3,(gZ.mk 1 (dP.mk 0 0 [] 0) false v12.2.1 v12.1 [] 0 []))
 else bif (dV x1.Method 6) then ((dQ.mk v3.Kind v3.fB v3.Ext v13.1 v3.Target v3.Handler v3.Text v3.Calls v3.Makes),v13.2)
 else bif (dV x1.Method 10) then ((dQ.mk v3.Kind v3.fB v3.Ext v14.1 v3.Target v3.Handler v3.Text v3.Calls v3.Makes),v15)
 else (v3,(gZ.mk 1 (dP.mk 0 0 [] 0) false false (dM.mk 0 (dP.mk 0 0 [] 0) (dP.mk 0 0 [] 0) (dP.mk 0 0 [] 0) false false false) v16.1 0 []))
def xW (x0:dK)(x1:Int)(x2:dQ):dK:=
 let v3:dK:=qN x0
 let v4:dQ:=qM x2
 let v5:List dQ:=v3.Objects.set (x1:Int).toNat v4
 let v6:List dQ:=(v5.drop (0)).take (((jc dQ.enc v3.Objects):Int).toNat-0)
 (dK.mk v6)
def E5 (x0:dK)(x1:iK):dK×gZ×Int:=
 let v2:Bool:=rC x0
 let v3:Bool:=oH x1.Method
 let v4:dQ:=x0.Objects.getD (x1.Object:Int).toNat default
 let v5:Int:=lD x0 x1
 let v6:dQ×gZ:=sK x0 x1
 let v7:dK:=xW x0 x1.Object v6.1
 bif (!v2) then ((dK.mk []),(gZ.mk 0 (dP.mk 0 0 [] 0) false false (dM.mk 0 (dP.mk 0 0 [] 0) (dP.mk 0 0 [] 0) (dP.mk 0 0 [] 0) false false false) [] 0 []),9)
 else bif (((!v3)||(decide ((x1.Object:Int)<0)))||(decide ((x1.Object:Int)>=(jc dQ.enc x0.Objects)))) then ((dK.mk []),(gZ.mk 0 (dP.mk 0 0 [] 0) false false (dM.mk 0 (dP.mk 0 0 [] 0) (dP.mk 0 0 [] 0) (dP.mk 0 0 [] 0) false false false) [] 0 []),2)
 else bif (((iO v4.Kind 1)&&(iO v4.Kind 4))&&(iO v4.Kind 5)) then ((dK.mk []),(gZ.mk 0 (dP.mk 0 0 [] 0) false false (dM.mk 0 (dP.mk 0 0 [] 0) (dP.mk 0 0 [] 0) (dP.mk 0 0 [] 0) false false false) [] 0 []),2)
 else bif (iO v5 0) then ((dK.mk []),(gZ.mk 0 (dP.mk 0 0 [] 0) false false (dM.mk 0 (dP.mk 0 0 [] 0) (dP.mk 0 0 [] 0) (dP.mk 0 0 [] 0) false false false) [] 0 []),v5)
 else (v7,v6.2,0)
def t_ (x0:gZ)(x1:gZ):Bool:=
 let v2:Bool:=o9 x0.Value x1.Value
 let v3:Bool:=qC x0.dY x1.dY
 let v4:Bool:=sJ x0.Keys x1.Keys
 ((((((((dV x0.Kind x1.Kind)&&v2)&&(Nh x0.Yes x1.Yes))&&(Nh x0.Found x1.Found))&&v3)&&v4)&&(dV x0.Error x1.Error))&&(wJ x0.Text x1.Text))
end Go.Fw
end
section
namespace Go.Fw
open Go.Proofs
set_option maxRecDepth 100000
def tT : Gt:=⟨[(142,true,3),(131,false,1),(144,false,1),(148,true,2),(3,false,1),(4,false,1),(5,false,1),(9,false,1),(22,false,1),(24,true,1),(26,true,2),(27,false,1),(29,true,4),(31,true,16),(34,true,29),(37,false,1),(39,true,26),(45,false,1),(47,true,18),(49,true,18),(55,false,1)],[(148,[(0,0,false,1),(1,1,false,1)]),(24,[(0,0,false,1)]),(26,[(0,0,false,1),(1,1,false,1)]),(29,[(0,0,false,1),(1,1,false,1),(2,2,false,1),(3,3,false,1)]),(31,[(0,0,false,1),(1,1,true,4),(2,5,true,4),(3,9,true,4),(4,13,false,1),(5,14,false,1),(6,15,false,1)]),(34,[(0,0,false,1),(1,1,false,1),(2,2,true,2),(3,4,true,16),(4,20,true,4),(5,24,true,4),(6,28,false,1)]),(39,[(0,0,false,1),(1,1,true,4),(2,5,false,1),(3,6,false,1),(4,7,true,16),(5,23,false,1),(6,24,false,1),(7,25,false,1)]),(47,[(0,0,false,1),(1,1,true,4),(2,5,false,1),(3,6,false,1),(4,7,true,4),(5,11,true,4),(6,15,false,1),(7,16,false,1),(8,17,false,1)]),(49,[(0,0,true,2),(1,2,true,16)]),(57,[(0,0,true,1),(1,1,false,1),(2,2,true,29)])],[(142,[(.p (.pointer none)),(.p (.pointer none)),(.p (.int .u64 0))]),(148,[(.p .nilFunc),(.p .nilFunc)]),(3,[(.p (.int .i64 0))]),(4,[(.p (.bool false))]),(24,[(.sl [] true)]),(26,[(.str []),(.p (.int .i64 0))]),(27,[(.p (.float .f64 0))]),(29,[(.p (.int .u8 0)),(.p (.float .f64 0)),(.str []),(.p (.int .i64 0))]),(31,[(.p (.int .u8 0)),(.p (.int .u8 0)),(.p (.float .f64 0)),(.str []),(.p (.int .i64 0)),(.p (.int .u8 0)),(.p (.float .f64 0)),(.str []),(.p (.int .i64 0)),(.p (.int .u8 0)),(.p (.float .f64 0)),(.str []),(.p (.int .i64 0)),(.p (.bool false)),(.p (.bool false)),(.p (.bool false))]),(37,[(.sl [] true)]),(39,[(.p (.int .u8 0)),(.p (.int .u8 0)),(.p (.float .f64 0)),(.str []),(.p (.int .i64 0)),(.p (.bool false)),(.p (.bool false)),(.p (.int .u8 0)),(.p (.int .u8 0)),(.p (.float .f64 0)),(.str []),(.p (.int .i64 0)),(.p (.int .u8 0)),(.p (.float .f64 0)),(.str []),(.p (.int .i64 0)),(.p (.int .u8 0)),(.p (.float .f64 0)),(.str []),(.p (.int .i64 0)),(.p (.bool false)),(.p (.bool false)),(.p (.bool false)),(.sl [] true),(.p (.int .u8 0)),(.str [])]),(47,[(.p (.int .u8 0)),(.p (.int .u8 0)),(.p (.float .f64 0)),(.str []),(.p (.int .i64 0)),(.p (.bool false)),(.sl [] true),(.p (.int .u8 0)),(.p (.float .f64 0)),(.str []),(.p (.int .i64 0)),(.p (.int .u8 0)),(.p (.float .f64 0)),(.str []),(.p (.int .i64 0)),(.str []),(.p (.bool false)),(.p (.bool false))]),(49,[(.str []),(.p (.int .i64 0)),(.p (.int .u8 0)),(.p (.int .u8 0)),(.p (.float .f64 0)),(.str []),(.p (.int .i64 0)),(.p (.int .u8 0)),(.p (.float .f64 0)),(.str []),(.p (.int .i64 0)),(.p (.int .u8 0)),(.p (.float .f64 0)),(.str []),(.p (.int .i64 0)),(.p (.bool false)),(.p (.bool false)),(.p (.bool false))]),(57,[(.sl [] true),(.p (.pointer none)),(.p (.int .u8 0)),(.p (.int .i64 0)),(.str []),(.p (.int .i64 0)),(.p (.int .u8 0)),(.p (.int .u8 0)),(.p (.float .f64 0)),(.str []),(.p (.int .i64 0)),(.p (.int .u8 0)),(.p (.float .f64 0)),(.str []),(.p (.int .i64 0)),(.p (.int .u8 0)),(.p (.float .f64 0)),(.str []),(.p (.int .i64 0)),(.p (.bool false)),(.p (.bool false)),(.p (.bool false)),(.p (.int .u8 0)),(.p (.float .f64 0)),(.str []),(.p (.int .i64 0)),(.p (.int .u8 0)),(.p (.float .f64 0)),(.str []),(.p (.int .i64 0)),(.sl [] true)])],[(22,47,18),(32,29,4),(37,26,2),(45,49,18),(81,3,1),(99,4,1)],[(148,[(0,1),(1,1)]),(24,[(0,1)]),(26,[(0,1),(1,1)]),(29,[(0,1),(1,1),(2,1),(3,1)]),(31,[(0,1),(1,4),(5,4),(9,4),(13,1),(14,1),(15,1)]),(39,[(0,1),(1,4),(5,1),(6,1),(7,16),(23,1),(24,1),(25,1)]),(47,[(0,1),(1,4),(5,1),(6,1),(7,4),(11,4),(15,1),(16,1),(17,1)]),(49,[(0,2),(2,16)]),(57,[(0,1),(1,1),(2,29)])],[(9,())],[(4,())],[(26,fun xs ys=>match xs,ys with | [.str a0,.p (.int .i64 a1)],[.str b0,.p (.int .i64 b1)]=>some (wJ a0 b0&&(dV a1 b1))|_,_=>none),(29,fun xs ys=>match xs,ys with | [.p (.int .u8 a0),.p (.float .f64 a1),.str a2,.p (.int .i64 a3)],[.p (.int .u8 b0),.p (.float .f64 b1),.str b2,.p (.int .i64 b3)]=>some (dV a0 b0&&(fEq a1 b1&&(wJ a2 b2&&(dV a3 b3))))|_,_=>none)]⟩
instance : zH Tryz.prog tT where
 ty:=(aC (aC (aC (aC (aC (aC (aC (aC (aC (aC (aC (aC (aC (aC (aC (aC (aC (aC (aC (aC (aC trivial)))))))))))))))))))))
 fl:=(aF (aC (aC trivial)) (aF (aC trivial) (aF (aC (aC trivial)) (aF (aC (aC (aC (aC trivial)))) (aF (aC (aC (aC (aC (aC (aC (aC trivial))))))) (aF (aC (aC (aC (aC (aC (aC (aC trivial))))))) (aF (aC (aC (aC (aC (aC (aC (aC (aC trivial)))))))) (aF (aC (aC (aC (aC (aC (aC (aC (aC (aC trivial))))))))) (aF (aC (aC trivial)) (aF (aC (aC (aC trivial))) trivial))))))))))
 ze:=(aZ (aZ (aZ (aZ (aZ (aZ (aZ (aZ (aZ (aZ (aZ (aZ (aZ (aZ trivial))))))))))))))
 se:=(aS (aS (aS (aS (aS (aS trivial))))))
 pl:=(aC (aC (aC (aC (aC (aC (aC (aC (aC trivial)))))))))
 st:=(aC trivial)
 bo:=(aC trivial)
 eq:=⟨⟨by kernel_rfl,fun xs ys r h=>by
  dsimp only at h
  split at h
  .cases h
   have e:∀a0 b0 a1 b1,aeq Tryz.prog 10000 26 (.agg [.str a0,.p (.int .i64 a1)]) (.agg [.str b0,.p (.int .i64 b1)])=some ((decide (a0=b0))&&((a1 == b1)&&true)):=by intros;kernel_rfl
   exact (e ..).trans (congrArg some (by simp only [dV,wJ,fEq,Nh,Bool.and_true]))
  .cases h⟩,⟨⟨by kernel_rfl,fun xs ys r h=>by
  dsimp only at h
  split at h
  .cases h
   have e:∀a0 b0 a1 b1 a2 b2 a3 b3,aeq Tryz.prog 10000 29 (.agg [.p (.int .u8 a0),.p (.float .f64 a1),.str a2,.p (.int .i64 a3)]) (.agg [.p (.int .u8 b0),.p (.float .f64 b1),.str b2,.p (.int .i64 b3)])=some ((a0 == b0)&&((FloatKind.f64.format.order a1 b1 == some .eq)&&((decide (a2=b2))&&((a3 == b3)&&true)))):=by intros;kernel_rfl
   exact (e ..).trans (congrArg some (by simp only [dV,wJ,fEq,Nh,Bool.and_true]))
  .cases h⟩,trivial⟩⟩
 mx:=by kernel_rfl
end Go.Fw
end
section
namespace Go.Fw
theorem rG : fEq 0 0=true:=by rfl
theorem sN : wJ [] []=true:=by rfl
theorem sO : dV 0 0=true:=by rfl
instance : KR dP.enc:=⟨dP.jZ⟩
instance : KR dL.enc:=⟨dL.jZ⟩
instance : KR dM.enc:=⟨dM.jZ⟩
instance : KR dJ.enc:=⟨dJ.jZ⟩
instance : KR dQ.enc:=⟨dQ.jZ⟩
instance : KR dK.enc:=⟨dK.jZ⟩
instance : KR gZ.enc:=⟨gZ.jZ⟩
instance : KR zU.enc:=⟨zU.jZ⟩
instance : KR iK.enc:=⟨iK.jZ⟩
instance : KR zV.enc:=⟨zV.jZ⟩
instance : KR Iw.enc:=⟨Iw.jZ⟩
instance : KR vY.enc:=⟨vY.jZ⟩
instance : KR Zj.enc:=⟨Zj.jZ⟩
instance : KR zW.enc:=⟨zW.jZ⟩
instance {x : dP}:BP (dP.av x):=⟨dP.fz x⟩
instance {x : dL}:BP (dL.av x):=⟨dL.fz x⟩
instance {x : dM}:BP (dM.av x):=⟨dM.fz x⟩
instance {x : dJ}:BP (dJ.av x):=⟨dJ.fz x⟩
instance {x : dQ}:BP (dQ.av x):=⟨dQ.fz x⟩
instance {x : dK}:BP (dK.av x):=⟨dK.fz x⟩
instance {x : gZ}:BP (gZ.av x):=⟨gZ.fz x⟩
instance {x : zU}:BP (zU.av x):=⟨zU.fz x⟩
instance {x : iK}:BP (iK.av x):=⟨iK.fz x⟩
instance {x : zV}:BP (zV.av x):=⟨zV.fz x⟩
instance {x : Iw}:BP (Iw.av x):=⟨Iw.fz x⟩
instance {x : vY}:BP (vY.av x):=⟨vY.fz x⟩
instance {x : Zj}:BP (Zj.av x):=⟨Zj.fz x⟩
instance {x : zW}:BP (zW.av x):=⟨zW.fz x⟩
instance {r : Int×Bool}:BP (yM r):=⟨(inferInstance:BO [(.p (.int .i64 r.1)),(.p (.bool r.2))]).h⟩
instance {r : dM×Bool×Int}:BP (lT r):=⟨(inferInstance:BO [(dM.av r.1),(.p (.bool r.2.1)),(.p (.int .i64 r.2.2))]).h⟩
instance {r : Bool×Int}:BP (Dt r):=⟨(inferInstance:BO [(.p (.bool r.1)),(.p (.int .i64 r.2))]).h⟩
instance {r : List dJ×Int}:BP (Ak r):=⟨(inferInstance:BO [(.sl (List.map dJ.enc r.1) false),(.p (.int .i64 r.2))]).h⟩
instance {r : List dJ×gZ}:BP (IX r):=⟨(inferInstance:BO [(.sl (List.map dJ.enc r.1) false),(gZ.av r.2)]).h⟩
instance {r : List dJ×Bool}:BP (Gv r):=⟨(inferInstance:BO [(.sl (List.map dJ.enc r.1) false),(.p (.bool r.2))]).h⟩
instance {r : List dL×Int}:BP (IW r):=⟨(inferInstance:BO [(.sl (List.map dL.enc r.1) false),(.p (.int .i64 r.2))]).h⟩
instance {r : dQ×gZ}:BP (Gw r):=⟨(inferInstance:BO [(dQ.av r.1),(gZ.av r.2)]).h⟩
instance {r : dK×gZ×Int}:BP (wX r):=⟨(inferInstance:BO [(dK.av r.1),(gZ.av r.2.1),(.p (.int .i64 r.2.2))]).h⟩
instance {r : dM×Int}:BP (IQ r):=⟨(inferInstance:BO [(dM.av r.1),(.p (.int .i64 r.2))]).h⟩
instance {r : Int×Int}:BP (IV r):=⟨(inferInstance:BO [(.p (.int .i64 r.1)),(.p (.int .i64 r.2))]).h⟩
open Go.Proofs
set_option maxRecDepth 100000
instance : aaE Tryz.prog 26 dL.av where
 h a b:=by
  have e:∀a0 b0 a1 b1,aeq Tryz.prog 10000 26 (.agg [.str a0,.p (.int .i64 a1)]) (.agg [.str b0,.p (.int .i64 b1)])=some ((decide (a0=b0))&&((a1 == b1)&&true)):=by intros;kernel_rfl
  refine (e ..).trans (congrArg some ?_)
  cases a;cases b
  simp [Bool.decide_and]
  rfl
 h2 a:=by kernel_rfl
 h3 a:=rfl
instance : aaE Tryz.prog 3 eI where
 h a b:=by
  have e:aeq Tryz.prog 10000 3 (.p (.int .i64 a)) (.p (.int .i64 b))=some (a == b):=by kernel_rfl
  exact e.trans (congrArg some (by rfl))
 h2 a:=by kernel_rfl
 h3 a:=rfl
end Go.Fw
end
section
namespace Go.Fw
def ltK (a b:dL):Bool:=(decide (((dX a).1:Int)<(dX b).1))||((dV (dX a).1 (dX b).1)&&(decide (((dX a).2:Int)<(dX b).2)))
theorem FY {a b:dL}:ltK a b=true↔(dX a).1<(dX b).1\/((dX a).1=(dX b).1/\(dX a).2<(dX b).2):=by
 simp [ltK,O5]
theorem DV {a b:dL}:ltK a b=false↔¬((dX a).1<(dX b).1\/((dX a).1=(dX b).1/\(dX a).2<(dX b).2)):=by
 rw [<- FY];simp
def AU (l:List dL):Prop:=l.Pairwise fun a b=>ltK b a=false
def rM (l m:List dL):Prop:=∀p:Int×Int,l.filter (fun k=>decide (dX k=p))=m.filter (fun k=>decide (dX k=p))
theorem rM.refl (l:List dL):rM l l:=fun _=>rfl
theorem rM.symm {l m:List dL}(h:rM l m):rM m l:=fun p=>(h p).symm
theorem rM.trans {l m n:List dL}(h:rM l m)(k:rM m n):rM l n:=fun p=>(h p).trans (k p)
theorem rM.app {a b c d:List dL}(h:rM a b)(k:rM c d):rM (a++c) (b++d):=fun p=>by rw [List.filter_append,List.filter_append,h p,k p]
theorem rM.swap {a b:List dL}(h:∀x∈a,∀y∈b,ltK y x=true):rM (a++b) (b++a):=by
 intro p
 rw [List.filter_append,List.filter_append]
 by_cases ha:a.filter (fun k=>decide (dX k=p))=[]
 .rw [ha];simp
 .by_cases hb:b.filter (fun k=>decide (dX k=p))=[]
  .rw [hb];simp
  .obtain ⟨x,hx⟩:=List.exists_mem_of_ne_nil _ ha
   obtain ⟨y,hy⟩:=List.exists_mem_of_ne_nil _ hb
   rw [List.mem_filter] at hx hy
   have h1:=of_decide_eq_true hx.2
   have h2:=of_decide_eq_true hy.2
   have:=FY.1 (h x hx.1 y hy.1)
   rw [h1,h2] at this
   omega
theorem rM.FZ {a b:List dL}(h:rM a b):∀x,x∈a->x∈b:=by
 intro x hx
 have h1:x∈a.filter (fun k=>decide (dX k=dX x)):=List.mem_filter.2 ⟨hx,by simp⟩
 rw [h] at h1
 exact (List.mem_filter.1 h1).1
theorem aoP {a b c:dL}(h:ltK b a=false)(k:ltK c b=false):ltK c a=false:=by
 rw [DV] at *;omega
theorem aoR {a b c:dL}(h:ltK b a=false)(k:ltK b c=true):ltK a c=true:=by
 rw [DV] at h;rw [FY] at *;omega
theorem Lp {a b c:dL}(h:ltK a b=true)(k:ltK c b=false):ltK a c=true:=by
 rw [DV] at k;rw [FY] at *;omega
theorem J7 {a b:dL}(h:ltK a b=true):ltK b a=false:=by
 rw [FY] at h;rw [DV];omega
theorem AU.uniq : ∀{a b:List dL},AU a->AU b->rM a b->a=b
 |[],b,ha,hb,h=>by
  cases b with
  |nil=>rfl
  |cons y r=>have:=h.symm.FZ y (by simp);cases this
 |x::r,b,ha,hb,h=>by
  cases b with
  |nil=>have:=h.FZ x (by simp);cases this
  |cons y s=>
   obtain ⟨a1,a2⟩:=List.pairwise_cons.1 ha
   obtain ⟨b1,b2⟩:=List.pairwise_cons.1 hb
   have hxy:ltK y x=false:=by
    have:=h.symm.FZ y (by simp)
    cases this with
    |head=>rw [DV];omega
    |tail _ hm=>exact a1 y hm
   have hyx:ltK x y=false:=by
    have:=h.FZ x (by simp)
    cases this with
    |head=>rw [DV];omega
    |tail _ hm=>exact b1 x hm
   have hp:dX x=dX y:=by
    rw [DV] at hxy hyx
    exact Prod.ext (by omega) (by omega)
   have he:=h (dX x)
   simp only [List.filter_cons,hp,decide_true,if_true,List.cons.injEq] at he
   obtain ⟨rfl,he2⟩:=he
   have:rM r s:=by
    intro p
    have:=h p
    simp only [List.filter_cons] at this
    by_cases hq:dX x=p
    .simp only [hq,decide_true,if_true,List.cons.injEq,true_and] at this;exact this
    .simp only [hq,decide_false,Bool.false_eq_true,if_false] at this;exact this
   rw [AU.uniq a2 b2 this]
theorem wC {α:Type}[Inhabited α]{A B:List α}{x:α}{i:Int}(h:i=A.length):(A++x::B).getD i.toNat default=x:=by
 subst h;simp
theorem aoO {α:Type}{A B:List α}{x y:α}{i:Int}(h:i=A.length):(A++x::B).set i.toNat y=A++y::B:=by
 subst h;simp
theorem apA {A M B:List dL}{x y:dL}{i j:Int}(hi:i=A.length)(hj:j=A.length+1+M.length) :
  ((A++x::(M++y::B)).set i.toNat y).set j.toNat x=A++y::(M++x::B):=by
 rw [aoO hi,show A++y::(M++y::B)=(A++y::M)++y::B by simp,aoO (by simp;omega)]
 simp
theorem DW {a b n:Int}:∀(k:Nat) (P Y1 X2 M X1 Y2 T:List dL) (i:Int),a=P.length->i=Y1.length->Y1.length=X1.length->X2.length=Y2.length->b=a+i+X2.length+M.length->n=i+X2.length->X2.length<k->a+b+n<4294967296->
  iL a b n k i (P++Y1++X2++M++X1++Y2++T)=P++Y1++Y2++M++X1++X2++T
 |0,P,Y1,X2,M,X1,Y2,T,i,ha,hi,h1,h2,hb,hn,hk,hlim=>by omega
 |k+1,P,Y1,X2,M,X1,Y2,T,i,ha,hi,h1,h2,hb,hn,hk,hlim=>by
  simp only [iL]
  cases X2 with
  |nil=>
   have:Y2=[]:=List.length_eq_zero_iff.1 (by simpa using h2.symm)
   subst this
   have hd:decide (i<n)=false:=decide_eq_false (by simp at hn;omega)
   simp [hd]
  |cons x X=>
   cases Y2 with
   |nil=>simp at h2
   |cons y Y=>
    simp only [List.length_cons] at *
    have hd:decide (i<n)=true:=decide_eq_true (by omega)
    have e1:eG .i64 a i=a+i:=ng (by omega) (by omega)
    have e2:eG .i64 b i=b+i:=ng (by omega) (by omega)
    have e3:eG .i64 i 1=i+1:=ng (by omega) (by omega)
    simp only [hd,Bool.not_true,cond_false,e1,e2,e3]
    have q1:P++Y1++x::X++M++X1++y::Y++T=(P++Y1)++x::((X++M++X1)++y::(Y++T)):=by simp
    have q2:P++Y1++x::X++M++X1++y::Y++T=((P++Y1)++x::(X++M++X1))++y::(Y++T):=by simp
    have g1:(P++Y1++x::X++M++X1++y::Y++T).getD (a+i).toNat default=x:=by rw [q1];exact wC (by simp;omega)
    have g2:(P++Y1++x::X++M++X1++y::Y++T).getD (b+i).toNat default=y:=by rw [q2];exact wC (by simp;omega)
    rw [g1,g2,q1,apA (by simp;omega) (by simp;omega)]
    have:=DW k P (Y1++[y]) X M (X1++[x]) Y T (i+1) ha (by simp;omega) (by simp;omega) (by omega) (by omega) (by omega) (by omega) hlim
    rw [show P++Y1++y::(X++M++X1++x::(Y++T))=P++(Y1++[y])++X++M++(X1++[x])++Y++T by simp,this]
    simp
theorem Dv {P X M Y T:List dL}{a b n:Int}(ha:a=P.length)(hx:n=X.length)(hy:n=Y.length)(hb:b=a+n+M.length)(hlim:a+b+n<4294967296) :
  gW (P++X++M++Y++T) a b n=P++Y++M++X++T:=by
 unfold gW
 have:=DW (a:=a) (b:=b) (n:=n) (n.toNat+1) P [] X M [] Y T 0 ha rfl rfl (by omega) (by omega) (by omega) (by omega) hlim
 simpa using this
theorem Dw {m:Int}:∀(k:Nat) (P A B T:List dL) (i j:Int),m=P.length+A.length->i=A.length->j=B.length->0<A.length->0<B.length->A.length+B.length<k->4*(P.length+A.length+B.length)<4294967296->
  ∃P' A' B' T',(gX m k i j (P++A++B++T)).2=P'++A'++B'++T'/\(gX m k i j (P++A++B++T)).1=A'.length/\A'.length=B'.length/\m=P'.length+A'.length/\P'++B'++A'++T'=P++B++A++T/\0<A'.length/\A'.length<=A.length/\A'.length<=B.length
 |0,P,A,B,T,i,j,hm,hi,hj,hA,hB,hk,hlim=>by omega
 |k+1,P,A,B,T,i,j,hm,hi,hj,hA,hB,hk,hlim=>by
  simp only [gX]
  by_cases he:A.length=B.length
  .have hd:iO i j=false:=qy.2 (by omega)
   simp only [hd,Bool.not_false,cond_true]
   exact ⟨P,A,B,T,rfl,hi,he,by omega,rfl,hA,Nat.le_refl _,by omega⟩
  .have hd:iO i j=true:=Gq.2 (by omega)
   simp only [hd,Bool.not_true,cond_false]
   have e1:jg .i64 m i=m-i:=tH (by omega) (by omega)
   by_cases hg:i > j
   .have hgd:decide (i > j)=true:=decide_eq_true hg
    have e2:jg .i64 i j=i-j:=tH (by omega) (by omega)
    simp only [hgd,cond_true,e1,e2]
    have hA1:A=A.take B.length++A.drop B.length:=(List.take_append_drop _ _).symm
    generalize hX:A.take B.length=X at *
    generalize hA2:A.drop B.length=A2 at *
    have lX:X.length=B.length:=by rw [<- hX];simp;omega
    have lA:A.length=X.length+A2.length:=by rw [hA1];simp
    have sw:gW (P++A++B++T) (m-i) m j=P++B++A2++X++T:=by
     have:=Dv (P:=P) (X:=X) (M:=A2) (Y:=B) (T:=T) (a:=m-i) (b:=m) (n:=j) (by omega) (by omega) (by omega) (by omega) (by omega)
     rw [hA1,show P++(X++A2)++B++T=P++X++A2++B++T by simp];exact this
    rw [sw]
    obtain ⟨P',A',B',T',q1,q2,q3,q4,q5,q6,q7,q8⟩:=Dw (m:=m) k (P++B) A2 X T (i-j) j (by simp;omega) (by omega) (by omega) (by omega) (by omega) (by omega) (by simp;omega)
    refine ⟨P',A',B',T',q1,q2,q3,q4,?_,q6,by omega,by omega⟩
    rw [q5,hA1];simp
   .have hgd:decide (i > j)=false:=decide_eq_false hg
    have e2:jg .i64 j i=j-i:=tH (by omega) (by omega)
    have e3:eG .i64 m j=m+j:=ng (by omega) (by omega)
    have e4:jg .i64 (m+j) i=m+j-i:=tH (by omega) (by omega)
    simp only [hgd,cond_false,e1,e2,e3,e4]
    have hB1:B=B.take (B.length-A.length)++B.drop (B.length-A.length):=(List.take_append_drop _ _).symm
    generalize hX:B.take (B.length-A.length)=B1 at *
    generalize hA2:B.drop (B.length-A.length)=B2 at *
    have lB1:B1.length=B.length-A.length:=by rw [<- hX];simp
    have lB:B.length=B1.length+B2.length:=by rw [hB1];simp
    have sw:gW (P++A++B++T) (m-i) (m+j-i) i=P++B2++B1++A++T:=by
     have:=Dv (P:=P) (X:=A) (M:=B1) (Y:=B2) (T:=T) (a:=m-i) (b:=m+j-i) (n:=i) (by omega) (by omega) (by omega) (by omega) (by omega)
     rw [hB1,show P++A++(B1++B2)++T=P++A++B1++B2++T by simp];exact this
    rw [sw]
    obtain ⟨P',A',B',T',q1,q2,q3,q4,q5,q6,q7,q8⟩:=Dw (m:=m) k P B2 B1 (A++T) i (j-i) (by omega) (by omega) (by omega) (by omega) (by omega) (by omega) (by omega)
    rw [show P++B2++B1++A++T=P++B2++B1++(A++T) by simp]
    refine ⟨P',A',B',T',q1,q2,q3,q4,?_,q6,by omega,by omega⟩
    rw [q5,hB1];simp
theorem aaG {P A B T:List dL}{a m b:Int}(ha:a=P.length)(hm:m=a+A.length)(hb:b=m+B.length)(hA:0<A.length)(hB:0<B.length)(hlim:4*(P.length+A.length+B.length)<4294967296) :
  jf (P++A++B++T) a m b=P++B++A++T:=by
 unfold jf
 dsimp only
 have e1:jg .i64 m a=m-a:=tH (by omega) (by omega)
 have e2:jg .i64 b m=b-m:=tH (by omega) (by omega)
 rw [e1,e2]
 obtain ⟨P',A',B',T',q1,q2,q3,q4,q5,q6,q7,q8⟩:=Dw (m:=m) ((b-a).toNat+1) P A B T (m-a) (b-m) (by omega) (by omega) (by omega) hA hB (by omega) hlim
 rw [q1,q2]
 have e3:jg .i64 m (A'.length:Int)=m-A'.length:=tH (by omega) (by omega)
 rw [e3]
 have lim:(P'.length:Int)+A'.length<=P.length+A.length:=by omega
 have:=Dv (P:=P') (X:=A') (M:=[]) (Y:=B') (T:=T') (a:=m-A'.length) (b:=m) (n:=A'.length) (by omega) rfl (by omega) (by simp) (by omega)
 simp only [List.append_nil] at this
 rw [this,q5]
end Go.Fw
end
section
namespace Go.Fw
theorem DX {a:Int}:∀(k:Nat) (P S T:List dL) (x:dL) (j:Int),a=P.length->j=P.length+S.length->S.length<k->P.length+S.length<4294967296->AU S->
  ∃S1 S2,S=S1++S2/\(∀y∈S1,ltK x y=false)/\(∀y∈S2,ltK x y=true)/\(gy a k j (P++S++x::T)).2=P++S1++x::(S2++T)
 |0,P,S,T,x,j,ha,hj,hk,hlim,hs=>by omega
 |k+1,P,S,T,x,j,ha,hj,hk,hlim,hs=>by
  simp only [gy]
  rcases List.eq_nil_or_concat S with rfl|⟨S',y,rfl⟩
  .have hd:decide (j > a)=false:=decide_eq_false (by simp at hj;omega)
   refine ⟨[],[],rfl,by simp,by simp,?_⟩
   simp [hd]
  .simp only [List.concat_eq_append,List.length_append,List.length_cons,List.length_nil] at *
   have hd:decide (j > a)=true:=decide_eq_true (by omega)
   have e1:jg .i64 j 1=j-1:=tH (by omega) (by omega)
   have g1:(P++(S'++[y])++x::T).getD j.toNat default=x:=wC (by simp;omega)
   have g2:(P++(S'++[y])++x::T).getD (j-1).toNat default=y:=by
    rw [show P++(S'++[y])++x::T=(P++S')++y::(x::T) by simp];exact wC (by simp;omega)
   have hs':AU S':=(List.pairwise_append.1 hs).1
   have hsy:∀z∈S',ltK y z=false:=fun z hz=>(List.pairwise_append.1 hs).2.2 z hz y (by simp)
   simp only [hd,e1,g1,g2,Bool.true_and,Bool.not_true,cond_false]
   have hl:(decide (((dX x).1:Int)<(dX y).1)||dV (dX x).1 (dX y).1&&decide (((dX x).2:Int)<(dX y).2))=ltK x y:=rfl
   rw [hl]
   cases hlt:ltK x y
   .refine ⟨S'++[y],[],by simp,?_,by simp,by simp⟩
    intro z hz
    rcases List.mem_append.1 hz with hz|hz
    .exact aoP (hsy z hz) hlt
    .simp at hz;subst hz;exact hlt
   .simp only [Bool.not_true,cond_false]
    have sw:(((P++(S'++[y])++x::T).set j.toNat y).set (j-1).toNat x)=P++S'++x::(y::T):=by
     rw [aoO (by simp;omega),show P++(S'++[y])++y::T=(P++S')++y::(y::T) by simp,aoO (by simp;omega)]
    rw [sw]
    obtain ⟨S1,S2,q1,q2,q3,q4⟩:=DX k P S' (y::T) x (j-1) ha (by omega) (by omega) (by omega) hs'
    refine ⟨S1,S2++[y],by rw [q1];simp,q2,fun z hz=>?_,by rw [q4];simp⟩
    rcases List.mem_append.1 hz with hz|hz
    .exact q3 z hz
    .simp at hz;subst hz;exact hlt
theorem SS {S1 S2:List dL}{x:dL}(hs:AU (S1++S2))(h1:∀y∈S1,ltK x y=false)(h2:∀y∈S2,ltK x y=true):AU (S1++x::S2):=by
 obtain ⟨a1,a2,a3⟩:=List.pairwise_append.1 hs
 refine List.pairwise_append.2 ⟨a1,List.pairwise_cons.2 ⟨fun y hy=>J7 (h2 y hy),a2⟩,fun y hy z hz=>?_⟩
 cases hz with
 |head=>exact h1 y hy
 |tail _ hz=>exact a3 y hy z hz
theorem SV {S1 S2:List dL}{x:dL}(h2:∀y∈S2,ltK x y=true):rM (S1++x::S2) (S1++S2++[x]):=by
 rw [List.append_assoc]
 refine rM.app (rM.refl _) (rM.symm (rM.swap (a:=S2) (b:=[x]) fun y hy z hz=>?_))
 simp at hz;subst hz;exact h2 y hy
theorem DY {a b:Int}:∀(k:Nat) (P S R T:List dL) (i:Int),a=P.length->i=P.length+S.length->b=i+R.length->R.length<k->P.length+S.length+R.length<4294967296->AU S->
  ∃S',fO a b k i (P++S++R++T)=P++S'++T/\AU S'/\rM S' (S++R)
 |0,P,S,R,T,i,ha,hi,hb,hk,hlim,hs=>by omega
 |k+1,P,S,R,T,i,ha,hi,hb,hk,hlim,hs=>by
  simp only [fO]
  cases R with
  |nil=>
   have hd:decide (i<b)=false:=decide_eq_false (by simp at hb;omega)
   refine ⟨S,by simp [hd],hs,by simp;exact rM.refl _⟩
  |cons x R=>
   simp only [List.length_cons] at *
   have hd:decide (i<b)=true:=decide_eq_true (by omega)
   have e1:eG .i64 i 1=i+1:=ng (by omega) (by omega)
   simp only [hd,Bool.not_true,cond_false,e1]
   obtain ⟨S1,S2,q1,q2,q3,q4⟩:=DX (a:=a) ((i-a).toNat+1) P S (R++T) x i ha hi (by omega) (by omega) hs
   rw [show P++S++x::R++T=P++S++x::(R++T) by simp,q4]
   have hs2:=SS (q1▸hs) q2 q3
   obtain ⟨S',r1,r2,r3⟩:=DY (a:=a) (b:=b) k P (S1++x::S2) R T (i+1) ha (by rw [q1] at hi;simp at hi ⊢;omega) (by omega) (by omega) (by rw [q1] at hlim;simp at hlim ⊢;omega) hs2
   refine ⟨S',by rw [<- r1];simp,r2,r3.trans ?_⟩
   rw [show S++x::R=(S++[x])++R by simp,q1]
   exact rM.app (SV q3) (rM.refl _)
theorem IY {P M T:List dL}{a b:Int}(ha:a=P.length)(hb:b=a+M.length)(hlim:P.length+M.length<4294967296) :
  ∃M',iU (P++M++T) a b=P++M'++T/\AU M'/\rM M' M:=by
 unfold iU
 dsimp only
 have e1:eG .i64 a 1=a+1:=ng (by omega) (by omega)
 rw [e1]
 cases M with
 |nil=>
  refine ⟨[],?_,List.Pairwise.nil,rM.refl _⟩
  simp only [List.length_nil] at hb
  simp only [fO]
  have hd:decide (a+1<b)=false:=decide_eq_false (by omega)
  simp [hd]
 |cons x M=>
  simp only [List.length_cons] at *
  obtain ⟨S',r1,r2,r3⟩:=DY (a:=a) (b:=b) (b.toNat+1) P [x] M T (a+1) ha (by simp;omega) (by omega) (by omega) (by simp;omega) (List.pairwise_singleton _ _)
  exact ⟨S',by rw [<- r1];simp,r2,by simpa using r3⟩
abbrev alB (a b:Int):Int:=IntKind.wrap .i64 (jA .u64 (IntKind.wrap .u64 (eG .i64 a b)) 1)
theorem IZ {a b:Int}(h0:0<=a)(h1:0<=b)(h2:a+b<9223372036854775807):alB a b=(a+b) / 2:=by
 have e:eG .i64 a b=a+b:=ng (by omega) (by omega)
 show IntKind.wrap .i64 (jA .u64 (IntKind.wrap .u64 (eG .i64 a b)) 1)=_
 rw [e,aiL (by omega) (by omega)]
def bs (q:Int->Bool):Nat->Int->Int->Int
 |0,i,_=>i
 |n+1,i,j=>bif decide (i<j) then (bif q ((i+j) / 2) then bs q n ((i+j) / 2+1) j else bs q n i ((i+j) / 2)) else i
theorem VD {q:Int->Bool}:∀(n:Nat) {i j:Int},i<=j->i<=bs q n i j/\bs q n i j<=j
 |0,i,j,h=>by simp [bs,h]
 |n+1,i,j,h=>by
  simp only [bs]
  by_cases hlt:i<j
  .simp only [hlt,decide_true,cond_true]
   cases q ((i+j) / 2) with
   |true=>simp only [cond_true];have:=VD (q:=q) n (i:=(i+j) / 2+1) (j:=j) (by omega);omega
   |false=>simp only [cond_false];have:=VD (q:=q) n (i:=i) (j:=(i+j) / 2) (by omega);omega
  .simp only [hlt,decide_false,cond_false];omega
theorem VE {q:Int->Bool}:∀(n:Nat) {i j:Int},i<=j->(j-i).toNat<n->(∀c d,i<=c->c<=d->d<j->q d=true->q c=true)->
  (∀c,i<=c->c<bs q n i j->q c=true)/\(∀c,bs q n i j<=c->c<j->q c=false)
 |0,i,j,h,hn,hm=>by omega
 |n+1,i,j,h,hn,hm=>by
  simp only [bs]
  by_cases hlt:i<j
  .simp only [hlt,decide_true,cond_true]
   cases hq:q ((i+j) / 2) with
   |true=>
    simp only [cond_true]
    obtain ⟨h1,h2⟩:=VE (q:=q) n (i:=(i+j) / 2+1) (j:=j) (by omega) (by omega) (fun c d a b e=>hm c d (by omega) b e)
    refine ⟨fun c hc hl=>?_,h2⟩
    by_cases h3:c<=(i+j) / 2
    .exact hm c _ hc h3 (by omega) hq
    .exact h1 c (by omega) hl
   |false=>
    simp only [cond_false]
    obtain ⟨h1,h2⟩:=VE (q:=q) n (i:=i) (j:=(i+j) / 2) (by omega) (by omega) (fun c d a b e=>hm c d a b (by omega))
    refine ⟨h1,fun c hc hl=>?_⟩
    by_cases h3:c<(i+j) / 2
    .exact h2 c hc h3
    .cases hqc:q c with
     |false=>rfl
     |true=>rw [hm _ c (by omega) (by omega) hl hqc] at hq;cases hq
  .simp only [hlt,decide_false,cond_false]
   exact ⟨fun c h1 h2=>by omega,fun c h1 h2=>by omega⟩
abbrev gt (l:List dL)(i:Int):dL:=l.getD i.toNat default
theorem acN {x0:List dL}{a:Int}:∀(n:Nat) {i j:Int},0<=i->i<=j->j<=4294967296->fP x0 a n i j=bs (fun c=>ltK (gt x0 c) (gt x0 a)) n i j
 |0,i,j,_,_,_=>rfl
 |n+1,i,j,h0,h1,h2=>by
  simp only [fP,bs]
  rw [show IntKind.wrap .i64 (jA .u64 (IntKind.wrap .u64 (eG .i64 i j)) 1)=(i+j) / 2 from IZ h0 (by omega) (by omega)]
  have e:eG .i64 ((i+j) / 2) 1=(i+j) / 2+1:=ng (by omega) (by omega)
  rw [e]
  by_cases hlt:i<j
  .simp only [hlt,decide_true,Bool.not_true,cond_false,cond_true]
   show fP x0 a n (bif ltK (gt x0 ((i+j) / 2)) (gt x0 a) then _ else _) (bif ltK (gt x0 ((i+j) / 2)) (gt x0 a) then _ else _)=_
   cases ltK (gt x0 ((i+j) / 2)) (gt x0 a) with
   |true=>simp only [cond_true];exact acN n (by omega) (by omega) h2
   |false=>simp only [cond_false];exact acN n h0 (by omega) (by omega)
  .simp only [hlt,decide_false,Bool.not_false,cond_true,cond_false]
theorem acO {x0:List dL}{m:Int}:∀(n:Nat) {i j:Int},0<=i->i<=j->j<=4294967296->g_ x0 m n i j=bs (fun c=>!ltK (gt x0 m) (gt x0 c)) n i j
 |0,i,j,_,_,_=>rfl
 |n+1,i,j,h0,h1,h2=>by
  simp only [g_,bs]
  rw [show IntKind.wrap .i64 (jA .u64 (IntKind.wrap .u64 (eG .i64 i j)) 1)=(i+j) / 2 from IZ h0 (by omega) (by omega)]
  have e:eG .i64 ((i+j) / 2) 1=(i+j) / 2+1:=ng (by omega) (by omega)
  rw [e]
  by_cases hlt:i<j
  .simp only [hlt,decide_true,Bool.not_true,cond_false,cond_true]
   show g_ x0 m n (bif ltK (gt x0 m) (gt x0 ((i+j) / 2)) then _ else _) (bif ltK (gt x0 m) (gt x0 ((i+j) / 2)) then _ else _)=_
   cases ltK (gt x0 m) (gt x0 ((i+j) / 2)) with
   |true=>simp only [cond_true,Bool.not_true,cond_false];exact acO n h0 (by omega) (by omega)
   |false=>simp only [cond_false,Bool.not_false,cond_true];exact acO n (by omega) (by omega) h2
  .simp only [hlt,decide_false,Bool.not_false,cond_true,cond_false]
theorem acP {x0:List dL}{a m b:Int}(ha:0<=a)(hab:a<=b)(hb:b<=4294967296)(hm0:0<=m)(hm1:m<=b):∀(n:Nat) {i j:Int},0<=i->i<=j->j<=4294967296->
  h_ x0 a m b n i j=bs (fun c=>!ltK (gt x0 ((a+b) / 2+m-1-c)) (gt x0 c)) n i j
 |0,i,j,_,_,_=>rfl
 |n+1,i,j,h0,h1,h2=>by
  simp only [h_,bs]
  rw [show IntKind.wrap .i64 (jA .u64 (IntKind.wrap .u64 (eG .i64 i j)) 1)=(i+j) / 2 from IZ h0 (by omega) (by omega),
   show IntKind.wrap .i64 (jA .u64 (IntKind.wrap .u64 (eG .i64 a b)) 1)=(a+b) / 2 from IZ ha (by omega) (by omega)]
  have e:eG .i64 ((i+j) / 2) 1=(i+j) / 2+1:=ng (by omega) (by omega)
  have e2:eG .i64 ((a+b) / 2) m=(a+b) / 2+m:=ng (by omega) (by omega)
  have e3:jg .i64 ((a+b) / 2+m) 1=(a+b) / 2+m-1:=tH (by omega) (by omega)
  have e4:jg .i64 ((a+b) / 2+m-1) ((i+j) / 2)=(a+b) / 2+m-1-(i+j) / 2:=tH (by omega) (by omega)
  rw [e,e2,e3,e4]
  by_cases hlt:i<j
  .simp only [hlt,decide_true,Bool.not_true,cond_false,cond_true]
   show h_ x0 a m b n (bif ltK (gt x0 ((a+b) / 2+m-1-(i+j) / 2)) (gt x0 ((i+j) / 2)) then _ else _) (bif ltK (gt x0 ((a+b) / 2+m-1-(i+j) / 2)) (gt x0 ((i+j) / 2)) then _ else _)=_
   cases ltK (gt x0 ((a+b) / 2+m-1-(i+j) / 2)) (gt x0 ((i+j) / 2)) with
   |true=>simp only [cond_true,Bool.not_true,cond_false];exact acP ha hab hb hm0 hm1 n h0 (by omega) (by omega)
   |false=>simp only [cond_false,Bool.not_false,cond_true];exact acP ha hab hb hm0 hm1 n (by omega) (by omega) h2
  .simp only [hlt,decide_false,Bool.not_false,cond_true,cond_false]
theorem agn {r:Int}:∀(k:Nat) (P B R:List dL) (x:dL) (i:Int),i=P.length->r=P.length+1+B.length->B.length<k->P.length+B.length+1<4294967296->
  gq r k i (P++x::(B++R))=P++B++x::R
 |0,P,B,R,x,i,hi,hr,hk,hlim=>by omega
 |k+1,P,B,R,x,i,hi,hr,hk,hlim=>by
  simp only [gq]
  have e0:jg .i64 r 1=r-1:=tH (by omega) (by omega)
  rw [e0]
  cases B with
  |nil=>
   have hd:decide (i<r-1)=false:=decide_eq_false (by simp at hr;omega)
   simp [hd]
  |cons y B=>
   simp only [List.length_cons] at *
   have hd:decide (i<r-1)=true:=decide_eq_true (by omega)
   have e1:eG .i64 i 1=i+1:=ng (by omega) (by omega)
   simp only [hd,Bool.not_true,cond_false,e1]
   have g1:(P++x::(y::B++R)).getD i.toNat default=x:=wC hi
   have g2:(P++x::(y::B++R)).getD (i+1).toNat default=y:=by
    rw [show P++x::(y::B++R)=(P++[x])++y::(B++R) by simp];exact wC (by simp;omega)
   rw [g1,g2,aoO hi,show P++y::(y::B++R)=(P++[y])++y::(B++R) by simp,aoO (by simp;omega)]
   rw [agn k (P++[y]) B R x (i+1) (by simp;omega) (by simp;omega) (by omega) (by simp;omega)]
   simp
theorem agp {r:Int}:∀(k:Nat) (R A T:List dL) (y:dL) (i:Int),r=R.length->i=R.length+A.length->A.length<k->R.length+A.length+1<4294967296->
  gu r k i (R++A++y::T)=R++y::(A++T)
 |0,R,A,T,y,i,hr,hi,hk,hlim=>by omega
 |k+1,R,A,T,y,i,hr,hi,hk,hlim=>by
  simp only [gu]
  rcases List.eq_nil_or_concat A with rfl|⟨A',z,rfl⟩
  .have hd:decide (i > r)=false:=decide_eq_false (by simp at hi;omega)
   simp [hd]
  .simp only [List.concat_eq_append,List.length_append,List.length_cons,List.length_nil] at *
   have hd:decide (i > r)=true:=decide_eq_true (by omega)
   have e1:jg .i64 i 1=i-1:=tH (by omega) (by omega)
   have g1:(R++(A'++[z])++y::T).getD i.toNat default=y:=wC (by simp;omega)
   have g2:(R++(A'++[z])++y::T).getD (i-1).toNat default=z:=by
    rw [show R++(A'++[z])++y::T=(R++A')++z::(y::T) by simp];exact wC (by simp;omega)
   simp only [hd,Bool.not_true,cond_false,e1,g1,g2]
   rw [aoO (by simp;omega),show R++(A'++[z])++z::T=(R++A')++z::(z::T) by simp,aoO (by simp;omega)]
   rw [show R++A'++y::z::T=R++A'++y::(z::T) by simp,agp k R A' (z::T) y (i-1) hr (by omega) (by omega) (by omega)]
   simp
end Go.Fw
end
section
namespace Go.Fw
theorem BD {a b n:Int}:∀{k:Nat} {i:Int} {l:List dL},(iL a b n k i l).length=l.length
 |0,i,l=>rfl
 |k+1,i,l=>by
  simp only [iL,Bool.cond_eq_ite]
  split
  .rfl
  .rw [BD];simp
theorem uq {x0:List dL}{a b n:Int}:(gW x0 a b n).length=x0.length:=BD
theorem BF {a:Int}:∀{k:Nat} {i:Int} {l:List dL},(gy a k i l).2.length=l.length
 |0,i,l=>rfl
 |k+1,i,l=>by
  simp only [gy,Bool.cond_eq_ite]
  split
  .rfl
  .split
   .rfl
   .rw [BF];simp
theorem BG {a b:Int}:∀{k:Nat} {i:Int} {l:List dL},(fO a b k i l).length=l.length
 |0,i,l=>rfl
 |k+1,i,l=>by
  simp only [fO,Bool.cond_eq_ite]
  split
  .rfl
  .rw [BG,BF]
theorem nS {x0:List dL}{a b:Int}:(iU x0 a b).length=x0.length:=BG
theorem Am {m:Int}:∀{k:Nat} {i j:Int} {l:List dL},(gX m k i j l).2.length=l.length
 |0,i,j,l=>rfl
 |k+1,i,j,l=>by
  simp only [gX,Bool.cond_eq_ite]
  split
  .rfl
  .split
   .rw [Am,uq]
   .rw [Am,uq]
theorem Hy {x0:List dL}{a m b:Int}:(jf x0 a m b).length=x0.length:=by
 simp only [jf,uq,Am]
theorem DZ {r:Int}:∀{k:Nat} {i:Int} {l:List dL},(gq r k i l).length=l.length
 |0,i,l=>rfl
 |k+1,i,l=>by
  simp only [gq,Bool.cond_eq_ite]
  split
  .rfl
  .rw [DZ];simp
theorem D5 {r:Int}:∀{k:Nat} {i:Int} {l:List dL},(gu r k i l).length=l.length
 |0,i,l=>rfl
 |k+1,i,l=>by
  simp only [gu,Bool.cond_eq_ite]
  split
  .rfl
  .rw [D5];simp
theorem pY : ∀{n:Nat} {x0:List dL} {a m b:Int},(eu n x0 a m b).length=x0.length
 |0,x0,a,m,b=>rfl
 |n+1,x0,a,m,b=>by
  unfold eu
  dsimp only
  refine (vZ ?_ (vZ ?_ (vZ ?_ (vZ ?_ (vZ ?_ (vZ ?_ (vZ ?_ (vZ ?_ (vZ ?_ ?_)))))))))
  all_goals first|rfl|simp only [DZ,D5,pY (n:=n),Hy]
theorem Gx {x1:Int}:∀{n:Nat} {a b:Int} {l:List dL},(gY x1 n a b l).2.2.length=l.length
 |0,a,b,l=>rfl
 |n+1,a,b,l=>by
  simp only [gY,Bool.cond_eq_ite]
  split
  .rfl
  .rw [Gx,nS]
theorem zA {x1 s:Int}:∀{n:Nat} {a b:Int} {l:List dL},(fJ x1 s n a b l).2.2.length=l.length
 |0,a,b,l=>rfl
 |n+1,a,b,l=>by
  simp only [fJ,Bool.cond_eq_ite]
  split
  .rfl
  .rw [zA,pY]
theorem Ap {x1:Int}:∀{n:Nat} {s a b:Int} {l:List dL},(iP x1 n s a b l).length=l.length
 |0,s,a,b,l=>rfl
 |n+1,s,a,b,l=>by
  simp only [iP,Bool.cond_eq_ite]
  split
  .rfl
  .split
   .rw [Ap,pY,zA]
   .rw [Ap,zA]
theorem Dx {x0:List dL}{x1:Int}:(fU x0 x1).length=x0.length:=by
 simp only [fU,Ap,nS,Gx]
theorem acQ {α:Type}{f:α->List AV}{l:List α}{x:α}(h:l.length<=4294967296):jg .i64 (jc f (l++[x])) 1=l.length:=by
 rw [dN,List.length_append,tH (by simp<;>omega) (by simp<;>omega)]
 simp
end Go.Fw
end
section
namespace Go.Fw
open Go.Proofs Go.Lib
set_option maxRecDepth 100000
noncomputable def sDa (n:Nat):AV:=.agg [.fn (.func 111) [] [.op 3 1 0 0],.fn (.func 149) [] [.os 2 2 0 n,.p (typeHandle Tryz.prog 26)]]
def sBl (n:Nat)(l:List dL):List (Nat×pI):=[(3,.rows 1 [[.os 2 2 0 n]]),(2,.rows 2 (List.map dL.enc l))]
def SCg (d:AV)(n:Nat)(f:FuncId)(args:List AV)(l l':List dL):Prop:=CW Tryz.prog f (d::args) (II (sBl n l)) 4 (fun r eX _=>r=.kS []/\eX 3=some (.rows 1 [[.os 2 2 0 n]])/\eX 2=some (.rows 2 (List.map dL.enc l')))
noncomputable abbrev SC (n:Nat)(f:FuncId)(args:List AV)(l l':List dL):Prop:=SCg (sDa n) n f args l l'
def KSC (n:Nat)(l':List dL):MQ:=fun e M ah nx=>(e=.normal\/e=.ret)/\ah 3=some (.rows 1 [[.os 2 2 0 n]])/\ah 2=some (.rows 2 (List.map dL.enc l'))
theorem kpS {d:AV}{n:Nat}{f:FuncId}{fn:Func}{c:Code}{args:List AV}{l l':List dL}{M:MT}(hf:Tryz.prog.funcs[f]?=some fn)(h:mJ Tryz.prog c fn.ntmps M (II (sBl n l)) 4 (KSC n l'))(hM:AL (d::args) M)(hb:fn.body=some c:=by exact rfl)(hname:fn.name≠ "runtime.NumGoroutine" :=by decide) (hn:Nat.ble (args.length+1) fn.ntmps=true:=by exact rfl) (hr:fn.results.toList=[]:=by exact rfl):SCg d n f args l l':=
 yj hf hb hname (aI hn) hM h fun e M fr ah nx hfa hq=>⟨hq.1,by rw [hr];exact ⟨rfl,hq.2⟩⟩
theorem ksr {n:Nat}{l' l'':List dL}{e:Exit}{M:MT}{ah:AH}{nx:Nat}(h:l''=l')(h2:ah 2=some (.rows 2 (List.map dL.enc l'')):=by exact rfl)(h3:ah 3=some (.rows 1 [[.os 2 2 0 n]]):=by exact rfl)(he:e=.normal\/e=.ret:=by first|exact .inl rfl|exact .inr rfl):KSC n l' e M ah nx:=⟨he,h3,by rw [<- h];exact h2⟩
section
variable {ops : Array Oper} {rest:List Oper} {N nx:Nat} {M:MT} {ah:AH} {Q:MQ} {ty:TypeId} {pos:String} {lZ:Array Edge} {g:Option (Nat×Bool)}
theorem ahq {d:AV}{n:Nat}{f:FuncId}{xs:List AV}{l l':List dL}{K:CK}(hp:SCg d n f xs l l')(h3:ah 3=some (.rows 1 [[.os 2 2 0 n]]))(h2:ah 2=some (.rows 2 (List.map dL.enc l)))(hn:4<=nx)(has:((jR (d::xs)).all fun x=>Nat.beq 3 x||Nat.beq 2 x)=true)(hK:K (.kS []) (upd ah 2 (some (.rows 2 (List.map dL.enc l')))) nx):CW Tryz.prog f (d::xs) ah nx K:=by
 have hin:∀b,(II (sBl n l) b).isSome=true↔(b=3\/b=2):=fun b=>by
  show (tN b [_,_]).isSome=true↔_
  simp only [tN]
  cases h:Nat.beq 3 b with
  |true=>simp [<- aA h]
  |false=>
   cases h':Nat.beq 2 b with
   |true=>simp [<- aA h']
   |false=>
    simp
    refine ⟨fun e=>by subst e;simp at h,fun e=>by subst e;simp at h'⟩
 have g3:II (sBl n l) 3=some (.rows 1 [[.os 2 2 0 n]]):=rfl
 have g2:II (sBl n l) 2=some (.rows 2 (List.map dL.enc l)):=rfl
 have hrl:∀m:List dL,jI (List.map dL.enc m)=[]:=fun m=>rX (EP KR.h)
 have hcase:∀b k,II (sBl n l) b=some k->(b=3/\k=.rows 1 [[.os 2 2 0 n]])\/(b=2/\k=.rows 2 (List.map dL.enc l)):=fun b k hk=>by
  rcases (hin b).1 (by rw [hk];rfl) with rfl|rfl
  .rw [g3] at hk;cases hk;exact .inl ⟨rfl,rfl⟩
  .rw [g2] at hk;cases hk;exact .inr ⟨rfl,rfl⟩
 refine afc hp (fun b k hk=>?_) (fun b k hk=>?_) hn (fun b k hk x hx=>?_) (fun a ha x hx=>?_) fun r eX nx' ⟨q1,q2,q3⟩=>⟨by rw [q1];rfl,fun b k hi hk x hx=>?_,?_⟩
 .rcases hcase b k hk with ⟨rfl,rfl⟩|⟨rfl,rfl⟩
  .exact h3
  .exact h2
 .rcases hcase b k hk with ⟨rfl,rfl⟩|⟨rfl,rfl⟩<;>omega
 .rcases hcase b k hk with ⟨rfl,rfl⟩|⟨rfl,rfl⟩
  .have:x∈[2]:=hx
   exact (hin x).2 (.inr (by simpa using this))
  .simp only [pI.vW,hrl] at hx;cases hx
 .obtain ⟨i,hi⟩:=bJ.1 ha
  have:=aJ.1 has x (jG i a hi hx)
  simp only [bC] at this
  exact (hin x).2 (this.imp (fun h=>(aA h).symm) fun h=>(aA h).symm)
 .rcases (hin b).1 hi with rfl|rfl
  .rw [q2] at hk;cases hk
   have:x∈[2]:=hx
   exact (hin x).2 (.inr (by simpa using this))
  .rw [q3] at hk;cases hk
   simp only [pI.vW,hrl] at hx;cases hx
 .have e:(fun b=>if (II (sBl n l) b).isSome=true then eX b else ah b)=upd ah 2 (some (.rows 2 (List.map dL.enc l'))):=by
   funext b
   by_cases hb:(II (sBl n l) b).isSome=true
   .rw [if_pos hb]
    rcases (hin b).1 hb with rfl|rfl
    .rw [q2,aoE (by decide)];exact h3.symm
    .rw [q3,eY rfl]
   .rw [if_neg hb,aoE (fun e=>hb ((hin b).2 (.inr e)))]
  rw [e,q1];exact hK
theorem SX {p1:Prop}{d:AV}{n t:Nat}{f:FuncId}{args:Array Operand}{ts:Array TypeId}{xs:List AV}{l l':List dL}(hp:p1->SCg d n f xs l l')(h:WL Tryz.prog ops rest N ((t,.kS [])::M) (upd ah 2 (some (.rows 2 (List.map dL.enc l')))) nx Q)(h1:p1)
  (hx:qw M args.toList=some (d::xs):=by exact rfl) (h3:ah 3=some (.rows 1 [[.os 2 2 0 n]]):=by exact rfl) (h2:ah 2=some (.rows 2 (List.map dL.enc l)):=by exact rfl) (hn:Nat.ble 4 nx=true:=by exact rfl) (has:((jR (d::xs)).all fun x=>Nat.beq 3 x||Nat.beq 2 x)=true:=by exact rfl) (hd:Nat.blt t N=true:=by exact rfl) :
  WL Tryz.prog ops (⟨some t,.call ⟨.value (.func f),args,ts⟩,ty,pos,lZ,none⟩::rest) N M ah nx Q:=fun i hi=>
 let ⟨q1,q2⟩:=aoG hi
 yh (d:=some t) q1 hd hx (ahq (hp h1) h3 h2 (aI hn) has (h _ q2))
theorem kvo {t b n:Nat}{args:Array Operand}{ts:Array TypeId}(h:WL Tryz.prog ops rest N ((t,.agg [.p (typeHandle Tryz.prog 37),.op nx 1 0 0,.p (.int .u64 151)])::M) (upd ah nx (some (.rows 1 [[.os b 2 0 n]]))) (nx+1) Q)(hx:qw M args.toList=some [.wI 37 (.os b 2 0 n)]:=by exact rfl)(hd:Nat.blt t N=true:=by exact rfl) :
  WL Tryz.prog ops (⟨some t,.call ⟨.value (.func 130),args,ts⟩,ty,pos,lZ,none⟩::rest) N M ah nx Q:=fun i hi=>
 let ⟨q1,q2⟩:=aoG hi
 yh (d:=some t) q1 hd hx (ajn (c:=NS) (e:=26) Zh (by kernel_rfl) (h _ q2))
theorem kln {t b1 b n:Nat}{args:Array Operand}{ts:Array TypeId}(h:WL Tryz.prog ops rest N ((t,eI (n:Nat))::M) ah nx Q)(hx:qw M args.toList=some [.agg [.p (typeHandle Tryz.prog 37),.op b1 1 0 0,.p (.int .u64 151)]]:=by exact rfl)(hb:ah b1=some (.rows 1 [[.os b 2 0 n]]):=by exact rfl)(hd:Nat.blt t N=true:=by exact rfl) :
  WL Tryz.prog ops (⟨some t,.call ⟨.value (.func 133),args,ts⟩,ty,pos,lZ,none⟩::rest) N M ah nx Q:=fun i hi=>
 let ⟨q1,q2⟩:=aoG hi
 yh (d:=some t) q1 hd hx (ajo (c:=NS) (e:=26) Zh (by kernel_rfl) hb (h _ q2))
structure KSp (n b:Nat)(s:AV):Prop where
 h:(if n=0 then AV.fn (.func 141) [] [] else if n=1 then .fn (.func 142) [] [] else .fn (.func 149) [] [.os b 2 0 n,.p (typeHandle Tryz.prog 26)])=s
theorem ksp {t b n:Nat}{s:AV}(kp:KSp n b s){args:Array Operand}{ts:Array TypeId}(h:WL Tryz.prog ops rest N ((t,s)::M) ah nx Q)(hx:qw M args.toList=some [.wI 37 (.os b 2 0 n)]:=by exact rfl)(hd:Nat.blt t N=true:=by exact rfl) :
  WL Tryz.prog ops (⟨some t,.call ⟨.value (.func 131),args,ts⟩,ty,pos,lZ,none⟩::rest) N M ah nx Q:=fun i hi=>
 let ⟨q1,q2⟩:=aoG hi
 yh (d:=some t) q1 hd hx (ajp (c:=NS) (e:=26) Zh (by kernel_rfl) (by kernel_rfl) (by
  show tJ _ _ _ _ (iW M (some t) (if n=0 then AV.fn (.func 141) [] [] else if n=1 then .fn (.func 142) [] [] else .fn (.func 149) [] [.os b 2 0 n,.p (typeHandle Tryz.prog 26)])) _ _ _
  rw [kp.h];exact h _ q2))
def Less : Prop:=∀{l:List dL} {i j:Int},0<=i/\i<l.length->0<=j/\j<l.length->PC Tryz.prog 111 [eI i,eI j,.vp [.sl (List.map dL.enc l) false] 0] (eB ((decide ((dX (l.getD i.toNat default)).1<(dX (l.getD j.toNat default)).1))||((dV (dX (l.getD i.toNat default)).1 (dX (l.getD j.toNat default)).1)&&(decide ((dX (l.getD i.toNat default)).2<(dX (l.getD j.toNat default)).2)))))
structure acR : Prop where
 h:Less
theorem SY (kl:acR){n t:Nat}{x:Operand}{args:Array Operand}{ts:Array TypeId}{l:List dL}{i j:Int}(h:WL Tryz.prog ops rest N ((t,eB ((decide ((dX (l.getD i.toNat default)).1<(dX (l.getD j.toNat default)).1))||((dV (dX (l.getD i.toNat default)).1 (dX (l.getD j.toNat default)).1)&&(decide ((dX (l.getD i.toNat default)).2<(dX (l.getD j.toNat default)).2)))))::M) ah (nx+1) Q)(hp:(0<=i/\i<l.length)/\(0<=j/\j<l.length)/\l.length=n)
  (hx:lI M x=some (.fn (.func 111) [] [.op 3 1 0 0]):=by exact rfl) (hy:qw M args.toList=some [eI i,eI j]:=by exact rfl) (h3:ah 3=some (.rows 1 [[.os 2 2 0 n]]):=by exact rfl) (h2:ah 2=some (.rows 2 (List.map dL.enc l)):=by exact rfl) (hg:gK ops M g=some true:=by exact rfl) (hd:Nat.blt t N=true:=by exact rfl) :
  WL Tryz.prog ops (⟨some t,.call ⟨.value x,args,ts⟩,ty,pos,lZ,g⟩::rest) N M ah nx Q:=fun i0 hi=>
 let ⟨q1,q2⟩:=aoG hi
 VA (d:=some t) q1 (RU hg) hd hx hy (aaF (kl.h hp.1 hp.2.1) (by
  refine frC rfl (frC rfl (frC ?_ frN))
  exact frB h3 h2 hp.2.2 KR.h) rfl (h _ q2))
theorem ksw {n t:Nat}{x:Operand}{args:Array Operand}{ts:Array TypeId}{l:List dL}{i j:Int}(h:WL Tryz.prog ops rest N ((t,.p undef)::M) (upd ah 2 (some (.rows 2 (List.map dL.enc ((l.set i.toNat (l.getD j.toNat default)).set j.toNat (l.getD i.toNat default)))))) nx Q)(hp:l.length=n/\(0<=i/\i<n)/\(0<=j/\j<n))
  (hx:lI M x=some (.fn (.func 149) [] [.os 2 2 0 n,.p (typeHandle Tryz.prog 26)]):=by exact rfl) (hy:qw M args.toList=some [eI i,eI j]:=by exact rfl) (h2:ah 2=some (.rows 2 (List.map dL.enc l)):=by exact rfl) (hn:Nat.blt 2 nx=true:=by exact rfl) (hg:gK ops M g=some true:=by exact rfl) (hd:Nat.blt t N=true:=by exact rfl) :
  WL Tryz.prog ops (⟨some t,.call ⟨.value x,args,ts⟩,ty,pos,lZ,g⟩::rest) N M ah nx Q:=fun i0 hi=>
 let ⟨q1,q2⟩:=aoG hi
 VA (d:=some t) q1 (RU hg) hd hx hy (ajq (c:=NS) Zh h2 (by simpa using hn) hp.1 (fun _=>rfl) (by kernel_rfl) hp.2.1 hp.2.2 (h _ q2))
theorem kqE {M' M1:MT}{eX:AH}{rJ:Nat}(h:Bh M' M1:=by repeat' first|exact aaD|refine acE ?_):Exit.normal=Exit.normal/\Bh M' M1/\eX=eX/\rJ=rJ:=⟨rfl,h,rfl,rfl⟩
structure KCQ : Type
theorem S9 (kq:KCQ){id nx':Nat}{c:Operand}{b:Bool}{y:Code}{Q':MQ}{l l1:List dL}(h1:b=true->WL Tryz.prog ops ops.toList N M ah nx (fun e M' eX rJ=>e=.normal/\Bh M' M/\eX=upd ah 2 (some (.rows 2 (List.map dL.enc l1)))/\rJ=nx'))
  (h:mJ Tryz.prog y N M (upd ah 2 (some (.rows 2 (List.map dL.enc (bif b then l1 else l))))) nx' Q) (hn:nx<=nx') (hc:lI M c=some (.p (.bool b)):=by exact rfl) (h2:ah 2=some (.rows 2 (List.map dL.enc l)):=by exact rfl) :
  mJ Tryz.prog (.cond c (.region id ops false) .skip) N M ah nx (qp (fun M ah nx=>mJ Tryz.prog y N M ah nx Q) Q'):=by
 refine jT hc (fun hb=>?_) fun hb=>nJ ?_
 .subst hb
  refine (aiT (h1 rfl)).mono fun e M' eX rJ ⟨q1,q2,q3,q4⟩=>?_
  subst q1;subst q3;subst q4
  intro fr hf
  exact h fr (hf.sub q2)
 .subst hb
  intro fr hf base w E a hs
  have e:upd ah 2 (some (.rows 2 (List.map dL.enc (bif false then l1 else l))))=ah:=by
   funext x
   by_cases hx:x=2
   .subst hx;rw [eY rfl];exact h2.symm
   .rw [aoE hx]
  rw [e] at h
  exact h fr hf base w E a ⟨hs.heap.weaken fun b hb=>cO hn hb,hs.fr,hs.defers⟩
end
end Go.Fw
end
section
namespace Go.Fw
set_option maxRecDepth 100000
universe ua ub uc ud ue uf ug uh ui uj ul um un uo up ur us ut uv
theorem kZ {Z0:Prop}{A:Sort ua}{B:Sort ub}{C:Sort uc}{D:Sort ud}{E:Sort ue}{F:Sort uf}{G:Sort ug}{H:Sort uh}{I:Sort ui}{J:Sort uj}{L:Sort ul}{M:Sort um}{N:Sort un}{O:Sort uo}{P:Sort up}{R:Sort ur}{S:Sort us}{T:Sort ut}{V:Sort uv}(a:A:=by exact True.intro)(b:B:=by exact True.intro)(c:C:=by exact True.intro)(d:D:=by exact True.intro)(e:E:=by exact True.intro)(f:F:=by exact True.intro)(g:G:=by exact True.intro)(h:H:=by exact True.intro)(i:I:=by exact True.intro)(j:J:=by exact True.intro)(l:L:=by exact True.intro)(m:M:=by exact True.intro)(n:N:=by exact True.intro)(o:O:=by exact True.intro)(p:P:=by exact True.intro)(r:R:=by exact True.intro)(s:S:=by exact True.intro)(t:T:=by exact True.intro)(v:V:=by exact True.intro)(z:A->B->C->D->E->F->G->H->I->J->L->M->N->O->P->R->S->T->V->Z0:=by
 intro a b c d e f g h i j l m n o p r s t v
 repeat' first
 |(refine oWG ?_;first|refine kgr ?_|refine kgi ?_|(refine oGc ?_;first|refine BQ (fun _=>a) ?_|refine BQ (fun _=>b) ?_|refine BQ (fun _=>c) ?_|refine BQ (fun _=>d) ?_|refine BQ (fun _=>e) ?_|refine BQ (fun _=>f) ?_|refine BQ (fun _=>g) ?_|refine BQ (fun _=>h) ?_|refine BQ (fun _=>i) ?_|refine BQ (fun _=>j) ?_|refine BQ (fun _=>l) ?_|refine BQ (fun _=>m) ?_|refine BQ (fun _=>n) ?_|refine BQ (fun _=>o) ?_|refine BQ (fun _=>p) ?_|refine BQ (fun _=>r) ?_|refine BQ (fun _=>s) ?_|refine BQ (fun _=>t) ?_|refine BQ (fun _=>v) ?_|refine qP a ?_|refine qP b ?_|refine qP c ?_|refine qP d ?_|refine qP e ?_|refine qP f ?_|refine qP g ?_|refine qP h ?_|refine qP i ?_|refine qP j ?_|refine qP l ?_|refine qP m ?_|refine qP n ?_|refine qP o ?_|refine qP p ?_|refine qP r ?_|refine qP s ?_|refine qP t ?_|refine qP v ?_|refine qQ a ?_|refine qQ b ?_|refine qQ c ?_|refine qQ d ?_|refine qQ e ?_|refine qQ f ?_|refine qQ g ?_|refine qQ h ?_|refine qQ i ?_|refine qQ j ?_|refine qQ l ?_|refine qQ m ?_|refine qQ n ?_|refine qQ o ?_|refine qQ p ?_|refine qQ r ?_|refine qQ s ?_|refine qQ t ?_|refine qQ v ?_|refine Df (fun _=>a) ?_|refine qV a ?_|refine Df (fun _=>b) ?_|refine qV b ?_|refine Df (fun _=>c) ?_|refine qV c ?_|refine Df (fun _=>d) ?_|refine qV d ?_|refine Df (fun _=>e) ?_|refine qV e ?_|refine Df (fun _=>f) ?_|refine qV f ?_|refine Df (fun _=>g) ?_|refine qV g ?_|refine Df (fun _=>h) ?_|refine qV h ?_|refine Df (fun _=>i) ?_|refine qV i ?_|refine Df (fun _=>j) ?_|refine qV j ?_|refine Df (fun _=>l) ?_|refine qV l ?_|refine Df (fun _=>m) ?_|refine qV m ?_|refine Df (fun _=>n) ?_|refine qV n ?_|refine Df (fun _=>o) ?_|refine qV o ?_|refine Df (fun _=>p) ?_|refine qV p ?_|refine Df (fun _=>r) ?_|refine qV r ?_|refine Df (fun _=>s) ?_|refine qV s ?_|refine Df (fun _=>t) ?_|refine qV t ?_|refine Df (fun _=>v) ?_|refine qV v ?_)|refine H9 rfl (fun hb=>fqi hb) ?_|refine H9 rfl (fun hb=>fri hb) ?_|refine H9 rfl (fun hb=>fsh hb) ?_|refine H9 rfl (fun hb=>fqf hb) ?_|refine H9 rfl (fun hb=>fct hb) ?_|refine H9 rfl (fun hb=>WW (k:=.i64) hb) ?_|refine H9 rfl (fun hb=>WW (k:=.i32) hb) ?_|refine H9 rfl (fun hb=>WW (k:=.u64) hb) ?_|refine H9 rfl (fun hb=>WW (k:=.u8) hb) ?_|refine H9 rfl (fun hb=>fcf (k:=.f64) hb) ?_|refine H9 rfl (fun hb=>fsi hb) ?_|refine H9 rfl (fun hb=>fca hb) ?_|refine H9 rfl (fun hb=>fcb hb) ?_|refine H9 rfl (fun hb=>ajh hb) ?_|refine H9 rfl (fun hb=>aji hb) ?_|(refine kgz ?_ ?_<;>intro q)|refine kgl ?_)
 |(refine oWY ?_;first|refine xgr ?_|refine xgi ?_|(refine oYc ?_;first|refine BR (fun _=>a) ?_|refine BR (fun _=>b) ?_|refine BR (fun _=>c) ?_|refine BR (fun _=>d) ?_|refine BR (fun _=>e) ?_|refine BR (fun _=>f) ?_|refine BR (fun _=>g) ?_|refine BR (fun _=>h) ?_|refine BR (fun _=>i) ?_|refine BR (fun _=>j) ?_|refine BR (fun _=>l) ?_|refine BR (fun _=>m) ?_|refine BR (fun _=>n) ?_|refine BR (fun _=>o) ?_|refine BR (fun _=>p) ?_|refine BR (fun _=>r) ?_|refine BR (fun _=>s) ?_|refine BR (fun _=>t) ?_|refine BR (fun _=>v) ?_|refine qR a ?_|refine qR b ?_|refine qR c ?_|refine qR d ?_|refine qR e ?_|refine qR f ?_|refine qR g ?_|refine qR h ?_|refine qR i ?_|refine qR j ?_|refine qR l ?_|refine qR m ?_|refine qR n ?_|refine qR o ?_|refine qR p ?_|refine qR r ?_|refine qR s ?_|refine qR t ?_|refine qR v ?_|refine qU a ?_|refine qU b ?_|refine qU c ?_|refine qU d ?_|refine qU e ?_|refine qU f ?_|refine qU g ?_|refine qU h ?_|refine qU i ?_|refine qU j ?_|refine qU l ?_|refine qU m ?_|refine qU n ?_|refine qU o ?_|refine qU p ?_|refine qU r ?_|refine qU s ?_|refine qU t ?_|refine qU v ?_)|refine KX rfl (fun hb=>fqi hb) ?_|refine KX rfl (fun hb=>fri hb) ?_|refine KX rfl (fun hb=>fsh hb) ?_|refine KX rfl (fun hb=>fqf hb) ?_|refine KX rfl (fun hb=>fct hb) ?_|refine KX rfl (fun hb=>WW (k:=.i64) hb) ?_|refine KX rfl (fun hb=>WW (k:=.i32) hb) ?_|refine KX rfl (fun hb=>WW (k:=.u64) hb) ?_|refine KX rfl (fun hb=>WW (k:=.u8) hb) ?_|refine KX rfl (fun hb=>fcf (k:=.f64) hb) ?_|refine KX rfl (fun hb=>fsi hb) ?_|refine KX rfl (fun hb=>fca hb) ?_|refine KX rfl (fun hb=>fcb hb) ?_|refine xgl ?_)
 |(refine oAW ?_;first|refine krg ?_|refine ksq ?_|refine kdr ?_|refine' kcm _ _ _|(refine S9 a (fun _=>?_) ?_ ?_)|(refine S9 b (fun _=>?_) ?_ ?_)|(refine S9 c (fun _=>?_) ?_ ?_)|(refine S9 d (fun _=>?_) ?_ ?_)|(refine S9 e (fun _=>?_) ?_ ?_)|(refine S9 f (fun _=>?_) ?_ ?_)|(refine S9 g (fun _=>?_) ?_ ?_)|(refine S9 h (fun _=>?_) ?_ ?_)|(refine S9 i (fun _=>?_) ?_ ?_)|(refine S9 j (fun _=>?_) ?_ ?_)|(refine S9 l (fun _=>?_) ?_ ?_)|(refine S9 m (fun _=>?_) ?_ ?_)|(refine S9 n (fun _=>?_) ?_ ?_)|(refine S9 o (fun _=>?_) ?_ ?_)|(refine S9 p (fun _=>?_) ?_ ?_)|(refine S9 r (fun _=>?_) ?_ ?_)|(refine S9 s (fun _=>?_) ?_ ?_)|(refine S9 t (fun _=>?_) ?_ ?_)|(refine S9 v (fun _=>?_) ?_ ?_)|(refine kcd ?_ ?_<;>intro q<;>(try simp only [List.toList_toArray,kD,Bool.true_and,Bool.and_true,Bool.false_and,Bool.false_or,Bool.or_false,Bool.not_eq_true',Bool.not_eq_false'] at q)<;>(try cases q)<;>(try (simp only [*,aP,bG,reduceCtorEq] at q;done)))|refine ksk ?_|((fail_if_success (have w:QC:=by assumption));refine krz ?_)|refine SN a ?_|refine SN b ?_|refine SN c ?_|refine SN d ?_|refine SN e ?_|refine SN f ?_|refine SN g ?_|refine SN h ?_|refine SN i ?_|refine SN j ?_|refine SN l ?_|refine SN m ?_|refine SN n ?_|refine SN o ?_|refine SN p ?_|refine SN r ?_|refine SN s ?_|refine SN t ?_|refine SN v ?_|(refine mM ?_;(first|((try simp only [dB,bK,dD,List.length_nil,Nat.zero_add] at hE);(try simp only [*,zo,zq,Int.toNat_zero,List.map_nil,Bool.cond_self,cond_true,cond_false,rG,sN,sO,kD,NK,zn,Bool.true_and,Bool.false_and,Bool.and_true,Bool.and_false,Bool.true_or,Bool.false_or,Bool.or_true,Bool.or_false,aP,bG,reduceCtorEq] at hR2);(fail_if_success (have w:=KIf.no hR2 (by apply hF)));subst hR2;clear hF;(try have a:=a hE);(try have b:=b hE);(try have c:=c hE);(try have d:=d hE);(try have e:=e hE);(try have f:=f hE);(try have g:=g hE);(try have h:=h hE);(try have i:=i hE);(try have j:=j hE);(try have l:=l hE);(try have m:=m hE);(try have n:=n hE);(try have o:=o hE);(try have p:=p hE);(try have r:=r hE);(try have s:=s hE);(try have t:=t hE);(try have v:=v hE);skip)|skip))|refine aiT ?_|refine ak4 ?_|refine SL a ?_ ?_|refine SL b ?_ ?_|refine SL c ?_ ?_|refine SL d ?_ ?_|refine SL e ?_ ?_|refine SL f ?_ ?_|refine SL g ?_ ?_|refine SL h ?_ ?_|refine SL i ?_ ?_|refine SL j ?_ ?_|refine SL l ?_ ?_|refine SL m ?_ ?_|refine SL n ?_ ?_|refine SL o ?_ ?_|refine SL p ?_ ?_|refine SL r ?_ ?_|refine SL s ?_ ?_|refine SL t ?_ ?_|refine SL v ?_ ?_|refine vG ?_|(refine IB ?_;(first|((try simp only [dB,bK,dD,List.length_nil,Nat.zero_add] at hE);(try simp only [*,zo,zq,Int.toNat_zero,List.map_nil,Bool.cond_self,cond_true,cond_false,rG,sN,sO,kD,NK,zn,Bool.true_and,Bool.false_and,Bool.and_true,Bool.and_false,Bool.true_or,Bool.false_or,Bool.or_true,Bool.or_false,aP,bG,reduceCtorEq] at hR2);(fail_if_success (have w:=KIf.no hR2 (by apply hF)));subst hR2;clear hF;(try have a:=a hE);(try have b:=b hE);(try have c:=c hE);(try have d:=d hE);(try have e:=e hE);(try have f:=f hE);(try have g:=g hE);(try have h:=h hE);(try have i:=i hE);(try have j:=j hE);(try have l:=l hE);(try have m:=m hE);(try have n:=n hE);(try have o:=o hE);(try have p:=p hE);(try have r:=r hE);(try have s:=s hE);(try have t:=t hE);(try have v:=v hE);skip)|skip))|refine nJ ?_|(refine oLo ?_;first|refine SA a ?_|refine SB a ?_|refine SG a ?_|refine Dq a ?_|refine SA b ?_|refine SB b ?_|refine SG b ?_|refine Dq b ?_|refine SA c ?_|refine SB c ?_|refine SG c ?_|refine Dq c ?_|refine SA d ?_|refine SB d ?_|refine SG d ?_|refine Dq d ?_|refine SA e ?_|refine SB e ?_|refine SG e ?_|refine Dq e ?_|refine SA f ?_|refine SB f ?_|refine SG f ?_|refine Dq f ?_|refine SA g ?_|refine SB g ?_|refine SG g ?_|refine Dq g ?_|refine SA h ?_|refine SB h ?_|refine SG h ?_|refine Dq h ?_|refine SA i ?_|refine SB i ?_|refine SG i ?_|refine Dq i ?_|refine SA j ?_|refine SB j ?_|refine SG j ?_|refine Dq j ?_|refine SA l ?_|refine SB l ?_|refine SG l ?_|refine Dq l ?_|refine SA m ?_|refine SB m ?_|refine SG m ?_|refine Dq m ?_|refine SA n ?_|refine SB n ?_|refine SG n ?_|refine Dq n ?_|refine SA o ?_|refine SB o ?_|refine SG o ?_|refine Dq o ?_|refine SA p ?_|refine SB p ?_|refine SG p ?_|refine Dq p ?_|refine SA r ?_|refine SB r ?_|refine SG r ?_|refine Dq r ?_|refine SA s ?_|refine SB s ?_|refine SG s ?_|refine Dq s ?_|refine SA t ?_|refine SB t ?_|refine SG t ?_|refine Dq t ?_|refine SA v ?_|refine SB v ?_|refine SG v ?_|refine Dq v ?_|refine SE a ?_|refine SE b ?_|refine SE c ?_|refine SE d ?_|refine SE e ?_|refine SE f ?_|refine SE g ?_|refine SE h ?_|refine SE i ?_|refine SE j ?_|refine SE l ?_|refine SE m ?_|refine SE n ?_|refine SE o ?_|refine SE p ?_|refine SE r ?_|refine SE s ?_|refine SE t ?_|refine SE v ?_|((first|(refine Bl a (fun nn u1 hJ hR=>?_);clear a)|(refine Bl b (fun nn u1 hJ hR=>?_);clear b)|(refine Bl c (fun nn u1 hJ hR=>?_);clear c)|(refine Bl d (fun nn u1 hJ hR=>?_);clear d)|(refine Bl e (fun nn u1 hJ hR=>?_);clear e)|(refine Bl f (fun nn u1 hJ hR=>?_);clear f)|(refine Bl g (fun nn u1 hJ hR=>?_);clear g)|(refine Bl h (fun nn u1 hJ hR=>?_);clear h)|(refine Bl i (fun nn u1 hJ hR=>?_);clear i)|(refine Bl j (fun nn u1 hJ hR=>?_);clear j)|(refine Bl l (fun nn u1 hJ hR=>?_);clear l)|(refine Bl m (fun nn u1 hJ hR=>?_);clear m)|(refine Bl n (fun nn u1 hJ hR=>?_);clear n)|(refine Bl o (fun nn u1 hJ hR=>?_);clear o)|(refine Bl p (fun nn u1 hJ hR=>?_);clear p)|(refine Bl r (fun nn u1 hJ hR=>?_);clear r)|(refine Bl s (fun nn u1 hJ hR=>?_);clear s)|(refine Bl t (fun nn u1 hJ hR=>?_);clear t)|(refine Bl v (fun nn u1 hJ hR=>?_);clear v)|(refine Bo a (fun nn u1 u2 hJ hR=>?_);clear a)|(refine Bo b (fun nn u1 u2 hJ hR=>?_);clear b)|(refine Bo c (fun nn u1 u2 hJ hR=>?_);clear c)|(refine Bo d (fun nn u1 u2 hJ hR=>?_);clear d)|(refine Bo e (fun nn u1 u2 hJ hR=>?_);clear e)|(refine Bo f (fun nn u1 u2 hJ hR=>?_);clear f)|(refine Bo g (fun nn u1 u2 hJ hR=>?_);clear g)|(refine Bo h (fun nn u1 u2 hJ hR=>?_);clear h)|(refine Bo i (fun nn u1 u2 hJ hR=>?_);clear i)|(refine Bo j (fun nn u1 u2 hJ hR=>?_);clear j)|(refine Bo l (fun nn u1 u2 hJ hR=>?_);clear l)|(refine Bo m (fun nn u1 u2 hJ hR=>?_);clear m)|(refine Bo n (fun nn u1 u2 hJ hR=>?_);clear n)|(refine Bo o (fun nn u1 u2 hJ hR=>?_);clear o)|(refine Bo p (fun nn u1 u2 hJ hR=>?_);clear p)|(refine Bo r (fun nn u1 u2 hJ hR=>?_);clear r)|(refine Bo s (fun nn u1 u2 hJ hR=>?_);clear s)|(refine Bo t (fun nn u1 u2 hJ hR=>?_);clear t)|(refine Bo v (fun nn u1 u2 hJ hR=>?_);clear v)|(refine Bq a (fun nn u1 u2 u3 hJ hR=>?_);clear a)|(refine Bq b (fun nn u1 u2 u3 hJ hR=>?_);clear b)|(refine Bq c (fun nn u1 u2 u3 hJ hR=>?_);clear c)|(refine Bq d (fun nn u1 u2 u3 hJ hR=>?_);clear d)|(refine Bq e (fun nn u1 u2 u3 hJ hR=>?_);clear e)|(refine Bq f (fun nn u1 u2 u3 hJ hR=>?_);clear f)|(refine Bq g (fun nn u1 u2 u3 hJ hR=>?_);clear g)|(refine Bq h (fun nn u1 u2 u3 hJ hR=>?_);clear h)|(refine Bq i (fun nn u1 u2 u3 hJ hR=>?_);clear i)|(refine Bq j (fun nn u1 u2 u3 hJ hR=>?_);clear j)|(refine Bq l (fun nn u1 u2 u3 hJ hR=>?_);clear l)|(refine Bq m (fun nn u1 u2 u3 hJ hR=>?_);clear m)|(refine Bq n (fun nn u1 u2 u3 hJ hR=>?_);clear n)|(refine Bq o (fun nn u1 u2 u3 hJ hR=>?_);clear o)|(refine Bq p (fun nn u1 u2 u3 hJ hR=>?_);clear p)|(refine Bq r (fun nn u1 u2 u3 hJ hR=>?_);clear r)|(refine Bq s (fun nn u1 u2 u3 hJ hR=>?_);clear s)|(refine Bq t (fun nn u1 u2 u3 hJ hR=>?_);clear t)|(refine Bq v (fun nn u1 u2 u3 hJ hR=>?_);clear v)|(refine Bv a (fun nn u1 u2 u3 u4 hJ hR=>?_);clear a)|(refine Bv b (fun nn u1 u2 u3 u4 hJ hR=>?_);clear b)|(refine Bv c (fun nn u1 u2 u3 u4 hJ hR=>?_);clear c)|(refine Bv d (fun nn u1 u2 u3 u4 hJ hR=>?_);clear d)|(refine Bv e (fun nn u1 u2 u3 u4 hJ hR=>?_);clear e)|(refine Bv f (fun nn u1 u2 u3 u4 hJ hR=>?_);clear f)|(refine Bv g (fun nn u1 u2 u3 u4 hJ hR=>?_);clear g)|(refine Bv h (fun nn u1 u2 u3 u4 hJ hR=>?_);clear h)|(refine Bv i (fun nn u1 u2 u3 u4 hJ hR=>?_);clear i)|(refine Bv j (fun nn u1 u2 u3 u4 hJ hR=>?_);clear j)|(refine Bv l (fun nn u1 u2 u3 u4 hJ hR=>?_);clear l)|(refine Bv m (fun nn u1 u2 u3 u4 hJ hR=>?_);clear m)|(refine Bv n (fun nn u1 u2 u3 u4 hJ hR=>?_);clear n)|(refine Bv o (fun nn u1 u2 u3 u4 hJ hR=>?_);clear o)|(refine Bv p (fun nn u1 u2 u3 u4 hJ hR=>?_);clear p)|(refine Bv r (fun nn u1 u2 u3 u4 hJ hR=>?_);clear r)|(refine Bv s (fun nn u1 u2 u3 u4 hJ hR=>?_);clear s)|(refine Bv t (fun nn u1 u2 u3 u4 hJ hR=>?_);clear t)|(refine Bv v (fun nn u1 u2 u3 u4 hJ hR=>?_);clear v));(try dsimp only at hJ);(try have a:=a hJ);(try have b:=b hJ);(try have c:=c hJ);(try have d:=d hJ);(try have e:=e hJ);(try have f:=f hJ);(try have g:=g hJ);(try have h:=h hJ);(try have i:=i hJ);(try have j:=j hJ);(try have l:=l hJ);(try have m:=m hJ);(try have n:=n hJ);(try have o:=o hJ);(try have p:=p hJ);(try have r:=r hJ);(try have s:=s hJ);(try have t:=t hJ);(try have v:=v hJ);(first|rw [a.h] at hR|rw [b.h] at hR|rw [c.h] at hR|rw [d.h] at hR|rw [e.h] at hR|rw [f.h] at hR|rw [g.h] at hR|rw [h.h] at hR|rw [i.h] at hR|rw [j.h] at hR|rw [l.h] at hR|rw [m.h] at hR|rw [n.h] at hR|rw [o.h] at hR|rw [p.h] at hR|rw [r.h] at hR|rw [s.h] at hR|rw [t.h] at hR|rw [v.h] at hR);(try (first|rw [a.h] at hJ|rw [b.h] at hJ|rw [c.h] at hJ|rw [d.h] at hJ|rw [e.h] at hJ|rw [f.h] at hJ|rw [g.h] at hJ|rw [h.h] at hJ|rw [i.h] at hJ|rw [j.h] at hJ|rw [l.h] at hJ|rw [m.h] at hJ|rw [n.h] at hJ|rw [o.h] at hJ|rw [p.h] at hJ|rw [r.h] at hJ|rw [s.h] at hJ|rw [t.h] at hJ|rw [v.h] at hJ));(try simp only [dN] at hR);simp only [OU,Vq,cu,List.nil_append,Nat.reduceAdd])|((first|(refine Dh a (fun R2 hE hF nn u1 hJ2 hR2=>?_) ?_;clear a)|(refine Dh b (fun R2 hE hF nn u1 hJ2 hR2=>?_) ?_;clear b)|(refine Dh c (fun R2 hE hF nn u1 hJ2 hR2=>?_) ?_;clear c)|(refine Dh d (fun R2 hE hF nn u1 hJ2 hR2=>?_) ?_;clear d)|(refine Dh e (fun R2 hE hF nn u1 hJ2 hR2=>?_) ?_;clear e)|(refine Dh f (fun R2 hE hF nn u1 hJ2 hR2=>?_) ?_;clear f)|(refine Dh g (fun R2 hE hF nn u1 hJ2 hR2=>?_) ?_;clear g)|(refine Dh h (fun R2 hE hF nn u1 hJ2 hR2=>?_) ?_;clear h)|(refine Dh i (fun R2 hE hF nn u1 hJ2 hR2=>?_) ?_;clear i)|(refine Dh j (fun R2 hE hF nn u1 hJ2 hR2=>?_) ?_;clear j)|(refine Dh l (fun R2 hE hF nn u1 hJ2 hR2=>?_) ?_;clear l)|(refine Dh m (fun R2 hE hF nn u1 hJ2 hR2=>?_) ?_;clear m)|(refine Dh n (fun R2 hE hF nn u1 hJ2 hR2=>?_) ?_;clear n)|(refine Dh o (fun R2 hE hF nn u1 hJ2 hR2=>?_) ?_;clear o)|(refine Dh p (fun R2 hE hF nn u1 hJ2 hR2=>?_) ?_;clear p)|(refine Dh r (fun R2 hE hF nn u1 hJ2 hR2=>?_) ?_;clear r)|(refine Dh s (fun R2 hE hF nn u1 hJ2 hR2=>?_) ?_;clear s)|(refine Dh t (fun R2 hE hF nn u1 hJ2 hR2=>?_) ?_;clear t)|(refine Dh v (fun R2 hE hF nn u1 hJ2 hR2=>?_) ?_;clear v)|(refine Di a (fun R2 hE hF nn u1 u2 hJ2 hR2=>?_) ?_;clear a)|(refine Di b (fun R2 hE hF nn u1 u2 hJ2 hR2=>?_) ?_;clear b)|(refine Di c (fun R2 hE hF nn u1 u2 hJ2 hR2=>?_) ?_;clear c)|(refine Di d (fun R2 hE hF nn u1 u2 hJ2 hR2=>?_) ?_;clear d)|(refine Di e (fun R2 hE hF nn u1 u2 hJ2 hR2=>?_) ?_;clear e)|(refine Di f (fun R2 hE hF nn u1 u2 hJ2 hR2=>?_) ?_;clear f)|(refine Di g (fun R2 hE hF nn u1 u2 hJ2 hR2=>?_) ?_;clear g)|(refine Di h (fun R2 hE hF nn u1 u2 hJ2 hR2=>?_) ?_;clear h)|(refine Di i (fun R2 hE hF nn u1 u2 hJ2 hR2=>?_) ?_;clear i)|(refine Di j (fun R2 hE hF nn u1 u2 hJ2 hR2=>?_) ?_;clear j)|(refine Di l (fun R2 hE hF nn u1 u2 hJ2 hR2=>?_) ?_;clear l)|(refine Di m (fun R2 hE hF nn u1 u2 hJ2 hR2=>?_) ?_;clear m)|(refine Di n (fun R2 hE hF nn u1 u2 hJ2 hR2=>?_) ?_;clear n)|(refine Di o (fun R2 hE hF nn u1 u2 hJ2 hR2=>?_) ?_;clear o)|(refine Di p (fun R2 hE hF nn u1 u2 hJ2 hR2=>?_) ?_;clear p)|(refine Di r (fun R2 hE hF nn u1 u2 hJ2 hR2=>?_) ?_;clear r)|(refine Di s (fun R2 hE hF nn u1 u2 hJ2 hR2=>?_) ?_;clear s)|(refine Di t (fun R2 hE hF nn u1 u2 hJ2 hR2=>?_) ?_;clear t)|(refine Di v (fun R2 hE hF nn u1 u2 hJ2 hR2=>?_) ?_;clear v)|(refine Dj a (fun R2 hE hF nn u1 u2 u3 hJ2 hR2=>?_) ?_;clear a)|(refine Dj b (fun R2 hE hF nn u1 u2 u3 hJ2 hR2=>?_) ?_;clear b)|(refine Dj c (fun R2 hE hF nn u1 u2 u3 hJ2 hR2=>?_) ?_;clear c)|(refine Dj d (fun R2 hE hF nn u1 u2 u3 hJ2 hR2=>?_) ?_;clear d)|(refine Dj e (fun R2 hE hF nn u1 u2 u3 hJ2 hR2=>?_) ?_;clear e)|(refine Dj f (fun R2 hE hF nn u1 u2 u3 hJ2 hR2=>?_) ?_;clear f)|(refine Dj g (fun R2 hE hF nn u1 u2 u3 hJ2 hR2=>?_) ?_;clear g)|(refine Dj h (fun R2 hE hF nn u1 u2 u3 hJ2 hR2=>?_) ?_;clear h)|(refine Dj i (fun R2 hE hF nn u1 u2 u3 hJ2 hR2=>?_) ?_;clear i)|(refine Dj j (fun R2 hE hF nn u1 u2 u3 hJ2 hR2=>?_) ?_;clear j)|(refine Dj l (fun R2 hE hF nn u1 u2 u3 hJ2 hR2=>?_) ?_;clear l)|(refine Dj m (fun R2 hE hF nn u1 u2 u3 hJ2 hR2=>?_) ?_;clear m)|(refine Dj n (fun R2 hE hF nn u1 u2 u3 hJ2 hR2=>?_) ?_;clear n)|(refine Dj o (fun R2 hE hF nn u1 u2 u3 hJ2 hR2=>?_) ?_;clear o)|(refine Dj p (fun R2 hE hF nn u1 u2 u3 hJ2 hR2=>?_) ?_;clear p)|(refine Dj r (fun R2 hE hF nn u1 u2 u3 hJ2 hR2=>?_) ?_;clear r)|(refine Dj s (fun R2 hE hF nn u1 u2 u3 hJ2 hR2=>?_) ?_;clear s)|(refine Dj t (fun R2 hE hF nn u1 u2 u3 hJ2 hR2=>?_) ?_;clear t)|(refine Dj v (fun R2 hE hF nn u1 u2 u3 hJ2 hR2=>?_) ?_;clear v)|(refine Dk a (fun R2 hE hF nn u1 u2 u3 u4 hJ2 hR2=>?_) ?_;clear a)|(refine Dk b (fun R2 hE hF nn u1 u2 u3 u4 hJ2 hR2=>?_) ?_;clear b)|(refine Dk c (fun R2 hE hF nn u1 u2 u3 u4 hJ2 hR2=>?_) ?_;clear c)|(refine Dk d (fun R2 hE hF nn u1 u2 u3 u4 hJ2 hR2=>?_) ?_;clear d)|(refine Dk e (fun R2 hE hF nn u1 u2 u3 u4 hJ2 hR2=>?_) ?_;clear e)|(refine Dk f (fun R2 hE hF nn u1 u2 u3 u4 hJ2 hR2=>?_) ?_;clear f)|(refine Dk g (fun R2 hE hF nn u1 u2 u3 u4 hJ2 hR2=>?_) ?_;clear g)|(refine Dk h (fun R2 hE hF nn u1 u2 u3 u4 hJ2 hR2=>?_) ?_;clear h)|(refine Dk i (fun R2 hE hF nn u1 u2 u3 u4 hJ2 hR2=>?_) ?_;clear i)|(refine Dk j (fun R2 hE hF nn u1 u2 u3 u4 hJ2 hR2=>?_) ?_;clear j)|(refine Dk l (fun R2 hE hF nn u1 u2 u3 u4 hJ2 hR2=>?_) ?_;clear l)|(refine Dk m (fun R2 hE hF nn u1 u2 u3 u4 hJ2 hR2=>?_) ?_;clear m)|(refine Dk n (fun R2 hE hF nn u1 u2 u3 u4 hJ2 hR2=>?_) ?_;clear n)|(refine Dk o (fun R2 hE hF nn u1 u2 u3 u4 hJ2 hR2=>?_) ?_;clear o)|(refine Dk p (fun R2 hE hF nn u1 u2 u3 u4 hJ2 hR2=>?_) ?_;clear p)|(refine Dk r (fun R2 hE hF nn u1 u2 u3 u4 hJ2 hR2=>?_) ?_;clear r)|(refine Dk s (fun R2 hE hF nn u1 u2 u3 u4 hJ2 hR2=>?_) ?_;clear s)|(refine Dk t (fun R2 hE hF nn u1 u2 u3 u4 hJ2 hR2=>?_) ?_;clear t)|(refine Dk v (fun R2 hE hF nn u1 u2 u3 u4 hJ2 hR2=>?_) ?_;clear v)|(refine Dp a (fun R2 hE hF nn u1 u2 hJ2 hR2=>?_) ?_;clear a)|(refine Dp b (fun R2 hE hF nn u1 u2 hJ2 hR2=>?_) ?_;clear b)|(refine Dp c (fun R2 hE hF nn u1 u2 hJ2 hR2=>?_) ?_;clear c)|(refine Dp d (fun R2 hE hF nn u1 u2 hJ2 hR2=>?_) ?_;clear d)|(refine Dp e (fun R2 hE hF nn u1 u2 hJ2 hR2=>?_) ?_;clear e)|(refine Dp f (fun R2 hE hF nn u1 u2 hJ2 hR2=>?_) ?_;clear f)|(refine Dp g (fun R2 hE hF nn u1 u2 hJ2 hR2=>?_) ?_;clear g)|(refine Dp h (fun R2 hE hF nn u1 u2 hJ2 hR2=>?_) ?_;clear h)|(refine Dp i (fun R2 hE hF nn u1 u2 hJ2 hR2=>?_) ?_;clear i)|(refine Dp j (fun R2 hE hF nn u1 u2 hJ2 hR2=>?_) ?_;clear j)|(refine Dp l (fun R2 hE hF nn u1 u2 hJ2 hR2=>?_) ?_;clear l)|(refine Dp m (fun R2 hE hF nn u1 u2 hJ2 hR2=>?_) ?_;clear m)|(refine Dp n (fun R2 hE hF nn u1 u2 hJ2 hR2=>?_) ?_;clear n)|(refine Dp o (fun R2 hE hF nn u1 u2 hJ2 hR2=>?_) ?_;clear o)|(refine Dp p (fun R2 hE hF nn u1 u2 hJ2 hR2=>?_) ?_;clear p)|(refine Dp r (fun R2 hE hF nn u1 u2 hJ2 hR2=>?_) ?_;clear r)|(refine Dp s (fun R2 hE hF nn u1 u2 hJ2 hR2=>?_) ?_;clear s)|(refine Dp t (fun R2 hE hF nn u1 u2 hJ2 hR2=>?_) ?_;clear t)|(refine Dp v (fun R2 hE hF nn u1 u2 hJ2 hR2=>?_) ?_;clear v));(try dsimp only at hJ2);(try simp only [hE] at hR);(try have a:=a hJ2);(try have b:=b hJ2);(try have c:=c hJ2);(try have d:=d hJ2);(try have e:=e hJ2);(try have f:=f hJ2);(try have g:=g hJ2);(try have h:=h hJ2);(try have i:=i hJ2);(try have j:=j hJ2);(try have l:=l hJ2);(try have m:=m hJ2);(try have n:=n hJ2);(try have o:=o hJ2);(try have p:=p hJ2);(try have r:=r hJ2);(try have s:=s hJ2);(try have t:=t hJ2);(try have v:=v hJ2);(first|rw [a.h] at hR2|rw [b.h] at hR2|rw [c.h] at hR2|rw [d.h] at hR2|rw [e.h] at hR2|rw [f.h] at hR2|rw [g.h] at hR2|rw [h.h] at hR2|rw [i.h] at hR2|rw [j.h] at hR2|rw [l.h] at hR2|rw [m.h] at hR2|rw [n.h] at hR2|rw [o.h] at hR2|rw [p.h] at hR2|rw [r.h] at hR2|rw [s.h] at hR2|rw [t.h] at hR2|rw [v.h] at hR2);(try (first|rw [a.h] at hJ2|rw [b.h] at hJ2|rw [c.h] at hJ2|rw [d.h] at hJ2|rw [e.h] at hJ2|rw [f.h] at hJ2|rw [g.h] at hJ2|rw [h.h] at hJ2|rw [i.h] at hJ2|rw [j.h] at hJ2|rw [l.h] at hJ2|rw [m.h] at hJ2|rw [n.h] at hJ2|rw [o.h] at hJ2|rw [p.h] at hJ2|rw [r.h] at hJ2|rw [s.h] at hJ2|rw [t.h] at hJ2|rw [v.h] at hJ2));(try simp only [dN] at hR2);simp only [OU,Vq,cu,List.nil_append,Nat.reduceAdd])))
 |(refine oWL ?_;first|refine Si (kgr ?_)|refine kno ?_|refine knb ?_|refine kss ?_|refine ken ?_|refine ak3 ?_|refine Si (kgi ?_)|(refine oLc ?_;first|refine BQ (fun _=>a) ?_|refine BQ (fun _=>b) ?_|refine BQ (fun _=>c) ?_|refine BQ (fun _=>d) ?_|refine BQ (fun _=>e) ?_|refine BQ (fun _=>f) ?_|refine BQ (fun _=>g) ?_|refine BQ (fun _=>h) ?_|refine BQ (fun _=>i) ?_|refine BQ (fun _=>j) ?_|refine BQ (fun _=>l) ?_|refine BQ (fun _=>m) ?_|refine BQ (fun _=>n) ?_|refine BQ (fun _=>o) ?_|refine BQ (fun _=>p) ?_|refine BQ (fun _=>r) ?_|refine BQ (fun _=>s) ?_|refine BQ (fun _=>t) ?_|refine BQ (fun _=>v) ?_|refine qP a ?_|refine qP b ?_|refine qP c ?_|refine qP d ?_|refine qP e ?_|refine qP f ?_|refine qP g ?_|refine qP h ?_|refine qP i ?_|refine qP j ?_|refine qP l ?_|refine qP m ?_|refine qP n ?_|refine qP o ?_|refine qP p ?_|refine qP r ?_|refine qP s ?_|refine qP t ?_|refine qP v ?_|refine qQ a ?_|refine qQ b ?_|refine qQ c ?_|refine qQ d ?_|refine qQ e ?_|refine qQ f ?_|refine qQ g ?_|refine qQ h ?_|refine qQ i ?_|refine qQ j ?_|refine qQ l ?_|refine qQ m ?_|refine qQ n ?_|refine qQ o ?_|refine qQ p ?_|refine qQ r ?_|refine qQ s ?_|refine qQ t ?_|refine qQ v ?_|refine Df (fun _=>a) ?_|refine qV a ?_|refine Df (fun _=>b) ?_|refine qV b ?_|refine Df (fun _=>c) ?_|refine qV c ?_|refine Df (fun _=>d) ?_|refine qV d ?_|refine Df (fun _=>e) ?_|refine qV e ?_|refine Df (fun _=>f) ?_|refine qV f ?_|refine Df (fun _=>g) ?_|refine qV g ?_|refine Df (fun _=>h) ?_|refine qV h ?_|refine Df (fun _=>i) ?_|refine qV i ?_|refine Df (fun _=>j) ?_|refine qV j ?_|refine Df (fun _=>l) ?_|refine qV l ?_|refine Df (fun _=>m) ?_|refine qV m ?_|refine Df (fun _=>n) ?_|refine qV n ?_|refine Df (fun _=>o) ?_|refine qV o ?_|refine Df (fun _=>p) ?_|refine qV p ?_|refine Df (fun _=>r) ?_|refine qV r ?_|refine Df (fun _=>s) ?_|refine qV s ?_|refine Df (fun _=>t) ?_|refine qV t ?_|refine Df (fun _=>v) ?_|refine qV v ?_)|refine SQ a ?_|refine SX a ?_ ?_|refine SY a ?_ ?_|refine SQ b ?_|refine SX b ?_ ?_|refine SY b ?_ ?_|refine SQ c ?_|refine SX c ?_ ?_|refine SY c ?_ ?_|refine SQ d ?_|refine SX d ?_ ?_|refine SY d ?_ ?_|refine SQ e ?_|refine SX e ?_ ?_|refine SY e ?_ ?_|refine SQ f ?_|refine SX f ?_ ?_|refine SY f ?_ ?_|refine SQ g ?_|refine SX g ?_ ?_|refine SY g ?_ ?_|refine SQ h ?_|refine SX h ?_ ?_|refine SY h ?_ ?_|refine SQ i ?_|refine SX i ?_ ?_|refine SY i ?_ ?_|refine SQ j ?_|refine SX j ?_ ?_|refine SY j ?_ ?_|refine SQ l ?_|refine SX l ?_ ?_|refine SY l ?_ ?_|refine SQ m ?_|refine SX m ?_ ?_|refine SY m ?_ ?_|refine SQ n ?_|refine SX n ?_ ?_|refine SY n ?_ ?_|refine SQ o ?_|refine SX o ?_ ?_|refine SY o ?_ ?_|refine SQ p ?_|refine SX p ?_ ?_|refine SY p ?_ ?_|refine SQ r ?_|refine SX r ?_ ?_|refine SY r ?_ ?_|refine SQ s ?_|refine SX s ?_ ?_|refine SY s ?_ ?_|refine SQ t ?_|refine SX t ?_ ?_|refine SY t ?_ ?_|refine SQ v ?_|refine SX v ?_ ?_|refine SY v ?_ ?_|refine ksw ?_ ?_|refine kvo ?_|refine kln ?_|refine yF ?_ fmi|refine ksp a ?_|refine ksp b ?_|refine ksp c ?_|refine ksp d ?_|refine ksp e ?_|refine ksp f ?_|refine ksp g ?_|refine ksp h ?_|refine ksp i ?_|refine ksp j ?_|refine ksp l ?_|refine ksp m ?_|refine ksp n ?_|refine ksp o ?_|refine ksp p ?_|refine ksp r ?_|refine ksp s ?_|refine ksp t ?_|refine ksp v ?_|refine yF ?_|refine DT a ?_|refine DT b ?_|refine DT c ?_|refine DT d ?_|refine DT e ?_|refine DT f ?_|refine DT g ?_|refine DT h ?_|refine DT i ?_|refine DT j ?_|refine DT l ?_|refine DT m ?_|refine DT n ?_|refine DT o ?_|refine DT p ?_|refine DT r ?_|refine DT s ?_|refine DT t ?_|refine DT v ?_|refine C_ a ?_|refine C_ b ?_|refine C_ c ?_|refine C_ d ?_|refine C_ e ?_|refine C_ f ?_|refine C_ g ?_|refine C_ h ?_|refine C_ i ?_|refine C_ j ?_|refine C_ l ?_|refine C_ m ?_|refine C_ n ?_|refine C_ o ?_|refine C_ p ?_|refine C_ r ?_|refine C_ s ?_|refine C_ t ?_|refine C_ v ?_|refine ai0 ?_|refine yF ?_ ai_|refine yF ?_ ai8|refine yF ?_ ai9|refine kfz ?_|refine yF ?_ (Dn a)|refine yF ?_ (Dn b)|refine yF ?_ (Dn c)|refine yF ?_ (Dn d)|refine yF ?_ (Dn e)|refine yF ?_ (Dn f)|refine yF ?_ (Dn g)|refine yF ?_ (Dn h)|refine yF ?_ (Dn i)|refine yF ?_ (Dn j)|refine yF ?_ (Dn l)|refine yF ?_ (Dn m)|refine yF ?_ (Dn n)|refine yF ?_ (Dn o)|refine yF ?_ (Dn p)|refine yF ?_ (Dn r)|refine yF ?_ (Dn s)|refine yF ?_ (Dn t)|refine yF ?_ (Dn v)|refine yF ?_ (SH a)|refine yF ?_ (SH b)|refine yF ?_ (SH c)|refine yF ?_ (SH d)|refine yF ?_ (SH e)|refine yF ?_ (SH f)|refine yF ?_ (SH g)|refine yF ?_ (SH h)|refine yF ?_ (SH i)|refine yF ?_ (SH j)|refine yF ?_ (SH l)|refine yF ?_ (SH m)|refine yF ?_ (SH n)|refine yF ?_ (SH o)|refine yF ?_ (SH p)|refine yF ?_ (SH r)|refine yF ?_ (SH s)|refine yF ?_ (SH t)|refine yF ?_ (SH v)|refine yF ?_ frg|refine yF ?_ fmk|refine yF ?_ ali|refine yF ?_ fml|refine kan fmp ?_|refine yF ?_ alq|refine yF ?_ flo|refine kan fsw ?_|refine kst ?_|((try have q:=a (by first|assumption|exact kt (by assumption)));(try have q:=a (by first|assumption|exact kt (by assumption)) (by first|assumption|exact kt (by assumption)));(try have q:=b (by first|assumption|exact kt (by assumption)));(try have q:=b (by first|assumption|exact kt (by assumption)) (by first|assumption|exact kt (by assumption)));(try have q:=c (by first|assumption|exact kt (by assumption)));(try have q:=c (by first|assumption|exact kt (by assumption)) (by first|assumption|exact kt (by assumption)));(try have q:=d (by first|assumption|exact kt (by assumption)));(try have q:=d (by first|assumption|exact kt (by assumption)) (by first|assumption|exact kt (by assumption)));(try have q:=e (by first|assumption|exact kt (by assumption)));(try have q:=e (by first|assumption|exact kt (by assumption)) (by first|assumption|exact kt (by assumption)));(try have q:=f (by first|assumption|exact kt (by assumption)));(try have q:=f (by first|assumption|exact kt (by assumption)) (by first|assumption|exact kt (by assumption)));(try have q:=g (by first|assumption|exact kt (by assumption)));(try have q:=g (by first|assumption|exact kt (by assumption)) (by first|assumption|exact kt (by assumption)));(try have q:=h (by first|assumption|exact kt (by assumption)));(try have q:=h (by first|assumption|exact kt (by assumption)) (by first|assumption|exact kt (by assumption)));(try have q:=i (by first|assumption|exact kt (by assumption)));(try have q:=i (by first|assumption|exact kt (by assumption)) (by first|assumption|exact kt (by assumption)));(try have q:=j (by first|assumption|exact kt (by assumption)));(try have q:=j (by first|assumption|exact kt (by assumption)) (by first|assumption|exact kt (by assumption)));(try have q:=l (by first|assumption|exact kt (by assumption)));(try have q:=l (by first|assumption|exact kt (by assumption)) (by first|assumption|exact kt (by assumption)));(try have q:=m (by first|assumption|exact kt (by assumption)));(try have q:=m (by first|assumption|exact kt (by assumption)) (by first|assumption|exact kt (by assumption)));(try have q:=n (by first|assumption|exact kt (by assumption)));(try have q:=n (by first|assumption|exact kt (by assumption)) (by first|assumption|exact kt (by assumption)));(try have q:=o (by first|assumption|exact kt (by assumption)));(try have q:=o (by first|assumption|exact kt (by assumption)) (by first|assumption|exact kt (by assumption)));(try have q:=p (by first|assumption|exact kt (by assumption)));(try have q:=p (by first|assumption|exact kt (by assumption)) (by first|assumption|exact kt (by assumption)));(try have q:=r (by first|assumption|exact kt (by assumption)));(try have q:=r (by first|assumption|exact kt (by assumption)) (by first|assumption|exact kt (by assumption)));(try have q:=s (by first|assumption|exact kt (by assumption)));(try have q:=s (by first|assumption|exact kt (by assumption)) (by first|assumption|exact kt (by assumption)));(try have q:=t (by first|assumption|exact kt (by assumption)));(try have q:=t (by first|assumption|exact kt (by assumption)) (by first|assumption|exact kt (by assumption)));(try have q:=v (by first|assumption|exact kt (by assumption)));(try have q:=v (by first|assumption|exact kt (by assumption)) (by first|assumption|exact kt (by assumption)));first|refine Si (kgi ?_)|refine yF ?_|refine DT a ?_|refine DT b ?_|refine DT c ?_|refine DT d ?_|refine DT e ?_|refine DT f ?_|refine DT g ?_|refine DT h ?_|refine DT i ?_|refine DT j ?_|refine DT l ?_|refine DT m ?_|refine DT n ?_|refine DT o ?_|refine DT p ?_|refine DT r ?_|refine DT s ?_|refine DT t ?_|refine DT v ?_)|refine Si (H9 rfl (fun hb=>fqi hb) ?_)|refine Si (H9 rfl (fun hb=>fri hb) ?_)|refine Si (H9 rfl (fun hb=>fsh hb) ?_)|refine Si (H9 rfl (fun hb=>fqf hb) ?_)|refine Si (H9 rfl (fun hb=>fct hb) ?_)|refine Si (H9 rfl (fun hb=>WW (k:=.i64) hb) ?_)|refine Si (H9 rfl (fun hb=>WW (k:=.i32) hb) ?_)|refine Si (H9 rfl (fun hb=>WW (k:=.u64) hb) ?_)|refine Si (H9 rfl (fun hb=>WW (k:=.u8) hb) ?_)|refine Si (H9 rfl (fun hb=>fcf (k:=.f64) hb) ?_)|refine Si (H9 rfl (fun hb=>fsi hb) ?_)|refine Si (H9 rfl (fun hb=>fca hb) ?_)|refine Si (H9 rfl (fun hb=>fcb hb) ?_)|refine Si (H9 rfl (fun hb=>ajh hb) ?_)|refine Si (H9 rfl (fun hb=>aji hb) ?_)|refine Sm a ?_|refine Sm b ?_|refine Sm c ?_|refine Sm d ?_|refine Sm e ?_|refine Sm f ?_|refine Sm g ?_|refine Sm h ?_|refine Sm i ?_|refine Sm j ?_|refine Sm l ?_|refine Sm m ?_|refine Sm n ?_|refine Sm o ?_|refine Sm p ?_|refine Sm r ?_|refine Sm s ?_|refine Sm t ?_|refine Sm v ?_)
 |(refine oWX ?_;first|refine Vo (xgr ?_)|refine xnb ?_|refine xss ?_|refine xen ?_|refine ak5 ?_|refine Vo (xgi ?_)|(refine oXc ?_;first|refine BR (fun _=>a) ?_|refine BR (fun _=>b) ?_|refine BR (fun _=>c) ?_|refine BR (fun _=>d) ?_|refine BR (fun _=>e) ?_|refine BR (fun _=>f) ?_|refine BR (fun _=>g) ?_|refine BR (fun _=>h) ?_|refine BR (fun _=>i) ?_|refine BR (fun _=>j) ?_|refine BR (fun _=>l) ?_|refine BR (fun _=>m) ?_|refine BR (fun _=>n) ?_|refine BR (fun _=>o) ?_|refine BR (fun _=>p) ?_|refine BR (fun _=>r) ?_|refine BR (fun _=>s) ?_|refine BR (fun _=>t) ?_|refine BR (fun _=>v) ?_|refine qR a ?_|refine qR b ?_|refine qR c ?_|refine qR d ?_|refine qR e ?_|refine qR f ?_|refine qR g ?_|refine qR h ?_|refine qR i ?_|refine qR j ?_|refine qR l ?_|refine qR m ?_|refine qR n ?_|refine qR o ?_|refine qR p ?_|refine qR r ?_|refine qR s ?_|refine qR t ?_|refine qR v ?_|refine qU a ?_|refine qU b ?_|refine qU c ?_|refine qU d ?_|refine qU e ?_|refine qU f ?_|refine qU g ?_|refine qU h ?_|refine qU i ?_|refine qU j ?_|refine qU l ?_|refine qU m ?_|refine qU n ?_|refine qU o ?_|refine qU p ?_|refine qU r ?_|refine qU s ?_|refine qU t ?_|refine qU v ?_)|refine xaw ?_|refine DU a ?_|refine DU b ?_|refine DU c ?_|refine DU d ?_|refine DU e ?_|refine DU f ?_|refine DU g ?_|refine DU h ?_|refine DU i ?_|refine DU j ?_|refine DU l ?_|refine DU m ?_|refine DU n ?_|refine DU o ?_|refine DU p ?_|refine DU r ?_|refine DU s ?_|refine DU t ?_|refine DU v ?_|refine xaw ?_ ai_|refine xaw ?_ ai8|refine xaw ?_ ai9|refine xan fsw ?_|((try have q:=a (by first|assumption|exact kt (by assumption)));(try have q:=a (by first|assumption|exact kt (by assumption)) (by first|assumption|exact kt (by assumption)));(try have q:=b (by first|assumption|exact kt (by assumption)));(try have q:=b (by first|assumption|exact kt (by assumption)) (by first|assumption|exact kt (by assumption)));(try have q:=c (by first|assumption|exact kt (by assumption)));(try have q:=c (by first|assumption|exact kt (by assumption)) (by first|assumption|exact kt (by assumption)));(try have q:=d (by first|assumption|exact kt (by assumption)));(try have q:=d (by first|assumption|exact kt (by assumption)) (by first|assumption|exact kt (by assumption)));(try have q:=e (by first|assumption|exact kt (by assumption)));(try have q:=e (by first|assumption|exact kt (by assumption)) (by first|assumption|exact kt (by assumption)));(try have q:=f (by first|assumption|exact kt (by assumption)));(try have q:=f (by first|assumption|exact kt (by assumption)) (by first|assumption|exact kt (by assumption)));(try have q:=g (by first|assumption|exact kt (by assumption)));(try have q:=g (by first|assumption|exact kt (by assumption)) (by first|assumption|exact kt (by assumption)));(try have q:=h (by first|assumption|exact kt (by assumption)));(try have q:=h (by first|assumption|exact kt (by assumption)) (by first|assumption|exact kt (by assumption)));(try have q:=i (by first|assumption|exact kt (by assumption)));(try have q:=i (by first|assumption|exact kt (by assumption)) (by first|assumption|exact kt (by assumption)));(try have q:=j (by first|assumption|exact kt (by assumption)));(try have q:=j (by first|assumption|exact kt (by assumption)) (by first|assumption|exact kt (by assumption)));(try have q:=l (by first|assumption|exact kt (by assumption)));(try have q:=l (by first|assumption|exact kt (by assumption)) (by first|assumption|exact kt (by assumption)));(try have q:=m (by first|assumption|exact kt (by assumption)));(try have q:=m (by first|assumption|exact kt (by assumption)) (by first|assumption|exact kt (by assumption)));(try have q:=n (by first|assumption|exact kt (by assumption)));(try have q:=n (by first|assumption|exact kt (by assumption)) (by first|assumption|exact kt (by assumption)));(try have q:=o (by first|assumption|exact kt (by assumption)));(try have q:=o (by first|assumption|exact kt (by assumption)) (by first|assumption|exact kt (by assumption)));(try have q:=p (by first|assumption|exact kt (by assumption)));(try have q:=p (by first|assumption|exact kt (by assumption)) (by first|assumption|exact kt (by assumption)));(try have q:=r (by first|assumption|exact kt (by assumption)));(try have q:=r (by first|assumption|exact kt (by assumption)) (by first|assumption|exact kt (by assumption)));(try have q:=s (by first|assumption|exact kt (by assumption)));(try have q:=s (by first|assumption|exact kt (by assumption)) (by first|assumption|exact kt (by assumption)));(try have q:=t (by first|assumption|exact kt (by assumption)));(try have q:=t (by first|assumption|exact kt (by assumption)) (by first|assumption|exact kt (by assumption)));(try have q:=v (by first|assumption|exact kt (by assumption)));(try have q:=v (by first|assumption|exact kt (by assumption)) (by first|assumption|exact kt (by assumption)));first|refine Vo (xgi ?_)|refine xaw ?_|refine DU a ?_|refine DU b ?_|refine DU c ?_|refine DU d ?_|refine DU e ?_|refine DU f ?_|refine DU g ?_|refine DU h ?_|refine DU i ?_|refine DU j ?_|refine DU l ?_|refine DU m ?_|refine DU n ?_|refine DU o ?_|refine DU p ?_|refine DU r ?_|refine DU s ?_|refine DU t ?_|refine DU v ?_)|refine Vo (KX rfl (fun hb=>fqi hb) ?_)|refine Vo (KX rfl (fun hb=>fri hb) ?_)|refine Vo (KX rfl (fun hb=>fsh hb) ?_)|refine Vo (KX rfl (fun hb=>fqf hb) ?_)|refine Vo (KX rfl (fun hb=>fct hb) ?_)|refine Vo (KX rfl (fun hb=>WW (k:=.i64) hb) ?_)|refine Vo (KX rfl (fun hb=>WW (k:=.i32) hb) ?_)|refine Vo (KX rfl (fun hb=>WW (k:=.u64) hb) ?_)|refine Vo (KX rfl (fun hb=>WW (k:=.u8) hb) ?_)|refine Vo (KX rfl (fun hb=>fcf (k:=.f64) hb) ?_)|refine Vo (KX rfl (fun hb=>fsi hb) ?_)|refine Vo (KX rfl (fun hb=>fca hb) ?_)|refine Vo (KX rfl (fun hb=>fcb hb) ?_))
 |refine unS ?_|exact kqE
 |refine mgB|refine mgS|refine ale|refine alf
 |simp only [ae1,ae2,ae3,aiU,aiV,ae0]
 |(first|((try simp only [*,dB,bK,dD,List.length_nil,Nat.zero_add,zo,zq,Int.toNat_zero,List.map_nil,Bool.cond_self,cond_true,cond_false,rG,sN,sO,kD,NK,zn,Bool.true_and,Bool.false_and,Bool.and_true,Bool.and_false,Bool.true_or,Bool.false_or,Bool.or_true,Bool.or_false,aP,bG,reduceCtorEq] at hR2);refine ⟨_,_,⟨?_,hR2⟩,agm⟩)|(first|((try simp only [*,dB,bK,dD,List.length_nil,Nat.zero_add,zo,zq,Int.toNat_zero,List.map_nil,Bool.cond_self,cond_true,cond_false,rG,sN,sO,kD,NK,zn,Bool.true_and,Bool.false_and,Bool.and_true,Bool.and_false,Bool.true_or,Bool.false_or,Bool.or_true,Bool.or_false,aP,bG,reduceCtorEq] at hR2);refine ⟨_,⟨?_,hR2⟩,Vs⟩)|((try simp only [*,dB,bK,dD,List.length_nil,Nat.zero_add,zo,zq,Int.toNat_zero,List.map_nil,Bool.cond_self,cond_true,cond_false,rG,sN,sO,kD,NK,zn,Bool.true_and,Bool.false_and,Bool.and_true,Bool.and_false,Bool.true_or,Bool.false_or,Bool.or_true,Bool.or_false,aP,bG,reduceCtorEq] at hR2);refine ⟨_,_,⟨?_,hR2⟩,Vs⟩)|((try simp only [*,dB,bK,dD,List.length_nil,Nat.zero_add,zo,zq,Int.toNat_zero,List.map_nil,Bool.cond_self,cond_true,cond_false,rG,sN,sO,kD,NK,zn,Bool.true_and,Bool.false_and,Bool.and_true,Bool.and_false,Bool.true_or,Bool.false_or,Bool.or_true,Bool.or_false,aP,bG,reduceCtorEq] at hR2);refine ⟨_,_,_,⟨?_,hR2⟩,Vs⟩)|((try simp only [*,dB,bK,dD,List.length_nil,Nat.zero_add,zo,zq,Int.toNat_zero,List.map_nil,Bool.cond_self,cond_true,cond_false,rG,sN,sO,kD,NK,zn,Bool.true_and,Bool.false_and,Bool.and_true,Bool.and_false,Bool.true_or,Bool.false_or,Bool.or_true,Bool.or_false,aP,bG,reduceCtorEq] at hR2);refine ⟨_,_,_,_,⟨?_,hR2⟩,Vs⟩)|((try simp only [*,dB,bK,dD,List.length_nil,Nat.zero_add,zo,zq,Int.toNat_zero,List.map_nil,Bool.cond_self,cond_true,cond_false,rG,sN,sO,kD,NK,zn,Bool.true_and,Bool.false_and,Bool.and_true,Bool.and_false,Bool.true_or,Bool.false_or,Bool.or_true,Bool.or_false,aP,bG,reduceCtorEq] at hR);refine ⟨_,⟨?_,hR⟩,Vs⟩)|((try simp only [*,dB,bK,dD,List.length_nil,Nat.zero_add,zo,zq,Int.toNat_zero,List.map_nil,Bool.cond_self,cond_true,cond_false,rG,sN,sO,kD,NK,zn,Bool.true_and,Bool.false_and,Bool.and_true,Bool.and_false,Bool.true_or,Bool.false_or,Bool.or_true,Bool.or_false,aP,bG,reduceCtorEq] at hR);refine ⟨_,_,⟨?_,hR⟩,Vs⟩)|((try simp only [*,dB,bK,dD,List.length_nil,Nat.zero_add,zo,zq,Int.toNat_zero,List.map_nil,Bool.cond_self,cond_true,cond_false,rG,sN,sO,kD,NK,zn,Bool.true_and,Bool.false_and,Bool.and_true,Bool.and_false,Bool.true_or,Bool.false_or,Bool.or_true,Bool.or_false,aP,bG,reduceCtorEq] at hR);refine ⟨_,_,_,⟨?_,hR⟩,Vs⟩)|((try simp only [*,dB,bK,dD,List.length_nil,Nat.zero_add,zo,zq,Int.toNat_zero,List.map_nil,Bool.cond_self,cond_true,cond_false,rG,sN,sO,kD,NK,zn,Bool.true_and,Bool.false_and,Bool.and_true,Bool.and_false,Bool.true_or,Bool.false_or,Bool.or_true,Bool.or_false,aP,bG,reduceCtorEq] at hR);refine ⟨_,_,_,_,⟨?_,hR⟩,Vs⟩)))
 |refine KT.Dl (by apply a) ?_ ?_|refine KT.use (by apply a) ?_
 |refine KT.Dl (by apply b) ?_ ?_|refine KT.use (by apply b) ?_
 |refine KT.Dl (by apply c) ?_ ?_|refine KT.use (by apply c) ?_
 |refine KT.Dl (by apply d) ?_ ?_|refine KT.use (by apply d) ?_
 |refine KT.Dl (by apply e) ?_ ?_|refine KT.use (by apply e) ?_
 |refine KT.Dl (by apply f) ?_ ?_|refine KT.use (by apply f) ?_
 |refine KT.Dl (by apply g) ?_ ?_|refine KT.use (by apply g) ?_
 |refine KT.Dl (by apply h) ?_ ?_|refine KT.use (by apply h) ?_
 |refine KT.Dl (by apply i) ?_ ?_|refine KT.use (by apply i) ?_
 |refine KT.Dl (by apply j) ?_ ?_|refine KT.use (by apply j) ?_
 |refine KT.Dl (by apply l) ?_ ?_|refine KT.use (by apply l) ?_
 |refine KT.Dl (by apply m) ?_ ?_|refine KT.use (by apply m) ?_
 |refine KT.Dl (by apply n) ?_ ?_|refine KT.use (by apply n) ?_
 |refine KT.Dl (by apply o) ?_ ?_|refine KT.use (by apply o) ?_
 |refine KT.Dl (by apply p) ?_ ?_|refine KT.use (by apply p) ?_
 |refine KT.Dl (by apply r) ?_ ?_|refine KT.use (by apply r) ?_
 |refine KT.Dl (by apply s) ?_ ?_|refine KT.use (by apply s) ?_
 |refine KT.Dl (by apply t) ?_ ?_|refine KT.use (by apply t) ?_
 |refine KT.Dl (by apply v) ?_ ?_|refine KT.use (by apply v) ?_
 |((try dsimp only);first|omega|(simp only [decide_eq_true_eq,decide_eq_false_iff_not,n_,og,oh,oq,yK,yL,kD,List.toList_toArray,dB,List.length_replicate,List.length_set,LQ,NQ,and_true,true_and,uq,nS,Hy,pY,bK,dD,List.length_nil,pW,aU,ay,Bool.not_eq_true',Bool.not_eq_false'];omega)|(simp only [decide_eq_true_eq,decide_eq_false_iff_not,n_,og,oh,oq,yK,yL,kD,List.toList_toArray,dB,List.length_replicate,List.length_set,LQ,NQ,and_true,true_and,uq,nS,Hy,pY,bK,dD,List.length_nil,pW,aU,ay,Bool.not_eq_true',Bool.not_eq_false'] at *;(try simp only [sLen] at *);first|omega|(rw [Qv (by omega) (by omega)];omega)))
 |(refine ksr ?_;first|exact rfl|(simp only [*,zo,zq,Int.toNat_zero,List.map_nil,Bool.cond_self,cond_true,cond_false,rG,sN,sO,kD,NK,zn,Bool.true_and,Bool.false_and,Bool.and_true,Bool.and_false,Bool.true_or,Bool.false_or,Bool.or_true,Bool.or_false,aP,bG,reduceCtorEq];done)|((first|rw [a.h]|rw [b.h]|rw [c.h]|rw [d.h]|rw [e.h]|rw [f.h]|rw [g.h]|rw [h.h]|rw [i.h]|rw [j.h]|rw [l.h]|rw [m.h]|rw [n.h]|rw [o.h]|rw [p.h]|rw [r.h]|rw [s.h]|rw [t.h]|rw [v.h]);simp only [*,zo,zq,Int.toNat_zero,List.map_nil,Bool.cond_self,cond_true,cond_false,rG,sN,sO,kD,NK,zn,Bool.true_and,Bool.false_and,Bool.and_true,Bool.and_false,Bool.true_or,Bool.false_or,Bool.or_true,Bool.or_false,aP,bG,reduceCtorEq];done)|(simp_all only [zo,zq,Int.toNat_zero,List.map_nil,Bool.cond_self,cond_true,cond_false,rG,sN,sO,kD,NK,zn,Bool.true_and,Bool.false_and,Bool.and_true,Bool.and_false,Bool.true_or,Bool.false_or,Bool.or_true,Bool.or_false,aP,bG,reduceCtorEq];done))
 |(refine aly ?_;first|exact rfl|(simp_all only [zo,zq,Int.toNat_zero,List.map_nil,Bool.cond_self,cond_true,cond_false,rG,sN,sO,kD,NK,zn,Bool.true_and,Bool.false_and,Bool.and_true,Bool.and_false,Bool.true_or,Bool.false_or,Bool.or_true,Bool.or_false,aP,bG,reduceCtorEq];done)|(simp_all only [zo,zq,Int.toNat_zero,List.map_nil,Bool.cond_self,cond_true,cond_false,rG,sN,sO,kD,NK,zn,Bool.true_and,Bool.false_and,Bool.and_true,Bool.and_false,Bool.true_or,Bool.false_or,Bool.or_true,Bool.or_false,aP,bG,reduceCtorEq]<;>rfl))
 |(refine alz ?_;first|rfl|(simp_all only [zo,zq,Int.toNat_zero,List.map_nil,Bool.cond_self,cond_true,cond_false,rG,sN,sO,kD,NK,zn,Bool.true_and,Bool.false_and,Bool.and_true,Bool.and_false,Bool.true_or,Bool.false_or,Bool.or_true,Bool.or_false,aP,bG,reduceCtorEq]<;>rfl))
 |(refine alv ?_;first|exact ⟨rfl,rfl⟩|(simp_all only [zo,zq,Int.toNat_zero,List.map_nil,Bool.cond_self,cond_true,cond_false,rG,sN,sO,kD,NK,zn,Bool.true_and,Bool.false_and,Bool.and_true,Bool.and_false,Bool.true_or,Bool.false_or,Bool.or_true,Bool.or_false,aP,bG,reduceCtorEq,and_self];done)|(simp_all only [zo,zq,Int.toNat_zero,List.map_nil,Bool.cond_self,cond_true,cond_false,rG,sN,sO,kD,NK,zn,Bool.true_and,Bool.false_and,Bool.and_true,Bool.and_false,Bool.true_or,Bool.false_or,Bool.or_true,Bool.or_false,aP,bG,reduceCtorEq]<;>exact ⟨rfl,rfl⟩))
 |(refine alx ?_;first|exact rfl|(simp_all only [zo,zq,Int.toNat_zero,List.map_nil,Bool.cond_self,cond_true,cond_false,rG,sN,sO,kD,NK,zn,Bool.true_and,Bool.false_and,Bool.and_true,Bool.and_false,Bool.true_or,Bool.false_or,Bool.or_true,Bool.or_false,aP,bG,reduceCtorEq];done)|(simp_all only [zo,zq,Int.toNat_zero,List.map_nil,Bool.cond_self,cond_true,cond_false,rG,sN,sO,kD,NK,zn,Bool.true_and,Bool.false_and,Bool.and_true,Bool.and_false,Bool.true_or,Bool.false_or,Bool.or_true,Bool.or_false,aP,bG,reduceCtorEq]<;>rfl))
 |(refine kre ?_ (by first|rfl|exact BP.h);first|rfl|(simp_all only [zo,zq,Int.toNat_zero,List.map_nil,Bool.cond_self,cond_true,cond_false,rG,sN,sO,kD,NK,zn,Bool.true_and,Bool.false_and,Bool.and_true,Bool.and_false,Bool.true_or,Bool.false_or,Bool.or_true,Bool.or_false,aP,bG,reduceCtorEq]<;>rfl))
 |(simp_all only [zo,zq,Int.toNat_zero,List.map_nil,Bool.cond_self,cond_true,cond_false,rG,sN,sO,kD,NK,zn,Bool.true_and,Bool.false_and,Bool.and_true,Bool.and_false,Bool.true_or,Bool.false_or,Bool.or_true,Bool.or_false,aP,bG,reduceCtorEq,List.length_set,LQ,NQ,Vy,and_self,and_true,true_and];done)):Z0:=z a b c d e f g h i j l m n o p r s t v
end Go.Fw
end
section
namespace Go.Fw
theorem VF {α:Type}{b:Bool}{x y z:α}(h:(bif b then x else y)=z)(hx:x≠z):b=false/\y=z:=by cases b<;>simp_all
theorem I4 {x:List dJ}(h:iY x=0):x.length<=1024:=by
 have:=(VF h (by decide)).1
 simp only [dN,decide_eq_false_iff_not] at this
 omega
theorem O8 {x:List dJ}(h:jm x=0):x.length<=1024:=by
 have:=(VF h (by decide)).1
 simp only [dN,decide_eq_false_iff_not] at this
 omega
theorem NT {a b:Int}(h:iO (bif iO a 0 then a else b) 0=false):a=0:=by
 cases e:iO a 0 with
 |true=>rw [e] at h;simp only [cond_true] at h;rw [e] at h;cases h
 |false=>simpa [iO] using e
theorem I5 {x:List dJ}{k:dL}(h:iO (kH x k) 0=false):x.length<=1024:=I4 (NT h)
theorem xA {x:List dJ}{k:dL}(h:iO (mD x k) 0=false):x.length<=1024:=O8 (NT h)
theorem NU {x:List dJ}{k:dL}(hl:x.length<=1024):∀(n:Nat) (a b:Int),0<=b->(x.length:Int)-b<n->b<=x.length->(kG x k n a b).1=true\/(kG x k n a b).2.2<x.length
 |0,a,b,h0,h1,h2=>by omega
 |n+1,a,b,h0,h1,h2=>by
  simp only [kG,dN]
  cases e:!(decide (b<(x.length:Int))) with
  |true=>exact .inl rfl
  |false=>
   simp only [Bool.not_eq_false',decide_eq_true_eq] at e
   simp only [cond_false]
   cases (wJ (x.getD b.toNat default).Key.Str k.Str&&dV (x.getD b.toNat default).Key.Sym k.Sym) with
   |true=>exact .inr e
   |false=>
    rw [cond_false,Qv (by omega) (by omega)]
    exact NU hl n a (b+1) (by omega) (by omega) (by omega)
theorem I7 {x:List dJ}{k:dL}(h:iO (mD x k) 0=false):lU x k<x.length:=by
 have hl:=xA h
 have:=NU (k:=k) hl (x.length+1) 0 0 (by omega) (by omega) (by omega)
 unfold lU
 dsimp only
 cases e:(kG x k (x.length+1) 0 0).1 with
 |true=>simp [kP,dV];omega
 |false=>
  rw [e] at this
  simpa [kP,dV] using this
theorem KY {x:List dJ}{k:dL}:∀n a b,jK x k n a b=kG x k n a b
 |0,_,_=>by simp only [jK,kG]
 |n+1,a,b=>by simp only [jK,kG,KY n]
theorem VG {x:List dJ}{k:dL}:jE x k=lU x k:=by
 unfold jE lU
 rw [KY]
theorem KZ {x:List dJ}{k:dL}(h:iO (kH x k) 0=false):jE x k<x.length:=by
 have hl:=I5 h
 have:=NU (k:=k) hl (x.length+1) 0 0 (by omega) (by omega) (by omega)
 rw [VG]
 unfold lU
 dsimp only
 cases e:(kG x k (x.length+1) 0 0).1 with
 |true=>simp [kP,dV];omega
 |false=>
  rw [e] at this
  simpa [kP,dV] using this
theorem acS {α:Type}{e:α->List AV}:∀{l:List α},Qs (List.map e l)->∀x∈l,D_ (e x)
 |y::r,h,x,hx=>by
  rcases bH.1 hx with rfl|hx
  .exact h.1
  .exact acS h.2 x hx
theorem ajr {h:dK}{r:List AV}(hb:D_ (dK.av h::r))(n:Nat):(h.Objects.getD n default).Props.length<=4294967296:=by
 have h1:Qs (List.map dQ.enc h.Objects):=hb.1.1.2
 rw [aH]
 cases e:h.Objects[n]? with
 |none=>exact dG _
 |some o=>
  have:=(acS h1 o (aK e)).2.2.2.2.2.2.1.1
  simpa using this
theorem aaH {x:List dJ}{k:dL}(h:iO (mD x k) 0=false)(h2:decide (lU x k<0)=false):eG .i64 (lU x k) 1=lU x k+1:=by
 have h3:=I7 h
 have h4:=xA h
 rw [decide_eq_false_iff_not] at h2
 exact Qv (by omega) (by omega)
def TJ : Nat->Int->List UInt8->Prop
 |0,_,_=>False
 |n+1,u,s=>0<=u/\u<=1000000/\u<(n:Int)+1/\(s.length:Int)<=128*(1000000-u)
def dg (a:Int):Int:=IntKind.wrap .i32 (eG .i64 48 a)
theorem agr {a:Int}(h0:0<=a)(h1:a<10):dg a=48+a:=by
 unfold dg eG
 have e1:IntKind.i64.wrap (48+a)=48+a:=by
  unfold IntKind.wrap
  simp only [IntKind.signed,IntKind.bits]
  simp;omega
 rw [e1]
 unfold IntKind.wrap
 simp only [IntKind.signed,IntKind.bits]
 simp;omega
theorem afg {n:Nat}{u:Int}{s:List UInt8}(h:TJ (n+1) u s):((0<=IntKind.wrap .i32 (eG .i64 48 (zi .i64 u 10))/\IntKind.wrap .i32 (eG .i64 48 (zi .i64 u 10))<128)/\(O3 (IntKind.wrap .i32 (eG .i64 48 (zi .i64 u 10)))).length+s.length<=4294967296)/\
  (decide (u>=10)=true->TJ n (CO .i64 u 10) (O3 (IntKind.wrap .i32 (eG .i64 48 (zi .i64 u 10)))++s))/\
  (decide (u>=10)=false->(0<=IntKind.wrap .i32 (eG .i64 48 u)/\IntKind.wrap .i32 (eG .i64 48 u)<128)/\(O3 (IntKind.wrap .i32 (eG .i64 48 u))).length+s.length<=4294967296):=by
 obtain ⟨h0,h1,h2,h3⟩:=h
 have hr:zi .i64 u 10=u % 10:=by unfold zi;exact Int.tmod_eq_emod_of_nonneg h0
 have d1:IntKind.wrap .i32 (eG .i64 48 (zi .i64 u 10))=48+u % 10:=by rw [hr];exact agr (by omega) (by omega)
 have c1:=U8 (IntKind.wrap .i32 (eG .i64 48 (zi .i64 u 10)))
 refine ⟨⟨by omega,by omega⟩,fun hd=>?_,fun hd=>?_⟩
 .have hd:=of_decide_eq_true hd
  have hq:CO .i64 u 10=u / 10:=aiM h0 (by omega) (by decide)
  rw [hq]
  obtain ⟨m,rfl⟩:∃m,n=m+1:=⟨n-1,by omega⟩
  exact ⟨by omega,by omega,by omega,by rw [bK];omega⟩
 .have hd:=of_decide_eq_false hd
  have d2:IntKind.wrap .i32 (eG .i64 48 u)=48+u:=agr h0 (by omega)
  have c2:=U8 (IntKind.wrap .i32 (eG .i64 48 u))
  exact ⟨by omega,by omega⟩
end Go.Fw
end
section
namespace Go.Fw
theorem E8 {P A T:List dL}{x:dL}(hx:x∈A):∃c:Int,(P.length:Int)<=c/\c<P.length+A.length/\gt (P++A++T) c=x:=by
 obtain ⟨A1,A2,rfl⟩:=List.append_of_mem hx
 refine ⟨P.length+A1.length,by omega,by simp;omega,?_⟩
 show (P++(A1++x::A2)++T).getD _ default=x
 rw [show P++(A1++x::A2)++T=(P++A1)++x::(A2++T) by simp]
 exact wC (by simp)
theorem acT {P A T:List dL}{c:Int}(h0:(P.length:Int)<=c)(h1:c<P.length+A.length):∃A1 A2,A=A1++gt (P++A++T) c::A2/\(A1.length:Int)=c-P.length:=by
 refine ⟨A.take (c-P.length).toNat,A.drop ((c-P.length).toNat+1),?_,by simp;omega⟩
 have hk:(c-P.length).toNat<A.length:=by omega
 have e:gt (P++A++T) c=A.getD (c-P.length).toNat default:=by
  show (P++A++T).getD c.toNat default=_
  simp only [aH,dA]
  rw [bP (by omega),bF (by omega),show c.toNat-P.length=(c-P.length).toNat by omega]
 rw [e,<- CX A _ hk,List.take_append_drop]
theorem LV {P A T:List dL}(hs:AU A){c d:Int}(h0:(P.length:Int)<=c)(h1:c<=d)(h2:d<P.length+A.length):ltK (gt (P++A++T) d) (gt (P++A++T) c)=false:=by
 by_cases hcd:c=d
 .subst hcd;rw [DV];omega
 obtain ⟨A1,A2,q1,q2⟩:=acT (T:=T) h0 (by omega:c<P.length+A.length)
 generalize gt (P++A++T) c=x at *
 have e:P++A++T=(P++(A1++[x]))++A2++T:=by rw [q1];simp
 rw [e]
 obtain ⟨B1,B2,r1,r2⟩:=acT (P:=P++(A1++[x])) (A:=A2) (T:=T) (c:=d) (by simp;omega) (by rw [q1] at h2;simp at h2 ⊢;omega)
 generalize gt ((P++(A1++[x]))++A2++T) d=y at *
 rw [q1] at hs
 have:=(List.pairwise_append.1 hs).2.1
 have:=(List.pairwise_cons.1 this).1 y (by rw [r1];simp)
 exact this
theorem S_ {A B:List dL}(ha:AU A)(hb:AU B)(h:∀x∈A,∀y∈B,ltK y x=false):AU (A++B):=List.pairwise_append.2 ⟨ha,hb,h⟩
theorem E_ {A:List dL}{k:Int}(h0:0<=k)(h1:k<=A.length):∃A1 A2,A=A1++A2/\(A1.length:Int)=k:=
 ⟨A.take k.toNat,A.drop k.toNat,(List.take_append_drop _ _).symm,by simp;omega⟩
theorem ahr {P A B T:List dL}{a m b mid lo hi r:Int}{k:Nat}(ha:a=P.length)(hm:m=a+A.length)(hb:b=m+B.length)(hA:AU A)(hB:AU B)(hmid:mid=(a+b) / 2)
  (hlo:lo=if m > mid then mid+m-b else a) (hhi:hi=if m > mid then mid else m) (hA0:0<A.length) (hB0:0<B.length)
  (hr:r=bs (fun c=>!ltK (gt (P++A++B++T) (mid+m-1-c)) (gt (P++A++B++T) c)) k lo hi) (hk:b-a<k) :
  ∃A1 A2 B1 B2,A=A1++A2/\B=B1++B2/\r=a+A1.length/\mid-r=B1.length/\(∀x∈A1,∀y∈B2,ltK y x=false)/\(∀x∈A2,∀y∈B1,ltK y x=true):=by
 have hlh:lo<=hi:=by split at hlo<;>split at hhi<;>omega
 have bd:=VD (q:=fun c=>!ltK (gt (P++A++B++T) (mid+m-1-c)) (gt (P++A++B++T) c)) k hlh
 rw [<- hr] at bd
 have eA:∀c d:Int,a<=c->c<=d->d<m->ltK (gt (P++A++B++T) d) (gt (P++A++B++T) c)=false:=by
  intro c d h1 h2 h3
  have:=LV (P:=P) (T:=B++T) hA (c:=c) (d:=d) (by omega) h2 (by omega)
  rw [show P++A++B++T=P++A++(B++T) by simp];exact this
 have eB:∀c d:Int,m<=c->c<=d->d<b->ltK (gt (P++A++B++T) d) (gt (P++A++B++T) c)=false:=by
  intro c d h1 h2 h3
  exact LV (P:=P++A) (T:=T) hB (c:=c) (d:=d) (by simp;omega) h2 (by simp;omega)
 obtain ⟨h1,h2⟩:=VE (q:=fun c=>!ltK (gt (P++A++B++T) (mid+m-1-c)) (gt (P++A++B++T) c)) k hlh (by split at hlo<;>split at hhi<;>omega) (by
  intro c d h1 h2 h3 h4
  simp only [Bool.not_eq_true'] at h4 ⊢
  have q1:=eA c d (by split at hlo<;>omega) h2 (by split at hhi<;>omega)
  have q2:=eB (mid+m-1-d) (mid+m-1-c) (by split at hhi<;>omega) (by omega) (by split at hlo<;>omega)
  exact aoP q1 (aoP h4 q2))
 rw [<- hr] at h1 h2
 have b1:a<=r:=by split at hlo<;>omega
 have b2:r<=m:=by split at hhi<;>omega
 have b3:r<=mid:=by split at hhi<;>omega
 have b4:mid+m-r<=b:=by split at hlo<;>omega
 obtain ⟨A1,A2,rfl,l1⟩:=E_ (A:=A) (k:=r-a) (by omega) (by omega)
 obtain ⟨B1,B2,rfl,l2⟩:=E_ (A:=B) (k:=mid-r) (by omega) (by omega)
 simp only [bK] at *
 refine ⟨A1,A2,B1,B2,rfl,rfl,by omega,by omega,fun x hx y hy=>?_,fun x hx y hy=>?_⟩
 .obtain ⟨c,c0,c1,c2⟩:=E8 (P:=P) (T:=A2++(B1++B2)++T) hx
  obtain ⟨d,d0,d1,d2⟩:=E8 (P:=P++(A1++A2)++B1) (T:=T) hy
  rw [show P++A1++(A2++(B1++B2)++T)=P++(A1++A2)++(B1++B2)++T by simp] at c2
  rw [show P++(A1++A2)++B1++B2++T=P++(A1++A2)++(B1++B2)++T by simp] at d2
  simp only [bK] at d0 d1
  have q:=h1 (r-1) (by split at hlo<;>omega) (by omega)
  simp only [Bool.not_eq_true'] at q
  have q1:=eA c (r-1) (by omega) (by omega) (by omega)
  have q2:=eB (mid+m-1-(r-1)) d (by omega) (by omega) (by omega)
  rw [<- c2,<- d2]
  exact aoP q1 (aoP q q2)
 .obtain ⟨c,c0,c1,c2⟩:=E8 (P:=P++A1) (T:=(B1++B2)++T) hx
  obtain ⟨d,d0,d1,d2⟩:=E8 (P:=P++(A1++A2)) (T:=B2++T) hy
  rw [show P++A1++A2++(B1++B2++T)=P++(A1++A2)++(B1++B2)++T by simp] at c2
  rw [show P++(A1++A2)++B1++(B2++T)=P++(A1++A2)++(B1++B2)++T by simp] at d2
  simp only [bK] at c0 c1 d0 d1
  have q:=h2 r (by omega) (by split at hhi<;>omega)
  simp only [Bool.not_eq_false'] at q
  have q1:=eA r c (by omega) (by omega) (by omega)
  have q2:=eB d (mid+m-1-r) (by omega) (by omega) (by omega)
  rw [<- c2,<- d2]
  exact Lp (aoR q2 q) q1
theorem one1 {A:List dL}(h:A.length=1):∃x,A=[x]:=by
 match A,h with
 |[x],_=>exact ⟨x,rfl⟩
theorem ahs {P B T:List dL}{x:dL}{a m b:Int}(ha:a=P.length)(hm:m=a+1)(hb:b=m+B.length)(hB:AU B)(hlim:b<4294967296) :
  ∃C,gq (fP (P++[x]++B++T) a ((b-m).toNat+1) m b) ((jg .i64 (fP (P++[x]++B++T) a ((b-m).toNat+1) m b) 1).toNat+1) a (P++[x]++B++T)=P++C++T/\AU C/\rM C ([x]++B):=by
 rw [acN _ (by omega) (by omega) (by omega)]
 have gx:gt (P++[x]++B++T) a=x:=by
  show (P++[x]++B++T).getD _ default=x
  rw [show P++[x]++B++T=P++x::(B++T) by simp];exact wC ha
 rw [gx]
 have eB:∀c d:Int,m<=c->c<=d->d<b->ltK (gt (P++[x]++B++T) d) (gt (P++[x]++B++T) c)=false:=by
  intro c d h1 h2 h3
  exact LV (P:=P++[x]) (T:=T) hB (c:=c) (d:=d) (by simp;omega) h2 (by simp;omega)
 generalize hr:bs (fun c=>ltK (gt (P++[x]++B++T) c) x) ((b-m).toNat+1) m b=r
 have bd:=VD (q:=fun c=>ltK (gt (P++[x]++B++T) c) x) ((b-m).toNat+1) (i:=m) (j:=b) (by omega)
 obtain ⟨h1,h2⟩:=VE (q:=fun c=>ltK (gt (P++[x]++B++T) c) x) ((b-m).toNat+1) (i:=m) (j:=b) (by omega) (by omega) (fun c d h1 h2 h3 h4=>aoR (eB c d h1 h2 h3) h4)
 rw [hr] at bd h1 h2
 obtain ⟨B1,B2,rfl,l1⟩:=E_ (A:=B) (k:=r-m) (by omega) (by omega)
 have m1:∀y∈B1,ltK y x=true:=by
  intro y hy
  obtain ⟨c,c0,c1,c2⟩:=E8 (P:=P++[x]) (T:=B2++T) hy
  rw [<- c2,show P++[x]++B1++(B2++T)=P++[x]++(B1++B2)++T by simp]
  exact h1 c (by simp at c0;omega) (by simp at c1;omega)
 have m2:∀y∈B2,ltK y x=false:=by
  intro y hy
  obtain ⟨c,c0,c1,c2⟩:=E8 (P:=P++[x]++B1) (T:=T) hy
  rw [<- c2,show P++[x]++B1++B2++T=P++[x]++(B1++B2)++T by simp]
  simp at c0 c1 hb
  exact h2 c (by omega) (by omega)
 have e1:jg .i64 r 1=r-1:=tH (by omega) (by omega)
 rw [e1,show P++[x]++(B1++B2)++T=P++x::(B1++(B2++T)) by simp,agn _ P B1 (B2++T) x a ha (by omega) (by omega) (by simp at hb;omega)]
 obtain ⟨s1,s2,s3⟩:=List.pairwise_append.1 hB
 refine ⟨B1++x::B2,by simp,List.pairwise_append.2 ⟨s1,List.pairwise_cons.2 ⟨m2,s2⟩,fun y hy z hz=>?_⟩,?_⟩
 .cases hz with
  |head=>exact J7 (m1 y hy)
  |tail _ hz=>exact s3 y hy z hz
 .rw [show B1++x::B2=(B1++[x])++B2 by simp,<- dA]
  exact rM.app (rM.symm (rM.swap fun z hz y hy=>by simp at hz;subst hz;exact m1 y hy)) (rM.refl _)
theorem acU {P A T:List dL}{y:dL}{a m:Int}(ha:a=P.length)(hm:m=a+A.length)(hA:AU A)(hlim:m+1<4294967296) :
  ∃C,gu (g_ (P++A++[y]++T) m ((m-a).toNat+1) a m) ((m-a).toNat+1) m (P++A++[y]++T)=P++C++T/\AU C/\rM C (A++[y]):=by
 rw [acO _ (by omega) (by omega) (by omega)]
 have gx:gt (P++A++[y]++T) m=y:=by
  show (P++A++[y]++T).getD _ default=y
  rw [show P++A++[y]++T=(P++A)++y::T by simp];exact wC (by simp;omega)
 rw [gx]
 have eA:∀c d:Int,a<=c->c<=d->d<m->ltK (gt (P++A++[y]++T) d) (gt (P++A++[y]++T) c)=false:=by
  intro c d h1 h2 h3
  rw [show P++A++[y]++T=P++A++([y]++T) by simp]
  exact LV (P:=P) (T:=[y]++T) hA (c:=c) (d:=d) (by omega) h2 (by omega)
 generalize hr:bs (fun c=>!ltK y (gt (P++A++[y]++T) c)) ((m-a).toNat+1) a m=r
 have bd:=VD (q:=fun c=>!ltK y (gt (P++A++[y]++T) c)) ((m-a).toNat+1) (i:=a) (j:=m) (by omega)
 obtain ⟨h1,h2⟩:=VE (q:=fun c=>!ltK y (gt (P++A++[y]++T) c)) ((m-a).toNat+1) (i:=a) (j:=m) (by omega) (by omega) (fun c d h1 h2 h3 h4=>by
  simp only [Bool.not_eq_true'] at h4 ⊢
  exact aoP (eA c d h1 h2 h3) h4)
 rw [hr] at bd h1 h2
 obtain ⟨A1,A2,rfl,l1⟩:=E_ (A:=A) (k:=r-a) (by omega) (by omega)
 simp only [bK] at hm
 have m1:∀z∈A1,ltK y z=false:=by
  intro z hz
  obtain ⟨c,c0,c1,c2⟩:=E8 (P:=P) (T:=A2++[y]++T) hz
  rw [<- c2,show P++A1++(A2++[y]++T)=P++(A1++A2)++[y]++T by simp]
  have:=h1 c (by omega) (by omega)
  simpa using this
 have m2:∀z∈A2,ltK y z=true:=by
  intro z hz
  obtain ⟨c,c0,c1,c2⟩:=E8 (P:=P++A1) (T:=[y]++T) hz
  rw [<- c2,show P++A1++A2++([y]++T)=P++(A1++A2)++[y]++T by simp]
  simp only [bK] at c0 c1
  have:=h2 c (by omega) (by omega)
  simpa using this
 rw [show P++(A1++A2)++[y]++T=(P++A1)++A2++y::T by simp,agp _ (P++A1) A2 T y m (by simp;omega) (by simp;omega) (by omega) (by simp;omega)]
 refine ⟨A1++y::A2,by simp,SS hA m1 m2,SV m2⟩
theorem nine {α:Type}{c1 c2 c3:Bool}{x v9:α}{M1 M2:α->α} :
  (bif c1&&(c2&&c3) then M2 (M1 v9) else bif c1&&c2 then M1 v9 else bif c1&&c3 then M2 v9 else bif c1 then v9 else bif c2&&c3 then M2 (M1 x) else bif c2 then M1 x else bif c3 then M2 x else x)
   = (bif c3 then M2 (bif c2 then M1 (bif c1 then v9 else x) else (bif c1 then v9 else x)) else (bif c2 then M1 (bif c1 then v9 else x) else (bif c1 then v9 else x))):=by
 cases c1<;>cases c2<;>cases c3<;>rfl
theorem z_ : ∀(k:Nat) (P A B T:List dL) (a m b:Int),a=P.length->m=a+A.length->b=m+B.length->0<A.length->0<B.length->b-a<=k->4*b<4294967296->AU A->AU B->
  ∃C,eu k (P++A++B++T) a m b=P++C++T/\AU C/\rM C (A++B)
 |0,P,A,B,T,a,m,b,ha,hm,hb,hA,hB,hk,hlim,sA,sB=>by omega
 |k+1,P,A,B,T,a,m,b,ha,hm,hb,hA,hB,hk,hlim,sA,sB=>by
  unfold eu
  simp only [show IntKind.wrap .i64 (jA .u64 (IntKind.wrap .u64 (eG .i64 a b)) 1)=(a+b) / 2 from IZ (by omega) (by omega) (by omega)]
  have e1:jg .i64 m a=m-a:=tH (by omega) (by omega)
  have e2:jg .i64 b m=b-m:=tH (by omega) (by omega)
  simp only [e1,e2]
  by_cases hA1:A.length=1
  .obtain ⟨x,rfl⟩:=one1 hA1
   simp only [show dV (m-a) 1=true from by rw [O5];exact decide_eq_true (by omega),cond_true]
   exact ahs ha (by simp at hm;omega) hb sB (by omega)
  simp only [show dV (m-a) 1=false from by rw [O5];exact decide_eq_false (by omega),cond_false]
  by_cases hB1:B.length=1
  .obtain ⟨y,rfl⟩:=one1 hB1
   simp only [show dV (b-m) 1=true from by rw [O5];exact decide_eq_true (by omega),cond_true]
   exact acU ha hm sA (by simp at hb;omega)
  simp only [show dV (b-m) 1=false from by rw [O5];exact decide_eq_false (by omega),cond_false]
  have e3:eG .i64 ((a+b) / 2) m=(a+b) / 2+m:=ng (by omega) (by omega)
  have e4:jg .i64 ((a+b) / 2+m) b=(a+b) / 2+m-b:=tH (by omega) (by omega)
  simp only [e3,e4]
  generalize hlo:(bif decide (m > (a+b) / 2) then (a+b) / 2+m-b else a)=lo
  generalize hhi:(bif decide (m > (a+b) / 2) then (a+b) / 2 else m)=hi
  have acV:lo=if m > (a+b) / 2 then (a+b) / 2+m-b else a:=by rw [<- hlo];simp only [Bool.cond_eq_ite,decide_eq_true_eq]
  have acW:hi=if m > (a+b) / 2 then (a+b) / 2 else m:=by rw [<- hhi];simp only [Bool.cond_eq_ite,decide_eq_true_eq]
  rw [acP (by omega) (by omega) (by omega) (by omega) (by omega) _ (by split at acV<;>omega) (by split at acV<;>split at acW<;>omega) (by split at acW<;>omega)]
  obtain ⟨A1,A2,B1,B2,rfl,rfl,q1,q2,q3,q4⟩:=ahr (P:=P) (A:=A) (B:=B) (T:=T) ha hm hb sA sB rfl acV acW hA hB rfl (by omega:b-a<(((b-a).toNat+1:Nat):Int))
  generalize hr:bs (fun c=>!ltK (gt (P++(A1++A2)++(B1++B2)++T) ((a+b) / 2+m-1-c)) (gt (P++(A1++A2)++(B1++B2)++T) c)) ((b-a).toNat+1) lo hi=r at *
  simp only [bK] at *
  have e5:jg .i64 ((a+b) / 2+m) r=(a+b) / 2+m-r:=tH (by omega) (by omega)
  simp only [e5]
  generalize hmid:(a+b) / 2=mid at *
  rw [nine (M1:=fun l=>eu k l a r mid) (M2:=fun l=>eu k l mid (mid+m-r) b)]
  obtain ⟨sA1,sA2,sA3⟩:=List.pairwise_append.1 sA
  obtain ⟨sB1,sB2,sB3⟩:=List.pairwise_append.1 sB
  have w:(bif (decide (r<m)&&decide (m<mid+m-r)) then jf (P++(A1++A2)++(B1++B2)++T) r m (mid+m-r) else P++(A1++A2)++(B1++B2)++T)=P++A1++B1++(A2++B2++T):=by
   by_cases h1:r<m
   .by_cases h2:m<mid+m-r
    .simp only [h1,h2,decide_true,Bool.true_and,cond_true]
     have:=aaG (P:=P++A1) (A:=A2) (B:=B1) (T:=B2++T) (a:=r) (m:=m) (b:=mid+m-r) (by simp;omega) (by omega) (by omega) (by omega) (by omega) (by simp;omega)
     rw [show P++(A1++A2)++(B1++B2)++T=P++A1++A2++B1++(B2++T) by simp,this]
     simp
    .have:B1=[]:=List.length_eq_zero_iff.1 (by omega)
     subst this
     simp [h2]
   .have:A2=[]:=List.length_eq_zero_iff.1 (by omega)
    subst this
    simp [h1]
  rw [w]
  have w2:∃D,(bif (decide (a<r)&&decide (r<mid)) then eu k (P++A1++B1++(A2++B2++T)) a r mid else P++A1++B1++(A2++B2++T))=P++D++(A2++B2++T)/\AU D/\rM D (A1++B1)/\D.length=A1.length+B1.length:=by
   by_cases h1:a<r
   .by_cases h2:r<mid
    .simp only [h1,h2,decide_true,Bool.true_and,cond_true]
     obtain ⟨C,c1,c2,c3⟩:=z_ k P A1 B1 (A2++B2++T) a r mid ha (by omega) (by omega) (by omega) (by omega) (by omega) (by omega) sA1 sB1
     refine ⟨C,c1,c2,c3,?_⟩
     have:=congrArg List.length c1
     rw [pY] at this
     simp at this
     omega
    .have:B1=[]:=List.length_eq_zero_iff.1 (by omega)
     subst this
     exact ⟨A1,by simp [h2],sA1,by simpa using rM.refl _,by simp⟩
   .have:A1=[]:=List.length_eq_zero_iff.1 (by omega)
    subst this
    exact ⟨B1,by simp [h1],sB1,by simpa using rM.refl _,by simp⟩
  obtain ⟨D,d1,d2,d3,d4⟩:=w2
  rw [d1]
  have w3:∃E,(bif (decide (mid<mid+m-r)&&decide (mid+m-r<b)) then eu k (P++D++(A2++B2++T)) mid (mid+m-r) b else P++D++(A2++B2++T))=P++D++(E++T)/\AU E/\rM E (A2++B2):=by
   by_cases h1:mid<mid+m-r
   .by_cases h2:mid+m-r<b
    .simp only [h1,h2,decide_true,Bool.true_and,cond_true]
     obtain ⟨C,c1,c2,c3⟩:=z_ k (P++D) A2 B2 T mid (mid+m-r) b (by simp;omega) (by omega) (by omega) (by omega) (by omega) (by omega) (by omega) sA2 sB2
     exact ⟨C,by rw [show P++D++(A2++B2++T)=P++D++A2++B2++T by simp,c1];simp,c2,c3⟩
    .have:B2=[]:=List.length_eq_zero_iff.1 (by omega)
     subst this
     exact ⟨A2,by simp [h2],sA2,by simpa using rM.refl _⟩
   .have:A2=[]:=List.length_eq_zero_iff.1 (by omega)
    subst this
    exact ⟨B2,by simp [h1],sB2,by simpa using rM.refl _⟩
  obtain ⟨E,f1,f2,f3⟩:=w3
  rw [f1]
  refine ⟨D++E,by simp,S_ d2 f2 fun x hx y hy=>?_,?_⟩
  .have hx:=d3.FZ x hx
   have hy:=f3.FZ y hy
   rcases aN.1 hx with hx|hx<;>rcases aN.1 hy with hy|hy
   .exact sA3 x hx y hy
   .exact q3 x hx y hy
   .exact J7 (q4 y hy x hx)
   .exact sB3 x hx y hy
  .refine (rM.app d3 f3).trans ?_
   rw [show A1++B1++(A2++B2)=A1++(B1++A2)++B2 by simp,show A1++A2++(B1++B2)=A1++(A2++B1)++B2 by simp]
   exact rM.app (rM.app (rM.refl _) (rM.symm (rM.swap q4))) (rM.refl _)
end Go.Fw
end
section
namespace Go.Fw
inductive Full (s:Int):List dL->Prop
 |nil:Full s []
 |cons {b r:List dL}:(b.length:Int)=s->AU b->Full s r->Full s (b++r)
theorem I8 {x1:Int}(hlim:x1+64<4294967296):∀(k:Nat) (P R:List dL) (a b:Int),a=P.length->b=a+20->x1=a+R.length->R.length<k->
  ∃Q R',(gY x1 k a b (P++R)).2.2=P++Q++R'/\(gY x1 k a b (P++R)).1=a+Q.length/\Full 20 Q/\R'.length<20/\rM (Q++R') R/\x1=a+Q.length+R'.length
 |0,P,R,a,b,ha,hb,hx,hk=>by omega
 |k+1,P,R,a,b,ha,hb,hx,hk=>by
  simp only [gY]
  by_cases hd:b<=x1
  .simp only [decide_eq_true hd,aP,cond_false]
   have e:eG .i64 b 20=b+20:=ng (by omega) (by omega)
   rw [e]
   obtain ⟨M,R,rfl,l1⟩:=E_ (A:=R) (k:=20) (by omega) (by omega)
   simp only [bK] at *
   obtain ⟨M',q1,q2,q3⟩:=IY (P:=P) (M:=M) (T:=R) (a:=a) (b:=b) ha (by omega) (by omega)
   have lM:M'.length=M.length:=by
    have:=congrArg List.length q1
    rw [nS] at this
    simp at this;omega
   rw [show P++(M++R)=P++M++R by simp,q1]
   obtain ⟨Q,R',r1,r2,r3,r4,r5,r6⟩:=I8 hlim k (P++M') R b (b+20) (by simp;omega) rfl (by omega) (by omega)
   refine ⟨M'++Q,R',by rw [r1];simp,by rw [r2];simp;omega,Full.cons (by omega) q2 r3,r4,?_,by simp;omega⟩
   rw [dA]
   exact rM.app q3 r5
  .simp only [decide_eq_false hd,bG,cond_true]
   exact ⟨[],R,by simp,by simp,Full.nil,by omega,rM.refl _,by simp;omega⟩
def Rest (s:Int)(R:List dL):Prop:=(∃b R0,R=b++R0/\(b.length:Int)=s/\AU b/\AU R0/\(R0.length:Int)<s)\/(AU R/\(R.length:Int)<s)
theorem Gy {x1 s:Int}(h0:20<=s)(h8:s<=2*x1+20)(hlim:64*x1+640<4294967296):∀(k:Nat) (P Q R:List dL) (a b:Int),a=P.length->b=a+2*s->x1=a+Q.length+R.length->Q.length<k->Full s Q->AU R->(R.length:Int)<s->
  ∃Q' R',(fJ x1 s k a b (P++Q++R)).2.2=P++Q'++R'/\(fJ x1 s k a b (P++Q++R)).1=a+Q'.length/\Full (2*s) Q'/\Rest s R'/\rM (Q'++R') (Q++R)/\x1=a+Q'.length+R'.length
 |0,P,Q,R,a,b,ha,hb,hx,hk,hf,hr,hl=>by omega
 |k+1,P,Q,R,a,b,ha,hb,hx,hk,hf,hr,hl=>by
  simp only [fJ]
  have e0:D9 .i64 2 s=2*s:=Qx (by omega) (by omega)
  have e1:eG .i64 a s=a+s:=ng (by omega) (by omega)
  rw [e0,e1]
  cases hf with
  |nil=>
   have hd:¬b<=x1:=by simp at hx;omega
   simp only [decide_eq_false hd,bG,cond_true]
   exact ⟨[],R,by simp,by simp,Full.nil,Or.inr ⟨hr,hl⟩,rM.refl _,by simp at hx ⊢;omega⟩
  |@cons b0 Q1 l0 s0 f1=>
   cases f1 with
   |nil=>
    have hd:¬b<=x1:=by simp at hx;omega
    simp only [decide_eq_false hd,bG,cond_true]
    exact ⟨[],b0++R,by simp,by simp,Full.nil,Or.inl ⟨b0,R,rfl,l0,s0,hr,hl⟩,by simpa using rM.refl _,by simp at hx ⊢;omega⟩
   |@cons b1 Q2 l1 s1 f2=>
    simp only [bK] at *
    have hd:b<=x1:=by omega
    simp only [decide_eq_true hd,aP,cond_false]
    have e:eG .i64 b (2*s)=b+2*s:=ng (by omega) (by omega)
    rw [e]
    obtain ⟨C,c1,c2,c3⟩:=z_ ((b-a).toNat+1) P b0 b1 (Q2++R) a (a+s) b ha (by omega) (by omega) (by omega) (by omega) (by omega) (by omega) s0 s1
    have lC:C.length=b0.length+b1.length:=by
     have:=congrArg List.length c1
     rw [pY] at this
     simp at this;omega
    rw [show P++(b0++(b1++Q2))++R=P++b0++b1++(Q2++R) by simp,c1,<- dA]
    obtain ⟨Q',R',r1,r2,r3,r4,r5,r6⟩:=Gy h0 h8 hlim k (P++C) Q2 R b (b+2*s) (by simp;omega) rfl (by omega) (by omega) f2 hr hl
    refine ⟨C++Q',R',by rw [r1];simp,by rw [r2];simp;omega,Full.cons (by omega) c2 r3,r4,?_,by simp;omega⟩
    rw [show C++Q'++R'=C++(Q'++R') by simp,show b0++(b1++Q2)++R=(b0++b1)++(Q2++R) by simp]
    exact rM.app c3 r5
theorem yS {x1:Int}(hlim:64*x1+640<4294967296):∀(k:Nat) (Q R:List dL) (s u v:Int),20<=s->s<=2*x1+20->x1=Q.length+R.length->x1-s<k->0<k->Full s Q->AU R->(R.length:Int)<s->
  ∃L,iP x1 k s u v (Q++R)=L/\AU L/\rM L (Q++R)
 |0,Q,R,s,u,v,h0,h8,hx,hk,hk0,hf,hr,hl=>by omega
 |k+1,Q,R,s,u,v,h0,h8,hx,hk,hk0,hf,hr,hl=>by
  simp only [iP]
  by_cases hd:s<x1
  .simp only [decide_eq_true hd,aP,cond_false]
   have e0:D9 .i64 2 s=2*s:=Qx (by omega) (by omega)
   have e2:D9 .i64 s 2=s*2:=Qx (by omega) (by omega)
   rw [e0,e2]
   obtain ⟨Q',R',r1,r2,r3,r4,r5,r6⟩:=Gy h0 h8 hlim ((x1+2*s).toNat+1) [] Q R 0 (2*s) rfl (by omega) (by omega) (by omega) hf hr hl
   simp only [List.nil_append] at r1 r2
   rw [r1,r2]
   have e1:eG .i64 (0+(Q'.length:Int)) s=Q'.length+s:=by rw [ng (by omega) (by omega)];omega
   rw [e1,show s*2=2*s by omega]
   rcases r4 with ⟨b,R0,rfl,l1,s1,s0,l0⟩|⟨s1,l1⟩
   .simp only [bK] at r6
    by_cases h1:(Q'.length:Int)+s<x1
    .simp only [decide_eq_true h1,cond_true]
     obtain ⟨C,c1,c2,c3⟩:=z_ ((x1-(0+(Q'.length:Int))).toNat+1) Q' b R0 [] (0+Q'.length) (Q'.length+s) x1 (by omega) (by omega) (by omega) (by omega) (by omega) (by omega) (by omega) s1 s0
     have lC:C.length=b.length+R0.length:=by
      have:=congrArg List.length c1
      rw [pY] at this
      simp at this;omega
     simp only [dn] at c1
     rw [<- dA,c1]
     obtain ⟨L,d1,d2,d3⟩:=yS hlim k Q' C (2*s) (0+Q'.length) ((fJ x1 s ((x1+2*s).toNat+1) 0 (2*s) (Q++R)).2.1) (by omega) (by omega) (by omega) (by omega) (by omega) r3 c2 (by omega)
     exact ⟨L,d1,d2,d3.trans ((rM.app (rM.refl _) c3).trans r5)⟩
    .simp only [decide_eq_false h1,cond_false]
     have:R0=[]:=List.length_eq_zero_iff.1 (by omega)
     subst this
     simp only [dn] at *
     obtain ⟨L,d1,d2,d3⟩:=yS hlim k Q' b (2*s) (0+Q'.length) ((fJ x1 s ((x1+2*s).toNat+1) 0 (2*s) (Q++R)).2.1) (by omega) (by omega) (by simp at r6;omega) (by omega) (by omega) r3 s1 (by omega)
     exact ⟨L,d1,d2,d3.trans r5⟩
   .have h1:¬(Q'.length:Int)+s<x1:=by omega
    simp only [decide_eq_false h1,cond_false]
    obtain ⟨L,d1,d2,d3⟩:=yS hlim k Q' R' (2*s) (0+Q'.length) ((fJ x1 s ((x1+2*s).toNat+1) 0 (2*s) (Q++R)).2.1) (by omega) (by omega) (by omega) (by omega) (by omega) r3 s1 (by omega)
    exact ⟨L,d1,d2,d3.trans r5⟩
  .simp only [decide_eq_false hd,bG,cond_true]
   refine ⟨_,rfl,?_,rM.refl _⟩
   cases hf with
   |nil=>simpa using hr
   |@cons b0 Q1 l0 s0 f1=>
    simp only [bK] at hx
    have h1:Q1=[]:=List.length_eq_zero_iff.1 (by omega)
    have h2:R=[]:=List.length_eq_zero_iff.1 (by omega)
    subst h1;subst h2
    simpa using s0
theorem aaI {l:List dL}{n:Int}(hn:n=l.length)(hlim:64*n+640<4294967296):AU (fU l n)/\rM (fU l n) l:=by
 unfold fU
 dsimp only
 obtain ⟨Q,R,r1,r2,r3,r4,r5,r6⟩:=I8 (x1:=n) (by omega) (n.toNat+21) [] l 0 20 rfl rfl (by omega) (by omega)
 simp only [List.nil_append] at r1 r2
 rw [r1,r2]
 obtain ⟨M,q1,q2,q3⟩:=IY (P:=Q) (M:=R) (T:=[]) (a:=0+Q.length) (b:=n) (by omega) (by omega) (by omega)
 simp only [dn] at q1
 have lM:M.length=R.length:=by
  have:=congrArg List.length q1
  rw [nS] at this
  simp at this;omega
 rw [q1]
 obtain ⟨L,d1,d2,d3⟩:=yS (x1:=n) hlim (n.toNat+1) Q M 20 (0+Q.length) ((gY n (n.toNat+21) 0 20 l).2.1) (by omega) (by omega) (by omega) (by omega) (by omega) r3 q2 (by omega)
 rw [d1]
 exact ⟨d2,d3.trans ((rM.app (rM.refl _) q3).trans r5)⟩
theorem afh {l:List dL}(h:l.length<=1):AU l:=by
 match l,h with
 |[],_=>exact List.Pairwise.nil
 |[x],_=>exact List.pairwise_singleton _ _
theorem acX {l:List dL}(hlim:l.length<=1048576):AU (mZ l)/\rM (mZ l) l:=by
 unfold mZ
 dsimp only
 rw [dN,O5,O5]
 by_cases h:l.length<=1
 .have:(decide ((l.length:Int)=0)||decide ((l.length:Int)=1))=true:=by
   rw [<- Bool.decide_or];exact decide_eq_true (by omega)
  rw [this]
  exact ⟨afh h,rM.refl _⟩
 .have:(decide ((l.length:Int)=0)||decide ((l.length:Int)=1))=false:=by
   rw [<- Bool.decide_or];exact decide_eq_false (by omega)
  rw [this]
  have hs:(fU l (l.length:Int)).length=l.length:=Dx
  have:((fU l (l.length:Int)).drop 0).take ((l.length:Int).toNat-0)=fU l l.length:=by
   rw [List.drop_zero];exact List.take_of_length_le (by omega)
  simp only [cond_false]
  rw [this]
  exact aaI rfl (by omega)
end Go.Fw
end
section
namespace Go.Fw
def pv : List UInt8->Int->Option Int
 |[],a=>some a
 |c::r,a=>if c.toNat<48\/c.toNat > 57 then none else pv r (10*a+(c.toNat-48))
def tD (n:Nat):List UInt8:=
 if n<10 then [UInt8.ofNat (48+n)] else if n<100 then [UInt8.ofNat (48+n / 10),UInt8.ofNat (48+n % 10)]
 else if n<1000 then [UInt8.ofNat (48+n / 100),UInt8.ofNat (48+n / 10 % 10),UInt8.ofNat (48+n % 10)]
 else [UInt8.ofNat (48+n / 1000),UInt8.ofNat (48+n / 100 % 10),UInt8.ofNat (48+n / 10 % 10),UInt8.ofNat (48+n % 10)]
theorem Tc : ∀n<1024,ql ((n:Nat):Int)=tD n:=by decide +kernel
theorem acY : ∀n<1024,iE ⟨ql ((n:Nat):Int),0⟩=(((n:Nat):Int),true):=by decide +kernel
theorem NV {s:List UInt8}{a b:Int}:∀(n:Nat) {u1:Int} {u2:Bool} {u3 u4:Int},nC ⟨s,a⟩ n u1 u2 u3 u4=nC ⟨s,b⟩ n u1 u2 u3 u4
 |0,_,_,_,_=>rfl
 |n+1,u1,u2,u3,u4=>by
  simp only [nC]
  rw [NV (a:=a) (b:=b) n]
theorem afi {s:List UInt8}{a:Int}(h:¬a > 0):iE ⟨s,a⟩=iE ⟨s,0⟩:=by
 unfold iE
 dsimp only
 rw [NV (a:=a) (b:=0),decide_eq_false h,decide_eq_false (by omega:¬(0:Int) > 0)]
theorem VH {k:dL}(h:k.Sym > 0):iE k=(0,false):=by
 unfold iE
 dsimp only
 rw [decide_eq_true h];rfl
theorem wsub {c:UInt8}(h:48<=c.toNat):IntKind.wrap .i64 (jg .u8 ((c.toNat:Nat):Int) 48)=c.toNat-48:=by
 have hc:=c.toNat_lt
 have e:jg .u8 ((c.toNat:Nat):Int) 48=c.toNat-48:=by
  show (if (false&&decide (((c.toNat:Int)-48) % 2 ^ 8>=2 ^ (8-1)))=true then ((c.toNat:Int)-48) % 2 ^ 8-2 ^ 8 else ((c.toNat:Int)-48) % 2 ^ 8)=_
  simp;omega
 rw [e]
 have:=ng (a:=(c.toNat:Int)-48) (b:=0) (by omega) (by omega)
 unfold eG at this
 simpa using this
theorem Zk (s:List UInt8):sLen s=(s.length:Int):=rfl
theorem acZ {s:List UInt8}{b:Int}(hs:s.length<=4):∀(n j:Nat) {u1:Int} {u2:Bool} {a:Int},j<=s.length->s.length-j<n->0<=a->((j=0/\a<=0)\/(j=1/\a<=9)\/(j=2/\a<=99)\/(j=3/\a<=999)\/(j=4/\a<=9999))->
  ∃r,nC ⟨s,b⟩ n u1 u2 a j=r/\(match pv (s.drop j) a with|none=>r.1=false/\r.2.2.2.2=(0,false)|some v=>r.1=true/\r.2.2.2.1=v)
 |0,j,_,_,a,hj,hn,_,_=>by omega
 |n+1,j,u1,u2,a,hj,hn,h0,h1=>by
  simp only [nC,aY]
  by_cases hlt:j<s.length
  .have e:s.drop j=s.getD j 0::s.drop (j+1):=by
    rw [List.drop_eq_getElem_cons hlt];simp [aH,hlt]
   rw [e]
   have hd:decide ((j:Int)<(sLen s:Int))=true:=decide_eq_true (show (j:Int)<(s.length:Int) by omega)
   simp only [hd,aP,cond_false,pv]
   obtain ⟨c,hcc⟩:∃c,s.getD j 0=c:=⟨_,rfl⟩
   simp only [hcc]
   by_cases hc:c.toNat<48\/c.toNat > 57
   .have:(decide (((c.toNat:Nat):Int)<48)||decide (((c.toNat:Nat):Int) > 57))=true:=by
     rw [<- Bool.decide_or];exact decide_eq_true (by omega)
    simp only [this,cond_true,hc,if_true]
    exact ⟨_,rfl,rfl,rfl⟩
   .have:(decide (((c.toNat:Nat):Int)<48)||decide (((c.toNat:Nat):Int) > 57))=false:=by
     rw [<- Bool.decide_or];exact decide_eq_false (by omega)
    simp only [this,cond_false,hc,if_false]
    rw [wsub (by omega),Qx (by omega) (by omega),ng (by omega) (by omega),Lm (by omega),show a*10+(↑c.toNat-48)=10*a+(↑c.toNat-48) by omega]
    exact acZ hs n (j+1) (by omega) (by omega) (by omega) (by omega)
  .rw [List.drop_eq_nil_iff.2 (by omega)]
   have hd:decide ((j:Int)<(sLen s:Int))=false:=decide_eq_false (show ¬(j:Int)<(s.length:Int) by omega)
   simp only [hd,bG,cond_true,pv]
   exact ⟨_,rfl,rfl,rfl⟩
theorem ape {s:List UInt8}:iE ⟨s,0⟩=if s=[]\/s.length > 4\/(s.length > 1/\(s.getD 0 0).toNat=48) then (0,false) else match pv s 0 with|none=>(0,false)|some v=>if v>=1024 then (0,false) else (v,true):=by
 unfold iE
 dsimp only
 have hg:(((decide ((0:Int) > 0)||wJ s [])||decide ((sLen s:Int) > 4))||(decide ((sLen s:Int) > 1)&&dV (((s.getD (0:Int).toNat 0).toNat:Nat):Int) 48))=decide (s=[]\/s.length > 4\/(s.length > 1/\(s.getD 0 0).toNat=48)):=by
  rw [ag6,O5,Zk,<- Bool.decide_or,<- Bool.decide_or,<- Bool.decide_and,<- Bool.decide_or]
  apply decide_eq_decide.2
  have:(0:Int).toNat=0:=rfl
  rw [this]
  constructor
  .rintro (((h|h)|h)|⟨h1,h2⟩)
   .omega
   .exact Or.inl h
   .exact Or.inr (Or.inl (by omega))
   .exact Or.inr (Or.inr ⟨by omega,by omega⟩)
  .rintro (h|h|⟨h1,h2⟩)
   .exact Or.inl (Or.inl (Or.inr h))
   .exact Or.inl (Or.inr (by omega))
   .exact Or.inr ⟨by omega,by omega⟩
 rw [hg]
 by_cases h:s=[]\/s.length > 4\/(s.length > 1/\(s.getD 0 0).toNat=48)
 .rw [if_pos h,decide_eq_true h];rfl
 .rw [if_neg h,decide_eq_false h]
  obtain ⟨r,hr,hm⟩:=acZ (s:=s) (b:=0) (by omega) ((sLen s:Int).toNat+1) 0 (u1:=0) (u2:=false) (a:=0) (by omega) (by rw [Zk];omega) (by omega) (by omega)
  simp only [show (((0:Nat):Int))=0 from rfl,List.drop_zero] at hr hm
  rw [hr]
  cases hp:pv s 0 with
  |none=>
   rw [hp] at hm
   rw [O6,hm.1,hm.2];rfl
  |some v=>
   rw [hp] at hm
   rw [O6,hm.1,hm.2]
   by_cases hv:v>=1024<;>simp [hv]
theorem O9 {a:UInt8}{n:Nat}(h:a.toNat=n):UInt8.ofNat n=a:=by subst h;simp
theorem ac0 {s:List UInt8}{v:Int}(h:iE ⟨s,0⟩=(v,true)):∃n:Nat,v=n/\n<1024/\ql (n:Int)=s:=by
 rw [ape] at h
 split at h
 .cases h
 rename_i hg
 cases hp:pv s 0 with
 |none=>rw [hp] at h;cases h
 |some w=>
  rw [hp] at h
  simp only at h
  split at h
  .cases h
  rename_i hw
  simp only [aO,and_true] at h
  subst h
  match s,hg,hp with
  |[],hg,hp=>exact absurd (Or.inl rfl) hg
  |[a],hg,hp=>
   simp only [pv] at hp
   split at hp
   .cases hp
   simp only [au] at hp
   refine ⟨a.toNat-48,by omega,by omega,?_⟩
   rw [Tc _ (by omega)]
   unfold tD
   rw [if_pos (by omega),O9 (a:=a) (by omega)]
  |[a,b],hg,hp=>
   simp only [pv] at hp
   split at hp
   .cases hp
   split at hp
   .cases hp
   simp only [au] at hp
   simp at hg
   refine ⟨10*(a.toNat-48)+(b.toNat-48),by omega,by omega,?_⟩
   rw [Tc _ (by omega)]
   unfold tD
   rw [if_neg (by omega),if_pos (by omega),O9 (a:=a) (by omega),O9 (a:=b) (by omega)]
  |[a,b,c],hg,hp=>
   simp only [pv] at hp
   split at hp
   .cases hp
   split at hp
   .cases hp
   split at hp
   .cases hp
   simp only [au] at hp
   simp at hg
   refine ⟨100*(a.toNat-48)+10*(b.toNat-48)+(c.toNat-48),by omega,by omega,?_⟩
   rw [Tc _ (by omega)]
   unfold tD
   rw [if_neg (by omega),if_neg (by omega),if_pos (by omega),O9 (a:=a) (by omega),O9 (a:=b) (by omega),O9 (a:=c) (by omega)]
  |[a,b,c,d],hg,hp=>
   simp only [pv] at hp
   split at hp
   .cases hp
   split at hp
   .cases hp
   split at hp
   .cases hp
   split at hp
   .cases hp
   simp only [au] at hp
   simp at hg
   refine ⟨1000*(a.toNat-48)+100*(b.toNat-48)+10*(c.toNat-48)+(d.toNat-48),by omega,by omega,?_⟩
   rw [Tc _ (by omega)]
   unfold tD
   rw [if_neg (by omega),if_neg (by omega),if_neg (by omega),O9 (a:=a) (by omega),O9 (a:=b) (by omega),O9 (a:=c) (by omega),O9 (a:=d) (by omega)]
  |a::b::c::d::e::r,hg,hp=>exact absurd (Or.inr (Or.inl (by simp))) hg
end Go.Fw
end
section
namespace Go.Fw
theorem aaJ {s:List UInt8}{x:Int}(h:iE ⟨s,0⟩=(x,false)):x=0:=by
 rw [ape] at h
 split at h
 .cases h;rfl
 .split at h
  .cases h;rfl
  .split at h
   .cases h;rfl
   .cases h
theorem Zl {k:dL}:∀(n j:Nat) {u1:Int} {u2:Bool},j<=1024->1024-j<n->(∀i<j,ql ((i:Nat):Int)≠k.Str)->
  ∃r,oQ k n u1 u2 j=r/\((r.1=false/\r.2.2.2.2=true/\∃m:Nat,m<1024/\r.2.2.2.1=m/\ql (m:Int)=k.Str)\/(r.1=true/\∀i<1024,ql ((i:Nat):Int)≠k.Str))
 |0,j,_,_,hj,hn,hm=>by omega
 |n+1,j,u1,u2,hj,hn,hm=>by
  simp only [oQ]
  by_cases hlt:j<1024
  .have hd:decide ((j:Int)<1024)=true:=decide_eq_true (by omega)
   simp only [hd,aP,cond_false,ag6]
   by_cases he:ql (j:Int)=k.Str
   .simp only [decide_eq_true he,cond_true]
    exact ⟨_,rfl,Or.inl ⟨rfl,rfl,j,hlt,rfl,he⟩⟩
   .simp only [decide_eq_false he,cond_false,Lm (show j<=4294967296 by omega)]
    exact Zl n (j+1) (by omega) (by omega) (fun i hi=>by
     by_cases h:i=j
     .subst h;exact he
     .exact hm i (by omega))
  .have hd:decide ((j:Int)<1024)=false:=decide_eq_false (by omega)
   simp only [hd,bG,cond_true]
   exact ⟨_,rfl,Or.inr ⟨rfl,fun i hi=>hm i (by omega)⟩⟩
theorem LW (k:dL):nN k=iE k:=by
 by_cases hs:k.Sym > 0
 .rw [VH hs]
  unfold nN
  dsimp only
  rw [decide_eq_true hs];rfl
 obtain ⟨s,a⟩:=k
 rw [afi hs]
 by_cases hl:s.length > 4
 .rw [ape,if_pos (Or.inr (Or.inl hl))]
  unfold nN
  dsimp only
  have:decide ((sLen s:Int) > 4)=true:=decide_eq_true (show (s.length:Int) > 4 by omega)
  rw [this,Bool.or_true];rfl
 unfold nN
 dsimp only
 have h1:decide ((sLen s:Int) > 4)=false:=decide_eq_false (show ¬(s.length:Int) > 4 by omega)
 have h2:decide (a > 0)=false:=decide_eq_false hs
 rw [h1,h2]
 obtain ⟨r,hr,hc⟩:=Zl (k:=⟨s,a⟩) ((1024:Int).toNat+1) 0 (u1:=0) (u2:=false) (by omega) (by show 1024-0<1025;omega) (fun i hi=>by omega)
 simp only [show (((0:Nat):Int))=0 from rfl] at hr
 rw [hr]
 rcases hc with ⟨c1,c2,m,c3,c4,c5⟩|⟨c1,c2⟩
 .simp only at c5
  rw [O6,c1,c2,c4,<- c5,acY m c3];rfl
 .rw [O6,c1]
  generalize hk:iE ⟨s,0⟩=x
  obtain ⟨v,b⟩:=x
  cases b with
  |true=>
   obtain ⟨m,q1,q2,q3⟩:=ac0 hk
   exact absurd q3 (c2 m q2)
  |false=>rw [aaJ hk];rfl
def KP (k:dL):Bool:=(iE k).2
def num (k:dL):Int:=(iE k).1
theorem afj {k:dL}(h:KP k=true):¬k.Sym > 0:=by
 intro hs;unfold KP at h;rw [VH hs] at h;cases h
theorem wE (k:dL):dX k=if KP k=true then (0,num k) else if k.Sym > 0 then (2,0) else (1,0):=by
 unfold dX KP num
 dsimp only
 simp only [Bool.cond_eq_ite,decide_eq_true_eq]
theorem Td {a b:dL}(ha:KP a=true)(hb:KP b=true):ltK a b=decide (num a<num b):=by
 rw [Bool.eq_iff_iff,FY,wE,wE,if_pos ha,if_pos hb,decide_eq_true_eq]
 simp
theorem ags {v5:Int×Bool}{T:List dL}:∀(n:Nat) (S:List dL) (u:Int),u=S.length->S.length<n->S.length<=4294967296->(S.Pairwise fun a b=>num a<=num b)->
  ∃S1 S2,S=S1++S2/\qB ((S++T).map num) v5 n u=S1.length/\(∀y∈S1,num y<=v5.1)/\(∀y∈S2,v5.1<num y)
 |0,S,u,hu,hn,hl,hs=>by omega
 |n+1,S,u,hu,hn,hl,hs=>by
  simp only [qB]
  rcases List.eq_nil_or_concat S with rfl|⟨S',y,rfl⟩
  .have hd:decide (u > 0)=false:=decide_eq_false (by simp at hu;omega)
   refine ⟨[],[],rfl,?_,by simp,by simp⟩
   simp [hd];simpa using hu
  .simp only [List.concat_eq_append,bK,dD,List.length_nil] at *
   have hd:decide (u > 0)=true:=decide_eq_true (by omega)
   have e1:jg .i64 u 1=u-1:=tH (by omega) (by omega)
   have g:((S'++[y]++T).map num).getD (u-1).toNat default=num y:=by
    rw [show (S'++[y]++T).map num=S'.map num++num y::T.map num by simp];exact wC (by simp;omega)
   simp only [hd,e1,g,Bool.true_and]
   by_cases hy:num y > v5.1
   .simp only [decide_eq_true hy,aP,cond_false]
    obtain ⟨S1,S2,q1,q2,q3,q4⟩:=ags (v5:=v5) (T:=y::T) n S' (u-1) (by omega) (by omega) (by omega) (List.pairwise_append.1 hs).1
    refine ⟨S1,S2++[y],by rw [q1];simp,by rw [<- q2];simp,q3,fun z hz=>?_⟩
    rcases aN.1 hz with hz|hz
    .exact q4 z hz
    .simp at hz;subst hz;exact hy
   .simp only [decide_eq_false hy,bG,cond_true]
    refine ⟨S'++[y],[],by simp,by simp;omega,fun z hz=>?_,by simp⟩
    rcases aN.1 hz with hz|hz
    .have:=(List.pairwise_append.1 hs).2.2 z hz y (by simp);omega
    .simp at hz;subst hz;omega
theorem agt {r:Int}:∀(n:Nat) (P S T:List dL) (x:dL) (P' S' T':List Int) (x':Int) (u:Int),r=P.length->u=P.length+S.length->P'.length=P.length->S'.length=S.length->u<n->u<=4294967296->
  ∃y y',(oU r n u (P++S++x::T) (P'++S'++x'::T')).2.1=P++y::(S++T)/\(oU r n u (P++S++x::T) (P'++S'++x'::T')).2.2=P'++y'::(S'++T')
 |0,P,S,T,x,P',S',T',x',u,hr,hu,hp,hs,hn,hl=>by omega
 |n+1,P,S,T,x,P',S',T',x',u,hr,hu,hp,hs,hn,hl=>by
  simp only [oU]
  rcases List.eq_nil_or_concat S with rfl|⟨S0,y,rfl⟩
  .have:S'=[]:=List.length_eq_zero_iff.1 (by simpa using hs)
   subst this
   have hd:decide (u > r)=false:=decide_eq_false (by simp at hu;omega)
   exact ⟨x,x',by simp [hd],by simp [hd]⟩
  .rcases List.eq_nil_or_concat S' with rfl|⟨S0',y',rfl⟩
   .simp at hs
   simp only [List.concat_eq_append,bK,dD,List.length_nil] at *
   have hd:decide (u > r)=true:=decide_eq_true (by omega)
   have e1:jg .i64 u 1=u-1:=tH (by omega) (by omega)
   have g:(P++(S0++[y])++x::T).getD (u-1).toNat default=y:=by
    rw [show P++(S0++[y])++x::T=(P++S0)++y::(x::T) by simp];exact wC (by simp;omega)
   have g':(P'++(S0'++[y'])++x'::T').getD (u-1).toNat default=y':=by
    rw [show P'++(S0'++[y'])++x'::T'=(P'++S0')++y'::(x'::T') by simp];exact wC (by simp;omega)
   simp only [hd,e1,g,g',aP,cond_false]
   rw [aoO (by simp;omega),aoO (by simp;omega)]
   obtain ⟨z,z',q1,q2⟩:=agt (r:=r) n P S0 (y::T) y P' S0' (y'::T') y' (u-1) hr (by omega) hp (by omega) (by omega) (by omega)
   refine ⟨z,z',?_,?_⟩
   .rw [show P++(S0++[y])++y::T=P++S0++y::(y::T) by simp,show P'++(S0'++[y'])++y'::T'=P'++S0'++y'::(y'::T') by simp,q1];simp
   .rw [show P++(S0++[y])++y::T=P++S0++y::(y::T) by simp,show P'++(S0'++[y'])++y'::T'=P'++S0'++y'::(y'::T') by simp,q2];simp
end Go.Fw
end
section
namespace Go.Fw
theorem apq {α:Type}{A B:List α}{x y:α}{i:Int}(h:i=A.length):(A++x::B).set i.toNat y=A++y::B:=aoO h
theorem afk {l:List dL}(hi:∀k∈l,KP k=true)(hs:AU l):l.Pairwise fun a b=>num a<=num b:=by
 refine List.Pairwise.imp_of_mem (fun {a b} ha hb h=>?_) hs
 rw [Td (hi b hb) (hi a ha)] at h
 have:=of_decide_eq_false h
 omega
theorem ac1 {x0:List dL}(hx:x0.length<=1048576):∀(n j:Nat) (u:List dL),j<=x0.length->x0.length-j<n->u.length<=j->(∀k∈u,KP k=true)->AU u->rM u ((x0.take j).filter KP)->
  ∃r,oV x0 n u (u.map num) j=r/\(∀k∈r,KP k=true)/\AU r/\rM r (x0.filter KP)
 |0,j,u,hj,hn,hu,hi,hs,he=>by omega
 |n+1,j,u,hj,hn,hu,hi,hs,he=>by
  simp only [oV,apl,aY,LW]
  by_cases hlt:j<x0.length
  .simp only [decide_eq_true hlt,aP,cond_false,Lm (show j<=4294967296 by omega)]
   have ht:=XB x0 j hlt
   generalize x0.getD j default=k at *
   cases hk:KP k with
   |false=>
    have hk':(iE k).2=false:=hk
    simp only [hk',bG,cond_true]
    refine ac1 hx n (j+1) u (by omega) (by omega) (by omega) hi hs ?_
    rw [ht,List.filter_append]
    simpa [hk] using he
   |true=>
    have hk':(iE k).2=true:=hk
    simp only [hk',aP,cond_false]
    obtain ⟨S1,S2,rfl,q2,q3,q4⟩:=ags (v5:=iE k) (T:=[]) (u.length+1) u (jc dL.enc u) (dN _ _) (by omega) (by omega) (afk hi hs)
    rw [dn] at q2
    rw [q2,acQ (by omega)]
    obtain ⟨y,y',w1,w2⟩:=agt (r:=(S1.length:Int)) ((S1++S2).length+1) S1 S2 [] (dL.mk [] 0) (S1.map num) (S2.map num) [] 0 ((S1++S2).length:Int) rfl (by simp) (by simp) (by simp) (by omega) (by omega)
    rw [show (S1++S2).map num++[0]=S1.map num++S2.map num++[0] by simp,w1,w2]
    rw [apq (by omega),apq (by simp)]
    rw [show List.map num S1++(iE k).1::(List.map num S2++[])=(S1++k::(S2++[])).map num by simp [num]]
    have m1:∀y∈S1,ltK k y=false:=fun y hy=>by
     rw [Td hk (hi y (by simp [hy]))]
     have:=q3 y hy
     exact decide_eq_false (by show ¬(iE k).1<num y;omega)
    have m2:∀y∈S2,ltK k y=true:=fun y hy=>by
     rw [Td hk (hi y (by simp [hy]))]
     exact decide_eq_true (q4 y hy)
    refine ac1 hx n (j+1) (S1++k::(S2++[])) (by omega) (by omega) (by simp at hu ⊢;omega) ?_ (by simpa using SS hs m1 m2) ?_
    .intro z hz
     simp only [dn,aN,bH] at hz
     rcases hz with hz|rfl|hz
     .exact hi z (by simp [hz])
     .exact hk
     .exact hi z (by simp [hz])
    .rw [ht,List.filter_append,dn]
     refine (SV m2).trans (rM.app he ?_)
     simp [hk]
     exact rM.refl _
  .simp only [decide_eq_false hlt,bG,cond_true]
   rw [List.take_of_length_le (by omega)] at he
   exact ⟨u,rfl,hi,hs,he⟩
theorem ac2 {x0:List dL}(hx:x0.length<=1048576):∀(n j:Nat) (u:List dL),j<=x0.length->x0.length-j<n->
  oW x0 n u j=u++(x0.drop j).filter (fun k=>!KP k&&decide (k.Sym<=0))
 |0,j,u,hj,hn=>by omega
 |n+1,j,u,hj,hn=>by
  simp only [oW,apl,aY,LW]
  by_cases hlt:j<x0.length
  .rw [CX x0 j hlt]
   simp only [decide_eq_true hlt,aP,cond_false,Lm (show j<=4294967296 by omega)]
   rw [ac2 hx n (j+1) _ (by omega) (by omega),ac2 hx n (j+1) _ (by omega) (by omega),List.filter_cons]
   show (bif !KP (x0.getD j default)&&decide ((x0.getD j default).Sym<=0) then _ else _)=_
   cases (!KP (x0.getD j default)&&decide ((x0.getD j default).Sym<=0))<;>simp
  .simp only [decide_eq_false hlt,bG,cond_true]
   rw [List.drop_eq_nil_iff.2 (by omega)];simp
theorem ac3 {x0:List dL}(hx:x0.length<=1048576):∀(n j:Nat) (u:List dL),j<=x0.length->x0.length-j<n->
  oZ x0 n u j=u++(x0.drop j).filter (fun k=>decide (k.Sym > 0))
 |0,j,u,hj,hn=>by omega
 |n+1,j,u,hj,hn=>by
  simp only [oZ,apl,aY]
  by_cases hlt:j<x0.length
  .rw [CX x0 j hlt]
   simp only [decide_eq_true hlt,aP,cond_false,Lm (show j<=4294967296 by omega)]
   rw [ac3 hx n (j+1) _ (by omega) (by omega),ac3 hx n (j+1) _ (by omega) (by omega),List.filter_cons]
   cases decide ((x0.getD j default).Sym > 0)<;>simp
  .simp only [decide_eq_false hlt,bG,cond_true]
   rw [List.drop_eq_nil_iff.2 (by omega)];simp
theorem VI {l:List dL}{p:Int×Int}(h:∀k∈l,dX k=p):AU l:=by
 refine List.Pairwise.imp_of_mem (R:=fun _ _=>True) (fun {a b} ha hb _=>?_) (List.pairwise_of_forall (fun _ _=>trivial))
 rw [DV,h a ha,h b hb];omega
theorem aaK {x0:List dL}(hx:x0.length<=1048576):AU (qG x0)/\rM (qG x0) x0:=by
 unfold qG
 dsimp only
 obtain ⟨r,hr,hi,hs,he⟩:=ac1 hx (x0.length+1) 0 [] (by omega) (by omega) (by simp) (by simp) List.Pairwise.nil (by simpa using rM.refl _)
 simp only [show (((0:Nat):Int))=0 from rfl,List.map_nil] at hr
 rw [hr]
 have h2:=ac2 hx (x0.length+1) 0 r (by omega) (by omega)
 simp only [show (((0:Nat):Int))=0 from rfl,List.drop_zero] at h2
 rw [h2]
 have h3:=ac3 hx (x0.length+1) 0 (r++x0.filter (fun k=>!KP k&&decide (k.Sym<=0))) (by omega) (by omega)
 simp only [show (((0:Nat):Int))=0 from rfl,List.drop_zero] at h3
 rw [h3]
 have p1:∀k∈x0.filter (fun k=>!KP k&&decide (k.Sym<=0)),dX k=(1,0):=by
  intro k hk
  have:=(List.mem_filter.1 hk).2
  simp only [ay,Bool.not_eq_true',decide_eq_true_eq] at this
  rw [wE,if_neg (by rw [this.1];simp),if_neg (by omega)]
 have p2:∀k∈x0.filter (fun k=>decide (k.Sym > 0)),dX k=(2,0):=by
  intro k hk
  have:=of_decide_eq_true (List.mem_filter.1 hk).2
  rw [wE,if_neg (fun h=>afj h this),if_pos this]
 have p0:∀k∈r,dX k=(0,num k):=fun k hk=>by rw [wE,if_pos (hi k hk)]
 refine ⟨S_ (S_ hs (VI p1) fun x hx y hy=>?_) (VI p2) fun x hx y hy=>?_,fun p=>?_⟩
 .rw [DV,p0 x hx,p1 y hy];simp
 .rcases aN.1 hx with hx|hx
  .rw [DV,p0 x hx,p2 y hy];simp
  .rw [DV,p1 x hx,p2 y hy];simp
 .rw [List.filter_append,List.filter_append,he p,List.filter_filter,List.filter_filter,List.filter_filter]
  by_cases h0:p.1=0
  .have e1:x0.filter (fun k=>decide (dX k=p)&&KP k)=x0.filter (fun k=>decide (dX k=p)):=by
    refine List.filter_congr fun k hk=>?_
    by_cases hp:dX k=p
    .have:KP k=true:=by
      cases hk:KP k with
      |true=>rfl
      |false=>
       rw [wE,if_neg (by rw [hk];simp)] at hp
       split at hp<;>(rw [<- hp] at h0;simp at h0)
     simp [hp,this]
    .simp [hp]
   have e2:x0.filter (fun k=>decide (dX k=p)&&(!KP k&&decide (k.Sym<=0)))=[]:=by
    rw [List.filter_eq_nil_iff];intro k hk hc
    simp only [ay,decide_eq_true_eq] at hc
    have:=p1 k (List.mem_filter.2 ⟨hk,by simpa using hc.2⟩)
    rw [hc.1] at this;rw [this] at h0;simp at h0
   have e3:x0.filter (fun k=>decide (dX k=p)&&decide (k.Sym > 0))=[]:=by
    rw [List.filter_eq_nil_iff];intro k hk hc
    simp only [ay,decide_eq_true_eq] at hc
    have:=p2 k (List.mem_filter.2 ⟨hk,by simpa using hc.2⟩)
    rw [hc.1] at this;rw [this] at h0;simp at h0
   rw [e1,e2,e3];simp
  .have e1:x0.filter (fun k=>decide (dX k=p)&&KP k)=[]:=by
    rw [List.filter_eq_nil_iff];intro k hk hc
    simp only [ay,decide_eq_true_eq] at hc
    rw [wE,if_pos hc.2] at hc
    rw [<- hc.1] at h0;simp at h0
   rw [e1]
   by_cases h1:p.1=1
   .have e2:x0.filter (fun k=>decide (dX k=p)&&(!KP k&&decide (k.Sym<=0)))=x0.filter (fun k=>decide (dX k=p)):=by
     refine List.filter_congr fun k hk=>?_
     by_cases hp:dX k=p
     .rw [wE] at hp
      split at hp
      .rw [<- hp] at h1;simp at h1
      .split at hp
       .rw [<- hp] at h1;simp at h1
       .rename_i a b
        simp only [Bool.not_eq_true] at a
        have:k.Sym<=0:=by omega
        simp [a,this]
     .simp [hp]
    have e3:x0.filter (fun k=>decide (dX k=p)&&decide (k.Sym > 0))=[]:=by
     rw [List.filter_eq_nil_iff];intro k hk hc
     simp only [ay,decide_eq_true_eq] at hc
     have:=p2 k (List.mem_filter.2 ⟨hk,by simpa using hc.2⟩)
     rw [hc.1] at this;rw [this] at h1;simp at h1
    rw [e2,e3];simp
   .have e2:x0.filter (fun k=>decide (dX k=p)&&(!KP k&&decide (k.Sym<=0)))=[]:=by
     rw [List.filter_eq_nil_iff];intro k hk hc
     simp only [ay,decide_eq_true_eq] at hc
     have:=p1 k (List.mem_filter.2 ⟨hk,by simpa using hc.2⟩)
     rw [hc.1] at this;rw [this] at h1;simp at h1
    have e3:x0.filter (fun k=>decide (dX k=p)&&decide (k.Sym > 0))=x0.filter (fun k=>decide (dX k=p)):=by
     refine List.filter_congr fun k hk=>?_
     by_cases hp:dX k=p
     .rw [wE] at hp
      split at hp
      .rw [<- hp] at h0;simp at h0
      .split at hp
       .rename_i b
        have:k.Sym > 0:=b
        simp [this]
       .rw [<- hp] at h1;simp at h1
     .simp [hp]
    rw [e2,e3];simp
end Go.Fw
end
section
namespace Go.Fw
theorem NW {x:Nat}(h:x<2 ^ 64):xu x=y7 x:=by
 unfold xu y7 xO
 dsimp only
 have ht:Du x=kV x:=rfl
 have ha:IU x=x % 9223372036854775808:=apx h
 have hs:yN x=(kM x).neg:=aeL h
 rw [ht,ha,hs,EL,FV x 0,EM]
 by_cases hn:yE x=true
 .simp [hn]
 .have hn:yE x=false:=by simpa using hn
  rw [ab_ x hn,hn]
  cases hx:kM x with
  |nan s t=>unfold yE at hn;rw [hx] at hn;cases hn
  |infinity s=>
   have:(Qq x 14069245235905429503&&OT x 4845873199050653695)=false:=by
    unfold Qq OT Ieee.Format.order
    show (((Ieee.Datum.order (kM x) _ == _)||(Ieee.Datum.order (kM x) _ == _))&&((Ieee.Datum.order (kM x) _ == _)||(Ieee.Datum.order (kM x) _ == _)))=false
    rw [hx]
    have e1:FloatKind.f64.format.read 4845873199050653695=.number false 9007199254740991 0:=FQ
    have e2:FloatKind.f64.format.read 14069245235905429503=.number true 9007199254740991 0:=CS
    rw [e1,e2]
    cases s<;>rfl
   simp [this]
  |number s m i=>
   rw [ND hx]
   simp only [FV,Ieee.Datum.neg]
   cases m with
   |zero=>
    rw [ab9 hx]
    simp only [Ieee.Datum.isZero]
    generalize (Qq x 14069245235905429503&&OT x 4845873199050653695)=A
    generalize fEq (FloatKind.f64.nearest (((FloatKind.f64.decode x).toInt .zero).getD 0)) x=B
    cases A<;>cases B<;>cases s<;>rfl
   |succ m=>
    simp only [Ieee.Datum.isZero]
    generalize (Qq x 14069245235905429503&&OT x 4845873199050653695)=A
    generalize fEq (FloatKind.f64.nearest (((FloatKind.f64.decode x).toInt .zero).getD 0)) x=B
    cases A<;>cases B<;>cases s<;>rfl
theorem I9 : xu 0=true:=by decide +kernel
theorem NY {x:Nat}(h:x<2 ^ 64):(fEq x 0&&xu x)=jW x:=by
 unfold jW
 by_cases hz:fEq x 0=true
 .rw [NW h]
  rw [EM] at hz
  cases hx:kM x with
  |nan s t=>rw [hx] at hz;cases hz
  |infinity s=>rw [hx] at hz;cases hz
  |number s m i=>
   cases m with
   |succ m=>rw [hx] at hz;cases hz
   |zero=>
    have hn:yE x=false:=by unfold yE;rw [hx]
    rw [XA hx]
    unfold y7 xO
    dsimp only
    rw [ab9 hx,EL,hn]
    have hz':fEq x 0=true:=by rw [EM,hx];rfl
    have e1:Qq x 14069245235905429503=true:=by
     unfold Qq Ieee.Format.order
     show ((Ieee.Datum.order (kM x) (kM _) == _)||(Ieee.Datum.order (kM x) (kM _) == _))=true
     have e:kM 14069245235905429503=.number true 9007199254740991 0:=CS
     rw [hx,e]
     simp only [Ieee.Datum.order,ab8,sg0,Ieee.signed,if_true,decide_eq_true_eq]
     have:=Int.natCast_nonneg (9007199254740991 <<< (0-min i 0).toNat)
     generalize ((9007199254740991 <<< (0-min i 0).toNat:Nat):Int)=q at this ⊢
     omega
    have e2:OT x 4845873199050653695=true:=by
     unfold OT Ieee.Format.order
     show ((Ieee.Datum.order (kM x) (kM _) == _)||(Ieee.Datum.order (kM x) (kM _) == _))=true
     have e:kM 4845873199050653695=.number false 9007199254740991 0:=FQ
     rw [hx,e]
     simp only [Ieee.Datum.order,ab7,sg0,Ieee.signed,if_true,decide_eq_true_eq,aV,if_false]
     have:=Int.natCast_nonneg (9007199254740991 <<< (0-min i 0).toNat)
     generalize ((9007199254740991 <<< (0-min i 0).toNat:Nat):Int)=q at this ⊢
     omega
    have e3:fEq (FloatKind.f64.nearest (((FloatKind.f64.decode x).toInt .zero).getD 0)) x=true:=by
     rw [<- ND hx]
     have:kV x=FloatKind.f64.format.word s 0:=by
      unfold kV FloatKind.decode FloatKind.encode
      show FloatKind.f64.format.write ((kM x).integral .zero)=_
      rw [hx]
      simp only [Ieee.Datum.integral,EJ,Nat.shiftLeft_eq,Ieee.Format.write,Nat.zero_mul,Nat.zero_div,Qy]
     rw [this,U_]
     unfold fEq Ieee.Format.order
     show (Ieee.Datum.order (kM x) (kM _) == _)=true
     rw [Xz,hx]
     simp only [Ieee.Datum.order,aoZ,sg0]
     rfl
    rw [e1,e2,FV,e3,hz']
    cases s<;>rfl
 .have hz:fEq x 0=false:=by simpa using hz
  simp [hz]
def u8 (n:Int):Prop:=0<=n/\n<=255
def dP.ok (v:dP):Prop:=u8 v.Kind/\v.Num<2 ^ 64
theorem ac4 {n:Int}(h:u8 n):n=0\/n=1\/n=2\/n=3\/n=4\/n=5\/n=6\/n=7\/n=8\/n > 8:=by unfold u8 at h;omega
theorem D6 {x:Nat}:zx x 0=jW x:=by
 unfold zx jW
 rw [EL,EL]
 have h0:yE 0=false:=by rfl
 rw [h0,FV,EM]
 cases hx:kM x with
 |nan s t=>simp [yE,hx,Ieee.Datum.isZero]
 |infinity s=>simp [yE,hx,Ieee.Datum.isZero]
 |number s m i=>
  cases m with
  |succ m=>simp [yE,hx,Ieee.Datum.isZero]
  |zero=>
   rw [XA hx,aoV hx,aoV Y6]
   have:yE x=false:=by simp [yE,hx]
   rw [this]
   cases s<;>rfl
theorem wF {v:dP}(h:v.ok):jH v=jr v:=by
 obtain ⟨k,n,s,r⟩:=v
 obtain ⟨hk,hn⟩:=h
 dsimp only at hk hn
 have hN:=NY hn
 have hM:=NW hn
 unfold jH jr
 dsimp only
 have hlen:(sLen s > 4096)=¬(sLen s<=4096):=by simp
 have hr0:∀r:Int,(decide (r<0)=!(dV r 0||decide (r > 0))):=by
  intro r
  unfold dV
  by_cases h1:r<0
  .have h2:¬r=0:=by omega
   have h3:¬r > 0:=by omega
   simp [h1,h2,h3]
  .by_cases h2:r=0
   . simp [h2]
   . have h3:r > 0:=by omega
     simp [h1,h2,h3]
 rw [<- hN,<- hM]
 have hse:wJ s []=true->sLen s<=4096:=by
  intro e
  have:s=[]:=of_decide_eq_true e
  subst this
  simp [sLen]
 simp only [hlen,decide_not,hr0,I9,FV]
 have hz:fEq 0 0=true:=by rfl
 generalize hA:decide (sLen s<=4096)=A
 have hAs:wJ s []=true->A=true:=fun e=>by rw [<- hA];exact decide_eq_true (hse e)
 have hr1:dV r 0=true->decide (r > 0)=false:=fun e=>by
  have:r=0:=by simpa [dV] using e
  subst this;rfl
 have alC:wJ ([]:List UInt8) []=true:=by rfl
 have hi0:dV 0 0=true:=by rfl
 have hkk:dV k k=true:=by simp [dV]
 rw [hkk]
 rcases ac4 hk with rfl|rfl|rfl|rfl|rfl|rfl|rfl|rfl|rfl|h8
 all_goals first
  |(have hgt:decide (k > 8)=true:=decide_eq_true h8
    simp only [hgt,Bool.true_or,cond_true]
    done)
  |(simp only [dV] at hr1
    simp only [dV,Int.reduceBEq,Int.reduceGT,Int.reduceGE,decide_true,decide_false,cond_true,cond_false,Bool.or_true,Bool.true_or,Bool.or_false,Bool.false_or,Bool.and_true,Bool.true_and,Bool.and_false,Bool.false_and,aP,bG,hz,alC,hi0,I9]
    generalize wJ s []=S at *
    generalize (r == 0)=R at *
    generalize decide (r > 0)=Q at *
    generalize xu n=M at *
    generalize fEq n 0=Z at *
    generalize fEq n 4607182418800017408=O at *
    clear hN hM hn hk
    revert hAs hr1
    clear hA hse hr0
    revert A S R Q M Z O
    decide)
theorem xB (v w:dP)(hv:v.ok)(hw:w.ok):jQ v w=sD v w:=by
 obtain ⟨k,n,s,r⟩:=v
 obtain ⟨k',n',s',r'⟩:=w
 obtain ⟨hk,-⟩:=hv
 obtain ⟨hk',-⟩:=hw
 dsimp only at hk hk'
 unfold jQ sD yP dS fV
 dsimp only
 have ho:∀k:Int,(decide (k>=6)&&decide (k<=8))=(dV k 6||dV k 7||dV k 8):=by
  intro k
  unfold dV
  by_cases h1:k=6
  .subst h1;rfl
  .by_cases h2:k=7
   .subst h2;rfl
   .by_cases h3:k=8
    .subst h3;rfl
    .have h4:(decide (k>=6)&&decide (k<=8))=false:=by
      by_cases h5:k>=6
      .have:¬k<=8:=by omega
       simp [this]
      .simp [h5]
     rw [h4]
     simp [h1,h2,h3]
 rw [ho,ho]
 by_cases h3:k=3
 .subst h3
  by_cases h3':k'=3
  .subst h3'
   have e:Ll n n=true->fEq n n'=false:=by
    rw [EL]
    intro h
    unfold yE at h
    unfold fEq Ieee.Format.order
    show (Ieee.Datum.order (kM n) _ == _)=false
    cases hx:kM n with
    |nan=>rfl
    |infinity=>rw [hx] at h;cases h
    |number=>rw [hx] at h;cases h
   cases hnn:Ll n n
   .simp [dV,iO,hnn]
   .rw [e hnn]
    simp [dV,iO]
  .have e1:(k' == 3)=false:=by simp [h3']
   have e2:((3:Int) != k')=true:=by simp [Ne.symm h3']
   simp only [dV,iO,e1,e2,Bool.and_false,Bool.false_and,cond_false,cond_true,Int.reduceBEq,Bool.or_self]
 .have:dV k 3=false:=by simp [dV,h3]
  simp only [this,Bool.false_and,cond_false]
  simp [Bool.or_false]
end Go.Fw
end
section
namespace Go.Fw
set_option maxRecDepth 20000
def hb (n:Int)(i:Nat):Bool:=n.toNat.testBit i
structure Bits (n:Int):Prop where
 a1:iO (jS .u8 n 1) 0=hb n 0
 a2:iO (jS .u8 n 2) 0=hb n 1
 a4:iO (jS .u8 n 4) 0=hb n 2
 a8:iO (jS .u8 n 8) 0=hb n 3
 a16:iO (jS .u8 n 16) 0=hb n 4
 a32:iO (jS .u8 n 32) 0=hb n 5
 z1:dV (jS .u8 n 1) 0=!hb n 0
 z4:dV (jS .u8 n 4) 0=!hb n 2
 z8:dV (jS .u8 n 8) 0=!hb n 3
 c1:iO (jS .u8 (CP .u8 n) 1) 0=!hb n 0
 c2:iO (jS .u8 (CP .u8 n) 2) 0=!hb n 1
 c4:iO (jS .u8 (CP .u8 n) 4) 0=!hb n 2
 c8:iO (jS .u8 (CP .u8 n) 8) 0=!hb n 3
 c16:iO (jS .u8 (CP .u8 n) 16) 0=!hb n 4
 c32:iO (jS .u8 (CP .u8 n) 32) 0=!hb n 5
 a12:iO (jS .u8 n 12) 0=(hb n 2||hb n 3)
 a3:iO (jS .u8 n 3) 0=(hb n 0||hb n 1)
 z15:dV (jS .u8 n 15) 0=!((hb n 0||hb n 1)||(hb n 2||hb n 3))
 n63:iO (o_ .u8 n 63) 0=decide (n > 63)
 r1:dV (zi .u8 (CO .u8 n 1) 2) 1=hb n 0
 r2:dV (zi .u8 (CO .u8 n 2) 2) 1=hb n 1
 r4:dV (zi .u8 (CO .u8 n 4) 2) 1=hb n 2
 r8:dV (zi .u8 (CO .u8 n 8) 2) 1=hb n 3
 r16:dV (zi .u8 (CO .u8 n 16) 2) 1=hb n 4
 r32:dV (zi .u8 (CO .u8 n 32) 2) 1=hb n 5
 o60:decide (n > 63)=false->(hb n 0||hb n 1)=false->U1 .u8 n 60=60
 o51:decide (n > 63)=false->(hb n 2||hb n 3)=false->U1 .u8 n 51=51
 p60:decide (n > 63)=false->(hb n 0||hb n 1)=false->U1 .u8 (o_ .u8 n 48) 60=60
 p51:decide (n > 63)=false->(hb n 2||hb n 3)=false->U1 .u8 (o_ .u8 n 48) 51=51
 p12:iO (jS .u8 (o_ .u8 n 48) 12) 0=(hb n 2||hb n 3)
 e51:n=51->(hb n 0=true/\hb n 1=true/\hb n 2=false/\hb n 3=false/\hb n 4=true/\hb n 5=true)
 e60:n=60->(hb n 0=false/\hb n 1=false/\hb n 2=true/\hb n 3=true/\hb n 4=true/\hb n 5=true)
 w60:(hb n 2||hb n 3)=true->decide (n > 63)=false->(hb n 0||hb n 1)=false->iO n (U1 .u8 n 60)=!(dV n 51||dV n 60)
 w51:(hb n 2||hb n 3)=false->decide (n > 63)=false->iO n (U1 .u8 n 51)=!(dV n 51||dV n 60)
def XM (n:Int):Prop:=(iO (jS .u8 n 1) 0=hb n 0/\iO (jS .u8 n 2) 0=hb n 1/\iO (jS .u8 n 4) 0=hb n 2/\iO (jS .u8 n 8) 0=hb n 3/\iO (jS .u8 n 16) 0=hb n 4/\iO (jS .u8 n 32) 0=hb n 5/\
 dV (jS .u8 n 1) 0=(!hb n 0)/\dV (jS .u8 n 4) 0=(!hb n 2)/\dV (jS .u8 n 8) 0=(!hb n 3))
instance (n : Int):Decidable (XM n):=by unfold XM;infer_instance
theorem aaL : ∀k:Fin 256,XM ((k:Nat):Int):=by decide +kernel
def XO (n:Int):Prop:=(iO (jS .u8 (CP .u8 n) 1) 0=(!hb n 0)/\iO (jS .u8 (CP .u8 n) 2) 0=(!hb n 1)/\iO (jS .u8 (CP .u8 n) 4) 0=(!hb n 2)/\iO (jS .u8 (CP .u8 n) 8) 0=(!hb n 3)/\
 iO (jS .u8 (CP .u8 n) 16) 0=(!hb n 4)/\iO (jS .u8 (CP .u8 n) 32) 0=(!hb n 5))
instance (n : Int):Decidable (XO n):=by unfold XO;infer_instance
theorem aaM : ∀k:Fin 256,XO ((k:Nat):Int):=by decide +kernel
def XP (n:Int):Prop:=(iO (jS .u8 n 12) 0=(hb n 2||hb n 3)/\iO (jS .u8 n 3) 0=(hb n 0||hb n 1)/\dV (jS .u8 n 15) 0=(!((hb n 0||hb n 1)||(hb n 2||hb n 3)))/\iO (o_ .u8 n 63) 0=decide (n > 63))
instance (n : Int):Decidable (XP n):=by unfold XP;infer_instance
theorem aaN : ∀k:Fin 256,XP ((k:Nat):Int):=by decide +kernel
def XQ (n:Int):Prop:=(dV (zi .u8 (CO .u8 n 1) 2) 1=hb n 0/\dV (zi .u8 (CO .u8 n 2) 2) 1=hb n 1/\dV (zi .u8 (CO .u8 n 4) 2) 1=hb n 2/\dV (zi .u8 (CO .u8 n 8) 2) 1=hb n 3/\
 dV (zi .u8 (CO .u8 n 16) 2) 1=hb n 4/\dV (zi .u8 (CO .u8 n 32) 2) 1=hb n 5)
instance (n : Int):Decidable (XQ n):=by unfold XQ;infer_instance
theorem aaO : ∀k:Fin 256,XQ ((k:Nat):Int):=by decide +kernel
def XR (n:Int):Prop:=(decide (n > 63)=false->(hb n 0||hb n 1)=false->U1 .u8 n 60=60)
instance (n : Int):Decidable (XR n):=by unfold XR;infer_instance
theorem aaP : ∀k:Fin 256,XR ((k:Nat):Int):=by decide +kernel
def XT (n:Int):Prop:=(decide (n > 63)=false->(hb n 2||hb n 3)=false->U1 .u8 n 51=51)
instance (n : Int):Decidable (XT n):=by unfold XT;infer_instance
theorem aaQ : ∀k:Fin 256,XT ((k:Nat):Int):=by decide +kernel
def XU (n:Int):Prop:=(decide (n > 63)=false->(hb n 0||hb n 1)=false->U1 .u8 (o_ .u8 n 48) 60=60)
instance (n : Int):Decidable (XU n):=by unfold XU;infer_instance
theorem aaR : ∀k:Fin 256,XU ((k:Nat):Int):=by decide +kernel
def XV (n:Int):Prop:=(decide (n > 63)=false->(hb n 2||hb n 3)=false->U1 .u8 (o_ .u8 n 48) 51=51)
instance (n : Int):Decidable (XV n):=by unfold XV;infer_instance
theorem aaS : ∀k:Fin 256,XV ((k:Nat):Int):=by decide +kernel
def XW (n:Int):Prop:=iO (jS .u8 (o_ .u8 n 48) 12) 0=(hb n 2||hb n 3)
instance (n : Int):Decidable (XW n):=by unfold XW;infer_instance
theorem aaT : ∀k:Fin 256,XW ((k:Nat):Int):=by decide +kernel
def XY (n:Int):Prop:=(n=51->(hb n 0=true/\hb n 1=true/\hb n 2=false/\hb n 3=false/\hb n 4=true/\hb n 5=true))
instance (n : Int):Decidable (XY n):=by unfold XY;infer_instance
theorem aaU : ∀k:Fin 256,XY ((k:Nat):Int):=by decide +kernel
def Tf (n:Int):Prop:=(n=60->(hb n 0=false/\hb n 1=false/\hb n 2=true/\hb n 3=true/\hb n 4=true/\hb n 5=true))
instance (n : Int):Decidable (Tf n):=by unfold Tf;infer_instance
theorem XZ : ∀k:Fin 256,Tf ((k:Nat):Int):=by decide +kernel
def Ti (n:Int):Prop:=((hb n 2||hb n 3)=true->decide (n > 63)=false->(hb n 0||hb n 1)=false->iO n (U1 .u8 n 60)=!(dV n 51||dV n 60))
instance (n : Int):Decidable (Ti n):=by unfold Ti;infer_instance
theorem X0 : ∀k:Fin 256,Ti ((k:Nat):Int):=by decide +kernel
def Tj (n:Int):Prop:=((hb n 2||hb n 3)=false->decide (n > 63)=false->iO n (U1 .u8 n 51)=!(dV n 51||dV n 60))
instance (n : Int):Decidable (Tj n):=by unfold Tj;infer_instance
theorem X3 : ∀k:Fin 256,Tj ((k:Nat):Int):=by decide +kernel
theorem bits {n:Int}(h:u8 n):Bits n:=by
 obtain ⟨h0,h1⟩:=h
 have e':((n.toNat:Nat):Int)=n:=by omega
 have q0:=aaL ⟨n.toNat,by omega⟩
 rw [show ((((⟨n.toNat,by omega⟩:Fin 256):Nat)):Int)=n from e'] at q0
 have q1:=aaM ⟨n.toNat,by omega⟩
 rw [show ((((⟨n.toNat,by omega⟩:Fin 256):Nat)):Int)=n from e'] at q1
 have q2:=aaN ⟨n.toNat,by omega⟩
 rw [show ((((⟨n.toNat,by omega⟩:Fin 256):Nat)):Int)=n from e'] at q2
 have q3:=aaO ⟨n.toNat,by omega⟩
 rw [show ((((⟨n.toNat,by omega⟩:Fin 256):Nat)):Int)=n from e'] at q3
 have q4:=aaP ⟨n.toNat,by omega⟩
 rw [show ((((⟨n.toNat,by omega⟩:Fin 256):Nat)):Int)=n from e'] at q4
 have q5:=aaQ ⟨n.toNat,by omega⟩
 rw [show ((((⟨n.toNat,by omega⟩:Fin 256):Nat)):Int)=n from e'] at q5
 have q6:=aaR ⟨n.toNat,by omega⟩
 rw [show ((((⟨n.toNat,by omega⟩:Fin 256):Nat)):Int)=n from e'] at q6
 have q7:=aaS ⟨n.toNat,by omega⟩
 rw [show ((((⟨n.toNat,by omega⟩:Fin 256):Nat)):Int)=n from e'] at q7
 have q8:=aaT ⟨n.toNat,by omega⟩
 rw [show ((((⟨n.toNat,by omega⟩:Fin 256):Nat)):Int)=n from e'] at q8
 have q9:=aaU ⟨n.toNat,by omega⟩
 rw [show ((((⟨n.toNat,by omega⟩:Fin 256):Nat)):Int)=n from e'] at q9
 have q10:=XZ ⟨n.toNat,by omega⟩
 rw [show ((((⟨n.toNat,by omega⟩:Fin 256):Nat)):Int)=n from e'] at q10
 have q11:=X0 ⟨n.toNat,by omega⟩
 rw [show ((((⟨n.toNat,by omega⟩:Fin 256):Nat)):Int)=n from e'] at q11
 have q12:=X3 ⟨n.toNat,by omega⟩
 rw [show ((((⟨n.toNat,by omega⟩:Fin 256):Nat)):Int)=n from e'] at q12
 obtain ⟨a,b,c,d,e,f,g,h,i⟩:=q0
 obtain ⟨j,k,l,m,o,p⟩:=q1
 obtain ⟨q,r,s,t⟩:=q2
 obtain ⟨u,v,w,x,y,z⟩:=q3
 exact ⟨a,b,c,d,e,f,g,h,i,j,k,l,m,o,p,q,r,s,t,u,v,w,x,y,z,q4,q5,q6,q7,q8,q9,q10,q11,q12⟩
def dM.ok (v:dM):Prop:=u8 v.Has/\v.Value.ok/\v.Get.ok/\v.Set.ok
def NZ (v:dP):Bool:=(dV v.Kind 0)&&((fEq v.Num 0)&&((wJ v.Str [])&&(dV v.Ref 0)))
theorem ao1 {v:dP}(h:v.ok):je v=(jH v&&NZ v):=by
 rw [wF h]
 unfold je xM NZ jr
 dsimp only
 rw [D6]
 have hn:jW v.Num=(fEq v.Num 0&&jW v.Num):=by
  unfold jW;cases fEq v.Num 0<;>rfl
 rw [hn]
 by_cases hk:v.Kind=0
 .rw [hk]
  have e1:decide ((0:Int) > 8)=false:=rfl
  have e2:dV 0 3=false:=rfl
  have e3:dV 0 2=false:=rfl
  have e4:dV 0 4=false:=rfl
  have e5:dV 0 0=true:=rfl
  have e6:decide ((0:Int)>=5)=false:=rfl
  simp only [e1,e2,e3,e4,e5,e6,cond_false,Bool.false_and,Bool.or_false,Bool.true_and]
  cases wJ v.Str []<;>cases dV v.Ref 0<;>cases fEq v.Num 0<;>cases jW v.Num<;>rfl
 .have e5:dV v.Kind 0=false:=by simp [dV,hk]
  simp [e5]
theorem QD {v:dP}(h:v.ok):ou v=jk v:=by
 unfold ou jk
 dsimp only
 rw [wF h]
 rfl
theorem N7 {v:dP}:(ou v&&NZ v)=(jH v&&NZ v):=by
 unfold ou NZ
 dsimp only
 cases jH v<;>cases dV v.Kind 0<;>simp
theorem I_ {x:dM}(h:x.ok):qL x=jl x:=by
 obtain ⟨h1,h2,h3,h4⟩:=h
 have B:=bits h1
 unfold qL jl mg lK jV jd ig
 dsimp only
 rw [<- wF h2,ao1 h2,ao1 h3,ao1 h4,<- QD h3,<- QD h4,<- N7 (v:=x.Get),<- N7 (v:=x.Set)]
 have n2:((dV x.Value.Kind 0)&&((fEq x.Value.Num 0)&&((wJ x.Value.Str [])&&(dV x.Value.Ref 0))))=NZ x.Value:=rfl
 have n3:((dV x.Get.Kind 0)&&((fEq x.Get.Num 0)&&((wJ x.Get.Str [])&&(dV x.Get.Ref 0))))=NZ x.Get:=rfl
 have n4:((dV x.Set.Kind 0)&&((fEq x.Set.Num 0)&&((wJ x.Set.Str [])&&(dV x.Set.Ref 0))))=NZ x.Set:=rfl
 rw [n2,n3,n4,B.a12,B.a3,B.n63,B.c1,B.c2,B.c4,B.c8,B.c16,B.c32,B.r1,B.r2,B.r4,B.r8,B.r16,B.r32]
 generalize jH x.Value=M
 generalize ou x.Get=G
 generalize ou x.Set=S
 generalize NZ x.Value=N2
 generalize NZ x.Get=N3
 generalize NZ x.Set=N4
 generalize hb x.Has 0=b0
 generalize hb x.Has 1=b1
 generalize hb x.Has 2=b2
 generalize hb x.Has 3=b3
 generalize hb x.Has 4=b4
 generalize hb x.Has 5=b5
 generalize decide (x.Has > 63)=big
 generalize x.iw=w
 generalize x.fE=e
 generalize x.Configurable=c
 have key:((((((big||((b0||b1)&&(b2||b3)))||(!M))||(!G))||(!S))||((((!b0)&&(!N2))||((!b2)&&(!N3)))||((!b3)&&(!N4))))||((((!b1)&&w)||((!b4)&&e))||((!b5)&&c))) =
   ((big||((b0||b1)&&(b2||b3)))||((((!(bif b0 then M else (M&&N2)))||(!(bif b2 then G else (G&&N3))))||(!(bif b3 then S else (S&&N4))))||(!((((!w)||b1)&&((!e)||b4))&&((!c)||b5))))):=by
  cases big
  .cases M
   .cases b0<;>simp
   .cases G
    .cases b2<;>simp
    .cases S
     .cases b3<;>simp
     .clear B h1 h2 h3 h4 n2 n3 n4
      revert N2 N3 N4 b0 b1 b2 b3 b4 b5 w e c
      decide +kernel
  .simp
 have two:∀p q:Bool,(bif p then (90:Int) else bif q then 90 else 0)=bif (p||q) then 90 else 0:=by intro p q;cases p<;>rfl
 have three:∀p q r:Bool,(bif p then (90:Int) else bif q then 90 else bif r then 90 else 0)=bif ((p||q)||r) then 90 else 0:=by intro p q r;cases p<;>cases q<;>rfl
 rw [three,two]
 rw [<- key]
end Go.Fw
end
section
namespace Go.Fw
theorem VJ {n:Nat}(h:n<2 ^ 64)(hz:jW n=true):n=0:=by
 unfold jW at hz
 rw [ay,EM] at hz
 obtain ⟨h1,h2⟩:=hz
 have hs:=af_ n
 cases hx:kM n with
 |nan s t=>rw [hx] at h1;cases h1
 |infinity s=>rw [hx] at h1;cases h1
 |number s m i=>
  cases m with
  |succ m=>rw [hx] at h1;cases h1
  |zero=>
   rw [XA hx] at h2
   have hs2:s=false:=by simpa using h2
   rw [hx,hs2] at hs
   have e:(2:Nat) ^ 64=18446744073709551616:=by decide
   rw [e] at h
   have hd:n / 9223372036854775808=0:=by
    simp only [Ieee.Datum.neg] at hs
    have:n / 9223372036854775808 % 2≠1:=by
     intro k
     rw [k] at hs
     cases hs
    omega
   have hr:n % 9223372036854775808=0:=by
    unfold kM Ieee.Format.read at hx
    have e:FloatKind.f64.format.signWeight=9223372036854775808:=by rfl
    have e3:FloatKind.f64.format.binade=4503599627370496:=by rfl
    simp only [e,e3] at hx
    split at hx
    .simp only [Ieee.Datum.number.injEq] at hx;exact hx.2.1
    .split at hx
     .simp only [Ieee.Datum.number.injEq] at hx;omega
     .split at hx<;>cases hx
   omega
theorem BH {v:dP}(h:v.ok)(hb:je v=true):v=dP.mk 0 0 [] 0:=by
 obtain ⟨k,n,s,r⟩:=v
 unfold je xM at hb
 dsimp only at hb
 rw [D6] at hb
 simp only [ay,dV,wJ,beq_iff_eq,decide_eq_true_eq] at hb
 obtain ⟨⟨⟨rfl,rfl⟩,rfl⟩,hn⟩:=hb
 obtain rfl:=VJ h.2 hn
 rfl
structure Chk (x:dM):Prop where
 big:decide (x.Has > 63)=false
 da:((hb x.Has 0||hb x.Has 1)&&(hb x.Has 2||hb x.Has 3))=false
 w:(hb x.Has 1||!x.iw)=true
 e:(hb x.Has 4||!x.fE)=true
 c:(hb x.Has 5||!x.Configurable)=true
 v:hb x.Has 0=false->x.Value=dP.mk 0 0 [] 0
 g:hb x.Has 2=false->x.Get=dP.mk 0 0 [] 0
 s:hb x.Has 3=false->x.Set=dP.mk 0 0 [] 0
theorem xX {x:dM}(h:x.ok):jl x=90\/(jl x=0/\Chk x):=by
 obtain ⟨h1,h2,h3,h4⟩:=h
 have B:=bits h1
 have z2:=BH h2
 have z3:=BH h3
 have z4:=BH h4
 by_cases hc:jl x=90
 .exact .inl hc
 .refine .inr ?_
  unfold jl jV jd ig at hc ⊢
  dsimp only at hc ⊢
  rw [B.r1,B.r2,B.r4,B.r8,B.r16,B.r32] at hc ⊢
  generalize hA:(decide (x.Has > 63)||((hb x.Has 0||hb x.Has 1)&&(hb x.Has 2||hb x.Has 3)))=A at hc ⊢
  cases A
  .simp only [cond_false] at hc ⊢
   generalize hQ:((((!(bif hb x.Has 0 then jr x.Value else je x.Value))||(!(bif hb x.Has 2 then jk x.Get else je x.Get)))||(!(bif hb x.Has 3 then jk x.Set else je x.Set)))||(!((((!x.iw)||hb x.Has 1)&&((!x.fE)||hb x.Has 4))&&((!x.Configurable)||hb x.Has 5))))=Q at hc ⊢
   cases Q
   .refine ⟨rfl,?_⟩
    simp only [aU,Bool.not_eq_false',ay] at hQ hA
    obtain ⟨⟨⟨q1,q2⟩,q3⟩,⟨q4,q5⟩,q6⟩:=hQ
    refine ⟨hA.1,hA.2,by rw [Bool.or_comm];exact q4,by rw [Bool.or_comm];exact q5,by rw [Bool.or_comm];exact q6,fun e=>?_,fun e=>?_,fun e=>?_⟩
    .rw [e] at q1;exact z2 q1
    .rw [e] at q2;exact z3 q2
    .rw [e] at q3;exact z4 q3
   .exact absurd rfl hc
  .exact absurd rfl hc
theorem F5 {x:dM}(h:u8 x.Has):mg x=(hb x.Has 0||hb x.Has 1):=(bits h).a3
theorem Fa {x:dM}(h:u8 x.Has):lK x=(hb x.Has 2||hb x.Has 3):=(bits h).a12
theorem wZ {x:dM}(h:u8 x.Has):jV x=(hb x.Has 0||hb x.Has 1):=by
 unfold jV ig;dsimp only;rw [(bits h).r1,(bits h).r2]
theorem qc {x:dM}(h:u8 x.Has):jd x=(hb x.Has 2||hb x.Has 3):=by
 unfold jd ig;dsimp only;rw [(bits h).r4,(bits h).r8]
theorem ac5 {x:dM}(h:u8 x.Has)(c:Chk x):mY x=lu x:=by
 have B:=bits h
 unfold mY lu
 dsimp only
 rw [Fa h,qc h]
 have hda:=c.da
 cases ha:(hb x.Has 2||hb x.Has 3)
 .simp only [cond_false];rw [B.o51 c.big ha]
 .rw [ha,Bool.and_true] at hda
  simp only [cond_true];rw [B.o60 c.big hda]
theorem QE {x:dM}(h:u8 x.Has)(c:Chk x):iO x.Has (mY x).Has=!(dV x.Has 51||dV x.Has 60):=by
 have B:=bits h
 unfold mY
 dsimp only
 rw [Fa h]
 have hda:=c.da
 cases ha:(hb x.Has 2||hb x.Has 3)
 .simp only [cond_false];exact B.w51 ha c.big
 .rw [ha,Bool.and_true] at hda
  simp only [cond_true];exact B.w60 ha c.big hda
theorem afl : ∀(k b c e w w' a0 a1 a2 a3 a4 a5 S1 S2 S3:Bool),((a0||a1)&&(a2||a3))=false->(a5||!c)=true->
  (bif b then true else bif c then false else bif (a4&&!e) then false else bif (!((a0||a1)||(a2||a3))) then true else bif (!(Nh (a0||a1) k)) then false else bif (a0||a1) then (w'||((!w)&&((!a0)||S1))) else (((!a2)||S2)&&((!a3)||S3))) =
  ((((((!(((!b)&&a5)&&c))&&(!(((!b)&&a4)&&(!e))))&&(!((!b)&&(((a0||a1)&&(!k))||((a2||a3)&&k)))))&&(!(((((!b)&&k)&&(!w'))&&(a0||a1))&&(w||(a0&&(!S1))))))&&(!((((!b)&&(!k))&&(a2||a3))&&((a2&&(!S2))||(a3&&(!S3))))))):=by
 decide +kernel
theorem J8 {x0:Bool}{x1:dM}{x2:Bool}{x3:dM}(h1:x1.ok)(h3:x3.ok):jy x0 x1 x2 x3=jB x0 x1 x2 x3:=by
 have B1:=bits h1.1
 have B3:=bits h3.1
 unfold jy jB zu fQ
 dsimp only
 rw [I_ h1,I_ h3]
 rcases xX h1 with c1|⟨c1,k1⟩
 .rw [c1]
  have e1:iO 90 0=true:=rfl
  simp only [e1,cond_true,Bool.true_or]
 .rw [c1]
  have e0:iO 0 0=false:=rfl
  simp only [e0,cond_false,Bool.false_or]
  cases x2
  .simp only [Bool.false_and,cond_false,e0,bG,cond_true]
  .simp only [Bool.true_and,aP,cond_false]
   rcases xX h3 with c3|⟨c3,k3⟩
   .rw [c3]
    have e1:iO 90 0=true:=rfl
    have e2:dV 90 0=false:=rfl
    simp only [e1,e2,cond_true,Bool.true_or,Bool.false_and,bG]
   .rw [c3]
    have e2:dV 0 0=true:=rfl
    simp only [e0,e2,Bool.false_or,Bool.true_and]
    rw [QE h3.1 k3]
    cases hw:(dV x3.Has 51||dV x3.Has 60)
    .have e1:iO 90 0=true:=rfl
     simp only [bG,cond_true,e1]
    .simp only [aP,cond_false,e0]
     congr 1
     unfold EU yO ig
     dsimp only
     rw [F5 h1.1,F5 h3.1,xB _ _ h1.2.1 h3.2.1,xB _ _ h1.2.2.1 h3.2.2.1,xB _ _ h1.2.2.2 h3.2.2.2,wZ h1.1,qc h1.1,wZ h3.1,qc h3.1,
      B1.a16,B1.z15,B1.z1,B1.z4,B1.z8,B1.r32,B1.r16,B1.r1,B1.r4,B1.r8]
     have hk:(hb x3.Has 0||hb x3.Has 1)=!(hb x3.Has 2||hb x3.Has 3):=by
      simp only [dV,bC,beq_iff_eq] at hw
      rcases hw with hw|hw
      .obtain ⟨p0,p1,p2,p3,-,-⟩:=B3.e51 hw
       rw [p0,p1,p2,p3];rfl
      .obtain ⟨p0,p1,p2,p3,-,-⟩:=B3.e60 hw
       rw [p0,p1,p2,p3];rfl
     have ha:(hb x3.Has 2||hb x3.Has 3)=!(hb x3.Has 0||hb x3.Has 1):=by rw [hk,Bool.not_not]
     rw [ha]
     exact afl _ _ _ _ _ _ _ _ _ _ _ _ _ _ _ k1.da k1.c
theorem X4 (x0:Bool)(x1:dM)(x2:Bool)(x3:dM):(jB x0 x1 x2 x3).2=0->iO (jl x1) 0=false:=by
 unfold jB
 dsimp only
 cases h:iO (jl x1) 0
 .intro;rfl
 .simp
theorem VK {x0:Bool}{x1:dM}{x2:Bool}{x3:dM}(h1:x1.ok)(h3:x3.ok):fG x0 x1 x2 x3=vI x0 x1 x2 x3:=by
 unfold fG vI
 dsimp only
 rw [J8 h1 h3]
 cases he:(iO (jB x0 x1 x2 x3).2 0||!(jB x0 x1 x2 x3).1)
 .simp only [cond_false]
  have h0:(jB x0 x1 x2 x3).2=0:=by
   simp only [aU,iO,bne_eq_false_iff_eq] at he
   exact he.1
  have hc:=X4 x0 x1 x2 x3 h0
  rcases xX h1 with c1|⟨c1,k1⟩
  .rw [c1] at hc;exact absurd hc (by decide)
  .rw [ac5 h1.1 k1]
   cases x2
   .rfl
   .have B1:=bits h1.1
    have hda:=k1.da
    simp only [aP,cond_false]
    unfold mY lu ig lK
    dsimp only
    have ea:iO (jS .u8 x3.Has 12) 0=lK x3:=rfl
    rw [F5 h1.1,F5 h3.1,wZ h1.1,qc h1.1,wZ h3.1,qc h3.1,B1.a12,ea,Fa h3.1,B1.p12,B1.a1,B1.a2,B1.a4,B1.a8,B1.a16,B1.a32,B1.r1,B1.r2,B1.r4,B1.r8,B1.r16,B1.r32]
    generalize (((hb x1.Has 0||hb x1.Has 1)&&(hb x3.Has 2||hb x3.Has 3))||((hb x1.Has 2||hb x1.Has 3)&&(hb x3.Has 0||hb x3.Has 1)))=K
    have hh:(bif (hb x1.Has 2||hb x1.Has 3) then U1 .u8 (o_ .u8 x1.Has 48) 60 else U1 .u8 (o_ .u8 x1.Has 48) 51)=(bif (hb x1.Has 2||hb x1.Has 3) then 60 else 51):=by
     cases ha:(hb x1.Has 2||hb x1.Has 3)
     .simp only [cond_false];rw [B1.p51 k1.big ha]
     .rw [ha,Bool.and_true] at hda
      simp only [cond_true];rw [B1.p60 k1.big hda]
    rw [hh]
    cases K
    .simp only [cond_false]
    .simp only [cond_true]
     have ev:=k1.v
     have eg:=k1.g
     have es:=k1.s
     have ew:=k1.w
     congr 1
     congr 1
     .cases hq:hb x1.Has 0
      .rw [ev hq];rfl
      .rfl
     .cases hq:hb x1.Has 2
      .rw [eg hq];rfl
      .rfl
     .cases hq:hb x1.Has 3
      .rw [es hq];rfl
      .rfl
     .cases hq:hb x1.Has 1
      .rw [hq] at ew;simp at ew;simp [ew]
      .rfl
     .cases hb x1.Has 4<;>rfl
     .cases hb x1.Has 5<;>rfl
 .rfl
theorem vok {v:dP}(h:v.wf):v.ok:=⟨h.Kind,h.Num⟩
theorem dok {v:dM}(h:v.wf):v.ok:=⟨h.Has,vok h.Value,vok h.Get,vok h.Set⟩
end Go.Fw
end
section
namespace Go.Fw
def pl (l:List dJ)(k:dL):Option Nat:=l.findIdx? (fun p=>decide (p.Key=k))
theorem VL (x0:List dJ)(x1:dL)(hl:x0.length<=4294967296):∀(n j:Nat) (u2:Int),j<=x0.length->x0.length-j<n->
  jK x0 x1 n u2 j=match (x0.drop j).findIdx? (fun p=>decide (p.Key=x1)) with|some i=>(false,default,((j+i:Nat):Int))|none=>(true,u2,default)
 |0,j,u2,hj,hn=>by omega
 |n+1,j,u2,hj,hn=>by
  simp only [jK,apl,apr,Lm (show j<=4294967296 by omega),aY]
  by_cases hlt:j<x0.length
  .rw [CX x0 j hlt]
   simp only [hlt,decide_true,aP,cond_false,List.findIdx?_cons]
   by_cases hk:(x0.getD j default).Key=x1
   .simp only [hk,decide_true,cond_true,if_true,Nat.add_zero]
   .simp only [hk,decide_false,cond_false,aV,if_false]
    rw [VL x0 x1 hl n (j+1) u2 (by omega) (by omega)]
    cases (x0.drop (j+1)).findIdx? (fun p=>decide (p.Key=x1)) with
    |none=>rfl
    |some i=>simp only [Option.map_some];congr 3;omega
  .simp only [hlt,decide_false,bG,cond_true]
   rw [List.drop_eq_nil_iff.2 (by omega)];rfl
theorem Fb (x0:List dJ)(x1:dL)(hl:x0.length<=4294967296):jE x0 x1=match pl x0 x1 with|some i=>(i:Int)|none => -1:=by
 unfold jE pl
 dsimp only
 rw [show (0:Int)=((0:Nat):Int) from rfl,VL x0 x1 hl _ 0 _ (by omega) (by omega),List.drop_zero]
 cases List.findIdx? (fun p:dJ=>decide (p.Key=x1)) x0 with
 |none=>rfl
 |some i=>simp [O6,kP,dV]
theorem agv (x0:List dJ)(x1:dL):∀(n:Nat) (u2 u3:Int),kG x0 x1 n u2 u3=jK x0 x1 n u2 u3
 |0,_,_=>rfl
 |n+1,u2,u3=>by simp only [kG,jK,agv]
theorem ao_ (x0:List dJ)(x1:dL):lU x0 x1=jE x0 x1:=by
 unfold lU jE;simp only [agv]
theorem agw {l:List dJ}{k:dL}{i:Nat}(h:pl l k=some i):i<l.length:=by
 unfold pl at h
 exact (List.findIdx?_eq_some_iff_findIdx_eq.1 h).1
theorem J9 {l:List dJ}{n:Nat}(h:l.length=n):(l.drop 0).take (n-0)=l:=by subst h;simp
end Go.Fw
end
section
namespace Go.Fw
theorem vM (k:dL):qZ k=iy k:=by
 have:YZ k.Str []=decide ((sLen k.Str:Int) > 0):=by
  unfold YZ sLen
  cases k.Str with
  |nil=>simp
  |cons a r=>simp<;>omega
 unfold qZ iy
 rw [this]
theorem zB (k:dL):iy k=9\/iy k=0:=by
 unfold iy
 generalize (_||_)=b
 cases b<;>simp
theorem Zm {x:dM}(h:x.ok):sF x=fQ x:=by
 unfold sF xw fQ
 dsimp only
 rw [I_ h]
 rcases xX h with h9|⟨h0,hc⟩
 .simp [h9,iO,dV]
 .have:=QE h.1 hc
  have e:dV (mY x).Has x.Has=(dV x.Has 51||dV x.Has 60):=by
   rw [akZ] at this
   rw [O5,decide_eq_decide.2 (eq_comm (a:=(mY x).Has) (b:=x.Has))]
   exact Bool.not_inj this
  simp [h0,iO,dV] at e ⊢
  exact e
def Hz (pre:List dL):List dJ->Int
 |[]=>0
 |p::r=>bif iO (iy p.Key) 0 then 9 else bif !fQ p.dY then 90 else bif decide (p.Key∈pre) then 100 else Hz (pre++[p.Key]) r
theorem X5 {m:List (dL×Int)}{k k':dL}{v:Int}:(qh (0:Int) k' (qj k v m)).2=if k'=k then v else (qh (0:Int) k' m).2:=by
 induction m with
 |nil=>
  simp only [qj,qh]
  by_cases h:k'=k<;>simp [h]
 |cons e r ih=>
  simp only [qj]
  by_cases h:k=e.1
  .simp only [h,if_true,qh]
   by_cases h2:k'=e.1<;>simp [h2]
  .simp only [h,if_false,qh]
   by_cases h2:k'=e.1
   .have:¬k'=k:=fun e2=>h (e2▸h2)
    simp only [h2,if_true]
    have h3:¬e.1=k:=fun e2=>h e2.symm
    simp [h3]
   .simp only [h2,if_false];exact ih
theorem QF (x0:List dJ)(hl:x0.length<=4294967296)(hok:∀p∈x0,p.dY.ok):∀(n j:Nat) (u1:Int) (m:List (dL×Int)),j<=x0.length->x0.length-j<n->
  (∀k,decide ((qh (0:Int) k m).2 > 0)=decide (k∈(x0.take j).map (·.Key)))->
  (bif !(dV (kP (nK x0 n u1 j m).1) 0) then (nK x0 n u1 j m).2.2.2.1 else 0)=Hz ((x0.take j).map (·.Key)) (x0.drop j)
 |0,j,u1,m,hj,hn,hm=>by omega
 |n+1,j,u1,m,hj,hn,hm=>by
  simp only [nK,apl,Lm (show j<=4294967296 by omega),aY]
  by_cases hlt:j<x0.length
  .rw [CX x0 j hlt]
   have hp:=ag7 x0 j hlt
   simp only [hlt,decide_true,aP,cond_false,Hz,vM,Zm (hok _ hp),hm]
   cases h1:iO (iy (x0.getD j default).Key) 0 with
   |true=>
    rcases zB (x0.getD j default).Key with h9|h9
    .rw [h9];rfl
    .rw [h9] at h1;cases h1
   |false=>
    simp only [cond_false]
    cases h2:fQ (x0.getD j default).dY with
    |false=>rfl
    |true=>
     simp only [aP,cond_false]
     by_cases h3:(x0.getD j default).Key∈(x0.take j).map (·.Key)
     .simp only [h3,decide_true,cond_true,O6,bG]
     .simp only [h3,decide_false,cond_false]
      have hk:(x0.take (j+1)).map (·.Key)=(x0.take j).map (·.Key)++[(x0.getD j default).Key]:=by rw [XB x0 j hlt,List.map_append];rfl
      rw [QF x0 hl hok n (j+1) u1 _ (by omega) (by omega) ?_,hk]
      intro k
      rw [X5,hk]
      by_cases he:k=(x0.getD j default).Key
      .subst he
       simp<;>omega
      .simp only [he,if_false,hm k]
       simp only [aN,bZ,he,or_false]
  .simp only [hlt,decide_false,bG,cond_true]
   rw [List.drop_eq_nil_iff.2 (by omega)];rfl
theorem ac6 {l:List dJ}{k:dL}:(pl l k).isSome=decide (k∈l.map (·.Key)):=by
 unfold pl
 rw [List.findIdx?_isSome,Bool.eq_iff_iff,List.any_eq_true,decide_eq_true_iff,aX]
 constructor
 .rintro ⟨x,hx,h⟩;exact ⟨x,hx,of_decide_eq_true h⟩
 .rintro ⟨x,hx,h⟩;exact ⟨x,hx,decide_eq_true h⟩
theorem aaV {l:List dJ}{k:dL}(hl:l.length<=4294967296):decide (jE l k>=0)=decide (k∈l.map (·.Key)):=by
 rw [Fb l k hl,<- ac6]
 cases pl l k<;>simp
theorem QG (x0:List dJ)(hl:x0.length<=4294967296):∀(n j:Nat) (u1:Int),j<=x0.length->x0.length-j<n->
  (bif !(dV (kP (nM x0 n u1 j).1) 0) then (nM x0 n u1 j).2.2 else 0)=Hz ((x0.take j).map (·.Key)) (x0.drop j)
 |0,j,u1,hj,hn=>by omega
 |n+1,j,u1,hj,hn=>by
  simp only [nM,apl,Lm (show j<=4294967296 by omega),aY,List.drop_zero,Int.toNat_zero,Nat.sub_zero]
  by_cases hlt:j<x0.length
  .rw [CX x0 j hlt]
   generalize hx:x0.getD j default=p
   have hlk:(x0.take j).length<=4294967296:=by simp;omega
   simp only [hlt,decide_true,aP,cond_false,Hz,aaV hlk]
   cases h1:iO (iy p.Key) 0 with
   |true=>simp [O6]
   |false=>
    simp only [cond_false]
    cases h2:fQ p.dY with
    |false=>simp [O6]
    |true=>
     simp only [aP,cond_false]
     by_cases h3:p.Key∈(x0.take j).map (·.Key)
     .simp only [h3,decide_true,cond_true,O6,bG]
     .simp only [h3,decide_false,cond_false]
      have hk:(x0.take (j+1)).map (·.Key)=(x0.take j).map (·.Key)++[p.Key]:=by rw [XB x0 j hlt,hx];simp
      rw [QG x0 hl n (j+1) u1 (by omega) (by omega),hk]
  .simp only [hlt,decide_false,bG,cond_true]
   rw [List.drop_eq_nil_iff.2 (by omega)];simp [O6,Hz]
theorem BJ (x0:List dJ)(hl:x0.length<=4294967296):iY x0=bif decide ((x0.length:Int) > 1024) then 4 else Hz [] x0:=by
 unfold iY
 simp only [dN]
 have:=QG x0 hl (x0.length+1) 0 0 (by omega) (by omega)
 simp only [List.take_zero,List.map_nil,List.drop_zero] at this
 rw [<- this]
 rfl
theorem y8 (x0:List dJ)(hl:x0.length<=4294967296)(hok:∀p∈x0,p.dY.ok):jm x0=iY x0:=by
 rw [BJ x0 hl]
 unfold jm
 simp only [dN]
 have:=QF x0 hl hok (x0.length+1) 0 0 [] (by omega) (by omega) (by intro k;simp [qh])
 simp only [List.take_zero,List.map_nil,List.drop_zero] at this
 rw [<- this]
 rfl
theorem Fe (x0:List dJ)(k:dL)(hl:x0.length<=4294967296)(hok:∀p∈x0,p.dY.ok):mD x0 k=kH x0 k:=by
 unfold mD kH
 rw [y8 x0 hl hok,vM]
theorem aht (x0:List dJ)(k:dL)(d:dM)(hl:x0.length<=4294967296)(hok:∀p∈x0,p.dY.ok)(hd:d.ok):fC x0 k d=BA x0 k d:=by
 unfold fC BA
 simp only [dN,aY,Fe x0 k hl hok,ao_,Zm hd]
 rw [J9 (l:=x0) rfl]
theorem N8 : ∀{l:List dJ} {pre:List dL},Hz pre l=0->(∀p∈l,p.Key∉pre)/\l.Pairwise (fun p q=>p.Key≠q.Key)
 |[],pre,h=>by simp
 |p::r,pre,h=>by
  simp only [Hz] at h
  cases h1:iO (iy p.Key) 0 with
  |true=>simp [h1] at h
  |false=>
   simp only [h1,cond_false] at h
   cases h2:fQ p.dY with
   |false=>simp [h2] at h
   |true=>
    simp only [h2,aP,cond_false] at h
    by_cases h3:p.Key∈pre
    .simp [h3] at h
    .simp only [h3,decide_false,cond_false] at h
     obtain ⟨i1,i2⟩:=N8 h
     refine ⟨fun q hq=>?_,List.pairwise_cons.2 ⟨fun q hq e=>?_,i2⟩⟩
     .cases hq with
      |head=>exact h3
      |tail _ hq=>exact fun hm=>i1 q hq (by simp [hm])
     .exact i1 q hq (by simp [e])
theorem VN {x0:List dJ}{k:dL}(hl:x0.length<=4294967296)(h:kH x0 k=0):x0.Pairwise (fun p q=>p.Key≠q.Key):=by
 unfold kH at h
 simp only at h
 have hc:iY x0=0:=by
  by_cases hc:iY x0=0
  .exact hc
  .have:iO (iY x0) 0=true:=Gq.2 hc
   simp [this] at h
   exact absurd h hc
 rw [BJ x0 hl] at hc
 by_cases hg:(x0.length:Int) > 1024
 .simp [hg] at hc
 .simp only [hg,decide_false,cond_false] at hc
  exact (N8 hc).2
theorem Tn (x0:List dJ)(k:dL)(hl:x0.length<=4294967296):∀(n j:Nat) (u3:List dJ),j<=x0.length->x0.length-j<n->
  oz x0 k n u3 j=u3++(x0.drop j).filter (fun p=>!decide (p.Key=k))
 |0,j,u3,hj,hn=>by omega
 |n+1,j,u3,hj,hn=>by
  simp only [oz,apl,apr,Lm (show j<=4294967296 by omega),aY]
  by_cases hlt:j<x0.length
  .rw [CX x0 j hlt]
   generalize hx:x0.getD j default=p
   simp only [hlt,decide_true,aP,cond_false,List.filter_cons]
   by_cases hk:p.Key=k
   .simp only [hk,decide_true,aP,cond_false,aV,if_false]
    exact Tn x0 k hl n (j+1) u3 (by omega) (by omega)
   .simp only [hk,decide_false,bG,cond_true,if_true]
    rw [Tn x0 k hl n (j+1) _ (by omega) (by omega)]
    simp
  .simp only [hlt,decide_false,bG,cond_true]
   rw [List.drop_eq_nil_iff.2 (by omega)];simp
theorem VO (x0:List dJ)(k:dL)(hl:x0.length<=4294967296):wV x0 k=bif iO (kH x0 k) 0 then ([],kH x0 k) else (x0.filter (fun p=>!decide (p.Key=k)),0):=by
 unfold wV
 have:=Tn x0 k hl (x0.length+1) 0 [] (by omega) (by omega)
 simp only [List.drop_zero,List.nil_append] at this
 simp only [<- this]
 rfl
theorem QH : ∀{l:List dJ} {k:dL},l.Pairwise (fun p q=>p.Key≠q.Key)->l.filter (fun p=>!decide (p.Key=k))=match pl l k with|some i=>l.take i++l.drop (i+1)|none=>l
 |[],k,h=>rfl
 |p::r,k,h=>by
  obtain ⟨h1,h2⟩:=List.pairwise_cons.1 h
  have ih:=QH (l:=r) (k:=k) h2
  simp only [pl,List.findIdx?_cons,List.filter_cons]
  by_cases hk:p.Key=k
  .simp only [hk,decide_true,aP,aV,if_false,if_true]
   simp only [List.take_zero,List.nil_append,Nat.zero_add,List.drop_succ_cons,List.drop_zero]
   rw [List.filter_eq_self]
   intro q hq
   have:=h1 q hq
   rw [hk] at this
   simp [this.symm]
  .simp only [hk,decide_false,bG,if_true,aV,if_false]
   rw [ih]
   unfold pl
   cases r.findIdx? (fun p=>decide (p.Key=k))<;>simp
theorem Zn (x0:List dJ)(k:dL)(hl:x0.length<=4294967296)(hok:∀p∈x0,p.dY.ok):fK x0 k=wV x0 k:=by
 rw [VO x0 k hl]
 unfold fK
 simp only [dN,aY,Fe x0 k hl hok,ao_,Int.toNat_zero,Nat.sub_zero,List.drop_zero]
 cases h:iO (kH x0 k) 0 with
 |true=>rfl
 |false=>
  simp only [cond_false]
  rw [QH (VN hl (qy.1 h)),Fb x0 k hl]
  cases hp:pl x0 k with
  |none=>simp
  |some i=>
   have hi:=agw hp
   have:decide ((i:Int)<0)=false:=by simp
   simp only [this,cond_false,Lm (show i<=4294967296 by omega),aY]
   rw [List.take_of_length_le (l:=x0.drop (i+1)) (by simp)]
end Go.Fw
end
section
namespace Go.Fw
theorem yw (x0:List dJ):iY x0=0->x0.length<=1024:=by
 intro h
 unfold iY at h
 simp only [dN] at h
 by_cases hl:(x0.length:Int) > 1024
 .simp [hl] at h
 .omega
theorem BK {x0:List dJ}(hl:x0.length<=4294967296):∀(n j:Nat) (u:List dL),j<=x0.length->x0.length-j<n->oC x0 n u j=u++(x0.drop j).map (·.Key)
 |0,j,u,hj,hn=>by omega
 |n+1,j,u,hj,hn=>by
  simp only [oC,apl,aY]
  by_cases hlt:j<x0.length
  .rw [CX x0 j hlt]
   simp only [decide_eq_true hlt,aP,cond_false,Lm (show j<=4294967296 by omega)]
   rw [BK hl n (j+1) _ (by omega) (by omega)];simp
  .simp only [decide_eq_false hlt,bG,cond_true]
   rw [List.drop_eq_nil_iff.2 (by omega)];simp
theorem Ja {x0:List dJ}(hl:x0.length<=4294967296):oC x0 (x0.length+1) [] 0=x0.map (·.Key):=by
 have:=BK hl (x0.length+1) 0 [] (by omega) (by omega)
 simpa using this
theorem O_ {x0:List dJ}(hl:x0.length<=4294967296):wW x0=bif iO (iY x0) 0 then ([],iY x0) else (qG (x0.map (·.Key)),0):=by
 unfold wW
 dsimp only
 rw [Ja hl]
end Go.Fw
end
section
namespace Go.Fw
theorem Fg {x0:List dJ}(hl:x0.length<=4294967296):∀(n j:Nat) (u:List dL),j<=x0.length->x0.length-j<n->ru x0 n u j=u++(x0.drop j).map (·.Key)
 |0,j,u,hj,hn=>by omega
 |n+1,j,u,hj,hn=>by
  simp only [ru,apl,aY]
  by_cases hlt:j<x0.length
  .rw [CX x0 j hlt]
   simp only [decide_eq_true hlt,aP,cond_false,Lm (show j<=4294967296 by omega)]
   rw [Fg hl n (j+1) _ (by omega) (by omega)];simp
  .simp only [decide_eq_false hlt,bG,cond_true]
   rw [List.drop_eq_nil_iff.2 (by omega)];simp
theorem Pg {l:List dL}(h:l.length<=1048576):mZ l=qG l:=by
 have h1:=acX h
 have h2:=aaK (x0:=l) h
 exact AU.uniq h1.1 h2.1 (h1.2.trans h2.2.symm)
theorem ac7 (x0:List dJ)(hl:x0.length<=4294967296)(hok:∀p∈x0,p.dY.ok):jC x0=wW x0:=by
 rw [O_ hl]
 unfold jC
 dsimp only
 have h:=Fg hl (x0.length+1) 0 [] (by omega) (by omega)
 simp only [show (((0:Nat):Int))=0 from rfl,List.drop_zero,List.nil_append] at h
 rw [h,y8 x0 hl hok]
 by_cases hc:iY x0=0
 .rw [Pg (by have:=yw x0 hc;simp;omega)]
 .rw [Gq.2 hc];rfl
theorem X6 {x0:List dJ}(hl:x0.length<=4294967296)(hc:iY x0=0):Hz [] x0=0:=by
 have:=yw x0 hc
 rw [BJ x0 hl,decide_eq_false (by omega)] at hc
 exact hc
theorem N9 : ∀{l:List dJ} {pre:List dL},Hz pre l=0->∀p∈l,fQ p.dY=true
 |[],pre,h,p,hp=>by cases hp
 |a::r,pre,h,p,hp=>by
  simp only [Hz,Bool.cond_eq_ite] at h
  split at h
  .omega
  .split at h
   .omega
   .rename_i hw
    split at h
    .omega
    .cases hp with
     |head=>simpa using hw
     |tail _ hp=>exact N9 h p hp
theorem N_ (x0:List dJ)(k:dL)(hl:x0.length<=4294967296)(hok:∀p∈x0,p.dY.ok):dZ x0 k=uP x0 k:=by
 unfold dZ uP
 dsimp only
 rw [Fe x0 k hl hok,ao_]
 by_cases h:jE x0 k>=0
 .rw [decide_eq_true h,decide_eq_false (by omega:¬jE x0 k<0)];rfl
 .rw [decide_eq_false h,decide_eq_true (by omega:jE x0 k<0)];rfl
end Go.Fw
end
section
namespace Go.Fw
set_option maxRecDepth 20000
def afm (n:Int):Prop:=(decide (n > 63)=false->(hb n 2||hb n 3)=false->jS .u8 51 n=n)/\(decide (n > 63)=false->(hb n 0||hb n 1)=false->jS .u8 60 n=n)
instance (n : Int):Decidable (afm n):=by unfold afm;infer_instance
theorem afn : ∀k:Fin 256,afm ((k:Nat):Int):=by decide +kernel
theorem VP {n:Int}(h:u8 n):afm n:=by
 obtain ⟨h0,h1⟩:=h
 have e':((n.toNat:Nat):Int)=n:=by omega
 have q:=afn ⟨n.toNat,by omega⟩
 rw [show ((((⟨n.toNat,by omega⟩:Fin 256):Nat)):Int)=n from e'] at q
 exact q
def okV (b:Bool)(v:dP):Bool:=bif b then jr v else je v
def okG (b:Bool)(v:dP):Bool:=bif b then jk v else je v
structure Rc (x:dM):Prop where
 big:decide (x.Has > 63)=false
 da:((hb x.Has 0||hb x.Has 1)&&(hb x.Has 2||hb x.Has 3))=false
 w:(hb x.Has 1||!x.iw)=true
 e:(hb x.Has 4||!x.fE)=true
 c:(hb x.Has 5||!x.Configurable)=true
 v:okV (hb x.Has 0) x.Value=true
 g:okG (hb x.Has 2) x.Get=true
 s:okG (hb x.Has 3) x.Set=true
theorem X7 {x:dM}(h:x.ok):jl x=0↔Rc x:=by
 obtain ⟨h1,h2,h3,h4⟩:=h
 have B:=bits h1
 unfold jl jV jd ig
 dsimp only
 rw [B.r1,B.r2,B.r4,B.r8,B.r16,B.r32]
 have two:∀p q:Bool,(bif p then (90:Int) else bif q then 90 else 0)=bif (p||q) then 90 else 0:=by intro p q;cases p<;>rfl
 rw [two]
 have three:∀p:Bool,((bif p then (90:Int) else 0)=0)↔p=false:=by intro p;cases p<;>simp
 rw [three]
 constructor
 .intro h
  simp only [aU,Bool.not_eq_false',ay] at h
  obtain ⟨⟨q0,q00⟩,⟨⟨q1,q2⟩,q3⟩,⟨q4,q5⟩,q6⟩:=h
  exact ⟨q0,q00,by rw [Bool.or_comm];exact q4,by rw [Bool.or_comm];exact q5,by rw [Bool.or_comm];exact q6,q1,q2,q3⟩
 .intro h
  have hw:=h.w
  have he:=h.e
  have hc:=h.c
  rw [Bool.or_comm] at hw he hc
  have e1:(bif hb x.Has 0 then jr x.Value else je x.Value)=true:=h.v
  have e2:(bif hb x.Has 2 then jk x.Get else je x.Get)=true:=h.g
  have e3:(bif hb x.Has 3 then jk x.Set else je x.Set)=true:=h.s
  rw [h.big,h.da,e1,e2,e3,hw,he,hc]
  rfl
theorem Zo {x:dM}(h:x.ok):jl x=90\/jl x=0:=by
 rcases xX h with h|⟨h,-⟩
 .exact .inl h
 .exact .inr h
theorem ac8 : jr (dP.mk 0 0 [] 0)=true:=by decide +kernel
theorem VQ : jk (dP.mk 0 0 [] 0)=true:=by decide +kernel
theorem Oa {b:Bool}{v:dP}(hv:v.ok)(h:okV b v=true):jr v=true:=by
 cases b
 .rw [BH hv h];exact ac8
 .exact h
theorem BL {b:Bool}{v:dP}(hv:v.ok)(h:okG b v=true):jk v=true:=by
 cases b
 .rw [BH hv h];exact VQ
 .exact h
theorem ac9 : (dP.mk 0 0 [] 0).ok:=⟨⟨by decide,by decide⟩,by decide⟩
structure Tq (x1 d:dM):Prop where
 ok:d.ok
 rc:Rc d
 has:d.Has=51\/d.Has=60
 cut:jS .u8 d.Has x1.Has=x1.Has
 v:hb x1.Has 0=true->d.Value=x1.Value
 g:hb x1.Has 2=true->d.Get=x1.Get
 s:hb x1.Has 3=true->d.Set=x1.Set
 w:hb x1.Has 1=true->d.iw=x1.iw
 e:hb x1.Has 4=true->d.fE=x1.fE
 c:hb x1.Has 5=true->d.Configurable=x1.Configurable
theorem ajs : hb 51 0=true/\hb 51 1=true/\hb 51 2=false/\hb 51 3=false/\hb 51 4=true/\hb 51 5=true:=by decide
theorem ajt : hb 60 0=false/\hb 60 1=false/\hb 60 2=true/\hb 60 3=true/\hb 60 4=true/\hb 60 5=true:=by decide
theorem Jb {x1 d:dM}(h1:x1.ok)(r1:Rc x1)(hd:d.ok)(hh:(d.Has=51/\(hb x1.Has 2||hb x1.Has 3)=false/\je d.Get=true/\je d.Set=true/\jr d.Value=true)\/(d.Has=60/\(hb x1.Has 0||hb x1.Has 1)=false/\je d.Value=true/\d.iw=false/\jk d.Get=true/\jk d.Set=true))
  (v:hb x1.Has 0=true->d.Value=x1.Value) (g:hb x1.Has 2=true->d.Get=x1.Get) (s:hb x1.Has 3=true->d.Set=x1.Set) (w:hb x1.Has 1=true->d.iw=x1.iw)
  (e:hb x1.Has 4=true->d.fE=x1.fE) (c:hb x1.Has 5=true->d.Configurable=x1.Configurable):Tq x1 d:=by
 obtain ⟨p0,p1,p2,p3,p4,p5⟩:=ajs
 obtain ⟨q0,q1,q2,q3,q4,q5⟩:=ajt
 rcases hh with ⟨hh,ha,hg,hs,hv⟩|⟨hh,ha,hv,hw,hg,hs⟩
 .refine ⟨hd,⟨?_,?_,?_,?_,?_,?_,?_,?_⟩,.inl hh,?_,v,g,s,w,e,c⟩
  .rw [hh];rfl
  .rw [hh,p2,p3];simp
  .rw [hh,p1];rfl
  .rw [hh,p4];rfl
  .rw [hh,p5];rfl
  .rw [hh,p0];exact hv
  .rw [hh,p2];exact hg
  .rw [hh,p3];exact hs
  .rw [hh];exact (VP h1.1).1 r1.big ha
 .refine ⟨hd,⟨?_,?_,?_,?_,?_,?_,?_,?_⟩,.inr hh,?_,v,g,s,w,e,c⟩
  .rw [hh];rfl
  .rw [hh,q0,q1];rfl
  .rw [hh,q1,hw];rfl
  .rw [hh,q4];rfl
  .rw [hh,q5];rfl
  .rw [hh,q0];exact hv
  .rw [hh,q2];exact hg
  .rw [hh,q3];exact hs
  .rw [hh];exact (VP h1.1).2 r1.big ha
theorem Jc {x1:dM}(h1:x1.ok)(r1:Rc x1)(e c:Bool)(he:hb x1.Has 4=true->e=x1.fE)(hc:hb x1.Has 5=true->c=x1.Configurable) :
  Tq x1 (dM.mk (lu x1).Has x1.Value x1.Get x1.Set x1.iw e c):=by
 have B1:=bits h1.1
 have hda:=r1.da
 have hwh:(lu x1).Has=bif (hb x1.Has 2||hb x1.Has 3) then 60 else 51:=by unfold lu;dsimp only;rw [qc h1.1]
 rw [hwh]
 cases ha:(hb x1.Has 2||hb x1.Has 3)
 .simp only [aU] at ha
  have rg:=r1.g
  have rs:=r1.s
  rw [ha.1] at rg
  rw [ha.2] at rs
  exact Jb h1 r1 ⟨by unfold u8;exact ⟨by simp,by simp⟩,h1.2⟩ (.inl ⟨rfl,by rw [ha.1,ha.2];rfl,rg,rs,Oa h1.2.1 r1.v⟩) (fun _=>rfl) (fun _=>rfl) (fun _=>rfl) (fun _=>rfl) he hc
 .rw [ha,Bool.and_true] at hda
  have rv:=r1.v
  have rw':=r1.w
  have ahu:=hda
  simp only [aU] at ahu
  rw [ahu.1] at rv
  rw [ahu.2] at rw'
  exact Jb h1 r1 ⟨by unfold u8;exact ⟨by simp,by simp⟩,h1.2⟩ (.inr ⟨rfl,hda,rv,by simpa using rw',BL h1.2.2.1 r1.g,BL h1.2.2.2 r1.s⟩) (fun _=>rfl) (fun _=>rfl) (fun _=>rfl) (fun _=>rfl) he hc
def mix (x1 x3:dM):dM:=dM.mk x3.Has (bif hb x1.Has 0 then x1.Value else x3.Value) (bif hb x1.Has 2 then x1.Get else x3.Get) (bif hb x1.Has 3 then x1.Set else x3.Set) (bif hb x1.Has 1 then x1.iw else x3.iw) (bif hb x1.Has 4 then x1.fE else x3.fE) (bif hb x1.Has 5 then x1.Configurable else x3.Configurable)
def ao7 (x1 x3:dM):Bool:=(((hb x1.Has 0||hb x1.Has 1)&&(hb x3.Has 2||hb x3.Has 3))||((hb x1.Has 2||hb x1.Has 3)&&(hb x3.Has 0||hb x3.Has 1)))
theorem X8 {x1 x3:dM}(h1:x1.ok)(h3:x3.ok)(r1:Rc x1)(r3:Rc x3)(hh:x3.Has=51\/x3.Has=60)(ht:ao7 x1 x3=false):Tq x1 (mix x1 x3):=by
 obtain ⟨p0,p1,p2,p3,p4,p5⟩:=ajs
 obtain ⟨q0,q1,q2,q3,q4,q5⟩:=ajt
 have hok:(mix x1 x3).ok:=by
  unfold mix
  refine ⟨h3.1,?_,?_,?_⟩
  .cases hb x1.Has 0;exact h3.2.1;exact h1.2.1
  .cases hb x1.Has 2;exact h3.2.2.1;exact h1.2.2.1
  .cases hb x1.Has 3;exact h3.2.2.2;exact h1.2.2.2
 unfold ao7 at ht
 rcases hh with hh|hh
 .rw [hh,p0,p1,p2,p3] at ht
  have ha:(hb x1.Has 2||hb x1.Has 3)=false:=by
   revert ht
   cases (hb x1.Has 2||hb x1.Has 3)<;>simp
  have ha2:=ha
  simp only [aU] at ha2
  have rg:=r3.g
  have rs:=r3.s
  have rv:=r3.v
  rw [hh,p2] at rg
  rw [hh,p3] at rs
  refine Jb h1 r1 hok (.inl ⟨hh,ha,?_,?_,?_⟩) ?_ ?_ ?_ ?_ ?_ ?_
  .show je (bif hb x1.Has 2 then _ else _)=true;rw [ha2.1];exact rg
  .show je (bif hb x1.Has 3 then _ else _)=true;rw [ha2.2];exact rs
  .show jr (bif hb x1.Has 0 then _ else _)=true
   cases hb x1.Has 0
   .exact Oa h3.2.1 rv
   .exact Oa h1.2.1 r1.v
  all_goals (intro h;simp only [mix,h,cond_true])
 .rw [hh,q0,q1,q2,q3] at ht
  have ha:(hb x1.Has 0||hb x1.Has 1)=false:=by
   revert ht
   cases (hb x1.Has 0||hb x1.Has 1)<;>simp
  have ha2:=ha
  simp only [aU] at ha2
  have rg:=r3.g
  have rs:=r3.s
  have rv:=r3.v
  have rw':=r3.w
  rw [hh,q0] at rv
  rw [hh,q1] at rw'
  refine Jb h1 r1 hok (.inr ⟨hh,ha,?_,?_,?_,?_⟩) ?_ ?_ ?_ ?_ ?_ ?_
  .show je (bif hb x1.Has 0 then _ else _)=true;rw [ha2.1];exact rv
  .show (bif hb x1.Has 1 then _ else _)=false;rw [ha2.2];simpa using rw'
  .show jk (bif hb x1.Has 2 then _ else _)=true
   cases hb x1.Has 2
   .exact BL h3.2.2.1 rg
   .exact BL h1.2.2.1 r1.g
  .show jk (bif hb x1.Has 3 then _ else _)=true
   cases hb x1.Has 3
   .exact BL h3.2.2.2 rs
   .exact BL h1.2.2.2 r1.s
  all_goals (intro h;simp only [mix,h,cond_true])
end Go.Fw
end
section
namespace Go.Fw
set_option maxRecDepth 20000
structure Passed (x0:Bool)(x1:dM)(x2:Bool)(x3:dM):Prop where
 r1:Rc x1
 no:x2=false->x0=true
 r3:x2=true->Rc x3
 has:x2=true->x3.Has=51\/x3.Has=60
 may:x2=true->EU x1 x3=true
theorem apy {x0:Bool}{x1:dM}{x2:Bool}{x3:dM}(h1:x1.ok)(h3:x3.ok)(h:jy x0 x1 x2 x3=(true,0)):Passed x0 x1 x2 x3:=by
 have hr:=h
 rw [J8 h1 h3] at hr
 unfold jy at h
 unfold jB fQ at hr
 dsimp only at h hr
 rcases Zo h1 with c1|c1
 .rw [c1] at hr
  simp only [show iO 90 0=true from rfl,Bool.true_or,cond_true] at hr
  cases hr
 .rw [c1] at hr
  simp only [show iO 0 0=false from rfl,Bool.false_or] at hr
  have r1:=(X7 h1).1 c1
  cases x2
  .simp only [Bool.false_and,cond_false,bG,cond_true] at hr
   exact ⟨r1,(fun _=>by cases hr;rfl),(fun h=>by cases h),(fun h=>by cases h),(fun h=>by cases h)⟩
  .simp only [Bool.true_and,aP,cond_false] at hr
   generalize hw:(dV (jl x3) 0&&(dV x3.Has 51||dV x3.Has 60))=q at hr
   cases q
   .simp only [bG,cond_true] at hr;cases hr
   .simp only [ay,dV,beq_iff_eq,bC] at hw
    refine ⟨r1,(fun h=>by cases h),fun _=>(X7 h3).1 hw.1,fun _=>hw.2,fun _=>?_⟩
    simp only [aP,cond_false] at h
    cases ha:iO (zu x1 true x3) 0
    .rw [ha] at h;simp only [cond_false,aO] at h;exact h.1
    .rw [ha] at h;simp only [cond_true,aO] at h;exact absurd h.1 (by decide)
theorem apo {x0:Bool}{x1:dM}{x2:Bool}{x3:dM}(h1:x1.ok)(h3:x3.ok)(h:jy x0 x1 x2 x3=(true,0)) :
  fG x0 x1 x2 x3=(bif !x2 then lu x1 else bif ao7 x1 x3 then dM.mk (lu x1).Has x1.Value x1.Get x1.Set x1.iw (bif (!hb x1.Has 4) then x3.fE else x1.fE) (bif (!hb x1.Has 5) then x3.Configurable else x1.Configurable) else mix x1 x3,true,0):=by
 have B1:=bits h1.1
 rw [VK h1 h3]
 have hr:=h
 rw [J8 h1 h3] at hr
 unfold vI
 dsimp only
 rw [hr]
 simp only [show iO 0 0=false from rfl,aP,Bool.or_self,cond_false]
 cases x2
 .rfl
 .simp only [aP,cond_false]
  unfold ig
  rw [wZ h1.1,qc h1.1,wZ h3.1,qc h3.1,B1.r1,B1.r2,B1.r4,B1.r8,B1.r16,B1.r32]
  unfold mix ao7
  generalize (((hb x1.Has 0||hb x1.Has 1)&&(hb x3.Has 2||hb x3.Has 3))||((hb x1.Has 2||hb x1.Has 3)&&(hb x3.Has 0||hb x3.Has 1)))=K
  cases K
  .simp only [cond_false]
   congr 1
   congr 1
   .cases hb x1.Has 0<;>rfl
   .cases hb x1.Has 2<;>rfl
   .cases hb x1.Has 3<;>rfl
  .rfl
theorem apc {x0:Bool}{x1:dM}{x2:Bool}{x3:dM}(h1:x1.ok)(h3:x3.ok)(h:jy x0 x1 x2 x3=(true,0)):Tq x1 (fG x0 x1 x2 x3).1:=by
 have p:=apy h1 h3 h
 rw [apo h1 h3 h]
 dsimp only
 cases x2
 .exact Jc h1 p.r1 _ _ (fun _=>rfl) (fun _=>rfl)
 .simp only [aP,cond_false]
  cases ht:ao7 x1 x3
  .exact X8 h1 h3 p.r1 (p.r3 rfl) (p.has rfl) ht
  .exact Jc h1 p.r1 _ _ (fun h=>by rw [h];rfl) (fun h=>by rw [h];rfl)
end Go.Fw
end
section
namespace Go.Fw
theorem Ob : ∀{l:List dJ} {pre:List dL},Hz pre l=0↔(∀p∈l,iy p.Key=0/\fQ p.dY=true/\p.Key∉pre)/\l.Pairwise (fun p q=>p.Key≠q.Key)
 |[],pre=>by simp [Hz]
 |a::r,pre=>by
  simp only [Hz]
  by_cases h1:iy a.Key=0
  .rw [qy.2 h1]
   simp only [cond_false]
   cases h2:fQ a.dY with
   |false=>
    simp only [bG,cond_true]
    exact ⟨fun h=>by omega,fun h=>by have:=(h.1 a (by simp)).2.1;rw [h2] at this;cases this⟩
   |true=>
    simp only [aP,cond_false]
    by_cases h3:a.Key∈pre
    .simp only [h3,decide_true,cond_true]
     exact ⟨fun h=>by omega,fun h=>absurd h3 (h.1 a (by simp)).2.2⟩
    .simp only [h3,decide_false,cond_false]
     rw [Ob (l:=r)]
     constructor
     .rintro ⟨i1,i2⟩
      refine ⟨fun p hp=>?_,List.pairwise_cons.2 ⟨fun q hq e=>(i1 q hq).2.2 (by simp [e]),i2⟩⟩
      cases hp with
      |head=>exact ⟨h1,h2,h3⟩
      |tail _ hp=>
       obtain ⟨j1,j2,j3⟩:=i1 p hp
       exact ⟨j1,j2,fun hm=>j3 (by simp [hm])⟩
     .rintro ⟨i1,i2⟩
      obtain ⟨k1,k2⟩:=List.pairwise_cons.1 i2
      refine ⟨fun p hp=>?_,k2⟩
      obtain ⟨j1,j2,j3⟩:=i1 p (aQ _ hp)
      refine ⟨j1,j2,fun hm=>?_⟩
      rcases aN.1 hm with hm|hm
      .exact j3 hm
      .exact k1 p hp (bZ.1 hm).symm
  .rw [Gq.2 h1]
   simp only [cond_true]
   exact ⟨fun h=>by omega,fun h=>absurd (h.1 a (by simp)).1 h1⟩
structure J_ (l:List dJ):Prop where
 len:l.length<=1024
 all:∀p∈l,iy p.Key=0/\fQ p.dY=true
 one:l.Pairwise (fun p q=>p.Key≠q.Key)
theorem J_.big {l:List dJ}(h:J_ l):l.length<=4294967296:=by have:=h.len;omega
theorem J_.of {l:List dJ}(hl:l.length<=4294967296)(h:iY l=0):J_ l:=by
 obtain ⟨h1,h2⟩:=Ob.1 (X6 hl h)
 exact ⟨yw l h,fun p hp=>⟨(h1 p hp).1,(h1 p hp).2.1⟩,h2⟩
theorem J_.chk {l:List dJ}(h:J_ l):iY l=0:=by
 have:=h.len
 rw [BJ l h.big,decide_eq_false (by omega)]
 exact Ob.2 ⟨fun p hp=>⟨(h.all p hp).1,(h.all p hp).2,by simp⟩,h.one⟩
theorem J_.asked {l:List dJ}(h:J_ l)(hok:∀p∈l,p.dY.ok){k:dL}(hk:iy k=0):mD l k=0:=by
 rw [Fe l k h.big hok]
 unfold kH
 dsimp only
 rw [h.chk,hk];rfl
def d00 : dM:=dM.mk 0 (dP.mk 0 0 [] 0) (dP.mk 0 0 [] 0) (dP.mk 0 0 [] 0) false false false
def isK (k:dL)(p:dJ):Bool:=decide (p.Key=k)
def y9 (l:List dJ)(k:dL):dM×Bool×Int:=match l.find? (isK k) with
 |some p=>(p.dY,true,0)
 |none=>(d00,false,0)
theorem Jd : ∀(l:List dJ) (k:dL),l.find? (isK k)=match pl l k with|some i=>some (l.getD i default)|none=>none
 |[],k=>rfl
 |a::r,k=>by
  have ih:=Jd r k
  unfold pl at ih ⊢
  rw [List.findIdx?_cons,List.find?_cons]
  unfold isK at ih ⊢
  by_cases h:a.Key=k
  .simp [h]
  .simp only [h,decide_false,aV,if_false]
   rw [ih]
   cases r.findIdx? (fun p=>decide (p.Key=k))<;>simp
theorem J_.find {l:List dJ}(h:J_ l)(hok:∀p∈l,p.dY.ok){k:dL}(hk:iy k=0):dZ l k=y9 l k:=by
 unfold dZ y9
 dsimp only
 rw [h.asked hok hk,ao_,Fb l k h.big,Jd]
 cases pl l k with
 |none=>rfl
 |some i=>simp [iO]
theorem VR : ∀{l:List dJ} {i:Nat} {k:dL} {d:dM},pl l k=some i->(l.set i (dJ.mk k d)).find? (isK k)=some (dJ.mk k d)/\∀k',k'≠k->(l.set i (dJ.mk k d)).find? (isK k')=l.find? (isK k')
 |[],i,k,d,h=>by cases h
 |a::r,i,k,d,h=>by
  unfold pl at h
  rw [List.findIdx?_cons] at h
  by_cases hk:a.Key=k
  .simp only [hk,decide_true,if_true,au] at h
   subst h
   refine ⟨by simp [isK],fun k' hk'=>?_⟩
   have h1:¬k=k':=fun e=>hk' e.symm
   simp [isK,hk,h1]
  .simp only [hk,decide_false,aV,if_false] at h
   cases hp:r.findIdx? (fun p=>decide (p.Key=k)) with
   |none=>rw [hp] at h;cases h
   |some j=>
    rw [hp] at h
    simp only [Option.map_some,au] at h
    subst h
    obtain ⟨h1,h2⟩:=VR (d:=d) (show pl r k=some j from hp)
    refine ⟨?_,fun k' hk'=>?_⟩
    .rw [List.set_cons_succ,List.find?_cons]
     simp only [isK,hk,decide_false]
     exact h1
    .rw [List.set_cons_succ,List.find?_cons,List.find?_cons,h2 k' hk']
theorem afo {l:List dJ}{k:dL}(h:pl l k=none):∀p∈l,p.Key≠k:=by
 intro p hp e
 have:=ac6 (l:=l) (k:=k)
 rw [h] at this
 simp only [Option.isSome_none] at this
 have:=of_decide_eq_false this.symm
 exact this (aX.2 ⟨p,hp,e⟩)
theorem ac_ : ∀{l:List dJ} {k:dL} {i:Nat},pl l k=some i->(l.getD i default).Key=k
 |[],k,i,h=>by cases h
 |a::r,k,i,h=>by
  unfold pl at h
  rw [List.findIdx?_cons] at h
  by_cases hk:a.Key=k
  .simp only [hk,decide_true,if_true,au] at h
   subst h;simpa using hk
  .simp only [hk,decide_false,aV,if_false] at h
   cases hp:r.findIdx? (fun p=>decide (p.Key=k)) with
   |none=>rw [hp] at h;cases h
   |some j=>
    rw [hp] at h
    simp only [Option.map_some,au] at h
    subst h
    simpa using ac_ (show pl r k=some j from hp)
structure ajv (x0:List dJ)(k:dL)(d:dM)(a:List dJ):Prop where
 tb:J_ a
 ok:∀p∈a,p.dY.ok
 me:y9 a k=(d,true,0)
 el:∀k',k'≠k->y9 a k'=y9 x0 k'
 len:a.length=bif (y9 x0 k).2.1 then x0.length else x0.length+1
 key:∀i,i<x0.length->(a.getD i default).Key=(x0.getD i default).Key
 wh:fQ d=true
theorem aaW {x0:List dJ}(h:J_ x0)(hok:∀p∈x0,p.dY.ok){k:dL}(hk:iy k=0){d:dM}(hd:d.ok)(he:(fC x0 k d).2=0):ajv x0 k d (fC x0 k d).1:=by
 unfold fC at he ⊢
 dsimp only at he ⊢
 rw [h.asked hok hk,ao_,Fb x0 k h.big,Zm hd] at he ⊢
 rw [aaw] at he ⊢
 simp only [cond_false,dN,aY] at he ⊢
 rw [J9 (l:=x0) rfl]
 cases hw:fQ d with
 |false=>rw [hw] at he;cases he
 |true=>
  rw [hw] at he
  simp only [aP,cond_false] at he ⊢
  cases hp:pl x0 k with
  |none=>
   rw [hp] at he
   simp only [show decide ((-1:Int)<0)=true from rfl,Bool.true_and,cond_true] at he ⊢
   by_cases hl:(x0.length:Int)=1024
   .rw [mV.2 hl] at he;cases he
   .rw [pJ.2 hl]
    simp only [cond_false]
    have hn:=afo hp
    have hf:x0.find? (isK k)=none:=by rw [Jd,hp]
    have hlen:=h.len
    refine ⟨⟨by simp;omega,?_,?_⟩,?_,?_,?_,?_,?_,hw⟩
    .intro p hp
     rcases aN.1 hp with hp|hp
     .exact h.all p hp
     .rw [bZ.1 hp];exact ⟨hk,hw⟩
    .rw [List.pairwise_append]
     refine ⟨h.one,List.pairwise_singleton _ _,fun p hp q hq=>?_⟩
     rw [bZ.1 hq];exact hn p hp
    .intro p hp
     rcases aN.1 hp with hp|hp
     .exact hok p hp
     .rw [bZ.1 hp];exact hd
    .unfold y9
     rw [List.find?_append,hf]
     simp [isK]
    .intro k' hk'
     unfold y9
     rw [List.find?_append]
     have:[dJ.mk k d].find? (isK k')=none:=by
      have h1:¬k=k':=fun e=>hk' e.symm
      simp [isK,h1]
     rw [this,Option.or_none]
    .unfold y9;rw [hf];simp
    .intro i hi
     rw [aH,aH,bF hi]
  |some i=>
   rw [hp] at he
   have hi:=agw hp
   have hkey:=ac_ hp
   have hneg:decide ((i:Int)<0)=false:=decide_eq_false (by omega)
   simp only [hneg,Bool.false_and,cond_false,aY] at he ⊢
   rw [J9 (l:=x0.set i _) (by simp),hkey]
   obtain ⟨s1,s2⟩:=VR (d:=d) hp
   have hf:x0.find? (isK k)=some (x0.getD i default):=by rw [Jd,hp]
   have hmap:(x0.set i (dJ.mk k d)).map (·.Key)=x0.map (·.Key):=by
    rw [List.map_set]
    apply List.ext_getElem?
    intro j
    rw [List.getElem?_set]
    split
    .rename_i hj
     subst hj
     have hg:(x0.map (·.Key))[i]?=some k:=by
      rw [bV,bf hi]
      rw [aH,bf hi] at hkey
      simpa using hkey
     rw [hg]
     simp [hi]
    .rfl
   refine ⟨⟨by simpa using h.len,?_,?_⟩,?_,?_,?_,?_,?_,hw⟩
   .intro p hp
    rcases List.mem_or_eq_of_mem_set hp with hp|rfl
    .exact h.all p hp
    .exact ⟨hk,hw⟩
   .have h1:(x0.map (·.Key)).Pairwise (·≠·):=List.pairwise_map.2 h.one
    rw [<- hmap] at h1
    exact List.pairwise_map.1 h1
   .intro p hp
    rcases List.mem_or_eq_of_mem_set hp with hp|rfl
    .exact hok p hp
    .exact hd
   .unfold y9;rw [s1]
   .intro k' hk'
    unfold y9;rw [s2 k' hk']
   .unfold y9;rw [hf];simp
   .intro j hj
    have:=congrArg (fun m:List dL=>m[j]?) hmap
    simp only [bV] at this
    rw [aH,aH]
    have hj':j<(x0.set i (dJ.mk k d)).length:=by simpa using hj
    rw [bf hj,bf hj'] at this ⊢
    simpa using this
structure ajw (x0:List dJ)(k:dL)(b:List dJ):Prop where
 tb:J_ b
 ok:∀p∈b,p.dY.ok
 me:y9 b k=(d00,false,0)
 el:∀k',k'≠k->y9 b k'=y9 x0 k'
theorem X9 {x0:List dJ}(h:J_ x0)(hok:∀p∈x0,p.dY.ok){k:dL}:ajw x0 k (x0.filter (fun p=>!decide (p.Key=k))):=by
 refine ⟨⟨cO (List.length_filter_le _ _) h.len,fun p hp=>h.all p (List.mem_filter.1 hp).1,List.Pairwise.filter _ h.one⟩,fun p hp=>hok p (List.mem_filter.1 hp).1,?_,fun k' hk'=>?_⟩
 .have:(x0.filter (fun p=>!decide (p.Key=k))).find? (isK k)=none:=by
   rw [List.find?_eq_none]
   intro p hp
   have:=(List.mem_filter.1 hp).2
   simpa [isK] using this
  unfold y9;rw [this]
 .unfold y9
  rw [List.find?_filter]
  congr 1
  have:(fun a:dJ=>decide ((!decide (a.Key=k))=true/\isK k' a=true))=isK k':=by
   funext p
   unfold isK
   by_cases e:p.Key=k'
   .have:¬k'=k:=hk'
    simp [e,this]
   .simp [e]
  rw [this]
theorem afp {x0:List dJ}(h:J_ x0)(hok:∀p∈x0,p.dY.ok){k:dL}(hk:iy k=0):fK x0 k=(x0.filter (fun p=>!decide (p.Key=k)),0):=by
 rw [Zn x0 k h.big hok,VO x0 k h.big]
 have:=h.asked hok hk
 rw [Fe x0 k h.big hok] at this
 rw [this];rfl
theorem Ph {l:List dL}:(mZ l).length=l.length:=by
 unfold mZ
 dsimp only
 rw [Bool.cond_eq_ite]
 split
 .rfl
 .rw [dN,List.drop_zero,List.length_take]
  have:(fU l (l.length:Int)).length=l.length:=Dx
  rw [this];simp
end Go.Fw
end
