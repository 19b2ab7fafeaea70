
import Derived.Test.YtookhagokgenhaaGreatFwE
set_option linter.unusedVariables false
set_option linter.unusedSimpArgs false
set_option linter.unusedSectionVars false
set_option linter.unnecessarySimpa false
section
namespace Go.Fw
def ny (r:Bool×Int):AV:=.fD [(.p (.bool r.1)),(.p (.int .i64 r.2))]
def iG (r:Int×Bool):AV:=.fD [(.p (.int .i64 r.1)),(.p (.bool r.2))]
def gu (r:dN×Bool×Int):AV:=.fD [(dN.av r.1),(.p (.bool r.2.1)),(.p (.int .i64 r.2.2))]
def CY (r:dN×Int):AV:=.fD [(dN.av r.1),(.p (.int .i64 r.2))]
def Lm (x0:dL):Bool:=
 ((dZ x0.Kind 7)||(dZ x0.Kind 8))
def CZ (x0:Nat):Bool:=
 let v1:Int:=oM x0
 (decide (((IntKind.wrap .i64 v1):Int)<0))
def Qc (x0:Nat):Nat:=
 let v1:Int:=oM x0
 let v2:Nat:=qw (pV .u64 v1 9223372036854775808)
 v2
def Ja (x0:Nat):Nat:=
 let v1:Nat:=jI x0
 v1
def wP (x0:Nat):Bool:=
 let v1:Nat:=Ja x0
 let v2:Nat:=Qc x0
 let v3:Bool:=CZ x0
 ((Ns x0 x0)||(((fEq v1 x0)&&(UH v2 4845873199050653695))&&((Ns x0 0)||(!v3))))
def iZ (x0:dL):Bool:=
 let v1:Bool:=wP x0.Num
 let v2:Bool:=wP x0.Num
 let v3:Bool:=wP (bif (dZ x0.Kind 2) then 0 else (bif (dZ x0.Kind 3) then 0 else x0.Num))
 bif (((decide ((x0.Kind:Int) > 8))||(decide ((x0.Ref:Int)<0)))||(decide (((sLen x0.Str):Int) > 4096))) then false
 else bif ((dZ x0.Kind 2)&&((Ns x0.Num 4607182418800017408)&&((Ns x0.Num 0)||(!v1)))) then false
 else bif ((!(dZ x0.Kind 2))&&((dZ x0.Kind 3)&&(!v2))) then false
 else (((dZ x0.Kind x0.Kind)&&(((dZ x0.Kind 2)||((dZ x0.Kind 3)||(fEq x0.Num 0)))&&((bif (dZ x0.Kind 2) then (zW x0.Str []) else (bif (dZ x0.Kind 3) then (zW x0.Str []) else ((dZ x0.Kind 4)||(zW x0.Str []))))&&(bif (dZ x0.Kind 2) then (dZ x0.Ref 0) else (bif (dZ x0.Kind 3) then (dZ x0.Ref 0) else (bif (dZ x0.Kind 4) then (dZ x0.Ref 0) else (((dZ x0.Kind 5)||((dZ x0.Kind 6)||((dZ x0.Kind 7)||(dZ x0.Kind 8))))||(dZ x0.Ref 0))))))))&&v3)
def nH (x0:dL):Bool:=
 let v1:Bool:=iZ x0
 let v2:Bool:=Lm x0
 (v1&&((dZ x0.Kind 0)||v2))
def jA (x0:dN):Bool:=
 (jC (jZ .u8 x0.Has 12) 0)
def lH (x0:dN):Bool:=
 (jC (jZ .u8 x0.Has 3) 0)
def uX (x0:dN):Int:=
 let v1:Bool:=lH x0
 let v2:Bool:=jA x0
 let v3:Bool:=iZ x0.Value
 let v4:Bool:=nH x0.Get
 let v5:Bool:=nH x0.Set
 bif (((((jC (pV .u8 x0.Has 63) 0)||(v1&&v2))||(!v3))||(!v4))||(!v5)) then 90
 else bif ((((jC (jZ .u8 (Iy .u8 x0.Has) 1) 0)&&(!((dZ x0.Value.Kind 0)&&((fEq x0.Value.Num 0)&&((zW x0.Value.Str [])&&(dZ x0.Value.Ref 0))))))||((jC (jZ .u8 (Iy .u8 x0.Has) 4) 0)&&(!((dZ x0.Get.Kind 0)&&((fEq x0.Get.Num 0)&&((zW x0.Get.Str [])&&(dZ x0.Get.Ref 0)))))))||((jC (jZ .u8 (Iy .u8 x0.Has) 8) 0)&&(!((dZ x0.Set.Kind 0)&&((fEq x0.Set.Num 0)&&((zW x0.Set.Str [])&&(dZ x0.Set.Ref 0))))))) then 90
 else bif ((((jC (jZ .u8 (Iy .u8 x0.Has) 2) 0)&&x0.fB)||((jC (jZ .u8 (Iy .u8 x0.Has) 16) 0)&&x0.eG))||((jC (jZ .u8 (Iy .u8 x0.Has) 32) 0)&&x0.Configurable)) then 90
 else 0
def m_ (x0:dN):dN:=
 let v1:Bool:=jA x0
 (dN.mk (bif v1 then (iOr .u8 x0.Has 60) else (iOr .u8 x0.Has 51)) x0.Value x0.Get x0.Set x0.fB x0.eG x0.Configurable)
def dM (x0:dL):Bool:=
 ((decide ((x0.Kind:Int)>=6))&&(decide ((x0.Kind:Int)<=8)))
def fE (x0:dN)(x1:Int):Bool:=
 (dZ (Ox .u8 (Ov .u8 x0.Has x1) 2) 1)
def jf (x0:dN):Bool:=
 let v1:Bool:=fE x0 4
 let v2:Bool:=fE x0 8
 (v1||v2)
def kD (x0:dN):Bool:=
 let v1:Bool:=fE x0 1
 let v2:Bool:=fE x0 2
 (v1||v2)
def D7 (x0:Nat)(x1:Nat):Bool:=
 bif ((Ns x0 x0)||(Ns x1 x1)) then ((Ns x0 x0)&&(Ns x1 x1))
 else ((fEq x0 x1)&&((Ns x0 0)||(fEq ((FloatKind.f64.format.div 4607182418800017408 x0).getD 0) ((FloatKind.f64.format.div 4607182418800017408 x1).getD 0))))
def BH (x0:dL)(x1:dL):Bool:=
 let v2:Bool:=D7 x0.Num x1.Num
 ((((dZ x0.Kind x1.Kind)&&(zW x0.Str x1.Str))&&(dZ x0.Ref x1.Ref))&&v2)
def iR (x0:dL):Bool:=
 let v1:Bool:=BH x0 (dL.mk 0 0 [] 0)
 v1
def jk (x0:Nat):Bool:=
 ((fEq x0 0)&&(fGt ((FloatKind.f64.format.div 4607182418800017408 x0).getD 0) 0))
def BI (x0:Nat):Int×Bool:=
 bif (!((Yd x0 14069245235905429503)&&(UH x0 4845873199050653695))) then (0,false)
 else bif ((Ns (FloatKind.f64.nearest (((FloatKind.f64.decode x0).toInt .zero).getD 0)) x0)||((fEq x0 0)&&(fLt ((FloatKind.f64.format.div 4607182418800017408 x0).getD 0) 0))) then (0,false)
 else ((((FloatKind.f64.decode x0).toInt .zero).getD 0),true)
def Dx (x0:Nat):Bool:=
 let v1:Int×Bool:=BI x0
 (v1.2||(Ns x0 x0))
def iw (x0:dL):Bool:=
 let v1:Bool:=jk x0.Num
 let v2:Bool:=Dx x0.Num
 bif (decide ((x0.Kind:Int) > 8)) then false
 else (((bif (dZ x0.Kind 3) then v2 else (bif (dZ x0.Kind 2) then (v1||(fEq x0.Num 4607182418800017408)) else v1))&&((zW x0.Str [])||((dZ x0.Kind 4)&&(decide (((sLen x0.Str):Int)<=4096)))))&&((dZ x0.Ref 0)||((decide ((x0.Kind:Int)>=5))&&(decide ((x0.Ref:Int) > 0)))))
def Lr (x0:dL):Bool:=
 ((dZ x0.Kind 7)||(dZ x0.Kind 8))
def iO (x0:dL):Bool:=
 let v1:Bool:=iw x0
 let v2:Bool:=Lr x0
 (v1&&((dZ x0.Kind 0)||v2))
def jM (x0:dN):Int:=
 let v1:Bool:=kD x0
 let v2:Bool:=jf x0
 let v3:Bool:=iR x0.Value
 let v4:Bool:=fE x0 1
 let v5:Bool:=iw x0.Value
 let v6:Bool:=iR x0.Get
 let v7:Bool:=fE x0 4
 let v8:Bool:=iO x0.Get
 let v9:Bool:=iR x0.Set
 let v10:Bool:=fE x0 8
 let v11:Bool:=iO x0.Set
 let v12:Bool:=fE x0 2
 let v13:Bool:=fE x0 16
 let v14:Bool:=fE x0 32
 bif ((decide ((x0.Has:Int) > 63))||(v1&&v2)) then 90
 else bif ((((!(bif v4 then v5 else v3))||(!(bif v7 then v8 else v6)))||(!(bif v10 then v11 else v9)))||(!((((!x0.fB)||v12)&&((!x0.eG)||v13))&&((!x0.Configurable)||v14)))) then 90
 else 0
def fU (x0:dN):Bool:=
 let v1:Int:=jM x0
 ((dZ v1 0)&&((dZ x0.Has 51)||(dZ x0.Has 60)))
def eX (x0:dL):Bool:=
 (((dZ x0.Kind 6)||(dZ x0.Kind 7))||(dZ x0.Kind 8))
def Bj (x0:dN):dN×Int:=
 let v1:Int:=uX x0
 let v2:dN:=m_ x0
 bif (jC v1 0) then ((dN.mk 0 (dL.mk 0 0 [] 0) (dL.mk 0 0 [] 0) (dL.mk 0 0 [] 0) false false false),v1)
 else (v2,0)
end Go.Fw
end
section
namespace Go.Fw
def lq (r:Int×Int):AV:=.fD [(.p (.int .i64 r.1)),(.p (.int .i64 r.2))]
def kE (r:List dI×Int):AV:=.fD [(.sl (List.map dI.enc r.1) false),(.p (.int .i64 r.2))]
def vM (x0:dI):Int:=
 bif (((decide ((x0.Sym:Int)<0))||(decide (((sLen x0.Str):Int) > 4096)))||((decide ((x0.Sym:Int) > 0))&&(sNe x0.Str []))) then 9
 else 0
def uY (x0:dN):Bool:=
 let v1:dN×Int:=Bj x0
 ((dZ v1.2 0)&&(dZ v1.1.Has x0.Has))
def o_ (x0:List dJ):Nat->Int->Int->(List (dI×Int))->(Bool×Int×List (dI×Int)×Int×List (dI×Int))
 |0,_,_,_=>default
 |n+1,u1,u2,u3=>
  let v4:dJ:=x0.getD (u2:Int).toNat default
  let v5:Int:=vM v4.Key
  let v6:Bool:=uY v4.dV
  let v7:Bool×Int:=n_ 0 v4.Key u3
  let v8:List (dI×Int):=og v4.Key (dY .i64 u2 1) u3
  bif (!(decide ((u2:Int)<(je dJ.enc x0)))) then (true,u1,u3,default,default)
  else bif (jC v5 0) then (false,default,default,v5,u3)
  else bif (!v6) then (false,default,default,90,u3)
  else bif (decide ((v7.2:Int) > 0)) then (false,default,default,100,u3)
  else o_ x0 n u1 (dY .i64 u2 1) v8
def jF (x0:List dJ):Int:=
 let r1:Bool×Int×List (dI×Int)×Int×List (dI×Int):=o_ x0 (x0.length+1) 0 0 []
 bif (decide (((je dJ.enc x0):Int) > 1024)) then 4
 else bif (!(dZ (ji r1.1) 0)) then r1.2.2.2.1
 else 0
def qx (x0:List dJ)(x1:dI):Int:=
 let v2:Int:=jF x0
 let v3:Int:=vM x1
 bif (jC v2 0) then v2
 else v3
def xZ (x0:List dJ)(x1:dI):Nat->Int->Int->(Bool×Int×Int)
 |0,_,_=>default
 |n+1,u2,u3=>
  let v4:dJ:=x0.getD (u3:Int).toNat default
  bif (!(decide ((u3:Int)<(je dJ.enc x0)))) then (true,u2,default)
  else bif ((zW v4.Key.Str x1.Str)&&(dZ v4.Key.Sym x1.Sym)) then (false,default,u3)
  else xZ x0 x1 n u2 (dY .i64 u3 1)
def yX (x0:List dJ)(x1:dI):Int:=
 let r2:Bool×Int×Int:=xZ x0 x1 (x0.length+1) 0 0
 bif (!(dZ (ji r2.1) 0)) then r2.2.2
 else (-1)
def fP (x0:dI):Int:=
 bif (((decide ((x0.Sym:Int)<0))||(decide (((sLen x0.Str):Int) > 4096)))||((decide ((x0.Sym:Int) > 0))&&(decide (((sLen x0.Str):Int) > 0)))) then 9
 else 0
def nJ (x0:List dJ)(x1:dI):Nat->Int->Int->(Bool×Int×Int)
 |0,_,_=>default
 |n+1,u2,u3=>
  let v4:dJ:=x0.getD (u3:Int).toNat default
  bif (!(decide ((u3:Int)<(je dJ.enc x0)))) then (true,u2,default)
  else bif ((zW v4.Key.Str x1.Str)&&(dZ v4.Key.Sym x1.Sym)) then (false,default,u3)
  else nJ x0 x1 n u2 (dY .i64 u3 1)
def kS (x0:List dJ)(x1:dI):Int:=
 let r2:Bool×Int×Int:=nJ x0 x1 (x0.length+1) 0 0
 bif (!(dZ (ji r2.1) 0)) then r2.2.2
 else (-1)
def pq (x0:List dJ):Nat->Int->Int->(Bool×Int×Int)
 |0,_,_=>default
 |n+1,u1,u2=>
  let v3:dJ:=x0.getD (u2:Int).toNat default
  let v4:Int:=fP v3.Key
  let v5:dJ:=x0.getD (u2:Int).toNat default
  let v6:Bool:=fU v5.dV
  let v7:List dJ:=(x0.drop ((0:Int).toNat)).take ((u2:Int).toNat-(0:Int).toNat)
  let v8:dJ:=x0.getD (u2:Int).toNat default
  let v9:Int:=kS v7 v8.Key
  bif (!(decide ((u2:Int)<(je dJ.enc x0)))) then (true,u1,default)
  else bif (jC v4 0) then (false,default,9)
  else bif (!v6) then (false,default,90)
  else bif (decide ((v9:Int)>=0)) then (false,default,100)
  else pq x0 n u1 (dY .i64 u2 1)
def iJ (x0:List dJ):Int:=
 let r1:Bool×Int×Int:=pq x0 (x0.length+1) 0 0
 bif (decide (((je dJ.enc x0):Int) > 1024)) then 4
 else bif (!(dZ (ji r1.1) 0)) then r1.2.2
 else 0
def kT (x0:List dJ)(x1:dI):Int:=
 let v2:Int:=iJ x0
 let v3:Int:=fP x1
 bif (jC v2 0) then v2
 else v3
def oh (x0:dI):Nat->Int->Bool->Int->Int->(Bool×Int×Bool×Int×Int×Bool)
 |0,_,_,_,_=>default
 |n+1,u1,u2,u3,u4=>
  bif (!(decide ((u4:Int)<(sLen x0.Str)))) then (true,u1,u2,u3,default,default)
  else bif ((decide (((((x0.Str.getD (u4:Int).toNat 0).toNat:Nat):Int):Int)<48))||(decide (((((x0.Str.getD (u4:Int).toNat 0).toNat:Nat):Int):Int) > 57))) then (false,default,default,default,0,false)
  else oh x0 n u1 u2 (dY .i64 (Rf .i64 u3 10) (IntKind.wrap .i64 (iq .u8 (((x0.Str.getD (u4:Int).toNat 0).toNat:Nat):Int) 48))) (dY .i64 u4 1)
def iI (x0:dI):Int×Bool:=
 let r1:Bool×Int×Bool×Int×Int×Bool:=oh x0 (((sLen x0.Str):Int).toNat+1) 0 false 0 0
 bif ((((decide ((x0.Sym:Int) > 0))||(zW x0.Str []))||(decide (((sLen x0.Str):Int) > 4)))||((decide (((sLen x0.Str):Int) > 1))&&(dZ (((x0.Str.getD (0:Int).toNat 0).toNat:Nat):Int) 48))) then (0,false)
 else bif (!(dZ (ji r1.1) 0)) then (r1.2.2.2.2.1,r1.2.2.2.2.2)
 else bif (decide ((r1.2.2.2.1:Int)>=1024)) then (0,false)
 else (r1.2.2.2.1,true)
def dW (x0:dI):Int×Int:=
 let v1:Int×Bool:=iI x0
 bif v1.2 then (0,v1.1)
 else bif (decide ((x0.Sym:Int) > 0)) then (2,0)
 else (1,0)
def gI (x1:Int):Nat->Int->(List dI)->(Int×List dI)
 |0,u5,u6=>(u5,u6)
 |n+1,u5,u6=>
  let v7:dI:=u6.getD (u5:Int).toNat default
  let v8:Int×Int:=dW v7
  let v9:dI:=u6.getD ((iq .i64 u5 1):Int).toNat default
  let v10:Int×Int:=dW v9
  let v11:dI:=u6.getD (u5:Int).toNat default
  let v12:dI:=u6.getD ((iq .i64 u5 1):Int).toNat default
  let v13:List dI:=u6.set (u5:Int).toNat v12
  let v14:List dI:=v13.set ((iq .i64 u5 1):Int).toNat v11
  bif ((decide ((u5:Int) > x1))&&(!((decide ((v8.1:Int)<v10.1))||((dZ v8.1 v10.1)&&(decide ((v8.2:Int)<v10.2)))))) then (u5,u6)
  else bif (!(decide ((u5:Int) > x1))) then (u5,u6)
  else gI x1 n (iq .i64 u5 1) v14
def fM (x1:Int)(x2:Int):Nat->Int->(List dI)->(List dI)
 |0,_,u4=>u4
 |n+1,u3,u4=>
  let r5:Int×List dI:=gI x1 ((u3-x1).toNat+1) u3 u4
  bif (!(decide ((u3:Int)<x2))) then u4
  else fM x1 x2 n (dY .i64 u3 1) r5.2
def gJ (x0:List dI)(x1:Int)(x2:Int):List dI:=
 let r3:List dI:=fM x1 x2 ((x2:Int).toNat+1) (dY .i64 x1 1) x0
 r3
def iC (x1:Int)(x2:Int)(x3:Int):Nat->Int->(List dI)->(List dI)
 |0,_,u5=>u5
 |n+1,u4,u5=>
  let v6:dI:=u5.getD ((dY .i64 x1 u4):Int).toNat default
  let v7:dI:=u5.getD ((dY .i64 x2 u4):Int).toNat default
  let v8:List dI:=u5.set ((dY .i64 x1 u4):Int).toNat v7
  let v9:List dI:=v8.set ((dY .i64 x2 u4):Int).toNat v6
  bif (!(decide ((u4:Int)<x3))) then u5
  else iC x1 x2 x3 n (dY .i64 u4 1) v9
def fC (x0:List dI)(x1:Int)(x2:Int)(x3:Int):List dI:=
 let r4:List dI:=iC x1 x2 x3 ((x3:Int).toNat+1) 0 x0
 r4
def gU (x2:Int):Nat->Int->Int->(List dI)->(Int×List dI)
 |0,u4,_,u6=>(u4,u6)
 |n+1,u4,u5,u6=>
  let w7:List dI:=fC u6 (iq .i64 x2 u4) x2 u5
  let v7:List dI:=w7
  let w9:List dI:=fC u6 (iq .i64 x2 u4) (iq .i64 (dY .i64 x2 u5) u4) u4
  let v9:List dI:=w9
  bif (!(jC u4 u5)) then (u4,u6)
  else bif (decide ((u4:Int) > u5)) then gU x2 n (iq .i64 u4 u5) u5 v7
  else gU x2 n u4 (iq .i64 u5 u4) v9
def jl (x0:List dI)(x1:Int)(x2:Int)(x3:Int):List dI:=
 let r4:Int×List dI:=gU x2 ((x3-x1).toNat+1) (iq .i64 x2 x1) (iq .i64 x3 x2) x0
 let w6:List dI:=fC r4.2 (iq .i64 x2 r4.1) x2 r4.1
 let v6:List dI:=w6
 v6
def gX (x0:List dI)(x1:Int):Nat->Int->Int->Int
 |0,u4,_=>u4
 |n+1,u4,u5=>
  let v6:dI:=x0.getD ((IntKind.wrap .i64 (jm .u64 (IntKind.wrap .u64 (dY .i64 u4 u5)) 1)):Int).toNat default
  let v7:Int×Int:=dW v6
  let v8:dI:=x0.getD (x1:Int).toNat default
  let v9:Int×Int:=dW v8
  bif (!(decide ((u4:Int)<u5))) then u4
  else gX x0 x1 n (bif ((decide ((v7.1:Int)<v9.1))||((dZ v7.1 v9.1)&&(decide ((v7.2:Int)<v9.2)))) then (dY .i64 (IntKind.wrap .i64 (jm .u64 (IntKind.wrap .u64 (dY .i64 u4 u5)) 1)) 1) else u4) (bif ((decide ((v7.1:Int)<v9.1))||((dZ v7.1 v9.1)&&(decide ((v7.2:Int)<v9.2)))) then u5 else (IntKind.wrap .i64 (jm .u64 (IntKind.wrap .u64 (dY .i64 u4 u5)) 1)))
def gY (r4:Int):Nat->Int->(List dI)->(List dI)
 |0,_,u6=>u6
 |n+1,u5,u6=>
  let v7:dI:=u6.getD (u5:Int).toNat default
  let v8:dI:=u6.getD ((dY .i64 u5 1):Int).toNat default
  let v9:List dI:=u6.set (u5:Int).toNat v8
  let v10:List dI:=v9.set ((dY .i64 u5 1):Int).toNat v7
  bif (!(decide ((u5:Int)<(iq .i64 r4 1)))) then u6
  else gY r4 n (dY .i64 u5 1) v10
def iK (x0:List dI)(x2:Int):Nat->Int->Int->Int
 |0,u6,_=>u6
 |n+1,u6,u7=>
  let v8:dI:=x0.getD (x2:Int).toNat default
  let v9:Int×Int:=dW v8
  let v10:dI:=x0.getD ((IntKind.wrap .i64 (jm .u64 (IntKind.wrap .u64 (dY .i64 u6 u7)) 1)):Int).toNat default
  let v11:Int×Int:=dW v10
  bif (!(decide ((u6:Int)<u7))) then u6
  else iK x0 x2 n (bif ((decide ((v9.1:Int)<v11.1))||((dZ v9.1 v11.1)&&(decide ((v9.2:Int)<v11.2)))) then u6 else (dY .i64 (IntKind.wrap .i64 (jm .u64 (IntKind.wrap .u64 (dY .i64 u6 u7)) 1)) 1)) (bif ((decide ((v9.1:Int)<v11.1))||((dZ v9.1 v11.1)&&(decide ((v9.2:Int)<v11.2)))) then (IntKind.wrap .i64 (jm .u64 (IntKind.wrap .u64 (dY .i64 u6 u7)) 1)) else u7)
def gZ (r6:Int):Nat->Int->(List dI)->(List dI)
 |0,_,u8=>u8
 |n+1,u7,u8=>
  let v9:dI:=u8.getD (u7:Int).toNat default
  let v10:dI:=u8.getD ((iq .i64 u7 1):Int).toNat default
  let v11:List dI:=u8.set (u7:Int).toNat v10
  let v12:List dI:=v11.set ((iq .i64 u7 1):Int).toNat v9
  bif (!(decide ((u7:Int) > r6))) then u8
  else gZ r6 n (iq .i64 u7 1) v12
def jg (x0:List dI)(x1:Int)(x2:Int)(x3:Int):Nat->Int->Int->Int
 |0,u8,_=>u8
 |n+1,u8,u9=>
  let v10:dI:=x0.getD ((iq .i64 (iq .i64 (dY .i64 (IntKind.wrap .i64 (jm .u64 (IntKind.wrap .u64 (dY .i64 x1 x3)) 1)) x2) 1) (IntKind.wrap .i64 (jm .u64 (IntKind.wrap .u64 (dY .i64 u8 u9)) 1))):Int).toNat default
  let v11:Int×Int:=dW v10
  let v12:dI:=x0.getD ((IntKind.wrap .i64 (jm .u64 (IntKind.wrap .u64 (dY .i64 u8 u9)) 1)):Int).toNat default
  let v13:Int×Int:=dW v12
  bif (!(decide ((u8:Int)<u9))) then u8
  else jg x0 x1 x2 x3 n (bif ((decide ((v11.1:Int)<v13.1))||((dZ v11.1 v13.1)&&(decide ((v11.2:Int)<v13.2)))) then u8 else (dY .i64 (IntKind.wrap .i64 (jm .u64 (IntKind.wrap .u64 (dY .i64 u8 u9)) 1)) 1)) (bif ((decide ((v11.1:Int)<v13.1))||((dZ v11.1 v13.1)&&(decide ((v11.2:Int)<v13.2)))) then (IntKind.wrap .i64 (jm .u64 (IntKind.wrap .u64 (dY .i64 u8 u9)) 1)) else u9)
def dR : Nat->List dI->Int->Int->Int->List dI
 |0,x0,x1,x2,x3=>x0
 |n+1,x0,x1,x2,x3=>
 let r4:Int:=gX x0 x1 ((x3-x2).toNat+1) x2 x3
 let r5:List dI:=gY r4 (((iq .i64 r4 1):Int).toNat+1) x1 x0
 let r6:Int:=iK x0 x2 ((x2-x1).toNat+1) x1 x2
 let r7:List dI:=gZ r6 ((x2-x1).toNat+1) x2 x0
 let r8:Int:=jg x0 x1 x2 x3 ((x3-x1).toNat+1) (bif (decide ((x2:Int) > (IntKind.wrap .i64 (jm .u64 (IntKind.wrap .u64 (dY .i64 x1 x3)) 1)))) then (iq .i64 (dY .i64 (IntKind.wrap .i64 (jm .u64 (IntKind.wrap .u64 (dY .i64 x1 x3)) 1)) x2) x3) else x1) (bif (decide ((x2:Int) > (IntKind.wrap .i64 (jm .u64 (IntKind.wrap .u64 (dY .i64 x1 x3)) 1)))) then (IntKind.wrap .i64 (jm .u64 (IntKind.wrap .u64 (dY .i64 x1 x3)) 1)) else x2)
 let w9:List dI:=jl x0 r8 x2 (iq .i64 (dY .i64 (IntKind.wrap .i64 (jm .u64 (IntKind.wrap .u64 (dY .i64 x1 x3)) 1)) x2) r8)
 let v9:List dI:=w9
 let w11:List dI:=dR n v9 x1 r8 (IntKind.wrap .i64 (jm .u64 (IntKind.wrap .u64 (dY .i64 x1 x3)) 1))
 let v11:List dI:=w11
 let w13:List dI:=dR n v11 (IntKind.wrap .i64 (jm .u64 (IntKind.wrap .u64 (dY .i64 x1 x3)) 1)) (iq .i64 (dY .i64 (IntKind.wrap .i64 (jm .u64 (IntKind.wrap .u64 (dY .i64 x1 x3)) 1)) x2) r8) x3
 let v13:List dI:=w13
 let w15:List dI:=dR n v9 (IntKind.wrap .i64 (jm .u64 (IntKind.wrap .u64 (dY .i64 x1 x3)) 1)) (iq .i64 (dY .i64 (IntKind.wrap .i64 (jm .u64 (IntKind.wrap .u64 (dY .i64 x1 x3)) 1)) x2) r8) x3
 let v15:List dI:=w15
 let w17:List dI:=dR n x0 x1 r8 (IntKind.wrap .i64 (jm .u64 (IntKind.wrap .u64 (dY .i64 x1 x3)) 1))
 let v17:List dI:=w17
 let w19:List dI:=dR n v17 (IntKind.wrap .i64 (jm .u64 (IntKind.wrap .u64 (dY .i64 x1 x3)) 1)) (iq .i64 (dY .i64 (IntKind.wrap .i64 (jm .u64 (IntKind.wrap .u64 (dY .i64 x1 x3)) 1)) x2) r8) x3
 let v19:List dI:=w19
 let w21:List dI:=dR n x0 (IntKind.wrap .i64 (jm .u64 (IntKind.wrap .u64 (dY .i64 x1 x3)) 1)) (iq .i64 (dY .i64 (IntKind.wrap .i64 (jm .u64 (IntKind.wrap .u64 (dY .i64 x1 x3)) 1)) x2) r8) x3
 let v21:List dI:=w21
 bif (dZ (iq .i64 x2 x1) 1) then r5
 else bif (dZ (iq .i64 x3 x2) 1) then r7
 else bif (((decide ((r8:Int)<x2))&&(decide ((x2:Int)<(iq .i64 (dY .i64 (IntKind.wrap .i64 (jm .u64 (IntKind.wrap .u64 (dY .i64 x1 x3)) 1)) x2) r8))))&&(((decide ((x1:Int)<r8))&&(decide ((r8:Int)<(IntKind.wrap .i64 (jm .u64 (IntKind.wrap .u64 (dY .i64 x1 x3)) 1)))))&&((decide (((IntKind.wrap .i64 (jm .u64 (IntKind.wrap .u64 (dY .i64 x1 x3)) 1)):Int)<(iq .i64 (dY .i64 (IntKind.wrap .i64 (jm .u64 (IntKind.wrap .u64 (dY .i64 x1 x3)) 1)) x2) r8)))&&(decide (((iq .i64 (dY .i64 (IntKind.wrap .i64 (jm .u64 (IntKind.wrap .u64 (dY .i64 x1 x3)) 1)) x2) r8):Int)<x3))))) then v13
 else bif (((decide ((r8:Int)<x2))&&(decide ((x2:Int)<(iq .i64 (dY .i64 (IntKind.wrap .i64 (jm .u64 (IntKind.wrap .u64 (dY .i64 x1 x3)) 1)) x2) r8))))&&((decide ((x1:Int)<r8))&&(decide ((r8:Int)<(IntKind.wrap .i64 (jm .u64 (IntKind.wrap .u64 (dY .i64 x1 x3)) 1)))))) then v11
 else bif (((decide ((r8:Int)<x2))&&(decide ((x2:Int)<(iq .i64 (dY .i64 (IntKind.wrap .i64 (jm .u64 (IntKind.wrap .u64 (dY .i64 x1 x3)) 1)) x2) r8))))&&((decide (((IntKind.wrap .i64 (jm .u64 (IntKind.wrap .u64 (dY .i64 x1 x3)) 1)):Int)<(iq .i64 (dY .i64 (IntKind.wrap .i64 (jm .u64 (IntKind.wrap .u64 (dY .i64 x1 x3)) 1)) x2) r8)))&&(decide (((iq .i64 (dY .i64 (IntKind.wrap .i64 (jm .u64 (IntKind.wrap .u64 (dY .i64 x1 x3)) 1)) x2) r8):Int)<x3)))) then v15
 else bif ((decide ((r8:Int)<x2))&&(decide ((x2:Int)<(iq .i64 (dY .i64 (IntKind.wrap .i64 (jm .u64 (IntKind.wrap .u64 (dY .i64 x1 x3)) 1)) x2) r8)))) then v9
 else bif (((decide ((x1:Int)<r8))&&(decide ((r8:Int)<(IntKind.wrap .i64 (jm .u64 (IntKind.wrap .u64 (dY .i64 x1 x3)) 1)))))&&((decide (((IntKind.wrap .i64 (jm .u64 (IntKind.wrap .u64 (dY .i64 x1 x3)) 1)):Int)<(iq .i64 (dY .i64 (IntKind.wrap .i64 (jm .u64 (IntKind.wrap .u64 (dY .i64 x1 x3)) 1)) x2) r8)))&&(decide (((iq .i64 (dY .i64 (IntKind.wrap .i64 (jm .u64 (IntKind.wrap .u64 (dY .i64 x1 x3)) 1)) x2) r8):Int)<x3)))) then v19
 else bif ((decide ((x1:Int)<r8))&&(decide ((r8:Int)<(IntKind.wrap .i64 (jm .u64 (IntKind.wrap .u64 (dY .i64 x1 x3)) 1))))) then v17
 else bif ((decide (((IntKind.wrap .i64 (jm .u64 (IntKind.wrap .u64 (dY .i64 x1 x3)) 1)):Int)<(iq .i64 (dY .i64 (IntKind.wrap .i64 (jm .u64 (IntKind.wrap .u64 (dY .i64 x1 x3)) 1)) x2) r8)))&&(decide (((iq .i64 (dY .i64 (IntKind.wrap .i64 (jm .u64 (IntKind.wrap .u64 (dY .i64 x1 x3)) 1)) x2) r8):Int)<x3))) then v21
 else x0
def gV (x1:Int):Nat->Int->Int->(List dI)->(Int×Int×List dI)
 |0,u2,u3,u4=>(u2,u3,u4)
 |n+1,u2,u3,u4=>
  let w5:List dI:=gJ u4 u2 u3
  let v5:List dI:=w5
  bif (!(decide ((u3:Int)<=x1))) then (u2,u3,u4)
  else gV x1 n u3 (dY .i64 u3 20) v5
def fF (x1:Int)(u7:Int):Nat->Int->Int->(List dI)->(Int×Int×List dI)
 |0,u11,u12,u13=>(u11,u12,u13)
 |n+1,u11,u12,u13=>
  let w14:List dI:=dR ((u12-u11).toNat+1) u13 u11 (dY .i64 u11 u7) u12
  let v14:List dI:=w14
  bif (!(decide ((u12:Int)<=x1))) then (u11,u12,u13)
  else fF x1 u7 n u12 (dY .i64 u12 (Rf .i64 2 u7)) v14
def iH (x1:Int):Nat->Int->Int->Int->(List dI)->(List dI)
 |0,_,_,_,u10=>u10
 |n+1,u7,u8,u9,u10=>
  let r11:Int×Int×List dI:=fF x1 u7 ((x1+2*u7).toNat+1) 0 (Rf .i64 2 u7) u10
  let w14:List dI:=dR ((x1-r11.1).toNat+1) r11.2.2 r11.1 (dY .i64 r11.1 u7) x1
  let v14:List dI:=w14
  bif (!(decide ((u7:Int)<x1))) then u10
  else bif (decide (((dY .i64 r11.1 u7):Int)<x1)) then iH x1 n (Rf .i64 u7 2) r11.1 r11.2.1 v14
  else iH x1 n (Rf .i64 u7 2) r11.1 r11.2.1 r11.2.2
def fA (x0:List dI)(x1:Int):List dI:=
 let r2:Int×Int×List dI:=gV x1 (x1.toNat+21) 0 20 x0
 let w5:List dI:=gJ r2.2.2 r2.1 x1
 let v5:List dI:=w5
 let r7:List dI:=iH x1 (x1.toNat+1) 20 r2.1 r2.2.1 v5
 r7
def uf (x0:List dI):List dI:=
 let w1:List dI:=fA x0 (je dI.enc x0)
 let v1:List dI:=w1
 let v3:List dI:=(v1.drop (0)).take (((je dI.enc x0):Int).toNat-0)
 bif ((dZ (je dI.enc x0) 0)||(dZ (je dI.enc x0) 1)) then x0
 else v3
def Lu (x0:List dI):List dI:=
 let w1:List dI:=fA x0 (je dI.enc x0)
 let v1:List dI:=w1
 let v3:List dI:=(v1.drop (0)).take (((je dI.enc x0):Int).toNat-0)
 bif ((dZ (je dI.enc x0) 0)||(dZ (je dI.enc x0) 1)) then x0
 else v1
def Bl : Nat->Int->(List UInt8)->(Int×List UInt8)
 |0,_,_=>default
 |n+1,u2,u3=>
  bif (!(decide ((u2:Int)>=10))) then (u2,u3)
  else Bl n (Ov .i64 u2 10) ((aw0 (IntKind.wrap .i32 (dY .i64 48 (Ox .i64 u2 10))))++u3)
def OV (x0:Int):List UInt8:=
 let v1:List UInt8:=default
 let r2:Int×List UInt8:=Bl (x0.toNat+1) x0 []
 bif (decide ((x0:Int)<0)) then ([45]++v1)
 else ((aw0 (IntKind.wrap .i32 (dY .i64 48 r2.1)))++r2.2)
def qR (x0:Int):List UInt8:=
 let v1:List UInt8:=default
 let v2:List UInt8:=default
 let v3:List UInt8:=OV x0
 bif ((decide ((x0:Int)<0))&&(decide (((iq .i64 0 x0):Int)<0))) then (v1++v2)
 else v3
def rF (x0:dI):Nat->Int->Bool->Int->(Bool×Int×Bool×Int×Bool)
 |0,_,_,_=>default
 |n+1,u1,u2,u3=>
  let v4:List UInt8:=qR u3
  bif (!(decide ((u3:Int)<1024))) then (true,u1,u2,default,default)
  else bif (zW v4 x0.Str) then (false,default,default,u3,true)
  else rF x0 n u1 u2 (dY .i64 u3 1)
def lI (x0:dI):Int×Bool:=
 let r1:Bool×Int×Bool×Int×Bool:=rF x0 ((1024:Int).toNat+1) 0 false 0
 bif ((decide ((x0.Sym:Int) > 0))||(decide (((sLen x0.Str):Int) > 4))) then (0,false)
 else bif (!(dZ (ji r1.1) 0)) then (r1.2.2.2.1,r1.2.2.2.2)
 else (0,false)
def rG (u2:List Int)(v5:Int×Bool):Nat->Int->Int
 |0,_=>default
 |n+1,u6=>
  let v7:Int:=u2.getD ((iq .i64 u6 1):Int).toNat default
  bif (!((decide ((u6:Int) > 0))&&(decide ((v7:Int) > v5.1)))) then u6
  else rG u2 v5 n (iq .i64 u6 1)
def pz (r6:Int):Nat->Int->(List dI)->(List Int)->(Int×List dI×List Int)
 |0,_,_,_=>default
 |n+1,u9,u10,u11=>
  let v12:dI:=u10.getD ((iq .i64 u9 1):Int).toNat default
  let v13:List dI:=u10.set (u9:Int).toNat v12
  let v14:Int:=u11.getD ((iq .i64 u9 1):Int).toNat default
  let v15:List Int:=u11.set (u9:Int).toNat v14
  bif (!(decide ((u9:Int) > r6))) then (u9,u10,u11)
  else pz r6 n (iq .i64 u9 1) v13 v15
def pF (x0:List dI):Nat->(List dI)->(List Int)->Int->(List dI)
 |0,_,_,_=>default
 |n+1,u1,u2,u3=>
  let v4:dI:=x0.getD (u3:Int).toNat default
  let v5:Int×Bool:=lI v4
  let r6:Int:=rG u2 v5 (u1.length+1) (je dI.enc u1)
  let v7:List dI:=u1++[(dI.mk [] 0)]
  let v8:List Int:=u2++[0]
  let r9:Int×List dI×List Int:=pz r6 (u1.length+1) (iq .i64 (je dI.enc v7) 1) v7 v8
  let v12:dI:=x0.getD (u3:Int).toNat default
  let v13:List dI:=r9.2.1.set (r6:Int).toNat v12
  let v14:List Int:=r9.2.2.set (r6:Int).toNat v5.1
  bif (!(decide ((u3:Int)<(je dI.enc x0)))) then u1
  else bif (!v5.2) then pF x0 n u1 u2 (dY .i64 u3 1)
  else pF x0 n v13 v14 (dY .i64 u3 1)
def pG (x0:List dI):Nat->(List dI)->Int->(List dI)
 |0,_,_=>default
 |n+1,u2,u3=>
  let v4:dI:=x0.getD (u3:Int).toNat default
  let v5:Int×Bool:=lI v4
  let v6:dI:=x0.getD (u3:Int).toNat default
  let v7:dI:=x0.getD (u3:Int).toNat default
  let v8:List dI:=u2++[v7]
  bif (!(decide ((u3:Int)<(je dI.enc x0)))) then u2
  else bif ((!v5.2)&&(decide ((v6.Sym:Int)<=0))) then pG x0 n v8 (dY .i64 u3 1)
  else pG x0 n u2 (dY .i64 u3 1)
def pI (x0:List dI):Nat->(List dI)->Int->(List dI)
 |0,_,_=>default
 |n+1,u3,u4=>
  let v5:dI:=x0.getD (u4:Int).toNat default
  let v6:dI:=x0.getD (u4:Int).toNat default
  let v7:List dI:=u3++[v6]
  bif (!(decide ((u4:Int)<(je dI.enc x0)))) then u3
  else bif (decide ((v5.Sym:Int) > 0)) then pI x0 n v7 (dY .i64 u4 1)
  else pI x0 n u3 (dY .i64 u4 1)
def qy (x0:List dI):List dI:=
 let r1:List dI:=pF x0 (x0.length+1) [] [] 0
 let r2:List dI:=pG x0 (x0.length+1) r1 0
 let r3:List dI:=pI x0 (x0.length+1) r2 0
 r3
def kK (x0:List dJ)(x1:dI):dN×Bool×Int:=
 let v2:Int:=qx x0 x1
 let v3:Int:=yX x0 x1
 let v4:dJ:=x0.getD (v3:Int).toNat default
 bif (jC v2 0) then ((dN.mk 0 (dL.mk 0 0 [] 0) (dL.mk 0 0 [] 0) (dL.mk 0 0 [] 0) false false false),false,v2)
 else bif (decide ((v3:Int)>=0)) then (v4.dV,true,0)
 else ((dN.mk 0 (dL.mk 0 0 [] 0) (dL.mk 0 0 [] 0) (dL.mk 0 0 [] 0) false false false),false,0)
def xA (x0:List dJ)(x1:dI):dN×Bool×Int:=
 let v2:Int:=kT x0 x1
 let v3:Int:=kS x0 x1
 let v4:dJ:=x0.getD (v3:Int).toNat default
 bif (jC v2 0) then ((dN.mk 0 (dL.mk 0 0 [] 0) (dL.mk 0 0 [] 0) (dL.mk 0 0 [] 0) false false false),false,v2)
 else bif (decide ((v3:Int)<0)) then ((dN.mk 0 (dL.mk 0 0 [] 0) (dL.mk 0 0 [] 0) (dL.mk 0 0 [] 0) false false false),false,0)
 else (v4.dV,true,0)
def ug (x0:List dJ):Nat->(List dI)->Int->(List dI)
 |0,_,_=>default
 |n+1,u2,u3=>
  let v4:dJ:=x0.getD (u3:Int).toNat default
  let v5:List dI:=u2++[v4.Key]
  bif (!(decide ((u3:Int)<(je dJ.enc x0)))) then u2
  else ug x0 n v5 (dY .i64 u3 1)
def xB (x0:List dJ):List dI×Int:=
 let v1:Int:=jF x0
 let r2:List dI:=ug x0 (x0.length+1) [] 0
 let v3:List dI:=uf r2
 bif (jC v1 0) then ([],v1)
 else (v3,0)
def qU (x0:List dJ):Nat->(List dI)->Int->(List dI)
 |0,_,_=>default
 |n+1,u2,u3=>
  let v4:dJ:=x0.getD (u3:Int).toNat default
  let v5:List dI:=u2++[v4.Key]
  bif (!(decide ((u3:Int)<(je dJ.enc x0)))) then u2
  else qU x0 n v5 (dY .i64 u3 1)
def uZ (x0:List dJ):List dI×Int:=
 let v1:Int:=iJ x0
 let r2:List dI:=qU x0 (x0.length+1) [] 0
 let v3:List dI:=qy r2
 bif (jC v1 0) then ([],v1)
 else (v3,0)
end Go.Fw
end
section
namespace Go.Fw
abbrev LF :=List (Nat×Int)
def LF.ev (v:Nat->Int):LF->Int
 |[]=>0
 |x::r=>x.2*v x.1+LF.ev v r
theorem LF.anp {v:Nat->Int}:∀{a b:LF},LF.ev v (a++b)=a.ev v+b.ev v
 |[],b=>by simp [LF.ev]
 |x::a,b=>by simp only [List.cons_append,LF.ev,LF.anp (a:=a) (b:=b)];omega
def cns (i:Nat)(c:Int)(l:LF):LF:=acv c fun c=>match c with
 | .ofNat 0=>l
 |c=>(i,c)::l
theorem abo {v:Nat->Int}{i:Nat}{c:Int}{l:LF}:(cns i c l).ev v=c*v i+l.ev v:=by
 unfold cns
 rw [VF]
 split
 .simp
 .rfl
def mrg : Nat->LF->LF->LF
 |0,a,b=>a++b
 |n+1,a,b=>match a with
  |[]=>b
  |x::a'=>match b with
   |[]=>x::a'
   |y::b'=>bif Nat.blt x.1 y.1 then x::mrg n a' (y::b') else bif Nat.blt y.1 x.1 then y::mrg n (x::a') b' else cns x.1 (x.2+y.2) (mrg n a' b')
theorem W_ {v:Nat->Int}:∀{n:Nat} {a b:LF},(mrg n a b).ev v=a.ev v+b.ev v
 |0,a,b=>LF.anp
 |n+1,[],b=>by simp [mrg,LF.ev]
 |n+1,x::a,[]=>by simp [mrg,LF.ev]
 |n+1,x::a,y::b=>by
  simp only [mrg]
  cases h:Nat.blt x.1 y.1
  .simp only [cond_false]
   cases h2:Nat.blt y.1 x.1
   .have e:x.1=y.1:=by
     have h1:¬x.1<y.1:=fun q=>by rw [show Nat.blt x.1 y.1=true by rw [Nat.blt_eq];exact q] at h;cases h
     have h3:¬y.1<x.1:=fun q=>by rw [show Nat.blt y.1 x.1=true by rw [Nat.blt_eq];exact q] at h2;cases h2
     omega
    simp only [cond_false,abo,W_ (n:=n) (a:=a) (b:=b),LF.ev,e,Int.add_mul];omega
   .simp only [cond_true,LF.ev,W_ (n:=n) (a:=x::a) (b:=b)];omega
  .simp only [cond_true,LF.ev,W_ (n:=n) (a:=a) (b:=y::b)];omega
def U0 (k:Int):LF->LF
 |[]=>[]
 |x::r=>cns x.1 (k*x.2) (U0 k r)
theorem Jc {v:Nat->Int}{k:Int}:∀{a:LF},(U0 k a).ev v=k*a.ev v
 |[]=>by simp [U0,LF.ev]
 |x::r=>by simp only [U0,abo,LF.ev,Jc (a:=r),Int.mul_add,Int.mul_assoc]
def Nz (a b:LF):LF:=mrg 60 a b
def qV (a b:LF):LF:=mrg 60 a (U0 (-1) b)
theorem ES {v:Nat->Int}{a b:LF}:(Nz a b).ev v=a.ev v+b.ev v:=W_
theorem lT {v:Nat->Int}{a b:LF}:(qV a b).ev v=a.ev v-b.ev v:=by
 unfold qV;rw [W_,Jc];omega
def cof (i:Nat):LF->Int
 |[]=>0
 |x::r=>bif Nat.beq x.1 i then x.2 else cof i r
def aEa : Int->Bool
 | .ofNat _=>false
 | .negSucc _=>true
theorem ako {n:Int}:aEa n=true↔n<0:=by cases n<;>simp [aEa]
def agx (n:Int):Int:=match n with | .ofNat m=>.ofNat m | .negSucc m=>.ofNat (m+1)
theorem ail {n:Int}:0<=agx n:=by
 cases n with
 |ofNat m=>simp [agx]
 |negSucc m=>simp [agx];omega
def aEQ (c d:Int)(N f:LF):LF:=bif Nat.beq c.natAbs d.natAbs then Nz N f else match agx d with
 | .ofNat 1=>Nz N (U0 (agx c) f)
 |_=>Nz (U0 (agx d) N) (U0 (agx c) f)
theorem aqB {v:Nat->Int}{c d:Int}{N f:LF}(hN:0<=N.ev v)(hf:0<=f.ev v):0<=(aEQ c d N f).ev v:=by
 have:=Int.mul_nonneg (ail (n:=d)) hN
 have:=Int.mul_nonneg (ail (n:=c)) hf
 unfold aEQ
 cases Nat.beq c.natAbs d.natAbs
 .simp only [cond_false]
  split<;>simp only [ES,Jc]<;>omega
 .simp only [cond_true,ES];omega
def asb (c d:Int):Bool:=Nat.blt d.natAbs c.natAbs&&Nat.ble c.natAbs 4
def opp (i:Nat)(ng:Bool):List LF->List LF
 |[]=>[]
 |f::r=>match cof i f with
  | .ofNat 0=>opp i ng r
  | .ofNat (_+1)=>bif ng then f::opp i ng r else opp i ng r
  | .negSucc _=>bif ng then opp i ng r else f::opp i ng r
theorem MZ {i:Nat}{ng:Bool}:∀{fs:List LF} {f:LF},f∈opp i ng fs->f∈fs
 |[],f,h=>by simp [opp] at h
 |g::r,f,h=>by
  unfold opp at h
  split at h
  .exact List.mem_cons_of_mem _ (MZ h)
  .cases ng
   .exact List.mem_cons_of_mem _ (MZ h)
   .simp only [cond_true,List.mem_cons] at h
    rcases h with h|h
    .simp [h]
    .exact List.mem_cons_of_mem _ (MZ h)
  .cases ng
   .simp only [cond_false,List.mem_cons] at h
    rcases h with h|h
    .simp [h]
    .exact List.mem_cons_of_mem _ (MZ h)
   .exact List.mem_cons_of_mem _ (MZ h)
def Xa (fs:List LF):LF->Option (Int×Nat×Nat×List LF)->Option (Int×Nat×Nat×List LF)
 |[],b=>b
 |(0,_)::r,b=>Xa fs r b
 |(i+1,c)::r,b=>
  let o:=opp (i+1) (aEa c) fs
  Rh o.length fun n=>match b with
   |none=>Xa fs r (some (c,i+1,n,o))
   |some (c',j,m,o')=>bif Nat.blt n m then Xa fs r (some (c,i+1,n,o)) else Xa fs r (some (c',j,m,o'))
theorem GV {fs:List LF}:∀{N:LF} {b:Option (Int×Nat×Nat×List LF)} {x},(∀y,b=some y->∀f∈y.2.2.2,f∈fs)->Xa fs N b=some x->∀f∈x.2.2.2,f∈fs
 |[],b,x,hb,h=>hb x h
 |(0,_)::r,b,x,hb,h=>GV (N:=r) hb h
 |(i+1,c)::r,b,x,hb,h=>by
  have hs:∀(n:Nat) (y:Int×Nat×Nat×List LF),some (c,i+1,n,opp (i+1) (aEa c) fs)=some y->∀f∈y.2.2.2,f∈fs:=by
   intro n y hy f hf
   simp only [Option.some.injEq] at hy;subst hy
   exact MZ hf
  simp only [Xa,yG] at h
  split at h
  .exact GV (N:=r) (hs _) h
  .rename_i c' j m o'
   cases hl:Nat.blt (opp (i+1) (aEa c) fs).length m
   .rw [hl] at h;exact GV (N:=r) hb h
   .rw [hl] at h;exact GV (N:=r) (hs _) h
def auL (N:LF):Bool:=match N with
 |[(0,c)]=>aEa c
 |_=>false
def anr (g:LF->Nat->Option Nat):List LF->Nat->Option Nat
 |[],b=>some b
 |f::r,b=>match g f b with
  |none=>none
  |some b'=>anr g r b'
def ant : LF->Bool
 |[]=>true
 |[_]=>true
 |[_,_]=>true
 |_=>false
def aw3 (o:List LF):List LF:=o.filter ant++o.filter fun f=>!(ant f)
theorem anu {o:List LF}{f:LF}(h:f∈aw3 o):f∈o:=by
 rcases List.mem_append.1 h with h|h<;>exact (List.mem_filter.1 h).1
def C_ : Nat->List LF->LF->Nat->Option Nat
 |0,_,_,b=>some b
 |d+1,fs,N,b=>match b with
  |0=>some 0
  |b+1=>match Xa fs N none with
   |none=>bif auL N then none else some b
   |some (c,i,_,o)=>anr (fun f b=>match C_ d fs (aEQ c (cof i f) N f) b with
    |none=>none
    |some b'=>bif asb c (cof i f) then C_ d fs (Nz N f) b' else some b') (aw3 o) b
theorem ZU {g:LF->Nat->Option Nat}:∀{l:List LF} {b:Nat},anr g l b=none->∃f∈l,∃b',g f b'=none
 |[],b,h=>by simp [anr] at h
 |f::r,b,h=>by
  simp only [anr] at h
  split at h
  .rename_i hg
   exact ⟨f,List.mem_cons_self ..,b,hg⟩
  .obtain ⟨f',hf',b',hb'⟩:=ZU h
   exact ⟨f',List.mem_cons_of_mem _ hf',b',hb'⟩
theorem Jd {v:Nat->Int}(hv:v 0=1){fs:List LF}(hfs:∀f∈fs,0<=f.ev v):∀{d:Nat} {N:LF} {b:Nat},C_ d fs N b=none->¬0<=N.ev v
 |0,N,b,h=>by simp [C_] at h
 |d+1,N,b,h=>by
  intro hN
  simp only [C_] at h
  split at h
  .cases h
  split at h
  .cases hc:auL N
   .rw [hc] at h;cases h
   .unfold auL at hc
    split at hc
    .rw [ako] at hc
     simp only [LF.ev,hv] at hN
     omega
    .cases hc
  .rename_i c i n o hp
   obtain ⟨f,hf,b',h⟩:=ZU h
   have hm:=GV (fs:=fs) (N:=N) (b:=none) (by simp) hp f (anu hf)
   split at h
   .rename_i h'
    exact Jd hv hfs h' (aqB hN (hfs f hm))
   .cases hq:asb c (cof i f)
    .rw [hq] at h;cases h
    .rw [hq] at h
     exact Jd hv hfs h (by rw [ES];have:=hfs f hm;omega)
def akp : Option Nat->Bool
 |none=>true
 |some _=>false
def LC (fs:List LF)(f:LF):Bool:=akp (C_ 3 fs (Nz (U0 (-1) f) [(0,-1)]) 60)||(akp (C_ 5 fs (Nz (U0 (-1) f) [(0,-1)]) 300)||akp (C_ 8 fs (Nz (U0 (-1) f) [(0,-1)]) 1500))
theorem aqC {o:Option Nat}(h:akp o=true):o=none:=by cases o<;>first|rfl|cases h
theorem M_ {v:Nat->Int}(hv:v 0=1){fs:List LF}(hfs:∀f∈fs,0<=f.ev v){f:LF}(h:LC fs f=true):0<=f.ev v:=by
 have:¬0<=(Nz (U0 (-1) f) [(0,-1)]).ev v:=by
  simp only [LC,Bool.or_eq_true] at h
  rcases h with h|h|h<;>exact Jd hv hfs (aqC h)
 rw [ES,Jc] at this
 simp only [LF.ev,hv] at this
 omega
def vl (ρ:List AV)(az:List Tm):Nat->Int
 |0=>1
 |i+1=>match az[i]? with
  |some t=>(t.den ρ).I
  |none=>0
def Hold (ρ:List AV)(az:List Tm)(f:LF)(x:Int):Prop:=∀bs,az <+: bs->f.ev (vl ρ bs)=x
def Pos (ρ:List AV)(az:List Tm)(f:LF):Prop:=∀bs,az <+: bs->0<=f.ev (vl ρ bs)
theorem Hold.mono {ρ:List AV}{az bs:List Tm}{f:LF}{x:Int}(h:Hold ρ az f x)(hp:az <+: bs):Hold ρ bs f x:=fun cs hc=>h cs (hp.trans hc)
theorem Pos.mono {ρ:List AV}{az bs:List Tm}{f:LF}(h:Pos ρ az f)(hp:az <+: bs):Pos ρ bs f:=fun cs hc=>h cs (hp.trans hc)
def Cc (ρ:List AV)(az:List Tm)(fs:List LF):Prop:=∀f∈fs,Pos ρ az f
theorem Cc.mono {ρ:List AV}{az bs:List Tm}{fs:List LF}(h:Cc ρ az fs)(hp:az <+: bs):Cc ρ bs fs:=fun f hf=>(h f hf).mono hp
theorem Cc.cons {ρ:List AV}{az:List Tm}{f:LF}{fs:List LF}(h:Pos ρ az f)(k:Cc ρ az fs):Cc ρ az (f::fs):=fun g hg=>by
 rcases List.mem_cons.1 hg with rfl|hg
 .exact h
 .exact k g hg
theorem Cc.app {ρ:List AV}{az:List Tm}{fs gs:List LF}(h:Cc ρ az fs)(k:Cc ρ az gs):Cc ρ az (fs++gs):=fun g hg=>by
 rcases List.mem_append.1 hg with hg|hg
 .exact h g hg
 .exact k g hg
theorem GX {ρ:List AV}{az:List Tm}{fs:List LF}(hfs:Cc ρ az fs){f:LF}(h:LC fs f=true):Pos ρ az f:=fun bs hb=>
 M_ rfl (fun g hg=>hfs g hg bs hb) h
def adJ (t:Tm):Nat->List Tm->Option Nat
 |_,[]=>none
 |i,x::r=>bif x.beq t then some i else adJ t (i+1) r
theorem adK {t:Tm}:∀{az:List Tm} {i j:Nat},adJ t i az=some j->i<=j/\az[j-i]?=some t
 |[],i,j,h=>by simp [adJ] at h
 |x::r,i,j,h=>by
  simp only [adJ] at h
  cases hb:x.beq t
  .rw [hb] at h
   obtain ⟨h1,h2⟩:=adK (az:=r) h
   refine ⟨by omega,?_⟩
   have:j-i=(j-(i+1))+1:=by omega
   rw [this];simpa using h2
  .rw [hb] at h
   simp only [cond_true,Option.some.injEq] at h
   subst h
   simp [Tm.beq_eq hb]
structure LR where
 az:List Tm
 fs:List LF
 f:LF
def Sj (ρ:List AV)(az:List Tm)(r:LR)(x:Int):Prop:=az <+: r.az/\Cc ρ r.az r.fs/\Hold ρ r.az r.f x
def oI (t:Tm)(ex:Nat->List LF)(az:List Tm)(fs:List LF):LR:=
 match adJ t 0 az with
 |some i=>⟨az,fs,[(i+1,1)]⟩
 |none=>Rh az.length fun n=>⟨az++[t],ex (n+1)++fs,[(n+1,1)]⟩
theorem ain {az bs:List Tm}{i:Nat}{t:Tm}(h:az[i]?=some t)(hp:az <+: bs):bs[i]?=some t:=by
 obtain ⟨c,rfl⟩:=hp
 have:=(List.getElem?_eq_some_iff.1 h).1
 rw [List.getElem?_append_left this,h]
theorem wo {v:Nat->Int}{i:Nat}:LF.ev v [(i,1)]=v i:=by simp [LF.ev]
theorem BJ {ρ:List AV}{t:Tm}{ex:Nat->List LF}{az:List Tm}{fs:List LF}(hfs:Cc ρ az fs)
  (hex:∀v:Nat->Int,v 0=1->∀n,v n=(t.den ρ).I->(∀f∈fs,0<=f.ev v)->(∃bs,az <+: bs/\v=vl ρ bs)->∀f∈ex n,0<=f.ev v):Sj ρ az (oI t ex az fs) (t.den ρ).I:=by
 unfold oI
 split
 .rename_i i h
  obtain ⟨-,h2⟩:=adK h
  refine ⟨List.prefix_refl _,hfs,fun bs hb=>?_⟩
  rw [wo]
  simp only [vl,ain (by simpa using h2) hb]
 .rw [yG]
  have hp:az <+: az++[t]:=List.prefix_append _ _
  have hv:∀bs,az++[t] <+: bs->vl ρ bs (az.length+1)=(t.den ρ).I:=by
   intro bs hb
   have:(az++[t])[az.length]?=some t:=by simp
   simp only [vl,ain this hb]
  refine ⟨hp,Cc.app (fun f hf bs hb=>?_) (hfs.mono hp),fun bs hb=>?_⟩
  .exact hex (vl ρ bs) rfl _ (hv bs hb) (fun g hg=>hfs g hg bs (hp.trans hb)) ⟨bs,hp.trans hb,rfl⟩ f hf
  .rw [wo];exact hv bs hb
def wQ (k:IntKind)(fs:List LF)(f:LF):Bool:=LC fs (qV f [(0,k.min)])&&LC fs (qV [(0,k.max)] f)
theorem aio {k:IntKind}{n:Int}(h0:k.min<=n)(h1:n<=k.max):k.wrap n=n:=by
 cases k<;>simp only [IntKind.min,IntKind.max,IntKind.wrap,IntKind.signed,IntKind.bits] at *<;>simp at *<;>omega
theorem Xb {k:IntKind}{v:Nat->Int}(hv:v 0=1){fs:List LF}(hfs:∀f∈fs,0<=f.ev v){f:LF}(h:wQ k fs f=true):k.wrap (f.ev v)=f.ev v:=by
 unfold wQ at h
 rw [Bool.and_eq_true] at h
 have h1:=M_ hv hfs h.1
 have h2:=M_ hv hfs h.2
 rw [lT] at h1 h2
 simp only [LF.ev,hv] at h1 h2
 exact aio (by omega) (by omega)
def asc (n:Nat)(f:LF)(c:Int):List LF:=[[(n,1)],qV f (U0 c [(n,1)]),qV (Nz (U0 c [(n,1)]) [(0,c-1)]) f]
def ase (n:Nat)(f:LF)(c:Int):List LF:=[[(n,1)],qV [(0,c-1)] [(n,1)],qV f [(n,1)]]
def asf (n:Nat)(f:LF)(c:Int):List LF:=[qV f (U0 c [(n,1)]),qV (Nz (U0 c [(n,1)]) [(0,c-1)]) f]
def abp (n:Nat):List LF:=[[(n,1)]]
def anv (n:Nat):List LF:=[[(n,1)],qV [(0,255)] [(n,1)]]
def Je (_:Nat):List LF:=[]
def OW : Int->Bool
 | .ofNat (_+1)=>true
 |_=>false
theorem Xc {c:Int}:OW c=true↔0<c:=by
 cases c with
 |ofNat n=>cases n<;>simp [OW]<;>omega
 |negSucc n=>simp [OW]
def agy : Tm->Option Int
 | .li c=>some c
 |_=>none
theorem Qe {t:Tm}{c:Int}(h:agy t=some c):t=.li c:=by
 cases t<;>simp [agy] at h
 subst h;rfl
def auM (o:BinOp)(k:IntKind)(x y:Tm)(rx ry:LR):LR:=
 let t:Tm:=.bin o (.int k) x y
 match o with
 | .add=>let f:=Nz rx.f ry.f;bif wQ k ry.fs f then ⟨ry.az,ry.fs,f⟩ else oI t Je ry.az ry.fs
 | .sub=>let f:=qV rx.f ry.f;bif wQ k ry.fs f then ⟨ry.az,ry.fs,f⟩ else oI t Je ry.az ry.fs
 | .mul=>match agy y with
  |some c=>let f:=U0 c rx.f;bif wQ k ry.fs f then ⟨ry.az,ry.fs,f⟩ else oI t Je ry.az ry.fs
  |none=>match agy x with
   |some c=>let f:=U0 c ry.f;bif wQ k ry.fs f then ⟨ry.az,ry.fs,f⟩ else oI t Je ry.az ry.fs
   |none=>oI t Je ry.az ry.fs
 | .quo=>match agy y with
  |some c=>bif OW c&&(LC ry.fs rx.f&&wQ k ry.fs rx.f) then oI t (fun n=>asc n rx.f c) ry.az ry.fs else oI t Je ry.az ry.fs
  |none=>oI t Je ry.az ry.fs
 | .rem=>match agy y with
  |some c=>bif OW c&&LC ry.fs rx.f then oI t (fun n=>ase n rx.f c) ry.az ry.fs else oI t Je ry.az ry.fs
  |none=>oI t Je ry.az ry.fs
 | .shr=>match agy y with
  |some c=>bif Nat.beq c.toNat 1 then oI t (fun n=>asf n rx.f 2) ry.az ry.fs else oI t Je ry.az ry.fs
  |none=>oI t Je ry.az ry.fs
 |_=>oI t Je ry.az ry.fs
def aDS (ks:Pc):Tm->Tm
 | .ite c x y=>match ks.known c with
  |some true=>aDS ks x
  |some false=>aDS ks y
  |none=>.ite c x y
 |t=>t
theorem agz {ρ:List AV}{ks:Pc}(hk:ks.holds ρ):∀{t:Tm},(aDS ks t).den ρ=t.den ρ:=by
 intro t
 induction t with
 |ite c x y _ sU ihy=>
  simp only [aDS]
  split
  .rename_i h
   rw [sU,Tm.qm,Pc.gQ hk h];rfl
  .rename_i h
   rw [ihy,Tm.qm,Pc.gQ hk h];rfl
  .rfl
 |_=>rfl
def aw4 (l:List UInt8)(n:Nat):List LF:=Rh l.length fun m=>[[(n,1)],qV [(0,(m:Int))] [(n,1)]]
def auN : Tm->Option (List UInt8)
 | .ls l=>some l
 |_=>none
theorem aqD {t:Tm}{l:List UInt8}(h:auN t=some l):t=.ls l:=by
 cases t<;>simp [auN] at h;subst h;rfl
def Xd (ks:Pc):Tm->List Tm->List LF->LR
 | .ls l,az,fs=>⟨az,fs,Rh l.length fun n=>cns 0 (.ofNat n) []⟩
 | .bin o k x y,az,fs=>match o with
  | .add=>match k with
   | .str=>match Xd ks x az fs with
    |⟨as1,fs1,f1⟩=>match Xd ks y as1 fs1 with
     |⟨as2,fs2,f2⟩=>⟨as2,fs2,Nz f1 f2⟩
   |k=>oI (.slen (.bin .add k x y)) abp az fs
  |o=>oI (.slen (.bin o k x y)) abp az fs
 | .ite c x y,az,fs=>match ks.known c with
  |some true=>Xd ks x az fs
  |some false=>Xd ks y az fs
  |none=>oI (.slen (.ite c x y)) abp az fs
 | .Ef x lo hi,az,fs=>match auN x with
  |some l=>oI (.slen (.Ef x lo hi)) (aw4 l) az fs
  |none=>oI (.slen (.Ef x lo hi)) abp az fs
 |t,az,fs=>oI (.slen t) abp az fs
def lin (ks:Pc):Tm->List Tm->List LF->LR
 | .li c,az,fs=>⟨az,fs,cns 0 c []⟩
 | .bin o kd x y,az,fs=>match kd with
  | .int k=>match lin ks x az fs with
   |⟨as1,fs1,f1⟩=>match lin ks y as1 fs1 with
    |⟨as2,fs2,f2⟩=>auM o k x y ⟨as1,fs1,f1⟩ ⟨as2,fs2,f2⟩
  |kd=>oI (.bin o kd x y) Je az fs
 | .conv k x,az,fs=>match lin ks x az fs with
  |⟨as1,fs1,f1⟩=>bif wQ k fs1 f1 then ⟨as1,fs1,f1⟩ else oI (.conv k x) Je as1 fs1
 | .ite c x y,az,fs=>match ks.known c with
  |some true=>lin ks x az fs
  |some false=>lin ks y az fs
  |none=>oI (.ite c x y) Je az fs
 | .rlen x,az,fs=>match aDS ks x with
  | .nl=>⟨az,fs,[]⟩
  |x'=>oI (.rlen x') abp az fs
 | .slen x,az,fs=>Xd ks x az fs
 | .byte x i,az,fs=>oI (.byte x i) anv az fs
 |t,az,fs=>oI t Je az fs
theorem wS {ρ:List AV}{t:Tm}{az:List Tm}{fs:List LF}(hfs:Cc ρ az fs):Sj ρ az (oI t Je az fs) (t.den ρ).I:=BJ hfs (fun _ _ _ _ _ _ f hf=>by simp [Je] at hf)
theorem Sj.up {ρ:List AV}{az bs:List Tm}{r:LR}{x:Int}(hp:az <+: bs)(h:Sj ρ bs r x):Sj ρ az r x:=⟨hp.trans h.1,h.2⟩
theorem anw {ρ:List AV}{az:List Tm}{fs:List LF}{k:IntKind}{f:LF}{x:Int}{t:Tm}(hfs:Cc ρ az fs)(hf:Hold ρ az f x)(ht:(t.den ρ).I=k.wrap x):Sj ρ az (bif wQ k fs f then ⟨az,fs,f⟩ else oI t Je az fs) (t.den ρ).I:=by
 cases h:wQ k fs f
 .exact wS hfs
 .refine ⟨List.prefix_refl _,hfs,fun bs hb=>?_⟩
  rw [ht,<- hf bs hb]
  exact (Xb rfl (fun g hg=>hfs g hg bs hb) h).symm
theorem Hold.add {ρ:List AV}{az:List Tm}{f g:LF}{x y:Int}(h:Hold ρ az f x)(k:Hold ρ az g y):Hold ρ az (Nz f g) (x+y):=fun bs hb=>by rw [ES,h bs hb,k bs hb]
theorem Hold.sub {ρ:List AV}{az:List Tm}{f g:LF}{x y:Int}(h:Hold ρ az f x)(k:Hold ρ az g y):Hold ρ az (qV f g) (x-y):=fun bs hb=>by rw [lT,h bs hb,k bs hb]
theorem Hold.U0 {ρ:List AV}{az:List Tm}{f:LF}{x c:Int}(h:Hold ρ az f x):Hold ρ az (Go.Fw.U0 c f) (c*x):=fun bs hb=>by rw [Jc,h bs hb]
theorem aqE {ρ:List AV}{o:BinOp}{k:IntKind}{x y:Tm}{rx ry:LR}(h1:Hold ρ rx.az rx.f (x.den ρ).I)(hp:rx.az <+: ry.az)(h2:Hold ρ ry.az ry.f (y.den ρ).I)(hfs:Cc ρ ry.az ry.fs) :
  Sj ρ ry.az (auM o k x y rx ry) ((Tm.bin o (.int k) x y).den ρ).I:=by
 have h1':=h1.mono hp
 unfold auM
 cases o<;>dsimp only
 case add=>exact anw hfs (h1'.add h2) rfl
 case sub=>exact anw hfs (h1'.sub h2) rfl
 case mul=>
  split
  .rename_i c hc
   have:=Qe hc;subst this
   exact anw hfs (h1'.U0 (c:=c)) (by show k.wrap ((x.den ρ).I*c)=_;rw [Int.mul_comm])
  .split
   .rename_i c hc
    have:=Qe hc;subst this
    exact anw hfs (h2.U0 (c:=c)) rfl
   .exact wS hfs
 case quo=>
  split
  .rename_i c hc
   have:=Qe hc;subst this
   cases hq:OW c&&(LC ry.fs rx.f&&wQ k ry.fs rx.f)
   .exact wS hfs
   .simp only [Bool.and_eq_true] at hq
    obtain ⟨q1,q2,q3⟩:=hq
    rw [Xc] at q1
    rw [cond_true]
    refine BJ hfs fun v hv n hn hg hbs f hf=>?_
    obtain ⟨bs,hb,rfl⟩:=hbs
    have a1:=M_ hv hg q2
    have a2:=Xb hv hg q3
    have e:=h1' bs hb
    rw [e] at a1 a2
    have hmax:(x.den ρ).I<=k.max/\k.min<=0:=by
     unfold wQ at q3
     rw [Bool.and_eq_true] at q3
     have h2:=M_ hv hg q3.2
     rw [lT,e] at h2
     simp only [LF.ev,hv] at h2
     exact ⟨by omega,by cases k<;>decide⟩
    have hn':(vl ρ bs) n=(x.den ρ).I / c:=by
     rw [hn]
     show k.wrap ((x.den ρ).I.tdiv c)=_
     rw [Int.tdiv_eq_ediv_of_nonneg a1]
     have b1:0<=(x.den ρ).I / c:=Int.ediv_nonneg a1 (by omega)
     have b2:(x.den ρ).I / c<=(x.den ρ).I:=Int.ediv_le_self _ a1
     exact aio (by omega) (by omega)
    have b1:0<=(x.den ρ).I / c:=Int.ediv_nonneg a1 (by omega)
    have b3:=Int.mul_ediv_add_emod (x.den ρ).I c
    have b4:=Int.emod_nonneg (x.den ρ).I (show c≠0 by omega)
    have b5:=Int.emod_lt_of_pos (x.den ρ).I q1
    simp only [asc,List.mem_cons,List.not_mem_nil,or_false] at hf
    rcases hf with rfl|rfl|rfl
    .rw [wo,hn'];exact b1
    .rw [lT,Jc,wo,e,hn'];omega
    .rw [lT,ES,Jc,wo,e,hn']
     simp only [LF.ev,hv];omega
  .exact wS hfs
 case rem=>
  split
  .rename_i c hc
   have:=Qe hc;subst this
   cases hq:OW c&&LC ry.fs rx.f
   .exact wS hfs
   .simp only [Bool.and_eq_true] at hq
    obtain ⟨q1,q2⟩:=hq
    rw [Xc] at q1
    rw [cond_true]
    refine BJ hfs fun v hv n hn hg hbs f hf=>?_
    obtain ⟨bs,hb,rfl⟩:=hbs
    have a1:=M_ hv hg q2
    have e:=h1' bs hb
    rw [e] at a1
    have hn':(vl ρ bs) n=(x.den ρ).I % c:=by
     rw [hn]
     show (x.den ρ).I.tmod c=_
     exact Int.tmod_eq_emod_of_nonneg a1
    have b4:=Int.emod_nonneg (x.den ρ).I (show c≠0 by omega)
    have b5:=Int.emod_lt_of_pos (x.den ρ).I q1
    have b3:=Int.mul_ediv_add_emod (x.den ρ).I c
    have b6:0<=c*((x.den ρ).I / c):=Int.mul_nonneg (by omega) (Int.ediv_nonneg a1 (by omega))
    simp only [ase,List.mem_cons,List.not_mem_nil,or_false] at hf
    rcases hf with rfl|rfl|rfl
    .rw [wo,hn'];exact b4
    .rw [lT,wo,hn'];simp only [LF.ev,hv];omega
    .rw [lT,wo,e,hn'];omega
  .exact wS hfs
 case shr=>
  split
  .rename_i c hc
   have:=Qe hc;subst this
   cases hq:Nat.beq c.toNat 1
   .exact wS hfs
   .have hc1:c.toNat=1:=Nat.eq_of_beq_eq_true hq
    rw [cond_true]
    refine BJ hfs fun v hv n hn hg hbs f hf=>?_
    obtain ⟨bs,hb,rfl⟩:=hbs
    have e:=h1' bs hb
    have hn':(vl ρ bs) n=(x.den ρ).I / 2:=by
     rw [hn]
     show (x.den ρ).I.fdiv (2 ^ (min c.toNat k.bits))=_
     rw [hc1,Int.fdiv_eq_ediv_of_nonneg _ (Int.pow_nonneg (by omega))]
     cases k<;>rfl
    simp only [asf,List.mem_cons,List.not_mem_nil,or_false] at hf
    rcases hf with rfl|rfl
    .rw [lT,Jc,wo,e,hn'];omega
    .rw [lT,ES,Jc,wo,e,hn']
     simp only [LF.ev,hv];omega
  .exact wS hfs
 all_goals exact wS hfs
theorem Qg {ρ:List AV}{x:Tm}{az:List Tm}{fs:List LF}(hfs:Cc ρ az fs):Sj ρ az (oI (.slen x) abp az fs) ((Tm.slen x).den ρ).I:=by
 refine BJ hfs fun v hv n hn hg hbs f hf=>?_
 simp only [abp,List.mem_cons,List.not_mem_nil,or_false] at hf
 subst hf
 rw [wo,hn]
 exact Int.natCast_nonneg _
theorem aqF {ρ:List AV}{ks:Pc}(hk:ks.holds ρ):∀{t:Tm} {az:List Tm} {fs:List LF},Cc ρ az fs->Sj ρ az (Xd ks t az fs) ((Tm.slen t).den ρ).I:=by
 intro t
 induction t with
 |ls l=>exact fun {az fs} hfs=>⟨List.prefix_refl _,hfs,fun bs hb=>by simp only [Xd,yG,abo];simp [LF.ev,vl,Tm.den,D.I,D.S,sLen]⟩
 |bin o k x y sU ihy=>
  intro az fs hfs
  cases o<;>first|exact Qg hfs|skip
  cases k<;>first|exact Qg hfs|skip
  obtain ⟨a1,a2,a3⟩:=sU hfs
  obtain ⟨b1,b2,b3⟩:=ihy (az:=(Xd ks x az fs).az) (fs:=(Xd ks x az fs).fs) a2
  refine ⟨a1.trans b1,b2,fun bs hb=>?_⟩
  have h1:=a3.mono b1 bs hb
  have h2:=b3 bs hb
  show LF.ev _ (Nz _ _)=_
  rw [ES,h1,h2]
  simp [Tm.den,qJ,D.I,D.S,sLen]
 |ite c x y _ sU ihy=>
  intro az fs hfs
  simp only [Xd]
  split
  .rename_i h
   have:=Pc.gQ hk h
   have e:((Tm.slen (.ite c x y)).den ρ).I=((Tm.slen x).den ρ).I:=by show (D.i (sLen ((Tm.ite c x y).den ρ).S)).I=_;rw [Tm.qm,this];rfl
   rw [e];exact sU hfs
  .rename_i h
   have:=Pc.gQ hk h
   have e:((Tm.slen (.ite c x y)).den ρ).I=((Tm.slen y).den ρ).I:=by show (D.i (sLen ((Tm.ite c x y).den ρ).S)).I=_;rw [Tm.qm,this];rfl
   rw [e];exact ihy hfs
  .exact Qg hfs
 |Ef x lo hi _ _ _=>
  intro az fs hfs
  simp only [Xd]
  split
  .rename_i l hl
   have:=aqD hl;subst this
   refine BJ hfs fun v hv n hn hg hbs f hf=>?_
   simp only [aw4,yG,List.mem_cons,List.not_mem_nil,or_false] at hf
   have hle:((Tm.slen (.Ef (.ls l) lo hi)).den ρ).I<=(l.length:Int):=by
    simp only [Tm.den,D.I,D.S,sLen]
    rw [List.length_take,List.length_drop]
    omega
   rcases hf with rfl|rfl
   .rw [wo,hn];exact Int.natCast_nonneg _
   .rw [lT,wo,hn]
    simp only [LF.ev,hv];omega
  .exact Qg hfs
 |_=>intro az fs hfs;exact Qg hfs
theorem Sl {ρ:List AV}{ks:Pc}(hk:ks.holds ρ):∀{t:Tm} {az:List Tm} {fs:List LF},Cc ρ az fs->Sj ρ az (lin ks t az fs) (t.den ρ).I:=by
 intro t
 induction t with
 |li c=>exact fun {az fs} hfs=>⟨List.prefix_refl _,hfs,fun bs hb=>by simp only [lin,abo];simp [LF.ev,vl,Tm.den,D.I]⟩
 |bin o kd x y sU ihy=>
  intro az fs hfs
  cases kd with
  |int k=>
   obtain ⟨a1,a2,a3⟩:=sU hfs
   obtain ⟨b1,b2,b3⟩:=ihy (az:=(lin ks x az fs).az) (fs:=(lin ks x az fs).fs) a2
   exact Sj.up (a1.trans b1) (aqE (rx:=lin ks x az fs) a3 b1 b3 b2)
  |_=>exact wS hfs
 |conv k x ih=>
  intro az fs hfs
  obtain ⟨a1,a2,a3⟩:=ih hfs
  exact Sj.up a1 (anw a2 a3 rfl)
 |ite c x y _ sU ihy=>
  intro az fs hfs
  simp only [lin]
  split
  .rename_i h
   have:=Pc.gQ hk h
   rw [Tm.qm,this];exact sU hfs
  .rename_i h
   have:=Pc.gQ hk h
   rw [Tm.qm,this];exact ihy hfs
  .exact wS hfs
 |rlen x _=>
  intro az fs hfs
  have e:((Tm.rlen x).den ρ).I=((Tm.rlen (aDS ks x)).den ρ).I:=by simp only [Tm.den,agz hk]
  rw [e]
  simp only [lin]
  split
  .rename_i hc
   rw [hc]
   exact ⟨List.prefix_refl _,hfs,fun bs hb=>rfl⟩
  refine BJ hfs fun v hv n hn hg hbs f hf=>?_
  simp only [abp,List.mem_cons,List.not_mem_nil,or_false] at hf
  subst hf
  rw [wo,hn]
  exact Int.natCast_nonneg _
 |slen x _=>intro az fs hfs;exact aqF hk hfs
 |byte x i _ _=>
  intro az fs hfs
  refine BJ hfs fun v hv n hn hg hbs f hf=>?_
  have h0:((Tm.byte x i).den ρ).I=(((x.den ρ).S.getD (i.den ρ).I.toNat 0).toNat:Int):=rfl
  have h1:=UInt8.toNat_lt ((x.den ρ).S.getD (i.den ρ).I.toNat 0)
  simp only [anv,List.mem_cons,List.not_mem_nil,or_false] at hf
  rcases hf with rfl|rfl
  .rw [wo,hn,h0];omega
  .rw [lT,wo,hn,h0];simp only [LF.ev,hv];omega
 |_=>exact fun hfs=>wS hfs
def aqG (o:BinOp)(b:Bool)(x y:LF):Option (List LF):=
 let one:LF:=[(0,1)]
 match o,b with
 | .lss,true=>some [qV (qV y x) one]
 | .lss,false=>some [qV x y]
 | .leq,true=>some [qV y x]
 | .leq,false=>some [qV (qV x y) one]
 | .gtr,true=>some [qV (qV x y) one]
 | .gtr,false=>some [qV y x]
 | .geq,true=>some [qV x y]
 | .geq,false=>some [qV (qV y x) one]
 | .eql,true=>some [qV x y,qV y x]
 | .neq,false=>some [qV x y,qV y x]
 |_,_=>none
def ZV (o:BinOp)(b:Bool):Bool:=match o,b with
 | .eql,false=>true
 | .neq,true=>true
 |_,_=>false
theorem aip {o:BinOp}{k:IntKind}{b:Bool}{x y:LF}{X Y:D}{v:Nat->Int}(hv:v 0=1){l:List LF}(h:aqG o b x y=some l)(hx:x.ev v=X.I)(hy:y.ev v=Y.I):(∀f∈l,0<=f.ev v)↔(qJ o (.int k) X Y).B=b:=by
 have one:LF.ev v [(0,1)]=1:=by simp [LF.ev,hv]
 cases o<;>cases b<;>simp only [aqG] at h<;>first|(cases h;done)|skip
 all_goals
  simp only [Option.some.injEq] at h
  subst h
  simp only [List.mem_cons,List.not_mem_nil,or_false,forall_eq_or_imp,forall_eq,lT,hx,hy,one,qJ,D.B,dZ,jC,decide_eq_true_eq,decide_eq_false_iff_not,beq_iff_eq,bne_eq_false_iff_eq]
  omega
theorem adL {o:BinOp}{k:IntKind}{b:Bool}{X Y:D}(h:ZV o b=true):(qJ o (.int k) X Y).B=b↔X.I≠Y.I:=by
 cases o<;>cases b<;>simp [ZV] at h<;>simp [qJ,D.B,dZ,jC]
structure AS where
 az:List Tm
 fs:List LF
def Yn (ρ:List AV)(s:AS):Prop:=Cc ρ s.az s.fs
def auO (ks:Pc)(o:BinOp)(b:Bool)(x y:Tm)(s:AS):AS:=
 match lin ks x s.az s.fs with
 |⟨as1,fs1,f1⟩=>match lin ks y as1 fs1 with
  |⟨as2,fs2,f2⟩=>match aqG o b f1 f2 with
   |some l=>⟨as2,l++fs2⟩
   |none=>bif ZV o b then
     bif LC fs2 (qV f1 f2) then ⟨as2,qV (qV f1 f2) [(0,1)]::fs2⟩ else bif LC fs2 (qV f2 f1) then ⟨as2,qV (qV f2 f1) [(0,1)]::fs2⟩ else ⟨as2,fs2⟩
    else ⟨as2,fs2⟩
def Qh (ks:Pc):Tm->Bool->AS->AS
 | .not x,b,s=>Qh ks x (!b) s
 | .and x y,b,s=>match b with
  |true=>Qh ks y true (Qh ks x true s)
  |false=>s
 | .or x y,b,s=>match b with
  |true=>s
  |false=>Qh ks y false (Qh ks x false s)
 | .bin o kd x y,b,s=>match kd with
  | .int _=>auO ks o b x y s
  |_=>s
 |_,_,s=>s
theorem aqH {ρ:List AV}{ks:Pc}(hk:ks.holds ρ){o:BinOp}{k:IntKind}{b:Bool}{x y:Tm}{s:AS}(hs:Yn ρ s)(h:((Tm.bin o (.int k) x y).den ρ).B=b):Yn ρ (auO ks o b x y s):=by
 obtain ⟨a1,a2,a3⟩:=Sl hk (t:=x) hs
 obtain ⟨b1,b2,b3⟩:=Sl hk (t:=y) (az:=(lin ks x s.az s.fs).az) (fs:=(lin ks x s.az s.fs).fs) a2
 have a3':=a3.mono b1
 unfold auO
 dsimp only
 split
 .rename_i l hl
  exact Cc.app (fun f hf bs hb=>(aip (k:=k) rfl hl (a3' bs hb) (b3 bs hb)).2 h f hf) b2
 .cases hd:ZV o b
  .exact b2
  .have hne:=(adL (k:=k) hd).1 h
   simp only [cond_true]
   have one:∀bs,LF.ev (vl ρ bs) [(0,1)]=1:=by simp [LF.ev,vl]
   cases h1:LC (lin ks y (lin ks x s.az s.fs).az (lin ks x s.az s.fs).fs).fs (qV (lin ks x s.az s.fs).f (lin ks y (lin ks x s.az s.fs).az (lin ks x s.az s.fs).fs).f)
   .simp only [cond_false]
    cases h2:LC (lin ks y (lin ks x s.az s.fs).az (lin ks x s.az s.fs).fs).fs (qV (lin ks y (lin ks x s.az s.fs).az (lin ks x s.az s.fs).fs).f (lin ks x s.az s.fs).f)
    .exact b2
    .refine Cc.cons (fun bs hb=>?_) b2
     have q:=GX b2 h2 bs hb
     rw [lT,a3' bs hb,b3 bs hb] at q
     rw [lT,lT,a3' bs hb,b3 bs hb,one]
     omega
   .refine Cc.cons (fun bs hb=>?_) b2
    have q:=GX b2 h1 bs hb
    rw [lT,a3' bs hb,b3 bs hb] at q
    rw [lT,lT,a3' bs hb,b3 bs hb,one]
    omega
theorem Xe {ρ:List AV}{ks:Pc}(hk:ks.holds ρ):∀{t:Tm} {b:Bool} {s:AS},Yn ρ s->(t.den ρ).B=b->Yn ρ (Qh ks t b s):=by
 intro t
 induction t with
 |not x ih=>exact fun hs h=>ih hs (by rw [<- h];simp [Tm.den,D.B])
 |and x y sU ihy=>
  intro b s hs h
  cases b
  .exact hs
  .have h':(x.den ρ).B=true/\(y.den ρ).B=true:=by simpa [Tm.den,D.B] using h
   exact ihy (sU hs h'.1) h'.2
 |or x y sU ihy=>
  intro b s hs h
  cases b
  .have h':(x.den ρ).B=false/\(y.den ρ).B=false:=by simpa [Tm.den,D.B] using h
   exact ihy (sU hs h'.1) h'.2
  .exact hs
 |bin o kd x y _ _=>
  intro b s hs h
  cases kd with
  |int k=>exact aqH hk (k:=k) hs h
  |_=>exact hs
 |_=>exact fun hs _=>hs
def Xf (ks:Pc):Pc->AS->AS
 |[],s=>s
 |x::r,s=>Qh ks x.1 x.2 (Xf ks r s)
theorem Na {ρ:List AV}{ks:Pc}(hk:ks.holds ρ):∀{pc:Pc} {s:AS},pc.holds ρ->Yn ρ s->Yn ρ (Xf ks pc s)
 |[],s,_,hs=>hs
 |x::r,s,hp,hs=>Xe hk (Na hk (fun y hy=>hp y (List.mem_cons_of_mem _ hy)) hs) (hp x (List.mem_cons_self ..))
def auP (ks:Pc)(o:BinOp)(b:Bool)(x y:Tm)(s:AS):Bool:=
 match lin ks x s.az s.fs with
 |⟨as1,fs1,f1⟩=>match lin ks y as1 fs1 with
  |⟨as2,fs2,f2⟩=>match aqG o b f1 f2 with
   |some l=>l.all (LC fs2)
   |none=>ZV o b&&(LC fs2 (qV (qV f1 f2) [(0,1)])||LC fs2 (qV (qV f2 f1) [(0,1)]))
def JU (ks:Pc):Tm->Bool->AS->Bool
 | .lb v,b,_=>v == b
 | .not x,b,s=>JU ks x (!b) s
 | .and x y,b,s=>match b with
  |true=>JU ks x true s&&JU ks y true s
  |false=>JU ks x false s||JU ks y false (Qh ks x true s)
 | .or x y,b,s=>match b with
  |true=>JU ks x true s||JU ks y true (Qh ks x false s)
  |false=>JU ks x false s&&JU ks y false s
 | .bin o kd x y,b,s=>match ks.known (.bin o kd x y) with
  |some v=>v == b
  |none=>match kd with
   | .int _=>auP ks o b x y s
   |_=>false
 |t,b,_=>match ks.known t with
  |some v=>v == b
  |none=>false
theorem aqI {ρ:List AV}{ks:Pc}(hk:ks.holds ρ){o:BinOp}{k:IntKind}{b:Bool}{x y:Tm}{s:AS}(hs:Yn ρ s)(h:auP ks o b x y s=true):((Tm.bin o (.int k) x y).den ρ).B=b:=by
 obtain ⟨a1,a2,a3⟩:=Sl hk (t:=x) hs
 obtain ⟨b1,b2,b3⟩:=Sl hk (t:=y) (az:=(lin ks x s.az s.fs).az) (fs:=(lin ks x s.az s.fs).fs) a2
 have a3':=a3.mono b1
 unfold auP at h
 dsimp only at h
 have rf:=List.prefix_refl (lin ks y (lin ks x s.az s.fs).az (lin ks x s.az s.fs).fs).az
 split at h
 .rename_i l hl
  rw [List.all_eq_true] at h
  exact (aip (k:=k) rfl hl (a3' _ rf) (b3 _ rf)).1 fun f hf=>GX b2 (h f hf) _ rf
 .rw [Bool.and_eq_true] at h
  refine (adL (k:=k) h.1).2 ?_
  have one:∀bs,LF.ev (vl ρ bs) [(0,1)]=1:=by simp [LF.ev,vl]
  have h2:=h.2
  rw [Bool.or_eq_true] at h2
  rcases h2 with h2|h2
  .have q:=GX b2 h2 _ rf
   rw [lT,lT,a3' _ rf,b3 _ rf,one] at q
   intro e;omega
  .have q:=GX b2 h2 _ rf
   rw [lT,lT,a3' _ rf,b3 _ rf,one] at q
   intro e;omega
theorem aiq {ρ:List AV}{ks:Pc}(hk:ks.holds ρ):∀{t:Tm} {b:Bool} {s:AS},Yn ρ s->JU ks t b s=true->(t.den ρ).B=b:=by
 intro t
 have oth:∀{t:Tm} {b:Bool},(match ks.known t with|some v=>v == b|none=>false)=true->(t.den ρ).B=b:=by
  intro t b h
  split at h
  .rename_i v hv
   rw [Pc.gQ hk hv];simpa using h
  .cases h
 induction t with
 |lb v=>exact fun hs h=>by simpa [JU,Tm.den,D.B] using h
 |not x ih=>intro b s hs h;have:=ih (b:=!b) hs h;show (!(x.den ρ).B)=b;rw [this];simp
 |and x y sU ihy=>
  intro b s hs h
  cases b
  .simp only [JU,Bool.or_eq_true] at h
   show ((x.den ρ).B&&(y.den ρ).B)=false
   cases hx:(x.den ρ).B
   .rfl
   .rcases h with h|h
    .rw [sU hs h] at hx;cases hx
    .rw [ihy (Xe hk hs hx) h];rfl
  .simp only [JU,Bool.and_eq_true] at h
   show ((x.den ρ).B&&(y.den ρ).B)=true
   rw [sU hs h.1,ihy hs h.2];rfl
 |or x y sU ihy=>
  intro b s hs h
  cases b
  .simp only [JU,Bool.and_eq_true] at h
   show ((x.den ρ).B||(y.den ρ).B)=false
   rw [sU hs h.1,ihy hs h.2];rfl
  .simp only [JU,Bool.or_eq_true] at h
   show ((x.den ρ).B||(y.den ρ).B)=true
   cases hx:(x.den ρ).B
   .rcases h with h|h
    .rw [sU hs h] at hx;cases hx
    .rw [ihy (Xe hk hs hx) h];rfl
   .rfl
 |bin o kd x y _ _=>
  intro b s hs h
  simp only [JU] at h
  split at h
  .rename_i v hv
   rw [Pc.gQ hk hv];simpa using h
  .split at h
   .exact aqI hk hs h
   .cases h
 |_=>exact fun hs h=>oth h
def LD : Tm->Option Tm
 | .ite c _ _=>some c
 | .bin _ _ x y=>match LD x with|some c=>some c|none=>LD y
 | .and x y=>match LD x with|some c=>some c|none=>LD y
 | .or x y=>match LD x with|some c=>some c|none=>LD y
 | .not x=>LD x
 | .conv _ x=>LD x
 | .rlen x=>LD x
 | .slen x=>LD x
 |_=>none
def Nb (ks:Pc):Pc->Option Tm
 |[]=>none
 |x::r=>match LD x.1 with
  |some c=>match ks.known c with|none=>some c|some _=>Nb ks r
  |none=>Nb ks r
def aw5 : Tm->Bool->Bool
 | .not t,b=>aw5 t (!b)
 | .bin o (.int _) _ _,b=>ZV o b
 |_,_=>false
def azf (F:Pc):Pc:=F.filter fun x=>aw5 x.1 x.2
def aEr : Tm->Bool
 | .not t=>aEr t
 | .and x y=>aEr x||aEr y
 | .or x y=>aEr x||aEr y
 | .bin o _ x y=>match o with
  | .lss | .leq | .gtr | .geq | .eql | .neq=>aEr x||aEr y
  |_=>true
 | .conv _ _=>true
 | .ite _ _ _=>true
 |_=>false
def asF (F:Pc):AS:=Xf F (azf F) (Xf F (F.filter fun x=>aEr x.1) (Xf F (F.filter fun x=>!(aEr x.1)) ⟨[],[]⟩))
theorem Pc.Jf {ρ:List AV}{F:Pc}{p:Tm×Bool->Bool}(h:F.holds ρ):Pc.holds ρ (F.filter p):=fun x hx=>h x (List.mem_filter.1 hx).1
theorem abr {ρ:List AV}{F:Pc}(h:F.holds ρ):Yn ρ (asF F):=Na h (Pc.Jf h) (Na h (Pc.Jf h) (Na h (Pc.Jf h) (fun f hf=>by cases hf)))
def hlf (pc:Pc):Tm->Bool->Pc
 | .and x y,b=>match b with
  |true=>[]
  |false=>match pc.known x with
   |some true=>(y,false)::hlf pc y false
   |_=>match pc.known y with
    |some true=>(x,false)::hlf pc x false
    |_=>[]
 | .or x y,b=>match b with
  |false=>[]
  |true=>match pc.known x with
   |some false=>(y,true)::hlf pc y true
   |_=>match pc.known y with
    |some false=>(x,true)::hlf pc x true
    |_=>[]
 | .not x,b=>hlf pc x (!b)
 |_,_=>[]
theorem auR {ρ:List AV}{pc:Pc}(h:pc.holds ρ):∀{t:Tm} {b:Bool},(t.den ρ).B=b->Pc.holds ρ (hlf pc t b):=by
 intro t
 induction t with
 |and x y sU ihy=>
  intro b e
  cases b
  .have e':((x.den ρ).B&&(y.den ρ).B)=false:=e
   simp only [hlf]
   split
   .rename_i hx
    rw [Pc.gQ h hx,Bool.true_and] at e'
    exact Pc.jy e' (ihy e')
   .split
    .rename_i hy
     rw [Pc.gQ h hy,Bool.and_true] at e'
     exact Pc.jy e' (sU e')
    .exact fun x hx=>by cases hx
  .exact fun x hx=>by cases hx
 |or x y sU ihy=>
  intro b e
  cases b
  .exact fun x hx=>by cases hx
  .have e':((x.den ρ).B||(y.den ρ).B)=true:=e
   simp only [hlf]
   split
   .rename_i hx
    rw [Pc.gQ h hx,Bool.false_or] at e'
    exact Pc.jy e' (ihy e')
   .split
    .rename_i hy
     rw [Pc.gQ h hy,Bool.or_false] at e'
     exact Pc.jy e' (sU e')
    .exact fun x hx=>by cases hx
 |not x ih=>
  intro b e
  have e':(!(x.den ρ).B)=b:=e
  exact ih (by rw [<- e'];simp)
 |_=>intro b e x hx;cases hx
def akq (G:Pc):Pc:=G.flatMap (fun x=>hlf G x.1 x.2)++G
theorem Qi {ρ:List AV}{G:Pc}(h:G.holds ρ):Pc.holds ρ (akq G):=fun x hx=>by
 rcases List.mem_append.1 hx with hx|hx
 .obtain ⟨y,hy,hx⟩:=List.mem_flatMap.1 hx
  exact auR h (h y hy) x hx
 .exact h x hx
def aDO : Nat->Pc->Tm->Bool
 |0,F,t=>JU F t true (asF F)
 |n+1,F,t=>JU F t true (asF F)||(match Nb F ((t,true)::F) with
  |none=>false
  |some c=>aDO n (akq ((c,true)::F)) t&&aDO n (akq ((c,false)::F)) t)
theorem BK {ρ:List AV}{t:Tm}:∀{n:Nat} {F:Pc},aDO n F t=true->F.holds ρ->(t.den ρ).B=true
 |0,F,h,hF=>aiq hF (abr hF) h
 |n+1,F,h,hF=>by
  simp only [aDO,Bool.or_eq_true] at h
  rcases h with h|h
  .exact aiq hF (abr hF) h
  .split at h
   .cases h
   .rename_i c _
    rw [Bool.and_eq_true] at h
    cases hc:(c.den ρ).B
    .exact BK h.2 (Qi (Pc.jy hc hF))
    .exact BK h.1 (Qi (Pc.jy hc hF))
def aEk (F:Pc):Bool:=match asF F with
 |⟨_,fs⟩=>fs.any fun f=>akp (C_ 3 fs f 40)
theorem akr {ρ:List AV}{F:Pc}(h:aEk F=true)(hF:F.holds ρ):False:=by
 have hs:=abr hF
 unfold aEk at h
 rw [List.any_eq_true] at h
 obtain ⟨f,hf,h⟩:=h
 unfold akp at h
 split at h
 .rename_i e
  have hp:∀g∈(asF F).fs,0<=g.ev (vl ρ (asF F).az):=fun g hg=>hs g hg _ (List.prefix_refl _)
  exact Jd rfl hp e (hp f hf)
 .cases h
end Go.Fw
end
section
namespace Go.Fw
variable [jY]
inductive Ek where|B|I|F|S|R
def Jg : Ek->D->D->Prop
 | .B,d,d'=>d.B=d'.B
 | .I,d,d'=>d.I=d'.I
 | .F,d,d'=>d.F=d'.F
 | .S,d,d'=>d.S=d'.S
 | .R,d,d'=>d.R=d'.R
theorem Jg.of_eq {e:Ek}{d d':D}(h:d=d'):Jg e d d':=by subst h;cases e<;>rfl
def Sm : SV->List Nat->Option SV
 |v,[]=>some v
 | .agg l,j::p=>match Eh l j with|some x=>Sm x p|none=>none
 | .fD l,j::p=>match Eh l j with|some x=>Sm x p|none=>none
 |_,_::_=>none
def air : Ek->SV->Option Tm
 | .B,.sc .bool t=>some t
 | .I,.sc (.int _) t=>some t
 | .F,.sc .kC t=>some t
 | .S,.sc .str t=>some t
 | .R,.sc .sl t=>some t
 | .R,.sf t=>some t
 | .R,.nil=>some .nl
 | .R,.slc [] _=>some .nl
 |_,_=>none
def ais (base:Nat)(l:List SV)(i:Nat)(p:List Nat):Option SV:=match Eh l (i-base) with
 |some v=>Sm v p
 |none=>none
def asg : SV->Option Tm
 | .slc rows _=>Rh rows.length fun n=>some (.li (.ofNat n))
 |v=>match air .R v with|some t=>some (.rlen t)|none=>none
def aw6 : Kd->Option Ek
 | .bool=>some .B
 | .int _=>some .I
 | .kC=>some .F
 | .str=>some .S
 | .sl=>none
def aEz : Tm->Option (Nat×List Nat)
 | .var i p=>some (i,p)
 |_=>none
theorem anx {t:Tm}{x:Nat×List Nat}(h:aEz t=some x):t=.var x.1 x.2:=by
 cases t<;>simp [aEz] at h
 subst h;rfl
def ku (base:Nat)(l:List SV):Ek->Tm->Option Tm
 |_,.lb v=>some (.lb v)
 |_,.li v=>some (.li v)
 |_,.lf v=>some (.lf v)
 |_,.ls v=>some (.ls v)
 |_,.nl=>some .nl
 |e,.var i p=>bif Nat.blt i base then some (.var i p) else match ais base l i p with
  |some v=>air e v
  |none=>none
 |_,.bin o k x y=>match aw6 k with
  |none=>none
  |some e=>match ku base l e x with
   |none=>none
   |some x'=>match ku base l e y with
    |none=>none
    |some y'=>some (.bin o k x' y')
 |_,.not x=>match ku base l .B x with|none=>none|some x'=>some (.not x')
 |_,.and x y=>match ku base l .B x with
  |none=>none
  |some x'=>match ku base l .B y with|none=>none|some y'=>some (.and x' y')
 |_,.or x y=>match ku base l .B x with
  |none=>none
  |some x'=>match ku base l .B y with|none=>none|some y'=>some (.or x' y')
 |e,.ite c x y=>match ku base l .B c with
  |none=>none
  |some c'=>match ku base l e x with
   |none=>none
   |some x'=>match ku base l e y with|none=>none|some y'=>some (.ite c' x' y')
 |_,.conv k x=>match ku base l .I x with|none=>none|some x'=>some (.conv k x')
 |_,.slen x=>match ku base l .S x with|none=>none|some x'=>some (.slen x')
 |_,.rlen x=>match aEz x with
  |some q=>bif Nat.blt q.1 base then some (.rlen (.var q.1 q.2)) else match ais base l q.1 q.2 with
   |some v=>asg v
   |none=>none
  |none=>match ku base l .R x with|none=>none|some x'=>some (.rlen x')
 |_,.byte x i=>match ku base l .S x with
  |none=>none
  |some x'=>match ku base l .I i with|none=>none|some i'=>some (.byte x' i')
 |_,_=>none
theorem Xg {ρ:List AV}:∀{p:List Nat} {v w:SV},Sm v p=some w->aDt (v.den ρ) p=w.den ρ
 |[],v,w,h=>by
  simp only [Sm,Option.some.injEq] at h
  subst h
  cases v.den ρ<;>rfl
 |j::p,v,w,h=>by
  cases v<;>simp only [Sm] at h<;>first|(cases h;done)|skip
  all_goals
   split at h
   .rename_i l x hx
    have e:=Gn (ρ:=ρ) hx
    simp only [SV.den,aDt,List.getD_eq_getElem?_getD,e,Option.getD_some]
    exact Xg h
   .cases h
theorem ZW {ρ:List AV}{e:Ek}{v:SV}{t:Tm}(h:air e v=some t):Jg e (t.den ρ) (v.den ρ).D:=by
 unfold air at h
 split at h<;>first|(cases h;done)|(simp only [Option.some.injEq] at h;subst h;rfl)
theorem U1 {ρ:List AV}{base i:Nat}{m:List AV}(hb:base<=ρ.length)(hi:i<base):(ρ.take base++m).getD i eP=ρ.getD i eP:=by
 have:i<(ρ.take base).length:=by rw [List.length_take];omega
 rw [List.getD_eq_getElem?_getD,List.getD_eq_getElem?_getD,List.getElem?_append_left this,List.getElem?_take,if_pos hi]
theorem Sr {ρ:List AV}{base:Nat}{l:List SV}(hb:base<=ρ.length){i:Nat}{p:List Nat}{v:SV}(hi:¬i<base)(h:ais base l i p=some v):aDt ((ρ.take base++dU ρ l).getD i eP) p=v.den ρ:=by
 unfold ais at h
 split at h
 .rename_i w hw
  have hl:(ρ.take base).length=base:=by rw [List.length_take];omega
  rw [List.getD_eq_getElem?_getD,List.getElem?_append_right (by omega),hl,Gn hw]
  exact Xg h
 .cases h
theorem GY {ρ:List AV}{base:Nat}{l:List SV}(hb:base<=ρ.length):∀{t:Tm} {e:Ek} {t':Tm},ku base l e t=some t'->Jg e (t'.den ρ) (t.den (ρ.take base++dU ρ l)):=by
 intro t
 induction t with
 |lb v=>intro e t' h;simp only [ku,Option.some.injEq] at h;subst h;exact .of_eq rfl
 |li v=>intro e t' h;simp only [ku,Option.some.injEq] at h;subst h;exact .of_eq rfl
 |lf v=>intro e t' h;simp only [ku,Option.some.injEq] at h;subst h;exact .of_eq rfl
 |ls v=>intro e t' h;simp only [ku,Option.some.injEq] at h;subst h;exact .of_eq rfl
 |nl=>intro e t' h;simp only [ku,Option.some.injEq] at h;subst h;exact .of_eq rfl
 |var i p=>
  intro e t' h
  simp only [ku] at h
  cases hi:Nat.blt i base
  .rw [hi] at h
   have hi':¬i<base:=fun q=>by rw [show Nat.blt i base=true by rw [Nat.blt_eq];exact q] at hi;cases hi
   simp only [cond_false] at h
   split at h
   .rename_i v hv
    have:=ZW (ρ:=ρ) h
    simp only [Tm.den,Sr hb hi' hv]
    exact this
   .cases h
  .rw [hi] at h
   simp only [cond_true,Option.some.injEq] at h;subst h
   rw [Nat.blt_eq] at hi
   exact .of_eq (by simp only [Tm.den,U1 hb hi])
 |bin o k x y sU ihy=>
  intro e t' h
  simp only [ku] at h
  split at h
  .cases h
  rename_i e' he
  split at h
  .cases h
  rename_i x' hx
  split at h
  .cases h
  rename_i y' hy
  simp only [Option.some.injEq] at h;subst h
  have h1:=sU hx
  have h2:=ihy hy
  refine .of_eq ?_
  cases k<;>simp only [aw6,Option.some.injEq] at he<;>first|(cases he;done)|skip
  all_goals
   subst he
   simp only [Jg] at h1 h2
   simp only [Tm.den]
   cases o<;>simp only [qJ,h1,h2]
 |not x ih=>
  intro e t' h
  simp only [ku] at h
  split at h
  .cases h
  rename_i x' hx
  simp only [Option.some.injEq] at h;subst h
  have h1:=ih hx
  simp only [Jg] at h1
  exact .of_eq (by simp only [Tm.den,h1])
 |and x y sU ihy=>
  intro e t' h
  simp only [ku] at h
  split at h
  .cases h
  rename_i x' hx
  split at h
  .cases h
  rename_i y' hy
  simp only [Option.some.injEq] at h;subst h
  have h1:=sU hx
  have h2:=ihy hy
  simp only [Jg] at h1 h2
  exact .of_eq (by simp only [Tm.den,h1,h2])
 |or x y sU ihy=>
  intro e t' h
  simp only [ku] at h
  split at h
  .cases h
  rename_i x' hx
  split at h
  .cases h
  rename_i y' hy
  simp only [Option.some.injEq] at h;subst h
  have h1:=sU hx
  have h2:=ihy hy
  simp only [Jg] at h1 h2
  exact .of_eq (by simp only [Tm.den,h1,h2])
 |ite c x y ihc sU ihy=>
  intro e t' h
  simp only [ku] at h
  split at h
  .cases h
  rename_i c' hc
  split at h
  .cases h
  rename_i x' hx
  split at h
  .cases h
  rename_i y' hy
  simp only [Option.some.injEq] at h;subst h
  have h0:=ihc hc
  have h1:=sU hx
  have h2:=ihy hy
  simp only [Jg] at h0
  rw [Tm.qm,Tm.qm,h0]
  cases (c.den (ρ.take base++dU ρ l)).B
  .exact h2
  .exact h1
 |conv k x ih=>
  intro e t' h
  simp only [ku] at h
  split at h
  .cases h
  rename_i x' hx
  simp only [Option.some.injEq] at h;subst h
  have h1:=ih hx
  simp only [Jg] at h1
  exact .of_eq (by simp only [Tm.den,h1])
 |slen x ih=>
  intro e t' h
  simp only [ku] at h
  split at h
  .cases h
  rename_i x' hx
  simp only [Option.some.injEq] at h;subst h
  have h1:=ih hx
  simp only [Jg] at h1
  exact .of_eq (by simp only [Tm.den,h1])
 |rlen x ih=>
  intro e t' h
  simp only [ku] at h
  split at h
  .rename_i q hq
   have:=anx hq;subst this
   obtain ⟨i,p⟩:=q
   dsimp only at h ⊢
   cases hi:Nat.blt i base
   .rw [hi] at h
    have hi':¬i<base:=fun q=>by rw [show Nat.blt i base=true by rw [Nat.blt_eq];exact q] at hi;cases hi
    simp only [cond_false] at h
    split at h
    .rename_i v hv
     unfold asg at h
     split at h
     .rename_i rows fl
      simp only [yG,Option.some.injEq] at h;subst h
      refine .of_eq ?_
      simp only [Tm.den,Sr hb hi' hv,SV.den,AV.D,D.R,mZ,f_]
      rfl
     .split at h
      .rename_i t0 ht0
       simp only [Option.some.injEq] at h;subst h
       have:=ZW (ρ:=ρ) ht0
       simp only [Jg] at this
       refine .of_eq ?_
       simp only [Tm.den,Sr hb hi' hv,this]
      .cases h
    .cases h
   .rw [hi] at h
    simp only [cond_true,Option.some.injEq] at h;subst h
    rw [Nat.blt_eq] at hi
    exact .of_eq (by simp only [Tm.den,U1 hb hi])
  .split at h
   .cases h
   rename_i x' hx
   simp only [Option.some.injEq] at h;subst h
   have h1:=ih hx
   simp only [Jg] at h1
   exact .of_eq (by simp only [Tm.den,h1])
 |byte x y sU ihy=>
  intro e t' h
  simp only [ku] at h
  split at h
  .cases h
  rename_i x' hx
  split at h
  .cases h
  rename_i y' hy
  simp only [Option.some.injEq] at h;subst h
  have h1:=sU hx
  have h2:=ihy hy
  simp only [Jg] at h1 h2
  exact .of_eq (by simp only [Tm.den,h1,h2])
 |_=>intro e t' h;simp [ku] at h
def JZ (a b:Tm):Tm:=.bin .leq (.int .i64) a b
def tLt (a b:Tm):Tm:=.bin .lss (.int .i64) a b
def tEq (a b:Tm):Tm:=.bin .eql (.int .i64) a b
def aqJ (a b:Tm):Tm:=.bin .add (.int .i64) a b
def big : Int:=4294967296
def anz (n:Nat):Tm:=Rh n fun n=>acv (big-(n:Int)) .li
def aqK (n:Nat):Tm:=Rh n fun n=>.li (.ofNat n)
def anA (x:Tm):Tm:=.bin .sub (.int .i64) (.li big) x
def Side.cnd : Side->List Tm
 | .tm t=>[t]
 | .row t i _=>[JZ (.li 0) i,tLt i (.rlen t)]
 | .rd _ t i _ _=>[JZ (.li 0) i,tLt i (.rlen t)]
 | .st t i _ _ _=>[JZ (.li 0) i,tLt i (.rlen t)]
 | .sub _ t lo hi _=>match lo,hi with
  |none,none=>[]
  |none,some h=>[JZ (.li 0) h,JZ h (.rlen t)]
  |some l,none=>[JZ (.li 0) l,JZ l (.rlen t)]
  |some l,some h=>[JZ (.li 0) l,JZ l h,JZ h (.rlen t)]
 | .mk len cap _ _=>[JZ (.li 0) len,JZ len cap,JZ cap (.li big)]
 | .app _ x y _=>[JZ (.rlen x) (anz y.length)]
 | .ajr _ x y _=>[JZ (.rlen y) (.li big),JZ (.rlen x) (anA (.rlen y))]
 | .len2 m y=>[JZ (.rlen y) (anz m)]
 | .cat x y=>[JZ (.slen y) (.li big),JZ (.slen x) (anA (.slen y))]
 | .cpy x len _ _=>[JZ len (.rlen x)]
 | .mark _ _ d len _=>[JZ len (.rlen d)]
 | .ajs _ x y _=>[JZ (.rlen y) (anz x.length)]
 |_=>[]
def oq (ρ:List AV):List Tm->Prop
 |[]=>True
 |t::r=>(t.den ρ).B=true/\oq ρ r
theorem oq.of {ρ:List AV}:∀{l:List Tm},(∀t∈l,(t.den ρ).B=true)->oq ρ l
 |[],_=>trivial
 |t::r,h=>⟨h t (List.mem_cons_self ..),oq.of fun x hx=>h x (List.mem_cons_of_mem _ hx)⟩
theorem oq.mem {ρ:List AV}:∀{l:List Tm},oq ρ l->∀t∈l,(t.den ρ).B=true
 |[],_,t,ht=>by cases ht
 |x::r,h,t,ht=>by
  rcases List.mem_cons.1 ht with rfl|ht
  .exact h.1
  .exact oq.mem h.2 t ht
structure Sp where
 pre:List Tm
 bnd:List Tm
 post:List Tm
structure Dc where
 c:List (Nat×Sp)
 w:List (Nat×Nat×Sp)
def sp0 : Sp:=⟨[],[],[]⟩
def Dc.at (T:Dc)(f:Nat):Sp:=go T.c
 where go:List (Nat×Sp)->Sp
  |[]=>sp0
  |x::r=>bif Nat.beq x.1 f then x.2 else go r
def Dc.atW (T:Dc)(f n0:Nat):Sp:=go T.w
 where go:List (Nat×Nat×Sp)->Sp
  |[]=>sp0
  |x::r=>bif Nat.beq x.1 f&&Nat.beq x.2.1 n0 then x.2.2 else go r
def wB.av : wB->AV
 | .rows _ rs=>.sl rs false
 | .kN _ _ rs=>.sl rs false
 |_=>.sl [] true
def avB (l:List (Nat×wB)):List AV:=l.map fun x=>x.2.av
def SB.sv : SB->SV
 | .rows _ rs=>.slc rs false
 | .kN _ _ rs=>.slc rs false
 | .fK _ t=>.sc .sl t
 |_=>.nil
def Sv (bl:List (Nat×SB)):List SV:=bl.map fun x=>x.2.sv
theorem GZ {ρ:List AV}:∀{bl:List (Nat×SB)},dU ρ (Sv bl)=avB (Iz ρ bl)
 |[]=>rfl
 |x::r=>by
  have ih:=GZ (ρ:=ρ) (bl:=r)
  simp only [Sv,avB,Iz,List.map_cons,dU,List.cons.injEq] at ih ⊢
  refine ⟨?_,by simpa using ih⟩
  cases x.2<;>rfl
def CT (P:Program)(T:Dc)(f:FuncId)(az:List AV)(r:AV):Prop:=
 oq az (T.at f).pre->PC P f az r/\(oq az (T.at f).bnd->oq (az++[r]) (T.at f).post)
def CTo (P:Program)(T:Dc)(f:FuncId)(az:List AV)(r:AV)(p:List Nat)(sz:Nat):Prop:=
 oq az (T.at f).pre->PCo P f az r p sz/\(oq az (T.at f).bnd->oq (az++[r]) (T.at f).post)
def CTw (P:Program)(T:Dc)(f:FuncId)(az:List AV)(bin:List (Nat×wB))(n0:Nat)(r:AV)(Nv:List (Nat×wB)):Prop:=
 oq (az++avB bin) (T.atW f n0).pre->PWL P f az bin n0 r Nv/\(oq (az++avB bin) (T.atW f n0).bnd->oq (az++avB bin++(r::avB Nv)) (T.atW f n0).post)
def spS (T:Dc):Side->Option (Sp×List SV×List SV)
 | .call f args r=>some (T.at f,args,args++[r])
 | .Px f args r _ _ _=>some (T.at f,args,args++[r])
 | .qp f args bl n0 r JW=>some (T.atW f n0,args++Sv bl,args++Sv bl++(r::Sv JW))
 |_=>none
def sbL (l:List SV):List Tm->Option (List Tm)
 |[]=>some []
 |t::r=>match ku 0 l .B t with
  |none=>none
  |some t'=>match sbL l r with|none=>none|some r'=>some (t'::r')
theorem OX {ρ:List AV}{l:List SV}:∀{ts us:List Tm},sbL l ts=some us->(oq ρ us↔oq (dU ρ l) ts)
 |[],us,h=>by simp only [sbL,Option.some.injEq] at h;subst h;exact Iff.rfl
 |t::r,us,h=>by
  simp only [sbL] at h
  split at h
  .cases h
  rename_i t' ht
  split at h
  .cases h
  rename_i r' hr
  simp only [Option.some.injEq] at h;subst h
  have h1:=GY (ρ:=ρ) (Nat.zero_le _) ht
  simp only [Jg,List.take_zero,List.nil_append] at h1
  exact and_congr (by rw [h1]) (OX hr)
 mutual
def osV : SV->Option (Nat×Tm)
  | .os b _ _ t=>some (b,t)
  | .agg l=>osL l
  | .fn _ x y=>match osL x with|some z=>some z|none=>osL y
  |_=>none
def osL : List SV->Option (Nat×Tm)
  |[]=>none
  |x::r=>match osV x with|some z=>some z|none=>osL r
end
def blT (b:Nat):List (Nat×SB)->Option Tm
 |[]=>none
 |x::r=>bif Nat.beq x.1 b then (match x.2 with | .fK _ t=>some t|_=>none) else blT b r
def osT (args:List SV)(bl:List (Nat×SB)):Tm×Tm:=match osL args with
 |some (b,t)=>match blT b bl with|some t'=>(t,t')|none=>(.li 0,.nl)
 |none=>(.li 0,.nl)
def Side.osE : Side->List Tm
 | .qp _ args bl _ _ _=>match osL args with
  |some _=>[tEq (osT args bl).1 (.rlen (osT args bl).2)]
  |none=>[]
 |_=>[]
theorem oq.app {ρ:List AV}:∀{a b:List Tm},oq ρ (a++b)->oq ρ a/\oq ρ b
 |[],b,h=>⟨trivial,h⟩
 |x::r,b,h=>⟨⟨h.1,(oq.app h.2).1⟩,(oq.app h.2).2⟩
def Side.wk (P:Program)(T:Dc)(ρ:List AV):Side->Prop
 | .under pc s=>Pc.holds ρ pc->s.wk P T ρ
 | .call f args r=>CT P T f (dU ρ args) (r.den ρ)
 | .Px f args r p sz fl=>CTo P T f (dU ρ args) (r.den ρ) p sz/\(fl=true->∀row∈EI p (r.den ρ),Bv row=true)
 | .qp f args bl n0 r JW=>oq ρ (Side.osE (.qp f args bl n0 r JW))->CTw P T f (dU ρ args) (Iz ρ bl) n0 (r.den ρ) (Iz ρ JW)
 |s=>oq ρ s.cnd->s.holds P ρ
def ZX (T:Dc)(s:Side):Option (List Tm):=match spS T s with
 |some (sp,l,_)=>match sp.pre with
  |[]=>some s.osE
  |p=>match sbL l p with|some q=>some (q++s.osE)|none=>none
 |none=>some s.cnd
def FU (F:Pc)(l:List Tm):Bool:=l.all (aDO 2 F)||aEk F
theorem G5 {ρ:List AV}{F:Pc}{l:List Tm}(h:FU F l=true)(hF:F.holds ρ):oq ρ l:=by
 unfold FU at h
 rw [Bool.or_eq_true,List.all_eq_true] at h
 rcases h with h|h
 .exact oq.of fun t ht=>BK (h t ht) hF
 .exact (akr h hF).elim
theorem uh {ρ:List AV}{a b:Pc}(h:Pc.holds ρ a)(k:Pc.holds ρ b):Pc.holds ρ (a++b):=fun x hx=>by
 rcases List.mem_append.1 hx with hx|hx
 .exact h x hx
 .exact k x hx
theorem ait {ρ:List AV}{a b:Pc}(h:Pc.holds ρ (a++b)):Pc.holds ρ a:=fun x hx=>h x (List.mem_append.2 (.inl hx))
theorem aiu {ρ:List AV}{a b:Pc}(h:Pc.holds ρ (a++b)):Pc.holds ρ b:=fun x hx=>h x (List.mem_append.2 (.inr hx))
def AO (ρ:List AV):List (Pc×Tm)->Prop
 |[]=>True
 |x::r=>(Pc.holds ρ x.1->(x.2.den ρ).B=true)/\AO ρ r
theorem AO.app {ρ:List AV}:∀{a b:List (Pc×Tm)},AO ρ a->AO ρ b->AO ρ (a++b)
 |[],_,_,h=>h
 |_::_,_,h,k=>⟨h.1,AO.app h.2 k⟩
def agB (pc:Pc)(t:Tm):Option Bool:=match pc.known t with
 |some b=>some b
 |none=>match t with
  | .bin .eql k x y=>match k with
   | .int k=>(match pc.known (.bin .neq (.int k) x y) with|some b=>some (!b)|none=>none)
   |_=>none
  | .bin .neq k x y=>match k with
   | .int k=>(match pc.known (.bin .eql (.int k) x y) with|some b=>some (!b)|none=>none)
   |_=>none
  |_=>none
theorem akt {ρ:List AV}{pc:Pc}(hp:pc.holds ρ){t:Tm}{b:Bool}(h:agB pc t=some b):(t.den ρ).B=b:=by
 unfold agB at h
 split at h
 .rename_i v hv
  simp only [Option.some.injEq] at h;subst h
  exact Pc.gQ hp hv
 .split at h
  .split at h
   .split at h
    .rename_i v hv
     simp only [Option.some.injEq] at h;subst h
     have:=Pc.gQ hp hv
     rw [<- this]
     simp [Tm.den,qJ,D.B,dZ,jC,bne]
    .cases h
   .cases h
  .split at h
   .split at h
    .rename_i v hv
     simp only [Option.some.injEq] at h;subst h
     have:=Pc.gQ hp hv
     rw [<- this]
     simp [Tm.den,qJ,D.B,dZ,jC,bne]
    .cases h
   .cases h
  .cases h
def Qj (pc:Pc)(l:Pc):Bool:=l.all fun e=>match agB pc e.1 with|some b=>b == e.2|none=>false
theorem adM {ρ:List AV}{pc l:Pc}(h:Qj pc l=true)(hp:pc.holds ρ):Pc.holds ρ l:=by
 unfold Qj at h
 rw [List.all_eq_true] at h
 intro e he
 have:=h e he
 split at this
 .rename_i b hb
  rw [akt hp hb];simpa using this
 .cases this
def xsF (pc:Pc):List (Pc×Tm)->Pc
 |[]=>[]
 |x::r=>bif Qj pc x.1 then (x.2,true)::xsF pc r else xsF pc r
theorem agC {ρ:List AV}{pc:Pc}(hp:pc.holds ρ):∀{xs:List (Pc×Tm)},AO ρ xs->Pc.holds ρ (xsF pc xs)
 |[],_=>fun x hx=>by cases hx
 |x::r,h=>by
  simp only [xsF]
  cases hk:Qj pc x.1
  .exact agC hp h.2
  .exact Pc.jy (h.1 (adM hk hp)) (agC hp h.2)
def agD : Tm->Bool->Pc->Pc
 | .and x y,true,acc=>agD x true (agD y true acc)
 | .or x y,false,acc=>agD x false (agD y false acc)
 | .not x,b,acc=>agD x (!b) acc
 |t,b,acc=>(t,b)::acc
theorem aqN {ρ:List AV}:∀{t:Tm} {b:Bool} {acc:Pc},(t.den ρ).B=b->Pc.holds ρ acc->Pc.holds ρ (agD t b acc):=by
 intro t
 induction t with
 |and x y sU ihy=>
  intro b acc h k
  cases b with
  |false=>exact Pc.jy h k
  |true=>
   have h2:((x.den ρ).B&&(y.den ρ).B)=true:=h
   rw [Bool.and_eq_true] at h2
   exact sU h2.1 (ihy h2.2 k)
 |or x y sU ihy=>
  intro b acc h k
  cases b with
  |true=>exact Pc.jy h k
  |false=>
   have h2:((x.den ρ).B||(y.den ρ).B)=false:=h
   rw [Bool.or_eq_false_iff] at h2
   exact sU h2.1 (ihy h2.2 k)
 |not x ih=>
  intro b acc h k
  have h2:(!(x.den ρ).B)=b:=h
  exact ih (by rw [<- h2,Bool.not_not]) k
 |_=>intro b acc h k;exact Pc.jy h k
def aER : Pc->Pc
 |[]=>[]
 |x::r=>agD x.1 x.2 (aER r)
theorem aiv {ρ:List AV}:∀{pc:Pc},Pc.holds ρ pc->Pc.holds ρ (aER pc)
 |[],h=>h
 |x::r,h=>aqN (h x (List.mem_cons_self ..)) (aiv fun y hy=>h y (List.mem_cons_of_mem _ hy))
def aDH (F:Pc)(xs:List (Pc×Tm))(pc:Pc):Pc:=pc++(xsF (aER pc++F) xs++F)
theorem yY {ρ:List AV}{F:Pc}{xs:List (Pc×Tm)}{pc:Pc}(hF:Pc.holds ρ F)(hx:AO ρ xs)(hp:Pc.holds ρ pc):Pc.holds ρ (aDH F xs pc):=
 uh hp (uh (agC (uh (aiv hp) hF) hx) hF)
def anB (F:Pc)(T:Dc)(xs:List (Pc×Tm)):Pc->Side->Bool
 |pc,.under pc' s=>anB F T xs (pc'++pc) s
 |pc,s=>match ZX T s with
  |none=>false
  |some []=>true
  |some l=>FU (aDH F xs pc) l
def mkX (pc:Pc):Tm->Pc×Tm
 | .or c d=>((c,false)::pc,d)
 |t=>(pc,t)
theorem auS {ρ:List AV}{pc:Pc}{t:Tm}(h:Pc.holds ρ pc->(t.den ρ).B=true):Pc.holds ρ (mkX pc t).1->((mkX pc t).2.den ρ).B=true:=by
 cases t<;>try exact h
 rename_i c d
 intro hp
 have h1:((c.den ρ).B||(d.den ρ).B)=true:=h fun x hx=>hp x (List.mem_cons_of_mem _ hx)
 have h2:(c.den ρ).B=false:=hp (c,false) (List.mem_cons_self ..)
 rw [Bool.or_eq_true] at h1
 rcases h1 with h1|h1
 .rw [h1] at h2;cases h2
 .exact h1
def auT : Side->List (Pc×Tm)
 | .st t _ _ _ n=>[([],tEq (.rlen n) (.rlen t))]
 | .mk len _ _ n=>[([],tEq (.rlen n) len)]
 | .app _ x y n=>[([],tEq (.rlen n) (aqJ (.rlen x) (aqK y.length)))]
 | .ajr _ x y n=>[([],tEq (.rlen n) (aqJ (.rlen x) (.rlen y)))]
 | .ajs _ x y n=>[([],tEq (.rlen n) (aqJ (.rlen y) (aqK x.length)))]
 | .cpy x _ _ n=>[([],tEq (.rlen n) (.rlen x))]
 | .mark _ _ d _ n=>[([],tEq (.rlen n) (.rlen d))]
 | .sub _ t lo hi n=>match lo,hi with
  |none,none=>[([],tEq (.rlen n) (.rlen t))]
  |none,some h=>[([],tEq (.rlen n) h)]
  |some l,none=>[([],JZ (.rlen n) (.rlen t)),([(JZ (.rlen t) (.li big),true)],tEq (.rlen n) (.bin .sub (.int .i64) (.rlen t) l))]
  |some l,some h=>[([],JZ (.rlen n) (.rlen t)),([(JZ (.rlen t) (.li big),true)],tEq (.rlen n) (.bin .sub (.int .i64) h l))]
 |_=>[]
def abt (pc:Pc):List (Pc×Tm)->List (Pc×Tm)
 |[]=>[]
 |x::r=>(x.1++pc,x.2)::abt pc r
theorem ZY {ρ:List AV}{pc:Pc}:∀{l xs:List (Pc×Tm)},(Pc.holds ρ pc->AO ρ l)->AO ρ xs->AO ρ (abt pc l++xs)
 |[],xs,_,h=>h
 |x::r,xs,h,k=>⟨fun hp=>(h (aiu hp)).1 (ait hp),ZY (fun hp=>(h hp).2) k⟩
def aqO (pc:Pc):List Tm->List (Pc×Tm)
 |[]=>[]
 |t::r=>mkX pc t::aqO pc r
theorem aiw {ρ:List AV}{pc:Pc}:∀{l:List Tm} {xs:List (Pc×Tm)},(Pc.holds ρ pc->oq ρ l)->AO ρ xs->AO ρ (aqO pc l++xs)
 |[],xs,_,h=>h
 |t::r,xs,h,k=>⟨auS fun hp=>(h hp).1,aiw (fun hp=>(h hp).2) k⟩
def NT (F:Pc)(T:Dc)(xs:List (Pc×Tm)):Pc->Side->List (Pc×Tm)
 |pc,.under pc' s=>NT F T xs (pc'++pc) s
 |pc,s=>match spS T s with
  |none=>abt pc (auT s)++xs
  |some (sp,l,l2)=>match sp.post with
   |[]=>xs
   |post=>match sbL l sp.bnd with
    |none=>xs
    |some b=>bif FU (aDH F xs pc) b then (match sbL l2 post with|some q=>aqO pc q++xs|none=>xs) else xs
def x9 (P:Program)(T:Dc)(ρ:List AV):List (Pc×Side)->Prop
 |[]=>True
 |x::r=>(Pc.holds ρ x.1->x.2.wk P T ρ)/\x9 P T ρ r
def adN (F:Pc)(T:Dc)(xs:List (Pc×Tm)):List (Pc×Side)->Bool
 |[]=>true
 |x::r=>anB F T xs x.1 x.2&&adN F T (NT F T xs x.1 x.2) r
def sdX (F:Pc)(T:Dc)(xs:List (Pc×Tm)):List (Pc×Side)->List (Pc×Tm)
 |[]=>xs
 |x::r=>sdX F T (NT F T xs x.1 x.2) r
theorem aqP {P:Program}{ρ:List AV}{s:Side}(h:s.holds P ρ):AO ρ (auT s):=by
 have eq:∀{a b:Tm},(a.den ρ).I=(b.den ρ).I->((tEq a b).den ρ).B=true:=fun h=>by
  show dZ _ _=true
  exact kP.2 h
 have rl:∀{t:Tm},((Tm.rlen t).den ρ).I=((t.den ρ).R.length:Int):=rfl
 have nat:∀{n:Nat},((aqK n).den ρ).I=(n:Int):=by intro n;unfold aqK;rw [yG];rfl
 have add:∀{a b:Tm},((aqJ a b).den ρ).I=dY .i64 (a.den ρ).I (b.den ρ).I:=rfl
 cases s<;>try exact trivial
 case st t i off cells n=>
  obtain ⟨row,-,-,h3⟩:=h
  exact ⟨fun _=>eq (by rw [rl,rl,h3];simp),trivial⟩
 case mk len cap z n=>
  obtain ⟨h1,-,-,h4⟩:=h
  exact ⟨fun _=>eq (by rw [rl,h4];simp;omega),trivial⟩
 case app sz x y n=>
  obtain ⟨-,h2,h3⟩:=h
  refine ⟨fun _=>eq ?_,trivial⟩
  rw [rl,h3,add,rl,nat,nG (by omega) (by omega)]
  simp [f_]
 case ajr sz x y n=>
  obtain ⟨-,-,h2,h3⟩:=h
  refine ⟨fun _=>eq ?_,trivial⟩
  rw [rl,h3,add,rl,rl,nG (by omega) (by omega)]
  simp
 case ajs sz x y n=>
  obtain ⟨h2,h3⟩:=h
  refine ⟨fun _=>eq ?_,trivial⟩
  rw [rl,h3,add,rl,nat,nG (by omega) (by omega)]
  simp [f_];omega
 case cpy x len y n=>
  obtain ⟨h1,h2⟩:=h
  refine ⟨fun _=>eq ?_,trivial⟩
  rw [rl,rl,h2]
  simp only [List.length_append,List.length_take,List.length_drop];omega
 case mark m t d len n=>
  obtain ⟨-,-,h3,-⟩:=h
  exact ⟨fun _=>eq (by rw [rl,rl,h3]),trivial⟩
 case sub sz t lo hi n=>
  obtain ⟨-,h1,h2,h3,h4⟩:=h
  have hl:=congrArg List.length h4
  rw [List.length_take,List.length_drop] at hl
  have aw_:Pc.holds ρ [(JZ (.rlen t) (.li big),true)]->((t.den ρ).R.length:Int)<=4294967296:=fun hp=>by
   have:=hp (_,true) (List.mem_cons_self ..)
   have q:mZ (t.den ρ).R<=big:=of_decide_eq_true this
   unfold mZ big at q;exact q
  have le:((JZ (.rlen n) (.rlen t)).den ρ).B=true:=by
   show decide (mZ (n.den ρ).R<=mZ (t.den ρ).R)=true
   exact decide_eq_true (by unfold mZ;omega)
  cases lo with
  |none=>
   cases hi with
   |none=>
    have e1:Zf ρ 0 none=0:=rfl
    have e2:Zf ρ (t.den ρ).R.length none=(t.den ρ).R.length:=rfl
    rw [e1,e2] at hl
    exact ⟨fun _=>eq (by rw [rl,rl];omega),trivial⟩
   |some b=>
    have e1:Zf ρ 0 none=0:=rfl
    have e2:Zf ρ (t.den ρ).R.length (some b)=(b.den ρ).I:=rfl
    rw [e1,e2] at hl;rw [e2] at h3;rw [e1,e2] at h2
    exact ⟨fun _=>eq (by rw [rl];omega),trivial⟩
  |some a=>
   have e1:Zf ρ 0 (some a)=(a.den ρ).I:=rfl
   rw [e1] at h1
   cases hi with
   |none=>
    have e2:Zf ρ (t.den ρ).R.length none=(t.den ρ).R.length:=rfl
    rw [e1,e2] at h2;rw [e1,e2] at hl
    refine ⟨fun _=>le,fun hp=>eq ?_,trivial⟩
    have hb:=aw_ hp
    show _=iq .i64 (mZ (t.den ρ).R) (a.den ρ).I
    unfold mZ
    rw [rl,uV (by omega) (by omega)]
    omega
   |some b=>
    have e2:Zf ρ (t.den ρ).R.length (some b)=(b.den ρ).I:=rfl
    rw [e1,e2] at h2;rw [e1,e2] at hl;rw [e2] at h3
    refine ⟨fun _=>le,fun hp=>eq ?_,trivial⟩
    have hb:=aw_ hp
    show _=iq .i64 (b.den ρ).I (a.den ρ).I
    rw [rl,uV (by omega) (by omega)]
    omega
theorem Nc {ρ:List AV}{a:List SV}{b:SV}:dU ρ (a++[b])=dU ρ a++[b.den ρ]:=by rw [mF];rfl
theorem aqQ {P:Program}{ρ:List AV}{F:Pc}{T:Dc}{xs:List (Pc×Tm)}(hF:Pc.holds ρ F)(hx:AO ρ xs):∀{s:Side} {pc:Pc},anB F T xs pc s=true->(Pc.holds ρ pc->s.wk P T ρ)->(Pc.holds ρ pc->s.holds P ρ)/\AO ρ (NT F T xs pc s):=by
 intro s
 have plain:∀{s:Side} {pc:Pc},(∀pc' s',s≠.under pc' s')->spS T s=none->(s.wk P T ρ↔(oq ρ s.cnd->s.holds P ρ))->anB F T xs pc s=true->(Pc.holds ρ pc->s.wk P T ρ)->(Pc.holds ρ pc->s.holds P ρ)/\AO ρ (NT F T xs pc s):=by
  intro s pc hu hs hwk h hw
  have hh:Pc.holds ρ pc->s.holds P ρ:=fun hp=>by
   refine hwk.1 (hw hp) ?_
   have h':(match ZX T s with|none=>false|some []=>true|some l=>FU (aDH F xs pc) l)=true:=by
    cases s<;>first|exact h|exact absurd rfl (hu _ _)
   unfold ZX at h'
   rw [hs] at h'
   dsimp only at h'
   split at h'
   .cases h'
   .rename_i e;simp only [Option.some.injEq] at e;rw [e];trivial
   .rename_i l _ e;simp only [Option.some.injEq] at e;rw [e];exact G5 h' (yY hF hx hp)
  have e:NT F T xs pc s=abt pc (auT s)++xs:=by
   cases s<;>first|exact absurd rfl (hu _ _)|(simp only [NT,hs])
  rw [e]
  exact ⟨hh,ZY (fun hp=>aqP (hh hp)) hx⟩
 have calls:∀{s:Side} {pc:Pc} {sp:Sp} {l l2:List SV} {A:Prop},spS T s=some (sp,l,l2)->(∀pc' s',s≠.under pc' s')->(s.wk P T ρ->oq ρ s.osE->oq (dU ρ l) sp.pre->s.holds P ρ/\(oq (dU ρ l) sp.bnd->oq (dU ρ l2) sp.post))->anB F T xs pc s=true->(Pc.holds ρ pc->s.wk P T ρ)->(Pc.holds ρ pc->s.holds P ρ)/\AO ρ (NT F T xs pc s):=by
  intro s pc sp l l2 A hs hu hwk h hw
  have hpre:Pc.holds ρ pc->oq ρ s.osE/\oq (dU ρ l) sp.pre:=fun hp=>by
   have h':(match ZX T s with|none=>false|some []=>true|some l=>FU (aDH F xs pc) l)=true:=by
    cases s<;>first|exact h|exact absurd rfl (hu _ _)
   have h2:∃l',ZX T s=some l'/\oq ρ l':=by
    split at h'
    .cases h'
    .rename_i e;exact ⟨_,e,trivial⟩
    .rename_i l' _ e;exact ⟨_,e,G5 h' (yY hF hx hp)⟩
   obtain ⟨l',e,hl'⟩:=h2
   unfold ZX at e
   rw [hs] at e
   dsimp only at e
   split at e
   .rename_i ep
    simp only [Option.some.injEq] at e;subst e
    rw [ep];exact ⟨hl',trivial⟩
   .split at e
    .rename_i q hq
     simp only [Option.some.injEq] at e;subst e
     exact ⟨(oq.app hl').2,(OX hq).1 (oq.app hl').1⟩
    .cases e
  refine ⟨fun hp=>(hwk (hw hp) (hpre hp).1 (hpre hp).2).1,?_⟩
  have e:NT F T xs pc s=(match sp.post with
   |[]=>xs
   |post=>match sbL l sp.bnd with
    |none=>xs
    |some b=>bif FU (aDH F xs pc) b then (match sbL l2 post with|some q=>aqO pc q++xs|none=>xs) else xs):=by
   cases s<;>first|exact absurd rfl (hu _ _)|(simp only [NT,hs])
  rw [e]
  split
  .exact hx
  .split
   .exact hx
   .rename_i b hb
    cases hpv:FU (aDH F xs pc) b
    .exact hx
    .simp only [cond_true]
     split
     .rename_i q hq
      refine aiw (fun hp=>?_) hx
      have h1:=(OX hb).1 (G5 hpv (yY hF hx hp))
      exact (OX hq).2 ((hwk (hw hp) (hpre hp).1 (hpre hp).2).2 h1)
     .exact hx
 induction s with
 |under pc' s ih=>
  intro pc h hw
  obtain ⟨h1,h2⟩:=ih (pc:=pc'++pc) h (fun hp=>hw (aiu hp) (ait hp))
  exact ⟨fun hp hp'=>h1 (uh hp' hp),h2⟩
 |call f args r=>
  intro pc h hw
  refine calls (A:=True) rfl (by intro _ _ e;cases e) (fun hk _ hp=>?_) h hw
  have:=hk hp
  exact ⟨this.1,fun hb=>by rw [Nc];exact this.2 hb⟩
 |Px f args r p sz fl=>
  intro pc h hw
  refine calls (A:=True) rfl (by intro _ _ e;cases e) (fun hk _ hp=>?_) h hw
  have:=hk.1 hp
  exact ⟨⟨this.1,hk.2⟩,fun hb=>by rw [Nc];exact this.2 hb⟩
 |qp f args bl n0 r JW=>
  intro pc h hw
  refine calls (A:=True) rfl (by intro _ _ e;cases e) (fun hk ho hp=>?_) h hw
  rw [mF,GZ] at hp
  have:=hk ho hp
  refine ⟨this.1,fun hb=>?_⟩
  rw [mF,GZ] at hb
  have q:=this.2 hb
  rw [mF,mF,GZ]
  show oq (_++(r.den ρ::dU ρ (Sv JW))) _
  rw [GZ];exact q
 |_=>intro pc h hw;exact plain (by intro _ _ e;cases e) rfl Iff.rfl h hw
theorem Xh {P:Program}{ρ:List AV}{F:Pc}{T:Dc}(hF:Pc.holds ρ F):∀{sd:List (Pc×Side)} {xs:List (Pc×Tm)},AO ρ xs->adN F T xs sd=true->x9 P T ρ sd->xw P ρ sd/\AO ρ (sdX F T xs sd)
 |[],xs,hx,_,_=>⟨trivial,hx⟩
 |x::r,xs,hx,h,hw=>by
  simp only [adN,Bool.and_eq_true] at h
  obtain ⟨h1,h2⟩:=aqQ hF hx h.1 hw.1
  obtain ⟨h3,h4⟩:=Xh hF h2 h.2 hw.2
  exact ⟨⟨h1,h3⟩,h4⟩
inductive LH where
 |mk (inv:List Tm) (mt:Tm) (ft:List (Tm×Int)) (xs:List (Pc×Tm)) (at':Nat) (sub:List LH) (post:List (List Tm))
def LH.inv : LH->List Tm | .mk a _ _ _ _ _ _=>a
def LH.mt : LH->Tm | .mk _ a _ _ _ _ _=>a
def Tm.Qk : Tm->Bool | .nl=>true|_=>false
def LH.ft : LH->List (Tm×Int) | .mk _ _ a _ _ _ _=>a
def LH.xs : LH->List (Pc×Tm) | .mk _ _ _ a _ _ _=>a
def LH.at' : LH->Nat | .mk _ _ _ _ a _ _=>a
def LH.sub : LH->List LH | .mk _ _ _ _ _ a _=>a
def LH.post : LH->List (List Tm) | .mk _ _ _ _ _ _ a=>a
def xC : LH:=.mk [] (.li 0) [] [] 0 [] []
def hdH : List LH->LH | []=>xC|x::_=>x
def tlH : List LH->List LH | []=>[]|_::r=>r
def ftV (ρ:List AV):List (Tm×Int)->Int
 |[]=>0
 |x::r=>x.2*(x.1.den ρ).I+ftV ρ r
def ftL (ks:Pc):List (Tm×Int)->List Tm->List LF->LR
 |[],az,fs=>⟨az,fs,[]⟩
 |x::r,az,fs=>match lin ks x.1 az fs with
  |⟨as1,fs1,f1⟩=>match ftL ks r as1 fs1 with
   |⟨as2,fs2,f2⟩=>⟨as2,fs2,Nz (U0 x.2 f1) f2⟩
theorem anC {ρ:List AV}{ks:Pc}(hk:ks.holds ρ):∀{l:List (Tm×Int)} {az:List Tm} {fs:List LF},Cc ρ az fs->Sj ρ az (ftL ks l az fs) (ftV ρ l)
 |[],az,fs,h=>⟨List.prefix_refl _,h,fun bs hb=>rfl⟩
 |x::r,az,fs,h=>by
  obtain ⟨a1,a2,a3⟩:=Sl hk (t:=x.1) h
  obtain ⟨b1,b2,b3⟩:=anC hk (l:=r) (az:=(lin ks x.1 az fs).az) (fs:=(lin ks x.1 az fs).fs) a2
  exact ⟨a1.trans b1,b2,(a3.mono b1).U0.add b3⟩
def anD (F:Pc)(s:AS)(mt:Tm)(ft:List (Tm×Int)):Bool:=
 match s with
 |⟨az,fs⟩=>match lin F mt az fs with
  |⟨as1,fs1,f1⟩=>match ftL F ft as1 fs1 with
   |⟨_,fs2,f2⟩=>LC fs2 (Go.Fw.qV f2 f1)
theorem anE {ρ:List AV}{F:Pc}{mt:Tm}{ft:List (Tm×Int)}{s:AS}(h0:Yn ρ s)(h:anD F s mt ft=true)(hF:F.holds ρ):(mt.den ρ).I<=ftV ρ ft:=by
 unfold anD at h
 obtain ⟨a1,a2,a3⟩:=Sl hF (t:=mt) h0
 obtain ⟨b1,b2,b3⟩:=anC hF (l:=ft) a2
 have q:=GX b2 h _ (List.prefix_refl _)
 rw [lT,(a3.mono b1) _ (List.prefix_refl _),b3 _ (List.prefix_refl _)] at q
 omega
def anF (F:Pc)(mt:Tm)(ft:List (Tm×Int)):Bool:=anD F (asF F) mt ft
def anG : Nat->Pc->Tm->List (Tm×Int)->Bool
 |0,F,mt,ft=>anF F mt ft
 |n+1,F,mt,ft=>anF F mt ft||(match Nb F ((mt,true)::F) with
  |none=>false
  |some c=>anG n ((c,true)::F) mt ft&&anG n ((c,false)::F) mt ft)
theorem adO {ρ:List AV}{F:Pc}{mt:Tm}{ft:List (Tm×Int)}(h:anF F mt ft=true)(hF:F.holds ρ):(mt.den ρ).I<=ftV ρ ft:=anE (abr hF) h hF
theorem abu {ρ:List AV}{mt:Tm}{ft:List (Tm×Int)}:∀{n:Nat} {F:Pc},anG n F mt ft=true->F.holds ρ->(mt.den ρ).I<=ftV ρ ft
 |0,F,h,hF=>adO h hF
 |n+1,F,h,hF=>by
  simp only [anG,Bool.or_eq_true] at h
  rcases h with h|h
  .exact adO h hF
  .split at h
   .cases h
   .rename_i c _
    rw [Bool.and_eq_true] at h
    cases hc:(c.den ρ).B
    .exact abu h.2 (Pc.jy hc hF)
    .exact abu h.1 (Pc.jy hc hF)
def Tm.ren (f:Nat->Nat):Tm->Tm
 | .var i p=>Rh (f i) fun j=>.var j p
 | .bin o k x y=>.bin o k (x.ren f) (y.ren f)
 | .and x y=>.and (x.ren f) (y.ren f)
 | .or x y=>.or (x.ren f) (y.ren f)
 | .byte x y=>.byte (x.ren f) (y.ren f)
 | .not x=>.not (x.ren f)
 | .neg k x=>.neg k (x.ren f)
 | .com k x=>.com k (x.ren f)
 | .conv k x=>.conv k (x.ren f)
 | .toF x=>.toF (x.ren f)
 | .UJ x=>.UJ (x.ren f)
 | .slen x=>.slen (x.ren f)
 | .rlen x=>.rlen (x.ren f)
 | .bts x=>.bts (x.ren f)
 | .sbs x=>.sbs (x.ren f)
 | .ite c x y=>.ite (c.ren f) (x.ren f) (y.ren f)
 | .Ef c x y=>.Ef (c.ren f) (x.ren f) (y.ren f)
 |t=>t
theorem Tm.aqR {f:Nat->Nat}{n:Nat}{ρ σ:List AV}(h:∀i,i<n->ρ.getD (f i) eP=σ.getD i eP):∀{t:Tm},t.lt n=true->(t.ren f).den ρ=t.den σ:=by
 intro t
 induction t with
 |lb|li|lf|ls|nl=>intro _;rfl
 |var i p=>intro hl;simp only [Tm.ren,yG,Tm.den];rw [h i (Nat.le_of_ble_eq_true hl)]
 |bin o k x y sU ihy=>intro hl;simp only [Tm.lt,Bool.and_eq_true] at hl;simp only [Tm.ren,Tm.den,sU hl.1,ihy hl.2]
 |and x y sU ihy=>intro hl;simp only [Tm.lt,Bool.and_eq_true] at hl;simp only [Tm.ren,Tm.den,sU hl.1,ihy hl.2]
 |or x y sU ihy=>intro hl;simp only [Tm.lt,Bool.and_eq_true] at hl;simp only [Tm.ren,Tm.den,sU hl.1,ihy hl.2]
 |byte x y sU ihy=>intro hl;simp only [Tm.lt,Bool.and_eq_true] at hl;simp only [Tm.ren,Tm.den,sU hl.1,ihy hl.2]
 |ite c x y ihc sU ihy=>intro hl;simp only [Tm.lt,Bool.and_eq_true] at hl;simp only [Tm.ren,Tm.den,ihc hl.1,sU hl.2.1,ihy hl.2.2]
 |Ef c x y ihc sU ihy=>intro hl;simp only [Tm.lt,Bool.and_eq_true] at hl;simp only [Tm.ren,Tm.den,ihc hl.1,sU hl.2.1,ihy hl.2.2]
 |not x ih=>intro hl;simp only [Tm.ren,Tm.den,ih hl]
 |neg k x ih=>intro hl;simp only [Tm.ren,Tm.den,ih hl]
 |com k x ih=>intro hl;simp only [Tm.ren,Tm.den,ih hl]
 |conv k x ih=>intro hl;simp only [Tm.ren,Tm.den,ih hl]
 |toF x ih=>intro hl;simp only [Tm.ren,Tm.den,ih hl]
 |UJ x ih=>intro hl;simp only [Tm.ren,Tm.den,ih hl]
 |slen x ih=>intro hl;simp only [Tm.ren,Tm.den,ih hl]
 |rlen x ih=>intro hl;simp only [Tm.ren,Tm.den,ih hl]
 |bts x ih=>intro hl;simp only [Tm.ren,Tm.den,ih hl]
 |sbs x ih=>intro hl;simp only [Tm.ren,Tm.den,ih hl]
def shf (base pos i:Nat):Nat:=bif Nat.blt i base then i else i-base+pos
def Ua (base:Nat)(pos n:Nat)(pc:Pc):List Tm->List (Pc×Tm)
 |[]=>[]
 |t::r=>bif t.lt (base+n) then (pc,t.ren (shf base pos))::Ua base pos n pc r else Ua base pos n pc r
def abv : List (List Tm)->Nat->List Tm
 |[],_=>[]
 |x::_,0=>x
 |_::r,k+1=>abv r k
def aqS (base:Nat)(ms:List Nat)(k:Nat):Pc:=match ms with
 |[_,_]=>match k with
  |0=>[(.bin .eql (.int .i64) (.var base []) (.li 0),true)]
  |_=>[(.bin .eql (.int .i64) (.var base []) (.li 0),false)]
 |_=>[]
def bnF : List Tm->Pc
 |[]=>[]
 |t::r=>(JZ (.rlen t) (.li big),true)::bnF r
theorem anH {ρ:List AV}:∀{bn:List Tm},(∀t∈bn,(t.den ρ).R.length<=4294967296)->Pc.holds ρ (bnF bn)
 |[],_=>fun x hx=>by cases hx
 |t::r,h=>Pc.jy (by
  have:=h t (List.mem_cons_self ..)
  show decide (mZ (t.den ρ).R<=big)=true
  exact decide_eq_true (by unfold mZ big;omega)) (anH fun x hx=>h x (List.mem_cons_of_mem _ hx))
def adP (outs:List (Tm×Nat×List SV))(ms:List Nat):Bool:=outs.all fun o=>match o.2.1 with
 |0=>true
 |k+1=>Nat.ble (k+1) ms.length&&Nat.ble (ms.getD k 0) o.2.2.length
def bnC (F:Pc)(xs:List (Pc×Tm))(pc:Pc)(bn:List Tm):Pc:=
 bif (let F':=aDH F xs pc;bn.all fun t=>aDO 1 F' (JZ (.rlen t) (.li big))) then pc else bnF bn++pc
def aix (F:Pc)(xs:List (Pc×Tm)):Lo->LH->List (Pc×Tm)
 | .mk pc base _ _ outs _ _ ms bn,h=>match h.post with
  |[]=>xs
  |p=>bif adP outs ms then match ms with
    |[n]=>let c:=bnC F xs pc bn;Ua base (aDJ base ms 0) n (aqS base ms 0++c) (abv p 0)++xs
    |[n,n']=>let c:=bnC F xs pc bn;Ua base (aDJ base ms 0) n (aqS base ms 0++c) (abv p 0)++(Ua base (aDJ base ms 1) n' (aqS base ms 1++c) (abv p 1)++xs)
    |_=>xs
   else xs
def anI (e:Bool)(S:List AV->Prop)(outs:List (Tm×Nat×List SV))(ρ0:List AV)(m:Nat):Nat->List AV->Nat->List AV->Prop
 |0,_,_,_=>e=false
 |n+1,vs,k,us=>∃cs,vs.length=m/\iW (ρ0++vs++cs)=true/\S (ρ0++vs++cs)/\
  match Ei (ρ0++vs++cs) outs with
  |none=>False
  |some (0,l)=>anI e S outs ρ0 m n (dU (ρ0++vs++cs) l) k us
  |some (j+1,l)=>k=j/\us=dU (ρ0++vs++cs) l
 mutual
def Lo.wk (P:Program)(T:Dc):Lo->LH->List AV->Prop
  | .mk pc base m entry outs sd aw ms bn,h=>fun ρ=>Pc.holds ρ pc->(∀t∈bn,(t.den ρ).R.length<=4294967296)->base<=ρ.length/\∃(n k:Nat) (us:List AV),(0<n/\ftV ρ h.ft<(n:Int))/\
   anI h.mt.Qk (fun σ=>AO σ h.xs/\x9 P T σ sd/\U2 P T aw h.sub σ) outs (ρ.take base) m n (dU ρ entry) k us/\amG ρ base ms k us
def U2 (P:Program)(T:Dc):List Lo->List LH->List AV->Prop
  |[],_=>fun _=>True
  |x::r,hs=>fun σ=>x.wk P T (hdH hs) σ/\U2 P T r (tlH hs) σ
end
def anJ (base:Nat)(l:List SV)(F:Pc)(t:Tm):Bool:=match ku base l .B t with
 |some t'=>aDO 2 F t'
 |none=>false
theorem anK {ρ:List AV}{base:Nat}{l:List SV}(hb:base<=ρ.length){F:Pc}{t:Tm}(h:anJ base l F t=true)(hF:Pc.holds ρ F):(t.den (ρ.take base++dU ρ l)).B=true:=by
 unfold anJ at h
 split at h
 .rename_i t' ht
  have h1:=BK h hF
  have h2:=GY hb ht
  simp only [Jg] at h2
  rw [<- h2];exact h1
 .cases h
def agE (F:Pc)(xs:List (Pc×Tm))(q:List Tm)(Q:Pc):Nat->Pc->Bool
 |0,G=>FU (aDH F xs G) q
 |n+1,G=>match Nb (aDH F xs G) Q with
  |none=>FU (aDH F xs G) q
  |some c=>agE F xs q Q n (jK c true G)&&agE F xs q Q n (jK c false G)
theorem Ql {ρ:List AV}{F:Pc}{xs:List (Pc×Tm)}{q:List Tm}{Q:Pc}(hF:Pc.holds ρ F)(hx:AO ρ xs):∀{n:Nat} {G:Pc},agE F xs q Q n G=true->Pc.holds ρ G->oq ρ q
 |0,G,h,hG=>G5 h (yY hF hx hG)
 |n+1,G,h,hG=>by
  simp only [agE] at h
  split at h
  .exact G5 h (yY hF hx hG)
  .rename_i c _
   rw [Bool.and_eq_true] at h
   cases hc:(c.den ρ).B
   .exact Ql hF hx h.2 (gq hc hG)
   .exact Ql hF hx h.1 (gq hc hG)
def auV (F:Pc)(xs:List (Pc×Tm))(t:Tm)(G:Pc):Bool:=match Nb (aDH F xs G) [(t,true)] with
 |none=>false
 |some c=>agE F xs [t] [(t,true)] 3 (akq (jK c true G))&&agE F xs [t] [(t,true)] 3 (akq (jK c false G))
theorem aqT {ρ:List AV}{F:Pc}{xs:List (Pc×Tm)}{t:Tm}{G:Pc}(hF:Pc.holds ρ F)(hx:AO ρ xs)(h:auV F xs t G=true)(hG:Pc.holds ρ G):(t.den ρ).B=true:=by
 unfold auV at h
 split at h
 .cases h
 .rename_i c _
  rw [Bool.and_eq_true] at h
  cases hc:(c.den ρ).B
  .exact (Ql hF hx h.2 (Qi (gq hc hG))).1
  .exact (Ql hF hx h.1 (Qi (gq hc hG))).1
def aqU (base:Nat)(l:List SV)(F:Pc)(xs:List (Pc×Tm))(G:Pc)(t:Tm):Bool:=match ku base l .B t with
 |some t'=>aDO 2 (aDH F xs G) t'||auV F xs t' G
 |none=>false
theorem aiy {ρ:List AV}{base:Nat}{l:List SV}(hb:base<=ρ.length){F:Pc}{xs:List (Pc×Tm)}{G:Pc}{t:Tm}(hF:Pc.holds ρ F)(hx:AO ρ xs)(h:aqU base l F xs G t=true)(hG:Pc.holds ρ G):(t.den (ρ.take base++dU ρ l)).B=true:=by
 unfold aqU at h
 split at h
 .rename_i t' ht
  have h2:=GY hb ht
  simp only [Jg] at h2
  rw [<- h2]
  rw [Bool.or_eq_true] at h
  rcases h with h|h
  .exact BK h (yY hF hx hG)
  .exact aqT hF hx h hG
 .cases h
def adQ (base:Nat)(inv:List Tm)(mt:Tm)(post:List (List Tm))(F:Pc)(xs:List (Pc×Tm))(G:Pc)(k:Nat)(l:List SV):Bool:=
 match k with
 |0=>
  let F':=aDH F xs G
  inv.all (aqU base l F xs G)&&(mt.Qk||(aDO 2 F' (JZ (.li 1) mt)&&(match ku base l .I mt with|some mt'=>aDO 2 F' (tLt mt' mt)|none=>false)))
 |k+1=>match abv post k with
  |[]=>true
  |p=>p.all (aqU base l F xs G)
def aku (base:Nat)(inv:List Tm)(mt:Tm)(post:List (List Tm))(F:Pc)(xs:List (Pc×Tm)):Pc->List (Tm×Nat×List SV)->Bool
 |_,[]=>true
 |G,[o]=>adQ base inv mt post F xs G o.2.1 o.2.2
 |G,o::o'::r=>adQ base inv mt post F xs (jK o.1 true G) o.2.1 o.2.2&&aku base inv mt post F xs (jK o.1 false G) (o'::r)
def aiz (base:Nat)(inv:List Tm)(mt:Tm)(post:List (List Tm))(ρ:List AV)(k:Nat)(l:List SV):Prop:=match k with
 |0=>(∀t∈inv,(t.den (ρ.take base++dU ρ l)).B=true)/\(mt.Qk=true\/(1<=(mt.den ρ).I/\(mt.den (ρ.take base++dU ρ l)).I<(mt.den ρ).I))
 |k+1=>∀t∈abv post k,(t.den (ρ.take base++dU ρ l)).B=true
theorem adR {ρ:List AV}{base:Nat}{inv:List Tm}{mt:Tm}{post:List (List Tm)}{F:Pc}{xs:List (Pc×Tm)}{G:Pc}{k:Nat}{l:List SV}(hb:base<=ρ.length)(h:adQ base inv mt post F xs G k l=true)(hF:Pc.holds ρ F)(hx:AO ρ xs)(hG:Pc.holds ρ G):aiz base inv mt post ρ k l:=by
 have hF':=yY hF hx hG
 cases k with
 |zero=>
  simp only [adQ,Bool.and_eq_true,Bool.or_eq_true] at h
  obtain ⟨h1,h23⟩:=h
  rw [List.all_eq_true] at h1
  refine ⟨fun t ht=>aiy hb hF hx (h1 t ht) hG,?_⟩
  rcases h23 with h23|⟨h2,h3⟩
  .exact .inl h23
  refine .inr ⟨?_,?_⟩
  .exact of_decide_eq_true (p:=(1:Int)<=(mt.den ρ).I) (BK h2 hF')
  .split at h3
   .rename_i mt' hm
    have q:=GY hb hm
    simp only [Jg] at q
    rw [<- q]
    exact of_decide_eq_true (p:=(mt'.den ρ).I<(mt.den ρ).I) (BK h3 hF')
   .cases h3
 |succ k=>
  simp only [adQ] at h
  intro t ht
  split at h
  .rename_i e;rw [e] at ht;cases ht
  .rw [List.all_eq_true] at h
   exact aiy hb hF hx (h t ht) hG
theorem abw {ρ:List AV}{base:Nat}{inv:List Tm}{mt:Tm}{post:List (List Tm)}{F:Pc}{xs:List (Pc×Tm)}(hb:base<=ρ.length)(hF:Pc.holds ρ F)(hx:AO ρ xs):∀{outs:List (Tm×Nat×List SV)} {G:Pc} {k:Nat} {l:List SV},aku base inv mt post F xs G outs=true->Pc.holds ρ G->Ei ρ outs=some (k,l)->aiz base inv mt post ρ k l
 |[],G,k,l,_,_,hs=>by simp [Ei] at hs
 |[o],G,k,l,h,hG,hs=>by
  simp only [Ei,Option.some.injEq] at hs
  simp only [aku,hs] at h
  exact adR hb h hF hx hG
 |o::o'::r,G,k,l,h,hG,hs=>by
  simp only [aku,Bool.and_eq_true] at h
  simp only [Ei] at hs
  cases hg:(o.1.den ρ).B
  .rw [hg] at hs
   exact abw hb hF hx h.2 (gq hg hG) hs
  .rw [hg] at hs
   simp only [cond_true,Option.some.injEq] at hs
   rw [hs] at h
   exact adR hb h.1 hF hx (gq hg hG)
def akv (n:Nat):Pc->Pc
 |[]=>[]
 |x::r=>bif x.1.lt n then x::akv n r else akv n r
theorem aiA {n:Nat}{ρ σ:List AV}(h:AgreeV n ρ σ):∀{pc:Pc},pc.holds ρ->(akv n pc).holds σ
 |[],_=>fun x hx=>by cases hx
 |x::r,hp=>by
  have ih:=aiA h (pc:=r) fun y hy=>hp y (List.mem_cons_of_mem _ hy)
  simp only [akv]
  cases hl:x.1.lt n
  .exact ih
  .exact Pc.jy (by rw [<- Tm.qP h hl];exact hp x (List.mem_cons_self ..)) ih
def ET (l:List Tm):Pc:=l.map fun t=>(t,true)
theorem Xi {ρ:List AV}{l:List Tm}(h:∀t∈l,(t.den ρ).B=true):Pc.holds ρ (ET l):=fun x hx=>by
 unfold ET at hx
 obtain ⟨t,ht,rfl⟩:=List.mem_map.1 hx
 exact h t ht
def akw (F:Pc)(T:Dc):List (Pc×Side)->Nat->List Lo->List LH->List (Pc×Tm)->List (Pc×Tm)
 |sd,_,[],_,xs=>sdX F T xs sd
 |sd,k,x::r,hs,xs=>akw F T (sd.drop ((hdH hs).at' - k)) (hdH hs).at' r (tlH hs) (aix F (sdX F T xs (sd.take ((hdH hs).at' - k))) x (hdH hs))
 mutual
def anL (F:Pc)(T:Dc)(xs:List (Pc×Tm)):Lo->LH->Bool
  | .mk pc base m entry outs sd aw ms bn,h=>
   let F0:=aDH (bnF bn++F) xs pc
   let Fr:=ET h.inv++akv base F0
   (h.mt.lt (base+m)&&h.inv.all fun t=>t.lt (base+m))&&((h.mt.Qk||match ku base entry .I h.mt with|some mt'=>anG 2 F0 mt' h.ft|none=>false)&&h.inv.all (anJ base entry F0)&&(akx Fr T sd 0 aw h.sub h.xs&&aku base h.inv h.mt h.post Fr (akw Fr T sd 0 aw h.sub h.xs) [] outs))
def akx (F:Pc)(T:Dc):List (Pc×Side)->Nat->List Lo->List LH->List (Pc×Tm)->Bool
  |sd,_,[],_,xs=>adN F T xs sd
  |sd,k,x::r,hs,xs=>
   let n:=(hdH hs).at' - k
   adN F T xs (sd.take n)&&(let xs1:=sdX F T xs (sd.take n);anL F T xs1 x (hdH hs)&&akx F T (sd.drop n) (hdH hs).at' r (tlH hs) (aix F xs1 x (hdH hs)))
end
theorem Z4 {n:Nat}{a b:List AV}(h:n<=a.length):AgreeV n a (a++b):=fun i hi=>by
 rw [List.getD_eq_getElem?_getD,List.getD_eq_getElem?_getD,List.getElem?_append_left (by omega)]
theorem anM {S' S:List AV->Prop}{outs:List (Tm×Nat×List SV)}{ρ0:List AV}{base m:Nat}{inv:List Tm}{mt:Tm}{post:List (List Tm)}{Fb:Pc}{xs:List (Pc×Tm)}(hl0:ρ0.length=base)
  (hlt:(mt.lt (base+m)&&inv.all fun t=>t.lt (base+m))=true)
  (hFb:∀σ,AgreeV base ρ0 σ->Pc.holds σ Fb)
  (hS:∀σ,Pc.holds σ (ET inv++Fb)->S' σ->S σ/\AO σ xs)
  (ho:aku base inv mt post (ET inv++Fb) xs [] outs=true):∀{n:Nat} {vs:List AV} {k:Nat} {us:List AV},(mt.Qk=true\/0<n)->(∀t∈inv,(t.den (ρ0++vs)).B=true)->(mt.Qk=true\/(mt.den (ρ0++vs)).I<(n:Int))->anI mt.Qk S' outs ρ0 m n vs k us->af9 S outs ρ0 m n vs k us/\∀t∈abv post k,(t.den (ρ0++us)).B=true
 |0,_,_,_,h0,_,_,hr=>by
  rcases h0 with h0|h0
  .have hr':mt.Qk=false:=hr
   rw [h0] at hr';cases hr'
  .exact absurd h0 (Nat.lt_irrefl _)
 |n+1,vs,k,us,_,hi,hm,hr=>by
  obtain ⟨cs,h1,h2,h3,h4⟩:=hr
  rw [Bool.and_eq_true,List.all_eq_true] at hlt
  have hag:AgreeV (base+m) (ρ0++vs) (ρ0++vs++cs):=Z4 (by rw [List.length_append];omega)
  have hF:Pc.holds (ρ0++vs++cs) (ET inv++Fb):=uh (Xi fun t ht=>by rw [<- Tm.qP hag (hlt.2 t ht)];exact hi t ht) (hFb _ (by rw [List.append_assoc];exact Z4 (by omega)))
  have hb:base<=(ρ0++vs++cs).length:=by simp only [List.length_append];omega
  have ht:(ρ0++vs++cs).take base=ρ0:=by rw [List.append_assoc,<- hl0,List.take_left]
  have hX:=hS _ hF h3
  split at h4
  .exact h4.elim
  .rename_i l hsel
   have q:=abw hb hF hX.2 ho (fun x hx=>by cases hx) hsel
   simp only [aiz] at q
   rw [ht] at q
   obtain ⟨q1,q23⟩:=q
   have hq:(mt.Qk=true\/0<n)/\(mt.Qk=true\/(mt.den (ρ0++dU (ρ0++vs++cs) l)).I<(n:Int)):=by
    rcases q23 with q|⟨q2,q3⟩
    .exact ⟨.inl q,.inl q⟩
    .rw [<- Tm.qP hag hlt.1] at q2 q3
     rcases hm with hm|hm
     .exact ⟨.inl hm,.inl hm⟩
     .exact ⟨.inr (by omega),.inr (by omega)⟩
   obtain ⟨z1,z2⟩:=anM hl0 (by rw [Bool.and_eq_true,List.all_eq_true];exact hlt) hFb hS ho hq.1 q1 hq.2 h4
   exact ⟨⟨cs,h1,h2,hX.1,by rw [hsel];exact z1⟩,z2⟩
  .rename_i j l hsel
   have q:=abw hb hF hX.2 ho (fun x hx=>by cases hx) hsel
   simp only [aiz] at q
   rw [ht] at q
   obtain ⟨rfl,rfl⟩:=h4
   exact ⟨⟨cs,h1,h2,hX.1,by rw [hsel];exact ⟨rfl,rfl⟩⟩,q⟩
theorem anN {ρ:List AV}{base pos n:Nat}{pc:Pc}{l:List Tm}(h:Pc.holds ρ pc->∀t:Tm,t.lt (base+n)=true->(t∈l->((t.ren (shf base pos)).den ρ).B=true)){xs:List (Pc×Tm)}(hx:AO ρ xs):AO ρ (Ua base pos n pc l++xs):=by
 induction l with
 |nil=>exact hx
 |cons t r ih=>
  simp only [Ua]
  have ih':=ih fun hp t' h1 h2=>h hp t' h1 (List.mem_cons_of_mem _ h2)
  cases hl:t.lt (base+n)
  .exact ih'
  .exact ⟨fun hp=>h hp t hl (List.mem_cons_self ..),ih'⟩
theorem auW {ρ us:List AV}{base pos:Nat}(hb:base<=ρ.length)(h:∀(i:Nat) (u:AV),us[i]?=some u->ρ.getD (pos+i) eP=u){n:Nat}(hn:n<=us.length){t:Tm}(hl:t.lt (base+n)=true):(t.ren (shf base pos)).den ρ=t.den (ρ.take base++us):=by
 refine Tm.aqR (n:=base+n) (fun i hi=>?_) hl
 unfold shf
 cases hlt:Nat.blt i base
 .have hi':¬i<base:=fun q=>by rw [show Nat.blt i base=true by rw [Nat.blt_eq];exact q] at hlt;cases hlt
  have hl':(ρ.take base).length=base:=by rw [List.length_take];omega
  simp only [cond_false]
  have:i-base<us.length:=by omega
  have e:=h (i-base) us[i-base] (by simp [this])
  rw [Nat.add_comm,e,List.getD_eq_getElem?_getD,List.getElem?_append_right (by omega),hl']
  simp [this]
 .rw [Nat.blt_eq] at hlt
  simp only [cond_true]
  exact (U1 hb hlt).symm
theorem adS {ρ:List AV}:∀{outs:List (Tm×Nat×List SV)} {x:Nat×List SV},Ei ρ outs=some x->∃o∈outs,o.2=x
 |[],_,h=>by simp [Ei] at h
 |[o],x,h=>by simp only [Ei,Option.some.injEq] at h;exact ⟨o,by simp,h⟩
 |o::o'::r,x,h=>by
  simp only [Ei] at h
  cases hg:(o.1.den ρ).B
  .rw [hg] at h
   obtain ⟨q,q1,q2⟩:=adS h
   exact ⟨q,List.mem_cons_of_mem _ q1,q2⟩
  .rw [hg] at h
   simp only [cond_true,Option.some.injEq] at h
   exact ⟨o,List.mem_cons_self ..,h⟩
theorem anO {S:List AV->Prop}{outs:List (Tm×Nat×List SV)}{ρ0:List AV}{m:Nat}{ms:List Nat}(hL:adP outs ms=true):∀{n:Nat} {vs:List AV} {k:Nat} {us:List AV},af9 S outs ρ0 m n vs k us->k<ms.length/\ms.getD k 0<=us.length
 |0,_,_,_,h=>h.elim
 |n+1,vs,k,us,h=>by
  obtain ⟨cs,h1,h2,h3,h4⟩:=h
  split at h4
  .exact h4.elim
  .exact anO hL h4
  .rename_i j l hsel
   obtain ⟨rfl,rfl⟩:=h4
   obtain ⟨o,q1,q2⟩:=adS hsel
   unfold adP at hL
   rw [List.all_eq_true] at hL
   have:=hL o q1
   rw [q2,Bool.and_eq_true] at this
   rw [fZ]
   exact ⟨Nat.le_of_ble_eq_true this.1,Nat.le_of_ble_eq_true this.2⟩
theorem anP {ρ:List AV}{base pos n:Nat}{pc:Pc}{l:List Tm}{xs:List (Pc×Tm)}(h:Pc.holds ρ pc->base<=ρ.length/\∃us:List AV,n<=us.length/\(∀(i:Nat) (u:AV),us[i]?=some u->ρ.getD (pos+i) eP=u)/\∀t∈l,(t.den (ρ.take base++us)).B=true)(hx:AO ρ xs):AO ρ (Ua base pos n pc l++xs):=
 anN (fun hp t hl ht=>by
  obtain ⟨hb,us,h1,h2,h3⟩:=h hp
  rw [auW hb h2 h1 hl]
  exact h3 t ht) hx
def Lo.res (L:Lo)(post:List (List Tm))(ρ:List AV):Prop:=match L with
 | .mk pc base _ _ outs _ _ ms bn=>Pc.holds ρ pc->(∀t∈bn,(t.den ρ).R.length<=4294967296)->base<=ρ.length/\∃(k:Nat) (us:List AV),(adP outs ms=true->k<ms.length/\ms.getD k 0<=us.length)/\amG ρ base ms k us/\∀t∈abv post k,(t.den (ρ.take base++us)).B=true
theorem agF {ρ:List AV}{F:Pc}{xs:List (Pc×Tm)}{pc:Pc}{bn:List Tm}(hF:Pc.holds ρ F)(hx:AO ρ xs)(h:Pc.holds ρ (bnC F xs pc bn)):Pc.holds ρ pc/\∀t∈bn,(t.den ρ).R.length<=4294967296:=by
 have key:∀{t:Tm},((JZ (.rlen t) (.li big)).den ρ).B=true->(t.den ρ).R.length<=4294967296:=by
  intro t h
  have h2:mZ (t.den ρ).R<=big:=of_decide_eq_true h
  unfold mZ big at h2;omega
 unfold bnC at h
 dsimp only at h
 cases hq:(bn.all fun t=>aDO 1 (aDH F xs pc) (JZ (.rlen t) (.li big)))
 .rw [hq] at h
  simp only [cond_false] at h
  refine ⟨fun x hx=>h x (List.mem_append.2 (.inr hx)),fun t ht=>key (h (_,true) (List.mem_append.2 (.inl ?_)))⟩
  clear hq h
  induction bn with
  |nil=>cases ht
  |cons a r ih=>
   rcases List.mem_cons.1 ht with rfl|ht
   .exact List.mem_cons_self ..
   .exact List.mem_cons_of_mem _ (ih ht)
 .rw [hq] at h
  rw [List.all_eq_true] at hq
  exact ⟨h,fun t ht=>key (BK (hq t ht) (yY hF hx h))⟩
theorem anQ {ρ:List AV}{base n n' k k0:Nat}{us:List AV}{c:Pc}(hk0:k0=0\/k0=1)(hk:k<2)(hr:amG ρ base [n,n'] k us)(h:Pc.holds ρ (aqS base [n,n'] k0++c)):k=k0:=by
 have h1:=hr.1 (by show 1<2;omega)
 have e:(((Tm.bin .eql (.int .i64) (.var base []) (.li 0)).den ρ).B)=dZ ((aDt (ρ.getD base eP) []).D.I) 0:=rfl
 have e2:aDt (ρ.getD base eP) []=ρ.getD base eP:=by cases ρ.getD base eP<;>rfl
 rw [e2,h1] at e
 rcases hk0 with rfl|rfl
 .have q:=h (_,true) (List.mem_append.2 (.inl (List.mem_cons_self ..)))
  dsimp only at q
  rw [e,kP] at q
  omega
 .have q:=h (_,false) (List.mem_append.2 (.inl (List.mem_cons_self ..)))
  dsimp only at q
  rw [e,tK] at q
  omega
theorem anR {L:Lo}{H:LH}{ρ:List AV}{F:Pc}{xs:List (Pc×Tm)}(hF:Pc.holds ρ F)(hx:AO ρ xs)(h:L.res H.post ρ):AO ρ (aix F xs L H):=by
 obtain ⟨pc,base,m,entry,outs,sd,aw,ms,bn⟩:=L
 simp only [aix]
 split
 .exact hx
 .rename_i p _
  cases hL:adP outs ms
  .exact hx
  .simp only [cond_true]
   have sub:∀{a b:Pc},Pc.holds ρ (a++b)->Pc.holds ρ b:=fun h x hx=>h x (List.mem_append.2 (.inr hx))
   split
   .rename_i n
    refine anP (fun hp=>?_) hx
    obtain ⟨h1,h2⟩:=agF hF hx (sub hp)
    obtain ⟨hb,k,us,q1,q2,q3⟩:=h h1 h2
    have hk:=q1 hL
    have:k=0:=by have:=hk.1;simp at this;exact this
    subst this
    exact ⟨hb,us,hk.2,q2.2,q3⟩
   .rename_i n n'
    refine anP (fun hp=>?_) (anP (fun hp=>?_) hx)
    .obtain ⟨h1,h2⟩:=agF hF hx (sub hp)
     obtain ⟨hb,k,us,q1,q2,q3⟩:=h h1 h2
     have hk:=q1 hL
     have:=anQ (.inl rfl) hk.1 q2 hp
     subst this
     exact ⟨hb,us,hk.2,q2.2,q3⟩
    .obtain ⟨h1,h2⟩:=agF hF hx (sub hp)
     obtain ⟨hb,k,us,q1,q2,q3⟩:=h h1 h2
     have hk:=q1 hL
     have:=anQ (.inr rfl) hk.1 q2 hp
     subst this
     exact ⟨hb,us,hk.2,q2.2,q3⟩
   .exact hx
theorem Xj {P:Program}{T:Dc}{ρ:List AV}:∀{n:Nat} {sd:List (Pc×Side)},x9 P T ρ sd->x9 P T ρ (sd.take n)/\x9 P T ρ (sd.drop n)
 |0,sd,h=>⟨trivial,h⟩
 |n+1,[],h=>⟨trivial,trivial⟩
 |n+1,x::r,h=>⟨⟨h.1,(Xj (n:=n) h.2).1⟩,(Xj (n:=n) h.2).2⟩
theorem Ub {P:Program}{ρ:List AV}:∀{n:Nat} {sd:List (Pc×Side)},xw P ρ (sd.take n)->xw P ρ (sd.drop n)->xw P ρ sd
 |0,sd,_,h=>h
 |n+1,[],_,_=>trivial
 |n+1,x::r,h,k=>⟨h.1,Ub (n:=n) h.2 k⟩
 mutual
theorem anS {P:Program}{T:Dc}:∀{L:Lo} {H:LH} {ρ:List AV} {F:Pc} {xs:List (Pc×Tm)},anL F T xs L H=true->Pc.holds ρ F->AO ρ xs->L.wk P T H ρ->L.holds P ρ/\L.res H.post ρ
  | .mk pc base m entry outs sd aw ms bn,H,ρ,F,xs,h,hF,hx,hw=>by
   simp only [anL,Bool.and_eq_true] at h
   obtain ⟨h0,⟨hft,h1⟩,h4,h3⟩:=h
   have all:Pc.holds ρ pc->(∀t∈bn,(t.den ρ).R.length<=4294967296)->base<=ρ.length/\∃n k us,(af9 (fun σ=>jD P σ sd/\LoL P aw σ) outs (ρ.take base) m n (dU ρ entry) k us/\∀t∈abv H.post k,(t.den (ρ.take base++us)).B=true)/\amG ρ base ms k us:=by
    intro hp hbn
    simp only [Lo.wk] at hw
    obtain ⟨hb,n,k,us,⟨hn0,hn⟩,hr,hres⟩:=hw hp hbn
    have hF0:=yY (uh (anH hbn) hF) hx hp
    have hl:(ρ.take base).length=base:=by rw [List.length_take];omega
    rw [List.all_eq_true] at h1
    have hm:H.mt.Qk=true\/(H.mt.den (ρ.take base++dU ρ entry)).I<(n:Int):=by
     rw [Bool.or_eq_true] at hft
     rcases hft with hft|hft
     .exact .inl hft
     refine .inr ?_
     split at hft
     .rename_i mt' hm
      have q:=GY hb hm
      simp only [Jg] at q
      have q2:=abu hft hF0
      omega
     .cases hft
    refine ⟨hb,n,k,us,anM (xs:=akw (ET H.inv++akv base (aDH (bnF bn++F) xs pc)) T sd 0 aw H.sub H.xs) hl (by rw [Bool.and_eq_true];exact h0) (fun σ hag=>?_) (fun σ hF' hS=>?_) h3 (.inr hn0) (fun t ht=>anK hb (h1 t ht) hF0) hm hr,hres⟩
    .refine aiA (fun i hi=>?_) hF0
     rw [<- hag i hi]
     have:=U1 (ρ:=ρ) (m:=[]) hb hi
     simpa using this.symm
    .obtain ⟨z1,z2,z3⟩:=abx h4 hF' hS.1 hS.2.1 hS.2.2
     exact ⟨⟨z1.ok,z2⟩,z3⟩
   refine ⟨?_,?_⟩
   .unfold Lo.holds
    intro hp hbn
    obtain ⟨hb,n,k,us,⟨z1,_⟩,z2⟩:=all hp hbn
    exact ⟨hb,n,k,us,z1,z2⟩
   .intro hp hbn
    obtain ⟨hb,n,k,us,⟨z1,z3⟩,z2⟩:=all hp hbn
    exact ⟨hb,k,us,fun hL=>anO hL z1,z2,z3⟩
theorem abx {P:Program}{T:Dc}:∀{l:List Lo} {sd:List (Pc×Side)} {k:Nat} {hs:List LH} {ρ:List AV} {F:Pc} {xs:List (Pc×Tm)},akx F T sd k l hs xs=true->Pc.holds ρ F->AO ρ xs->x9 P T ρ sd->U2 P T l hs ρ->xw P ρ sd/\LoL P l ρ/\AO ρ (akw F T sd k l hs xs)
  |[],sd,k,hs,ρ,F,xs,h,hF,hx,hw,_=>by
   simp only [akx] at h
   obtain ⟨h1,h2⟩:=Xh hF hx h hw
   exact ⟨h1,trivial,h2⟩
  |x::r,sd,k,hs,ρ,F,xs,h,hF,hx,hw,hl=>by
   simp only [akx,Bool.and_eq_true] at h
   simp only [U2] at hl
   obtain ⟨w1,w2⟩:=Xj (n:=(hdH hs).at' - k) hw
   obtain ⟨a1,a2⟩:=Xh hF hx h.1 w1
   obtain ⟨b1,b2⟩:=anS h.2.1 hF a2 hl.1
   obtain ⟨c1,c2,c3⟩:=abx h.2.2 hF (anR hF a2 b2) w2 hl.2
   exact ⟨Ub a1 c1,⟨b1,c2⟩,c3⟩
end
 mutual
def agG : SV->Pc
  | .sc .sl t=>[(JZ (.rlen t) (.li big),true)]
  | .agg l=>G6 l
  | .fD l=>G6 l
  | .os _ _ _ t=>[(JZ t (.li big),true)]
  | .fn _ x y=>G6 x++G6 y
  |_=>[]
def G6 : List SV->Pc
  |[]=>[]
  |x::r=>agG x++G6 r
end
 mutual
theorem aqV {ρ:List AV}:∀{v:SV},(v.den ρ).bnd->Pc.holds ρ (agG v)
  | .sc k t,h=>by
   cases k<;>simp only [agG]<;>first|(intro x hx;cases hx;done)|skip
   exact Pc.jy (by
    have:(t.den ρ).R.length<=4294967296:=h.1
    show decide (mZ (t.den ρ).R<=big)=true
    exact decide_eq_true (by unfold mZ big;omega)) fun x hx=>by cases hx
  | .agg l,h=>by simp only [agG];exact BL h
  | .fD l,h=>by simp only [agG];exact BL h
  | .os b sz off t,h=>by
   simp only [agG]
   exact Pc.jy (by
    have:(t.den ρ).I.toNat<=4294967296:=h
    show decide ((t.den ρ).I<=big)=true
    exact decide_eq_true (by unfold big;omega)) fun x hx=>by cases hx
  | .c _,_=>fun x hx=>by cases hx
  | .nil,_=>fun x hx=>by cases hx
  | .sf _,_=>fun x hx=>by cases hx
  | .slc _ _,_=>fun x hx=>by cases hx
  | .vp _ _,_=>fun x hx=>by cases hx
  | .op _ _ _ _,_=>fun x hx=>by cases hx
  | .fn _ _ _,h=>by simp only [agG];exact uh (BL h.1) (BL h.2)
  | .mV _ _,_=>fun x hx=>by cases hx
  | .mp _,_=>fun x hx=>by cases hx
theorem BL {ρ:List AV}:∀{l:List SV},Nw (dU ρ l)->Pc.holds ρ (G6 l)
  |[],_=>fun x hx=>by cases hx
  |x::r,h=>by simp only [G6];exact uh (aqV h.1) (BL h.2)
end
def adT (args:List SV)(sp:Sp):Pc:=match sbL args sp.pre with
 |some l=>ET l
 |none=>[]
def adU (T:Dc)(sp:Sp)(args bd:List SV)(H:LH)(sd:List (Pc×Side))(aw:List Lo):Bool:=
 let F:=adT args sp++G6 bd
 akx F T sd 0 aw H.sub H.xs
theorem adV {ρ:List AV}{args:List SV}{sp:Sp}(h:oq (dU ρ args) sp.pre):Pc.holds ρ (adT args sp):=by
 unfold adT
 split
 .rename_i l hl
  exact Xi ((OX hl).2 h).mem
 .exact fun x hx=>by cases hx
theorem U3 {P:Program}{T:Dc}{sp:Sp}{ρ:List AV}{args bd:List SV}{H:LH}{sd:List (Pc×Side)}{aw:List Lo}(h:adU T sp args bd H sd aw=true)(hp:oq (dU ρ args) sp.pre)(hb:Pc.holds ρ (G6 bd))(hx:AO ρ H.xs)(hw:x9 P T ρ sd)(hl:U2 P T aw H.sub ρ):xw P ρ sd/\LoL P aw ρ/\AO ρ (akw (adT args sp++G6 bd) T sd 0 aw H.sub H.xs):=
 abx h (uh (adV hp) hb) hx hw hl
def aky (F:Pc)(xs:List (Pc×Tm))(l:SV->Option (List SV))(post:List Tm):Pc->List (Tm×SV)->Bool
  |_,[]=>true
  |G,[o]=>aiB F xs l post G o.2
  |G,o::o'::r=>aiB F xs l post (jK o.1 true G) o.2&&aky F xs l post (jK o.1 false G) (o'::r)
 where aiB (F:Pc) (xs:List (Pc×Tm)) (l:SV->Option (List SV)) (post:List Tm) (G:Pc) (v:SV):Bool:=match l v with
  |none=>false
  |some l=>match sbL l post with
   |none=>false
   |some q=>agE F xs q (q.map fun t=>(t,true)) 6 (akq G)
theorem aqW {ρ:List AV}{F:Pc}{xs:List (Pc×Tm)}{l:SV->Option (List SV)}{post:List Tm}{A:AV->List AV}(hl:∀v m,l v=some m->dU ρ m=A (v.den ρ))(hF:Pc.holds ρ F)(hx:AO ρ xs):∀{rs:List (Tm×SV)} {G:Pc},rs≠[]->aky F xs l post G rs=true->Pc.holds ρ G->oq (A (rQ ρ rs)) post:=by
 have one:∀{G:Pc} {v:SV},aky.aiB F xs l post G v=true->Pc.holds ρ G->oq (A (v.den ρ)) post:=by
  intro G v h hG
  unfold aky.aiB at h
  split at h
  .cases h
  rename_i m hm
  split at h
  .cases h
  rename_i q hq
  rw [<- hl v m hm]
  exact (OX hq).1 (Ql hF hx h (Qi hG))
 intro rs
 induction rs with
 |nil=>intro G hne;exact absurd rfl hne
 |cons o r ih=>
  intro G _ h hG
  cases r with
  |nil=>exact one h hG
  |cons o' r=>
   simp only [aky,Bool.and_eq_true] at h
   simp only [rQ]
   cases hg:(o.1.den ρ).B
   .exact ih (by simp) h.2 (gq hg hG)
   .exact one h.1 (gq hg hG)
def anT (args bd:List SV)(sp:Sp):Bool:=match sbL args sp.bnd with
 |none=>false
 |some l=>(G6 bd).all fun x=>x.2&&l.any fun t=>t.beq x.1
theorem anU {ρ:List AV}{args bd:List SV}{sp:Sp}(h:anT args bd sp=true)(hb:oq (dU ρ args) sp.bnd):Pc.holds ρ (G6 bd):=by
 unfold anT at h
 split at h
 .cases h
 rename_i l hl
 rw [List.all_eq_true] at h
 have hb':=((OX hl).2 hb).mem
 intro x hx
 have q:=h x hx
 rw [Bool.and_eq_true,List.any_eq_true] at q
 obtain ⟨q1,t,q2,q3⟩:=q
 rw [q1,<- Tm.beq_eq q3]
 exact hb' t q2
def adW (T:Dc)(sp:Sp)(args bd:List SV)(H:LH)(R:iE)(l:SV->Option (List SV)):Bool:=match sp.post with
 |[]=>true
 |post=>match R.rs with
  |[]=>false
  |_::_=>anT args bd sp&&(let F:=adT args sp++G6 bd;aky F (akw F T R.sd 0 R.aw H.sub H.xs) l post [] R.rs)
theorem aby {P:Program}{T:Dc}{sp:Sp}{ρ:List AV}{args bd:List SV}{H:LH}{R:iE}{l:SV->Option (List SV)}{A:AV->List AV}(hl:∀v m,l v=some m->dU ρ m=A (v.den ρ))(hc:adU T sp args bd H R.sd R.aw=true)(h:adW T sp args bd H R l=true)(hp:oq (dU ρ args) sp.pre)(hb:oq (dU ρ args) sp.bnd)(hx:AO ρ H.xs)(hw:x9 P T ρ R.sd)(hlw:U2 P T R.aw H.sub ρ):oq (A (rQ ρ R.rs)) sp.post:=by
 unfold adW at h
 split at h
 .rename_i e;rw [e];trivial
 .rename_i e
  split at h
  .cases h
  .rename_i er
   rw [Bool.and_eq_true] at h
   have hbd:=anU h.1 hb
   obtain ⟨-,-,hX⟩:=U3 hc hp hbd hx hw hlw
   exact aqW hl (uh (adV hp) hbd) hX (by rw [er];simp) h.2 (fun x hx=>by cases hx)
theorem azj {P:Program}(hm:P.follows .mixedOrders=true){X:qO}(hX:∀σ:List AV,iW σ=true->o7 P σ X){I0:Gv}(h0:∀σ:List AV,iW σ=true->oH P σ I0){md:Md}{FC:FuncId->BD}{vK CF f nv:Nat}{args:List SV}{R:iE}{az:List AV}{r:AV}{T:Dc}
  (h:jo P X I0 md FC vK CF f args nv=some R) (H:LH) (hc:(adU T (T.at f) args args H R.sd R.aw&&adW T (T.at f) args args H R fun v=>some (args++[v]))=true) (ρ:List AV) (hρ:iW ρ=true) (hx:AO ρ H.xs) (hw:x9 P T ρ R.sd) (hl:U2 P T R.aw H.sub ρ) (ha:dU ρ args=az) (hr:rQ ρ R.rs=r):CT P T f az r:=fun hpre=>by
 subst ha
 rw [Bool.and_eq_true] at hc
 refine ⟨auk fun hb=>?_,fun hb=>?_⟩
 .obtain ⟨h1,h2,-⟩:=U3 hc.1 hpre (BL hb) hx hw hl
  exact anf hm hX h0 (rs:=R.rs) (sd:=R.sd) (aw:=R.aw) h hρ h1 h2 rfl hr
 .subst hr
  exact aby (A:=fun r=>dU ρ args++[r]) (fun v m hm=>by simp only [Option.some.injEq] at hm;subst hm;exact Nc) hc.1 hc.2 hpre hb hx hw hl
theorem axb {P:Program}(hm:P.follows .mixedOrders=true){X:qO}(hX:∀σ:List AV,iW σ=true->o7 P σ X){I0:Gv}(h0:∀σ:List AV,iW σ=true->oH P σ I0){md:Md}{FC:FuncId->BD}{vK CF f nv:Nat}{args:List SV}{R:iE}{az:List AV}{r:AV}{p:List Nat}{sz:Nat}{T:Dc}
  (h:agm P X I0 md FC vK CF f args nv p sz=some R) (H:LH) (hc:(adU T (T.at f) args args H R.sd R.aw&&adW T (T.at f) args args H R fun v=>some (args++[v]))=true) (ρ:List AV) (hρ:iW ρ=true) (hx:AO ρ H.xs) (hw:x9 P T ρ R.sd) (hl:U2 P T R.aw H.sub ρ) (ha:dU ρ args=az) (hr:rQ ρ R.rs=r):CTo P T f az r p sz:=fun hpre=>by
 subst ha
 rw [Bool.and_eq_true] at hc
 refine ⟨aii fun hb=>?_,fun hb=>?_⟩
 .obtain ⟨h1,h2,-⟩:=U3 hc.1 hpre (BL hb) hx hw hl
  exact auz hm hX h0 (rs:=R.rs) (sd:=R.sd) (aw:=R.aw) h hρ h1 h2 rfl hr
 .subst hr
  exact aby (A:=fun r=>dU ρ args++[r]) (fun v m hm=>by simp only [Option.some.injEq] at hm;subst hm;exact Nc) hc.1 hc.2 hpre hb hx hw hl
def Z5 (vZ:List (Nat×Nat))(cs:List SV):Nat->List (Nat×SB)->Option (List SV)
 |_,[]=>some []
 |j,(b,k)::r=>match vZ.find? (fun x=>Nat.beq x.1 b) with
  |some _=>match Eh cs j with
   |some (.sc .sl t)=>match Z5 vZ cs (j+1) r with|some l=>some (.sc .sl t::l)|none=>none
   |_=>none
  |none=>match Z5 vZ cs j r with|some l=>some (k.sv::l)|none=>none
theorem auX {ρ:List AV}{k:SB}:k.sv.den ρ=(k.den ρ).av:=by cases k<;>rfl
theorem Sz {ρ:List AV}{vZ:List (Nat×Nat)}{cs:List SV}:∀{bl:List (Nat×SB)} {j:Nat} {l:List SV},Z5 vZ cs j bl=some l->dU ρ l=avB (uU ρ vZ (dU ρ cs) j bl)
 |[],j,l,h=>by simp only [Z5,Option.some.injEq] at h;subst h;rfl
 |(b,k)::r,j,l,h=>by
  simp only [Z5] at h
  simp only [uU]
  split at h
  .rename_i x hx
   rw [hx]
   split at h
   .rename_i t ht
    split at h
    .rename_i l' hl
     simp only [Option.some.injEq] at h;subst h
     have e:=Gn (ρ:=ρ) ht
     have ih:=Sz (ρ:=ρ) hl
     show _::dU ρ l'=_::avB (uU ρ vZ (dU ρ cs) (j+1) r)
     rw [ih]
     simp only [List.getD_eq_getElem?_getD,e,Option.getD_some]
     rfl
    .cases h
   .cases h
  .rename_i hx
   rw [hx]
   split at h
   .rename_i l' hl
    simp only [Option.some.injEq] at h;subst h
    have ih:=Sz (ρ:=ρ) hl
    show _::dU ρ l'=_::avB (uU ρ vZ (dU ρ cs) j r)
    rw [ih,auX]
   .cases h
def anV (args:List SV)(bl:List (Nat×SB))(vZ:List (Nat×Nat)):SV->Option (List SV)
 | .fD (r::cs)=>match Z5 vZ cs 0 bl with
  |some l=>some (args++Sv bl++(r::l))
  |none=>none
 |_=>none
def azk (az:List AV)(ρ:List AV)(vZ:List (Nat×Nat))(bl:List (Nat×SB)):AV->List AV
 | .fD (r::cs)=>az++(r::avB (uU ρ vZ cs 0 bl))
 |_=>[]
theorem axc {P:Program}(hm:P.follows .mixedOrders=true){X:qO}(hX:∀σ:List AV,iW σ=true->o7 P σ X){I0:Gv}(h0:∀σ:List AV,iW σ=true->oH P σ I0){md:Md}{FC:FuncId->BD}{vK CF f nv:Nat}{args:List SV}{R:iE}{az:List AV}{r:AV}{cs:List AV}{bl:List (Nat×SB)}{vZ:List (Nat×Nat)}{n0:Nat}{bin Nv:List (Nat×wB)}{T:Dc}
  (h:P_ P X I0 md FC vK CF f args nv bl vZ n0=some R) (H:LH) (hc:(adU T (T.atW f n0) (args++Sv bl) args H R.sd R.aw&&adW T (T.atW f n0) (args++Sv bl) args H R (anV args bl vZ))=true) (ρ:List AV) (hρ:iW ρ=true) (hx:AO ρ H.xs) (hw:x9 P T ρ R.sd) (hl:U2 P T R.aw H.sub ρ) (ha:dU ρ args=az) (hb:Iz ρ bl=bin) (hr:rQ ρ R.rs=.fD (r::cs)) (hb2:uU ρ vZ cs 0 bl=Nv):CTw P T f az bin n0 r Nv:=fun hpre=>by
 subst ha;subst hb;subst hb2
 rw [Bool.and_eq_true] at hc
 have e:dU ρ (args++Sv bl)=dU ρ args++avB (Iz ρ bl):=by rw [mF,GZ]
 rw [<- e] at hpre ⊢
 refine ⟨auD fun hbd=>?_,fun hbd=>?_⟩
 .obtain ⟨h1,h2,-⟩:=U3 hc.1 hpre (BL hbd) hx hw hl
  exact awZ hm hX h0 (rs:=R.rs) (sd:=R.sd) (aw:=R.aw) h hρ h1 h2 rfl rfl hr rfl
 .have q:=aby (A:=azk (dU ρ (args++Sv bl)) ρ vZ bl) (fun v m hm=>by
   unfold anV at hm
   split at hm
   .split at hm
    .rename_i l hl
     simp only [Option.some.injEq] at hm;subst hm
     rw [mF]
     show _=_++(_::avB (uU ρ vZ (dU ρ _) 0 bl))
     rw [<- Sz hl];rfl
    .cases hm
   .cases hm) hc.1 hc.2 hpre hbd hx hw hl
  rw [hr] at q
  exact q
end Go.Fw
end
section
namespace Go.Fw
variable [jY]
open Go.Lib
def LG (len:Tm)(n:Nat):Tm:=.bin .eql (.int .i64) len (.li (.ofNat n))
def aqX (pc:Pc)(len:Tm):Tm:=match pc.known (LG len 0),pc.known (LG len 1) with
 |some true,_=>.li 0
 |_,some true=>.li 1
 |_,_=>len
def asi : Option SV->Option (List SV)
 |some (.agg l)=>some l
 |_=>none
def asj (P:Program)(th:Tr SB)(nx nv:Nat)(pc:Pc)(ti tj:Tm)(b sz:Nat)(len t:Tm)(e:TypeId):Option CR:=
 match asi (aDW P nv [] e),asi (aDW P (nv+1) [] e) with
 |some x,some y=>bif Nat.beq x.length sz&&(Nat.beq y.length sz&&(Dy P e == some (true,sz))) then
  some ⟨[(.lb true,⟨.c .undef,wrT th [(b,some (.fK sz (.var (nv+3) [])))],nx⟩)],nv+4,
   (([.tm (.bin .leq (.int .i64) (.li 0) ti),.tm (.bin .lss (.int .i64) ti (.rlen t)),.tm (.bin .leq (.int .i64) (.li 0) tj),.tm (.bin .lss (.int .i64) tj (.rlen t)),.row t ti x,.row t tj y,.st t ti 0 y (.var (nv+2) []),.st (.var (nv+2) []) tj 0 x (.var (nv+3) [])]:List Side)++afw len t).map fun s=>(pc,s)⟩ else none
 |_,_=>none
def abz (P:Program)(c:abj):Gv:=fun pc th nx nv f args=>
 bif Nat.beq f c.vo then
  match args with
  |[.mV t (.os b sz off len)]=>match am_ P t with
   |some _=>some ⟨[(.lb true,⟨.agg [.c (.at P.globals.size t),.op nx 1 (.li 0) 0,.sc (.int .u64) (.li 151)],wrT th [(nx,some (.rows 1 [[.os b sz off len]]))],nx+1⟩)],nv,[]⟩
   |none=>none
  |_=>none
 else bif Nat.beq f c.ln then
  match args with
  |[.agg [.c (.at g t),.op b1 1 (.li 0) 0,.sc (.int .u64) (.li 151)]]=>match am_ P t,th.get b1 with
   |some _,some (.rows 1 [[.os b sz off len]])=>bif Nat.beq g P.globals.size then some ⟨[(.lb true,⟨.sc (.int .i64) (aqX pc len),th,nx⟩)],nv,[(pc,.tm (.bin .leq (.int .i64) (.li 0) len))]⟩ else none
   |_,_=>none
  |_=>none
 else bif Nat.beq f c.sw then
  match args with
  |[.mV t (.os b sz off len)]=>match am_ P t with
   |some e=>bif ah_ P e then
    some ⟨[(LG len 0,⟨.fn c.l1 [] [],th,nx⟩),(LG len 1,⟨.fn c.l2 [] [],th,nx⟩),(.lb true,⟨.fn c.l9 [] [.os b sz off len,.c (.at P.globals.size e)],th,nx⟩)],nv,[(pc,.tm (.bin .leq (.int .i64) (.li 0) len))]⟩ else none
   |none=>none
  |_=>none
 else bif Nat.beq f c.l9 then
  match args with
  |[.sc (.int .i64) ti,.sc (.int .i64) tj,.os b sz 0 len,.c (.at g e)]=>match th.get b with
   |some (.fK sz' t)=>bif Nat.beq g P.globals.size&&Nat.beq sz sz' then asj P th nx nv pc ti tj b sz len t e else none
   |_=>none
  |_=>none
 else none
theorem le0 {P:Program}{ρ:List AV}{len:Tm}(h:Side.holds P ρ (.tm (.bin .leq (.int .i64) (.li 0) len))):0<=(len.den ρ).I:=of_decide_eq_true h
theorem tmH {P:Program}{ρ:List AV}{t:Tm}{p:Prop}[Decidable p](h:Side.holds P ρ (.tm t))(e:(t.den ρ).B=decide p:=by rfl):p:=of_decide_eq_true (e▸h)
theorem aqY {ρ:List AV}{pc:Pc}{len:Tm}(hp:pc.holds ρ):((aqX pc len).den ρ).I=(len.den ρ).I:=by
 have e:∀n:Nat,pc.known (LG len n)=some true->(len.den ρ).I=(n:Int):=fun n h=>by
  have:=Pc.gQ hp h
  simpa [LG,Tm.den,qJ,D.B,D.I,dZ] using this
 unfold aqX
 split
 .rw [e 0 (by assumption)];rfl
 .rw [e 1 (by assumption)];rfl
 .rfl
theorem agH {P:Program}{c:abj}(hc:ar8 P c):∀σ:List AV,iW σ=true->oH P σ (abz P c):=by
 intro ρ hfz pc th nx nv f args R h hp hs base w E ah vs hah hh hG hrep o a he next Q hnext
 unfold abz at h
 cases h1:Nat.beq f c.vo
 case true=>
  rw [h1] at h
  simp only [cond_true] at h
  obtain rfl:=Nat.eq_of_beq_eq_true h1
  split at h
  .rename_i t b sz off len
   split at h
   .rename_i e hel
    simp only [Option.some.injEq] at h;subst h
    obtain ⟨i,hi,hd,-⟩:=abk hel
    obtain ⟨v,rfl,hv⟩:=WU hrep
    obtain ⟨u,rfl,hu⟩:=aia hv
    obtain ⟨p,cc,rfl⟩:=WT hu
    obtain ⟨w',E',hw',q1,q2,q3⟩:=aat hh (Nat.le_refl nx) t (cs:=[SV.den ρ (.os b sz off len)]) (vs:=#[.slice p ((len.den ρ).I.toNat) cc]) ⟨rfl,fun i x y h1 h2=>by
     match i,h1,h2 with
     |0,h1,h2=>cases h1;cases h2;exact hu⟩ (by simp [SV.den,AV.jR])
    refine xU hc.vo he (run_valueOf_slice t e i hi hd p _ cc w) ?_
    rw [<- hw']
    refine hnext _ rfl _ _ E' (rP ah [(nx,some (.rows 1 [[SV.den ρ (.os b sz off len)]]))]) (Rz hah) q1 (q2.weaken fun b hb=>⟨Nat.le_of_succ_le hb,Nat.ne_of_gt hb⟩) ?_
    refine .agg _ _ rfl (fun c hc=>by simp only [dU,List.mem_cons,List.not_mem_nil,or_false] at hc;rcases hc with rfl|rfl|rfl<;>rfl) fun i x y h1 h2=>?_
    match i,h1,h2 with
    |0,h1,h2=>cases h1;cases h2;exact .p rfl
    |1,h1,h2=>cases h1;cases h2;exact q3
    |2,h1,h2=>cases h1;cases h2;exact .p rfl
   .cases h
  .cases h
 case false=>
 rw [h1] at h
 simp only [cond_false] at h
 cases h2:Nat.beq f c.ln
 case true=>
  rw [h2] at h
  simp only [cond_true] at h
  obtain rfl:=Nat.eq_of_beq_eq_true h2
  split at h
  .rename_i g t b1
   split at h
   .rename_i x y z b sz off len hel hb1
    cases hg:Nat.beq g P.globals.size
    .simp [hg] at h
    .simp only [hg,cond_true,Option.some.injEq] at h;subst h
     obtain rfl:=Nat.eq_of_beq_eq_true hg
     obtain ⟨i,hi,hd,hpk⟩:=abk hel
     obtain ⟨v,rfl,hv⟩:=WU hrep
     obtain ⟨vs,rfl,ha⟩:∃vs:Array Value,v=.agg vs/\iy w E (dU ρ [.c (.at P.globals.size t),.op b1 1 (.li 0) 0,.sc (.int .u64) (.li 151)]) vs.toList:=by
      cases hv with|agg cs vs hl hs h=>exact ⟨vs,rfl,by simpa using hl,fun i x y h1 h2=>h i x y h1 (by simpa using h2)⟩
     obtain ⟨v0,v1,v2,hvs⟩:∃v0 v1 v2,vs.toList=[v0,v1,v2]:=by
      match hm:vs.toList,(show vs.toList.length=3 by rw [<- ha.1];rfl) with
      |[v0,v1,v2],_=>exact ⟨v0,v1,v2,rfl⟩
     obtain rfl:vs=#[v0,v1,v2]:=by apply Array.ext';simpa using hvs
     have r0:=(ha.2 0 _ v0 rfl rfl).g_
     have r2:=(ha.2 2 _ v2 rfl rfl).g_
     obtain ⟨cb,ob,r1,hown⟩:=(ha.2 1 _ v1 rfl rfl).Vg
     subst r0;subst r1;subst r2
     rcases hh.blk b1 _ (hah _ _ hb1) with ⟨_,h0⟩|⟨c',o',arr,tt,g1,g2,g3,g4,g5⟩
     .simp [SB.den,iM] at h0
     .rw [hown] at g1;cases g1
      obtain ⟨u,hu1,hu2⟩:=g5.2.2.2 0 _ 0 _ rfl rfl
      obtain ⟨p,cc,rfl⟩:=WT hu2
      have hcell:w.cell? ⟨cb,ob+0*1+0,none⟩=some (.slice p ((len.den ρ).I.toNat) cc):=by
       simp only [World.cell?,g4]
       simp at hu1 ⊢
       exact hu1
      refine xU hc.ln he (run_valueLen_slice t _ i hi hd hpk _ p _ cc w hcell) ?_
      refine hnext _ rfl _ _ E ah hah (Step.refl _ _ _) hh ?_
      have h0:=le0 (hs (pc,.tm (.bin .leq (.int .i64) (.li 0) len)) (by simp) hp)
      show Rep w E (.p (.int .i64 ((aqX pc len).den ρ).I)) _
      rw [aqY hp,Int.toNat_of_nonneg h0]
      exact .p rfl
   .cases h
  .cases h
 case false=>
 rw [h2] at h
 simp only [cond_false] at h
 cases h3:Nat.beq f c.sw
 case true=>
  rw [h3] at h
  simp only [cond_true] at h
  obtain rfl:=Nat.eq_of_beq_eq_true h3
  split at h
  .rename_i t b sz off len
   split at h
   .rename_i e hel
    cases hb:ah_ P e
    .simp [hb] at h
    .simp only [hb,cond_true,Option.some.injEq] at h;subst h
     have h0:=le0 (hs (pc,.tm (.bin .leq (.int .i64) (.li 0) len)) (by simp) hp)
     obtain ⟨i,hi,hd,-⟩:=abk hel
     obtain ⟨ie,hie,hk,hsk⟩:=anb hb
     obtain ⟨v,rfl,hv⟩:=WU hrep
     obtain ⟨u,rfl,hu⟩:=aia hv
     obtain ⟨p,cc,rfl⟩:=WT hu
     have g0:∀n:Nat,(Tm.den ρ (LG len n)).B=decide ((len.den ρ).I=(n:Int)):=fun n=>by
      show dZ _ _=_;unfold dZ;exact aD4
     by_cases e0:(len.den ρ).I.toNat=0
     .refine xU hc.sw he (run_swapper_slice t e i ie hi hd hie 25 hk p _ cc c.l1 (by rw [hsk,if_pos e0];exact hc.n1) w) ?_
      refine hnext ⟨.fn c.l1 [] [],th,nx⟩ ?_ _ _ E ah hah (Step.refl _ _ _) hh ?_
      .have:(Tm.den ρ (LG len 0)).B=true:=by rw [g0];exact decide_eq_true (by omega)
       simp only [tJ,this,cond_true]
      .rw [hsk,if_pos e0,if_pos (by omega)]
       exact .fn _ _ _ _ _ rfl rfl (fun i c v h=>by simp [dU] at h) (fun i c v h=>by simp [dU] at h)
     .have b0:(Tm.den ρ (LG len 0)).B=false:=by rw [g0];exact decide_eq_false (by omega)
      by_cases e1:(len.den ρ).I.toNat=1
      .refine xU hc.sw he (run_swapper_slice t e i ie hi hd hie 25 hk p _ cc c.l2 (by rw [hsk,if_neg e0,if_pos e1];exact hc.n2) w) ?_
       refine hnext ⟨.fn c.l2 [] [],th,nx⟩ ?_ _ _ E ah hah (Step.refl _ _ _) hh ?_
       .have:(Tm.den ρ (LG len 1)).B=true:=by rw [g0];exact decide_eq_true (by omega)
        simp only [tJ,b0,this,cond_true,cond_false]
       .rw [hsk,if_neg e0,if_pos e1]
        exact .fn _ _ _ _ _ rfl rfl (fun i c v h=>by simp [dU] at h) (fun i c v h=>by simp [dU] at h)
      .have b1:(Tm.den ρ (LG len 1)).B=false:=by rw [g0];exact decide_eq_false (by omega)
       refine xU hc.sw he (run_swapper_slice t e i ie hi hd hie 25 hk p _ cc c.l9 (by rw [hsk,if_neg e0,if_neg e1];exact hc.n9) w) ?_
       refine hnext ⟨.fn c.l9 [] [.os b sz off len,.c (.at P.globals.size e)],th,nx⟩ ?_ _ _ E ah hah (Step.refl _ _ _) hh ?_
       .simp only [tJ,b0,b1,cond_false]
       rw [hsk,if_neg e0,if_neg e1,if_neg (by omega)]
       refine .fn _ _ _ _ _ rfl rfl (fun i c v h=>by simp [dU] at h) (fun i x y h1 h2=>?_)
       match i,h1,h2 with
       |0,h1,h2=>cases h1;cases h2;exact hu
       |1,h1,h2=>cases h1;cases h2;exact .p rfl
   .cases h
  .cases h
 case false=>
 rw [h3] at h
 simp only [cond_false] at h
 cases h4:Nat.beq f c.l9
 case false=>simp [h4] at h
 case true=>
  rw [h4] at h
  simp only [cond_true] at h
  obtain rfl:=Nat.eq_of_beq_eq_true h4
  split at h
  .rename_i ti tj b sz len g e
   split at h
   .rename_i sz' t hb
    cases hg:Nat.beq g P.globals.size&&Nat.beq sz sz'
    .simp [hg] at h
    simp only [hg,cond_true] at h
    simp only [Bool.and_eq_true] at hg
    obtain ⟨g1,g4⟩:=hg
    obtain rfl:=Nat.eq_of_beq_eq_true g1
    obtain rfl:=Nat.eq_of_beq_eq_true g4
    unfold asj at h
    split at h
    .rename_i x y hx hy
     cases hgg:Nat.beq x.length sz&&(Nat.beq y.length sz&&(Dy P e == some (true,sz)))
     .simp [hgg] at h
     simp only [hgg,cond_true,Option.some.injEq] at h;subst h
     simp only [Bool.and_eq_true,beq_iff_eq] at hgg
     obtain ⟨g5,g6,g7⟩:=hgg
     have lx:=Nat.eq_of_beq_eq_true g5
     have ly:=Nat.eq_of_beq_eq_true g6
     have hab:=hah _ _ hb
     have side:∀s,s∈(([.tm (.bin .leq (.int .i64) (.li 0) ti),.tm (.bin .lss (.int .i64) ti (.rlen t)),.tm (.bin .leq (.int .i64) (.li 0) tj),.tm (.bin .lss (.int .i64) tj (.rlen t)),.row t ti x,.row t tj y,.st t ti 0 y (.var (nv+2) []),.st (.var (nv+2) []) tj 0 x (.var (nv+3) [])]:List Side)++afw len t)->s.holds P ρ:=fun s hm=>hs (pc,s) (List.mem_map.2 ⟨s,hm,rfl⟩) hp
     have i0:0<=(ti.den ρ).I:=tmH (side _ (List.mem_append_left _ (List.mem_of_getElem? (i:=0) rfl)))
     have i1:(ti.den ρ).I<((t.den ρ).R.length:Int):=tmH (side _ (List.mem_append_left _ (List.mem_of_getElem? (i:=1) rfl)))
     have j0:0<=(tj.den ρ).I:=tmH (side _ (List.mem_append_left _ (List.mem_of_getElem? (i:=2) rfl)))
     have j1:(tj.den ρ).I<((t.den ρ).R.length:Int):=tmH (side _ (List.mem_append_left _ (List.mem_of_getElem? (i:=3) rfl)))
     obtain ⟨-,rx⟩:=side _ (List.mem_append_left _ (List.mem_of_getElem? (i:=4) rfl))
     obtain ⟨-,ry⟩:=side _ (List.mem_append_left _ (List.mem_of_getElem? (i:=5) rfl))
     obtain ⟨rw1,sx1,sx2,sx3⟩:=side _ (List.mem_append_left _ (List.mem_of_getElem? (i:=6) rfl))
     obtain ⟨rw2,sy1,sy2,sy3⟩:=side _ (List.mem_append_left _ (List.mem_of_getElem? (i:=7) rfl))
     have hlen:(len.den ρ).I.toNat=(t.den ρ).R.length:=UK (P:=P) fun s hm=>side s (List.mem_append_right _ hm)
     have lx':(dU ρ x).length=sz:=by rw [fZ,lx]
     have ly':(dU ρ y).length=sz:=by rw [fZ,ly]
     rw [rx] at sx1;cases sx1
     rw [aDY (by rw [lx',ly'])] at sx3
     obtain ⟨I,hI⟩:∃I,I=(ti.den ρ).I.toNat:=⟨_,rfl⟩
     obtain ⟨J,hJ⟩:∃J,J=(tj.den ρ).I.toNat:=⟨_,rfl⟩
     have rj:∃z,((t.den ρ).R.set I (dU ρ y))[J]?=some z/\z.length=sz:=by
      rw [List.getElem?_set]
      by_cases eij:I=J
      .rw [if_pos eij,if_pos (by omega)];exact ⟨_,rfl,ly'⟩
      .rw [if_neg eij,hJ];exact ⟨_,ry,ly'⟩
     obtain ⟨z,rz,lz⟩:=rj
     rw [sx3,<- hI,<- hJ,rz] at sy1;cases sy1
     rw [aDY (by rw [lx',lz]),sx3] at sy3
     rw [<- hI] at rx sy3
     rw [<- hJ] at ry sy3
     obtain ⟨v0,v1,v2,v3,rfl⟩:∃v0 v1 v2 v3,vs=[v0,v1,v2,v3]:=by
      match vs,hrep.1 with
      |[v0,v1,v2,v3],_=>exact ⟨v0,v1,v2,v3,rfl⟩
     have r0:=(hrep.2 0 _ v0 rfl rfl).g_
     have r1:=(hrep.2 1 _ v1 rfl rfl).g_
     have r3:=(hrep.2 3 _ v3 rfl rfl).g_
     have r2:=hrep.2 2 _ v2 rfl rfl
     subst r0;subst r1;subst r3
     obtain ⟨n,hn⟩:∃n,n=(len.den ρ).I.toNat:=⟨_,rfl⟩
     have hi:I<n:=by omega
     have hj:J<n:=by omega
     obtain ⟨c0,o0,cap,hown,rfl⟩:∃c0 o0 cap,E.own b=.at c0 o0/\v2=.slice (some ⟨c0,o0+0*sz,none⟩) n cap:=by
      generalize hm:SV.den ρ (.os b sz 0 len)=A at r2
      have hm:A=.os b sz 0 n:=by rw [hn];exact hm.symm
      subst hm
      cases r2 with
      |mP=>omega
      |os _ _ _ _ c0 o0 cap hb=>exact ⟨c0,o0,cap,hb,rfl⟩
     have hnb:¬nx<=b:=fun hc=>by have:=hh.ahf hc;rw [hab] at this;cases this
     have px:Rep w E (.op b sz I 0) (.pointer (some ⟨c0,o0+I*sz+0,none⟩)):=.op _ _ _ _ _ _ hown
     have py:Rep w E (.op b sz J 0) (.pointer (some ⟨c0,o0+J*sz+0,none⟩)):=.op _ _ _ _ _ _ hown
     obtain ⟨q1,vx,rfl,-,ex,hvx⟩:=J_ (K:=fun r=>r=⟨.agg (dU ρ x),[],[b]⟩) hh (t:=e) (a:=.op b sz I 0) (by
      unfold O8
      rw [g7]
      dsimp only [gB]
      rw [hab]
      dsimp only [SB.den]
      refine ⟨rfl,?_⟩
      rw [rx]
      refine ⟨by simp [lx'],?_⟩
      simp [<- lx']) px
     obtain ⟨q2,vy,rfl,-,ey,hvy⟩:=J_ (K:=fun r=>r=⟨.agg (dU ρ y),[],[b]⟩) hh (t:=e) (a:=.op b sz J 0) (by
      unfold O8
      rw [g7]
      dsimp only [gB]
      rw [hab]
      dsimp only [SB.den]
      refine ⟨rfl,?_⟩
      rw [ry]
      refine ⟨by simp [ly'],?_⟩
      simp [<- ly']) py
     obtain ⟨q3,w1,E1,rfl,s1,st1,hh1,-⟩:=QZ (K:=fun r=>r=⟨.p undef,[(b,some (.rows sz ((t.den ρ).R.set I (dU ρ y))))],[b]⟩) (id:=b) hh (t:=e) (a:=.op b sz I 0) (v:=.agg (dU ρ y)) (by
      unfold Ih
      rw [g7]
      dsimp only [gB]
      rw [hab]
      dsimp only [SB.den]
      refine ⟨rfl,rfl,ly',?_⟩
      rw [rx]
      refine ⟨by simp [lx'],?_⟩
      show _=_
      rw [show AV.cells (.agg (dU ρ y))=dU ρ y from rfl,aDY (by rw [lx',ly'])]) px hvy
     obtain ⟨q4,w2,E2,rfl,s2,st2,hh2,-⟩:=QZ (K:=fun r=>r=⟨.p undef,[(b,some (.rows sz (((t.den ρ).R.set I (dU ρ y)).set J (dU ρ x))))],[b]⟩) (id:=b) hh1 (t:=e) (a:=.op b sz J 0) (v:=.agg (dU ρ x)) (by
      unfold Ih
      rw [g7]
      dsimp only [gB]
      rw [show rP ah [(b,some (.rows sz ((t.den ρ).R.set I (dU ρ y))))] b=some (.rows sz ((t.den ρ).R.set I (dU ρ y))) by simp [rP,upd]]
      refine ⟨rfl,rfl,lx',?_⟩
      rw [rz]
      refine ⟨by simp [lz],?_⟩
      show _=_
      rw [show AV.cells (.agg (dU ρ x))=dU ρ x from rfl,aDY (by rw [lx',lz])]) (py.mono st1.ext) (hvx.mono st1.ext)
     have hrun:(Extern.ReflectliteSwapper.swap false #[.int .i64 (ti.den ρ).I,.int .i64 (tj.den ρ).I,.slice (some ⟨c0,o0+0*sz,none⟩) n cap,typeHandle P e]).run P w=.ok (.tuple #[]) w2:=by
      rw [show (ti.den ρ).I=(I:Int) by omega,show (tj.den ρ).I=(J:Int) by omega,anc I J _ _ _ _ hi hj]
      rw [agj] at ex ey
      rw [adA] at s1 s2
      have ai:(⟨c0,o0,none⟩:Addr).add (I*sz)=⟨c0,o0+I*sz+0,none⟩:=by
       simp [Addr.add]
      have aj:(⟨c0,o0,none⟩:Addr).add (J*sz)=⟨c0,o0+J*sz+0,none⟩:=by
       simp [Addr.add]
      simp only [Nat.add_zero] at ai aj ex ey s1 s2
      simp [Extern.ReflectliteSwapper.exchange,Extern.Rtype.ofHandle,handleType,typeHandle,Result.andThen,agk g7,ai,aj,ex,ey,s1,s2]
     refine xU hc.l9 he hrun ?_
     refine hnext _ rfl _ _ E2 (rP ah [(b,some (.rows sz (((t.den ρ).R.set I (dU ρ y)).set J (dU ρ x))))]) ?_ (st1.trans st2) ?_ (.p rfl)
     .have:=Rz (ρ:=ρ) (wr:=[(b,some (.fK sz (.var (nv+3) [])))]) hah
      simp only [List.map_cons,List.map_nil,Option.map_some,SB.den,sy3] at this ⊢
      exact this
     .have e2:rP (rP ah [(b,some (.rows sz ((t.den ρ).R.set I (dU ρ y))))]) [(b,some (.rows sz (((t.den ρ).R.set I (dU ρ y)).set J (dU ρ x))))]=rP ah [(b,some (.rows sz (((t.den ρ).R.set I (dU ρ y)).set J (dU ρ x))))]:=by
       simp only [rP]
       exact L6 _ _ _ _
      rw [e2] at hh2
      exact hh2.weaken fun b' hb'=>⟨⟨hb',fun e=>hnb (e▸hb')⟩,fun e=>hnb (e▸hb')⟩
    .cases h
   .cases h
  .cases h
def auZ (l:List FuncId):Nat->SV->Bool
 |0,_=>true
 |n+1,.fn f _ _=>l.contains f
 |n+1,.agg cs=>cs.any (auZ l n)
 |_,_=>false
def au0 (l:List FuncId)(I:Gv):Gv:=fun pc th nx nv f args=>bif args.any (auZ l 5) then none else I pc th nx nv f args
theorem aqZ {P:Program}{l:List FuncId}{I:Gv}(h:∀σ:List AV,iW σ=true->oH P σ I):∀σ:List AV,iW σ=true->oH P σ (au0 l I):=by
 intro σ hσ pc th nx nv f args R hR
 unfold au0 at hR
 cases hb:args.any (auZ l 5)
 .rw [hb] at hR;exact h σ hσ pc th nx nv f args R hR
 .rw [hb] at hR;cases hR
end Go.Fw
end
section
namespace Go.Fw
variable [jY]
abbrev V (n:Nat):Tm:=.var n []
abbrev W (n j:Nat):Tm:=.var n [j]
abbrev kI : Kd:=.int .i64
abbrev kU : Kd:=.int .u8
abbrev zI (t:Tm):SV:=.sc (.int .i64) t
abbrev zU (t:Tm):SV:=.sc (.int .u8) t
abbrev zB (t:Tm):SV:=.sc .bool t
abbrev zS (t:Tm):SV:=.sc .str t
abbrev zF (t:Tm):SV:=.sc .kC t
abbrev zL (t:Tm):SV:=.sc .sl t
abbrev qL (a b:Tm):Tm:=.bin .lss (.int .i64) a b
abbrev qM (a b:Tm):Tm:=.bin .leq (.int .i64) a b
abbrev qG (a b:Tm):Tm:=.bin .gtr (.int .i64) a b
abbrev qH (a b:Tm):Tm:=.bin .geq (.int .i64) a b
abbrev qE (a b:Tm):Tm:=.bin .eql (.int .i64) a b
abbrev qN (a b:Tm):Tm:=.bin .neq (.int .i64) a b
abbrev uE (a b:Tm):Tm:=.bin .eql (.int .u8) a b
abbrev uN (a b:Tm):Tm:=.bin .neq (.int .u8) a b
abbrev sE (a b:Tm):Tm:=.bin .eql .str a b
abbrev sN (a b:Tm):Tm:=.bin .neq .str a b
abbrev aI (a b:Tm):Tm:=.bin .add (.int .i64) a b
abbrev mI (a b:Tm):Tm:=.bin .sub (.int .i64) a b
abbrev cV (n:Nat)(l:List Kd):List SV:=kQ n [] 0 l
abbrev cW (n j:Nat)(l:List Kd):List SV:=kQ n [] j l
abbrev eI (n:Int):AV:=.p (.int .i64 n)
abbrev eU (n:Int):AV:=.p (.int .u8 n)
abbrev eB (b:Bool):AV:=.p (.bool b)
abbrev eF (n:Nat):AV:=.p (.float .f64 n)
abbrev eS (s:List UInt8):AV:=.str s
abbrev eL {α:Type}(f:α->List AV)(l:List α):AV:=.sl (List.map f l) false
class Fz (a:AV):Prop where h:a.fz=true
class Xk (l:List AV):Prop where h:iW l=true
class Yo {α:Type}(f:α->List AV):Prop where h:∀x,iW (f x)=true
instance {v : Value}:Fz (.p v):=⟨rfl⟩
instance {s : List UInt8}:Fz (.str s):=⟨rfl⟩
instance {l : List AV} [h:Xk l]:Fz (.agg l):=⟨h.h⟩
instance {l : List AV} [h:Xk l]:Fz (.fD l):=⟨h.h⟩
instance {α : Type} {f:α->List AV} [h:Yo f] {l:List α}:Fz (.sl (List.map f l) false):=⟨fzs h.h l⟩
instance : Xk []:=⟨rfl⟩
instance : Fz eP:=⟨rfl⟩
instance {a : AV} {l:List AV} [h:Fz a] [k:Xk l]:Xk (a::l):=⟨fO h.h k.h⟩
theorem aiC : ∀{a b:List AV},iW a=true->iW b=true->iW (a++b)=true
 |[],b,_,h=>h
 |x::r,b,h1,h2=>by
  simp only [iW,Bool.and_eq_true,List.cons_append] at h1 ⊢
  exact ⟨h1.1,aiC h1.2 h2⟩
instance {a b:List AV} [h:Xk a] [k:Xk b]:Xk (a++b):=⟨aiC h.h k.h⟩
instance (priority :=low) {α:Type} {f:α->List AV} [h:Yo f] {x:α}:Xk (f x):=⟨h.h x⟩
instance {b : Bool} {x y:List AV} [h:Xk x] [k:Xk y]:Xk (bif b then x else y):=⟨fzb h.h k.h⟩
instance : Yo rowB:=⟨aqd⟩
instance : Yo kY:=⟨aqe⟩
instance : Yo am3:=⟨am4⟩
instance : Yo aum:=⟨aqf⟩
instance {K V:Type} {f:K->List AV} {g:V->List AV} [h:Yo f] [k:Yo g]:Yo (BG f g):=⟨aqu h.h k.h⟩
class Un {α:Type}(f:α->List AV)(n:outParam Nat):Prop where h:∀x,(f x).length=n
instance : Un rowB 1:=⟨fun _=>rfl⟩
instance : Un kY 1:=⟨fun _=>rfl⟩
instance : Un am3 1:=⟨fun _=>rfl⟩
instance : Un aum 1:=⟨fun _=>rfl⟩
theorem Un.TI {α:Type}{f:α->List AV}{n:Nat}[h:Un f n](l:List α):lJ n (l.map f):=by
 intro row hr
 obtain ⟨x,-,rfl⟩:=List.mem_map.1 hr
 exact h.h x
section
variable {P : Program} {T:Dc} {ρ:List AV} {pc:Pc} {r:List (Pc×Side)}
theorem wn : x9 P T ρ []:=trivial
theorem wX {s:Side}(h:Pc.holds ρ pc->s.wk P T ρ)(k:x9 P T ρ r):x9 P T ρ ((pc,s)::r):=⟨h,k⟩
theorem wT (k:x9 P T ρ r){t:Tm}:x9 P T ρ ((pc,.tm t)::r):=⟨fun _ h=>h.1,k⟩
theorem leH {a b:Tm}(h:((JZ a b).den ρ).B=true):(a.den ρ).I<=(b.den ρ).I:=of_decide_eq_true h
theorem ltH {a b:Tm}(h:((tLt a b).den ρ).B=true):(a.den ρ).I<(b.den ρ).I:=of_decide_eq_true h
theorem wR {t i:Tm}{cells:List SV}{α:Type}{f:α->List AV}{l:List α}(ht:(t.den ρ).R=List.map f l)(k:x9 P T ρ r)[Inhabited α](hc:dU ρ cells=f (l.getD (i.den ρ).I.toNat default):=by rfl):x9 P T ρ ((pc,.row t i cells)::r):=by
 refine ⟨fun _ h=>?_,k⟩
 have h0:0<=(i.den ρ).I:=leH h.1
 have h1:(i.den ρ).I<mZ (t.den ρ).R:=ltH h.2.1
 refine ⟨h0,?_⟩
 rw [ht] at h1 ⊢
 rw [hc]
 exact (ar7 h0 (by simpa [mZ] using h1)).2
theorem wRd {t i:Tm}{off:Nat}{ty:Bool×Nat}{v:SV}{α:Type}{f:α->List AV}{l:List α}(ht:(t.den ρ).R=List.map f l)(k:x9 P T ρ r)[Inhabited α]{y:AV}(hv:v.den ρ=y:=by rfl)(hc:apart ty (f (l.getD (i.den ρ).I.toNat default)) off (fun x=>x=y):=by first|exact rfl|exact ⟨Nat.le_of_ble_eq_true rfl,rfl⟩):x9 P T ρ ((pc,.rd ty t i off v)::r):=by
 refine ⟨fun _ h=>?_,k⟩
 have h0:0<=(i.den ρ).I:=leH h.1
 have h1:(i.den ρ).I<mZ (t.den ρ).R:=ltH h.2.1
 refine ⟨f (l.getD (i.den ρ).I.toNat default),?_,?_⟩
 .rw [ht] at h1 ⊢
  exact (ar7 h0 (by simpa [mZ] using h1)).2
 .rw [hv];exact hc
theorem wSt {t i m:Tm}{off:Nat}{cells:List SV}{α:Type}{f:α->List AV}{l:List α}(y:α)(ht:(t.den ρ).R=List.map f l)(k:x9 P T ρ r)[Inhabited α]{N:Nat}[hn:Un f N](hm:(m.den ρ).R=List.map f (l.set (i.den ρ).I.toNat y):=by rfl)(hc:Nat.ble (off+cells.length) N=true:=by rfl)(hy:f y=lay (f (l.getD (i.den ρ).I.toNat default)) off (dU ρ cells):=by rfl):x9 P T ρ ((pc,.st t i off cells m)::r):=by
 refine ⟨fun _ h=>?_,k⟩
 have h0:0<=(i.den ρ).I:=leH h.1
 have h1:(i.den ρ).I<mZ (t.den ρ).R:=ltH h.2.1
 rw [ht] at h1
 have h2:(i.den ρ).I<(l.length:Int):=by simpa [mZ] using h1
 obtain ⟨row,q1,q2,q3⟩:=aqv (off:=off) (cells:=dU ρ cells) (f:=f) (l:=l) y h0 h2 hn.h (by rw [fZ];exact hc) hy
 exact ⟨row,by rw [ht];exact q1,by rw [<- fZ (ρ:=ρ)];exact q2,by rw [hm,ht];exact q3⟩
theorem azn {t m:Tm}{lo hi:Option Tm}{sz:Nat}{α:Type}{f:α->List AV}{l:List α}(ht:(t.den ρ).R=List.map f l)(k:x9 P T ρ r)[hn:Un f sz](hm:(m.den ρ).R=List.map f ((l.drop (Zf ρ 0 lo).toNat).take ((Zf ρ l.length hi).toNat-(Zf ρ 0 lo).toNat)):=by rfl):x9 P T ρ ((pc,.sub sz t lo hi m)::r):=by
 refine ⟨fun _ h=>?_,k⟩
 have e:(t.den ρ).R.length=l.length:=by rw [ht];simp
 show lJ sz (t.den ρ).R/\_
 rw [e]
 have hl:(((Tm.rlen t).den ρ).I:Int)=l.length:=by show mZ (t.den ρ).R=_;unfold mZ;rw [e]
 refine ⟨by rw [ht];exact Un.TI l,?_,?_,?_,by rw [hm,ht];simp⟩
 .cases lo with
  |none=>exact Int.le_refl _
  |some a=>cases hi with
   |none=>exact leH h.1
   |some b=>exact leH h.1
 .cases lo with
  |none=>cases hi with
   |none=>exact Int.natCast_nonneg _
   |some b=>exact leH h.1
  |some a=>cases hi with
   |none=>have:=leH h.2.1;rw [hl] at this;exact this
   |some b=>exact leH h.2.1
 .cases lo with
  |none=>cases hi with
   |none=>exact Int.le_refl _
   |some b=>have:=leH h.2.1;rw [hl] at this;exact this
  |some a=>cases hi with
   |none=>exact Int.le_refl _
   |some b=>have:=leH h.2.2.1;rw [hl] at this;exact this
theorem anW {k:Nat}:((anz k).den ρ).I=big-k:=by
 unfold anz;rw [yG,VF];rfl
theorem anX {t:Tm}:((Tm.rlen t).den ρ).I=((t.den ρ).R.length:Int):=rfl
theorem wMk {len cap m:Tm}{z:List SV}{α:Type}{f:α->List AV}(y:α)(hm:(m.den ρ).R=List.map f (List.replicate (len.den ρ).I.toNat y))(k:x9 P T ρ r)(hy:f y=dU ρ z:=by rfl):x9 P T ρ ((pc,.mk len cap z m)::r):=by
 refine ⟨fun _ h=>?_,k⟩
 exact ⟨leH h.1,leH h.2.1,leH h.2.2.1,by rw [hm,List.map_replicate,hy]⟩
theorem akz {x m:Tm}{y:List (List SV)}{sz:Nat}{α:Type}{f:α->List AV}{l:List α}(q:List α)(hx:(x.den ρ).R=List.map f l)(k:x9 P T ρ r)[hn:Un f sz](hy:iM ρ y=List.map f q:=by rfl)(hm:(m.den ρ).R=List.map f (l++q):=by rfl):x9 P T ρ ((pc,.app sz x y m)::r):=by
 refine ⟨fun _ h=>?_,k⟩
 have h1:=leH h.1
 rw [anW,anX] at h1
 unfold big at h1
 exact ⟨by rw [hx];exact Un.TI l,by omega,by rw [hm,hx,hy];simp⟩
theorem asl (k:x9 P T ρ r){m:Nat}{y:Tm}:x9 P T ρ ((pc,.len2 m y)::r):=by
 refine ⟨fun _ h=>?_,k⟩
 have h1:=leH h.1
 rw [anW,anX] at h1
 unfold big at h1
 show m+_<=_
 omega
theorem axd {m:Nat}{t:Tm}{α:Type}{f:α->List AV}{l:List α}(ht:(t.den ρ).R=List.map f l)(k:x9 P T ρ r)[hn:Un f m]:x9 P T ρ ((pc,.TI m t)::r):=
 ⟨fun _ _=>by show lJ m _;rw [ht];exact Un.TI l,k⟩
theorem aq0 (k:x9 P T ρ r){x y:Tm}:x9 P T ρ ((pc,.cat x y)::r):=by
 refine ⟨fun _ h=>?_,k⟩
 have h1:=leH h.1
 have h2:=leH h.2.1
 have e:(((anA (.slen y)).den ρ).I)=iq .i64 big (sLen (y.den ρ).S):=rfl
 have h1':((y.den ρ).S.length:Int)<=big:=h1
 rw [e,uV (by unfold sLen;unfold big at *;omega) (by unfold sLen;unfold big at *;omega)] at h2
 have h2':((x.den ρ).S.length:Int)<=big-((y.den ρ).S.length:Int):=h2
 unfold big at h2'
 show _+_<=_
 omega
theorem wC {f:FuncId}{args:List SV}{v:SV}{az:List AV}{y:AV}(h:CT P T f az y)(k:x9 P T ρ r)(ha:dU ρ args=az:=by rfl)(hv:v.den ρ=y:=by rfl):x9 P T ρ ((pc,.call f args v)::r):=by
 subst ha;subst hv
 exact ⟨fun _=>h,k⟩
theorem ctP {f:FuncId}{az:List AV}{y:AV}(h:PC P f az y)(hT:T.at f=sp0:=by rfl):CT P T f az y:=fun _=>⟨h,fun _=>by rw [hT];trivial⟩
theorem ctW {f:FuncId}{az:List AV}{y:AV}(hr:y.flat=true)(h:CTw P T f az [] 0 y [])(h1:(T.atW f 0).pre=(T.at f).pre:=by rfl)(hT:(T.at f).post=[]:=by rfl):CT P T f az y:=fun hp=>by
 rw [<- h1] at hp
 exact ⟨anh hr (h (by simpa [avB] using hp)).1,fun _=>by rw [hT];trivial⟩
theorem wCp {f:FuncId}{args:List SV}{v:SV}{az:List AV}{y:AV}(h:Pc.holds ρ pc->CT P T f az y)(k:x9 P T ρ r)(ha:dU ρ args=az:=by rfl)(hv:v.den ρ=y:=by rfl):x9 P T ρ ((pc,.call f args v)::r):=by
 subst ha;subst hv
 exact ⟨h,k⟩
theorem au1 {f:FuncId}{az:List AV}{y z:AV}{p:List Nat}{sz:Nat}(e:Nw az->y=z)(h:CTo P T f az y p sz)(hT:(T.at f).post=[]:=by rfl):CTo P T f az z p sz:=fun hp=>⟨aii fun hb=>e hb▸(h hp).1,fun _=>by rw [hT];trivial⟩
theorem wOf {f:FuncId}{args:List SV}{v:SV}{p:List Nat}{sz:Nat}{az:List AV}{y:AV}(h:CTo P T f az y p sz){α:Type}{g:α->List AV}{l:List α}(hl:EI p (v.den ρ)=List.map g l)(k:x9 P T ρ r)(hg:∀x,Bv (g x)=true:=by intro _;rfl)(ha:dU ρ args=az:=by rfl)(hv:v.den ρ=y:=by rfl):x9 P T ρ ((pc,.Px f args v p sz true)::r):=by
 subst ha;subst hv
 refine ⟨fun _=>⟨h,fun _ row hr=>?_⟩,k⟩
 rw [hl] at hr
 obtain ⟨x,-,rfl⟩:=List.mem_map.1 hr
 exact hg x
theorem wW {f:FuncId}{args:List SV}{bl JW:List (Nat×SB)}{n0:Nat}{v:SV}{az:List AV}{y:AV}{b b':List (Nat×wB)}(h:CTw P T f az b n0 y b')(k:x9 P T ρ r)(ha:dU ρ args=az:=by rfl)(hb:Iz ρ bl=b:=by rfl)(hv:v.den ρ=y:=by rfl)(hb':Iz ρ JW=b':=by rfl):x9 P T ρ ((pc,.qp f args bl n0 v JW)::r):=by
 subst ha;subst hb;subst hv;subst hb'
 exact ⟨fun _ _=>h,k⟩
theorem wWp {f:FuncId}{args:List SV}{bl JW:List (Nat×SB)}{n0:Nat}{v:SV}{az:List AV}{y:AV}{b b':List (Nat×wB)}(h:Pc.holds ρ pc->CTw P T f az b n0 y b')(k:x9 P T ρ r)(ha:dU ρ args=az:=by rfl)(hb:Iz ρ bl=b:=by rfl)(hv:v.den ρ=y:=by rfl)(hb':Iz ρ JW=b':=by rfl):x9 P T ρ ((pc,.qp f args bl n0 v JW)::r):=by
 subst ha;subst hb;subst hv;subst hb'
 exact ⟨fun hp _=>h hp,k⟩
theorem wWL {f:FuncId}{args:List SV}{bl JW:List (Nat×SB)}{n0:Nat}{v:SV}{az:List AV}{y:AV}{b b':List (Nat×wB)}(h:((osT args bl).1.den ρ).I.toNat=((osT args bl).2.den ρ).R.length->CTw P T f az b n0 y b')(k:x9 P T ρ r)(he:(osL args).isSome=true:=by rfl)(ha:dU ρ args=az:=by rfl)(hb:Iz ρ bl=b:=by rfl)(hv:v.den ρ=y:=by rfl)(hb':Iz ρ JW=b':=by rfl):x9 P T ρ ((pc,.qp f args bl n0 v JW)::r):=by
 subst ha;subst hb;subst hv;subst hb'
 refine ⟨fun _ ho=>h ?_,k⟩
 simp only [Side.osE] at ho
 cases e:osL args with
 |none=>rw [e] at he;cases he
 |some z=>
  rw [e] at ho
  have:=kP.1 ho.1
  rw [this];exact Int.toNat_natCast _
theorem wU {pc':Pc}{s:Side}(h:x9 P T ρ [(pc',s)])(k:x9 P T ρ r):x9 P T ρ ((pc,.under pc' s)::r):=⟨fun _ hp=>h.1 hp,k⟩
theorem axf {t d len n:Tm}{u:List (Int×Bool)}{l:List Bool}(ht:(t.den ρ).R=List.map (BG kY rowB) u)(hd:(d.den ρ).R=List.map rowB l)(hk:Pc.holds ρ pc->∀e∈u,0<=e.1/\e.1<(len.den ρ).I)(k:x9 P T ρ r)(hn:(n.den ρ).R=List.map rowB (Qa u l):=by rfl):x9 P T ρ ((pc,.mark ⟨false,1,false,1⟩ t d len n)::r):=by
 refine ⟨fun hp h=>?_,k⟩
 have h1:(len.den ρ).I<=mZ (d.den ρ).R:=leH h.1
 have hk:=hk hp
 have e0:(t.den ρ).R.map (rW ⟨false,1,false,1⟩)=u.map fun e=>(.p (.int .i64 e.1),.p (.bool e.2)):=by
  rw [ht,List.map_map];rfl
 have e1:(d.den ρ).R.length=l.length:=by rw [hd,List.length_map]
 unfold mZ at h1
 refine ⟨by omega,?_,?_,?_⟩
 .rw [e0]
  intro e he
  obtain ⟨x,hx,rfl⟩:=List.mem_map.1 he
  have:=hk x hx
  exact ⟨_,_,rfl,this.1,by omega⟩
 .rw [hn,hd];simp [Qa]
 .intro i hi
  rw [e1] at hi
  rw [e0,hn,hd]
  have e2:((u.map fun e=>((AV.p (.int .i64 e.1),AV.p (.bool e.2)):AV×AV)).any fun e=>Nat.beq (kOf e.1) i)=u.any fun e=>Nat.beq e.1.toNat i:=by
   rw [List.any_map];rfl
  rw [e2]
  simp only [List.getElem?_map,Qa,List.getElem?_mapIdx]
  rw [List.getElem?_eq_getElem hi]
  simp only [Option.map_some]
  cases hq:u.any fun e=>Nat.beq e.1.toNat i
  .simp
  .simp [rowB,TT]
theorem asn {K V:Type}[DecidableEq K]{f:K->List AV}{g:V->List AV}{kt:TypeId}{m:MSh}{t ft:Tm}{kk z v:SV}(hk:∀a b:K,aeq P 10000 kt (nO m.ka (f a)) (nO m.ka (f b))=some (decide (a=b)))(key:K)(zero:V){l:List (K×V)}(ht:(t.den ρ).R=List.map (BG f g) l)(k:x9 P T ρ r)(hf:∀k,(f k).length=m.kn:=by intro _;rfl)(h1:kk.den ρ=nO m.ka (f key):=by rfl)(h2:z.den ρ=nO m.va (g zero):=by rfl)(h3:(ft.den ρ).B=(n_ zero key l).1:=by rfl)(h4:v.den ρ=nO m.va (g (n_ zero key l).2):=by rfl):x9 P T ρ ((pc,.look kt m t kk z ft v)::r):=by
 refine ⟨fun _ _=>?_,k⟩
 show ∃r,_
 rw [h1,h2,h3,h4,ht]
 exact ZR hk hf key zero l
theorem axg {K V:Type}[DecidableEq K]{f:K->List AV}{g:V->List AV}{kt:TypeId}{m:MSh}{t nt:Tm}{kk v:SV}(hk:∀a b:K,aeq P 10000 kt (nO m.ka (f a)) (nO m.ka (f b))=some (decide (a=b)))(key:K)(val:V){l:List (K×V)}(ht:(t.den ρ).R=List.map (BG f g) l)(k:x9 P T ρ r)(hf:∀k,(f k).length=m.kn:=by intro _;rfl)(h1:kk.den ρ=nO m.ka (f key):=by rfl)(h2:v.den ρ=nO m.va (g val):=by rfl)(h3:(nt.den ρ).R=List.map (BG f g) (og key val l):=by rfl):x9 P T ρ ((pc,.put kt m t kk v nt)::r):=by
 refine ⟨fun _ _=>?_,k⟩
 show ∃r,_
 rw [h1,h2,h3,ht]
 exact adF hk hf key val l
end
def nU (P:Program)(T:Dc)(L:Lo)(H:LH)(ρ0:List AV)(n:Nat)(vs:List AV)(r:Nat×List AV):Prop:=
 match L with
 | .mk _ _ m _ outs sd aw _ _=>anI H.mt.Qk (fun σ=>AO σ H.xs/\x9 P T σ sd/\U2 P T aw H.sub σ) outs ρ0 m n vs r.1 r.2
def axh (e:Bool)(S:List AV->Prop)(outs:List (Tm×Nat×List SV))(ρ0:List AV)(m n:Nat)(σ:List AV)(o:Option (Nat×List SV))(r:Nat×List AV):Prop:=
 match o with
 |none=>False
 |some (0,l)=>anI e S outs ρ0 m n (dU σ l) r.1 r.2
 |some (j+1,l)=>r.1=j/\r.2=dU σ l
def Uo (P:Program)(T:Dc)(L:Lo)(H:LH)(ρ0:List AV)(n:Nat)(σ:List AV)(o:Option (Nat×List SV))(r:Nat×List AV):Prop:=
 match L with
 | .mk _ _ m _ outs sd aw _ _=>axh H.mt.Qk (fun σ=>AO σ H.xs/\x9 P T σ sd/\U2 P T aw H.sub σ) outs ρ0 m n σ o r
theorem l0 {P:Program}{T:Dc}{L:Lo}{H:LH}{ρ0 vs:List AV}{r:Nat×List AV}(h:H.mt.Qk=false:=by rfl):nU P T L H ρ0 0 vs r:=by cases L;exact h
theorem EU {P:Program}{T:Dc}{H:LH}{ρ0 vs:List AV}{n:Nat}{r:Nat×List AV}{pc:Pc}{base m:Nat}{entry:List SV}{outs:List (Tm×Nat×List SV)}{sd:List (Pc×Side)}{aw:List Lo}{ms:List Nat}{bn:List Tm}{L:Lo}(hL:L=.mk pc base m entry outs sd aw ms bn)
  (cs:List AV) [hf:Xk (ρ0++vs++cs)] (hx:AO (ρ0++vs++cs) H.xs) (hw:x9 P T (ρ0++vs++cs) sd) (hl:U2 P T aw H.sub (ρ0++vs++cs)) (h:Uo P T L H ρ0 n (ρ0++vs++cs) (Ei (ρ0++vs++cs) outs) r) (hm:vs.length=m:=by rfl):nU P T L H ρ0 (n+1) vs r:=by
 subst hL
 refine ⟨cs,hm,hf.h,⟨hx,hw,hl⟩,?_⟩
 unfold Uo axh at h
 dsimp only at h
 split at h
 .exact h.elim
 .rename_i l e;first|exact h|(rw [e];exact h)
 .rename_i j l e;first|exact h|(rw [e];exact h)
theorem rcf {P:Program}{T:Dc}{L:Lo}{H:LH}{ρ0 σ:List AV}{n:Nat}{R:Type}(rk:R->Nat×List AV){g:Tm}{x:Nat×List SV}{y:Tm×Nat×List SV}{l:List (Tm×Nat×List SV)}{c:Bool}{a b:R}(h1:c=true->Uo P T L H ρ0 n σ (some x) (rk a))(h2:c=false->Uo P T L H ρ0 n σ (Ei σ (y::l)) (rk b))(hg:(g.den σ).B=c:=by rfl):Uo P T L H ρ0 n σ (Ei σ ((g,x)::y::l)) (rk (bif c then a else b)):=by
 simp only [Ei,hg]
 cases c
 .exact h2 rfl
 .exact h1 rfl
theorem rc {P:Program}{T:Dc}{L:Lo}{H:LH}{ρ0 σ:List AV}{n:Nat}{R:Type}(rk:R->Nat×List AV){g:Tm}{x:Nat×List SV}{y:Tm×Nat×List SV}{l:List (Tm×Nat×List SV)}{c:Bool}{a b:R}(h1:Uo P T L H ρ0 n σ (some x) (rk a))(h2:Uo P T L H ρ0 n σ (Ei σ (y::l)) (rk b))(hg:(g.den σ).B=c:=by rfl):Uo P T L H ρ0 n σ (Ei σ ((g,x)::y::l)) (rk (bif c then a else b)):=
 rcf rk (fun _=>h1) (fun _=>h2) hg
theorem rl {P:Program}{T:Dc}{L:Lo}{H:LH}{ρ0 σ:List AV}{n:Nat}{r:Nat×List AV}{g:Tm}{x:Nat×List SV}(h:Uo P T L H ρ0 n σ (some x) r):Uo P T L H ρ0 n σ (Ei σ [(g,x)]) r:=h
theorem rg {P:Program}{T:Dc}{L:Lo}{H:LH}{ρ0 σ vs:List AV}{n:Nat}{r:Nat×List AV}{l:List SV}(h:nU P T L H ρ0 n vs r)(hl:dU σ l=vs:=by rfl):Uo P T L H ρ0 n σ (some (0,l)) r:=by
 subst hl
 cases L;exact h
theorem rx {P:Program}{T:Dc}{L:Lo}{H:LH}{ρ0 σ:List AV}{n:Nat}{r:Nat×List AV}{j:Nat}{l:List SV}(h1:r.1=j:=by rfl)(h2:r.2=dU σ l:=by rfl):Uo P T L H ρ0 n σ (some (j+1,l)) r:=by
 cases L;exact ⟨h1,h2⟩
theorem EW {c a b:Bool}(h:c=false)(k:(bif c then a else b)=true):b=true:=by subst h;exact k
theorem ln {P:Program}{T:Dc}{hs:List LH}{ρ:List AV}:U2 P T [] hs ρ:=trivial
theorem fuR {α:Type}{f:α->List AV}{l:List α}:1*mZ (List.map f l)+0<((l.length+1:Nat):Int):=by simp [mZ];omega
theorem fuN {x:Int}:1*x+0<((x.toNat+1:Nat):Int):=by omega
theorem Z7 {P:Program}{T:Dc}{ρ ρ0 vs:List AV}{hs:List LH}{ls:List Lo}{n m0:Nat}{us:List AV}{pc:Pc}{base m:Nat}{entry:List SV}{outs:List (Tm×Nat×List SV)}{sd:List (Pc×Side)}{aw:List Lo}{bn:List Tm}{L:Lo}
  (h:nU P T L (hdH hs) ρ0 n vs (0,us)) (k:U2 P T ls (tlH hs) ρ) (hL:L=.mk pc base m entry outs sd aw [m0] bn:=by rfl) (hb:Nat.ble base ρ.length=true:=by rfl) (h0:ρ.take base=ρ0:=by rfl) (hv:dU ρ entry=vs:=by rfl)
  (hn:ftV ρ (hdH hs).ft<(n:Int):=by first|exact fuR|exact fuN) (hu:(ρ.drop base).take us.length=us:=by rfl) (hn0:Nat.blt 0 n=true:=by rfl):U2 P T (L::ls) hs ρ:=by
 subst hL;subst h0;subst hv
 refine ⟨?_,k⟩
 simp only [Lo.wk]
 rw [Nat.blt_eq] at hn0
 exact fun _ _=>⟨Nat.le_of_ble_eq_true hb,n,0,us,⟨hn0,hn⟩,h,fun h=>by simp at h,ZM hu⟩
theorem Yp {P:Program}{T:Dc}{ρ ρ0 vs:List AV}{hs:List LH}{ls:List Lo}{n m0 m1:Nat}{b:Bool}{u0 u1:List AV}{pc:Pc}{base m:Nat}{entry:List SV}{outs:List (Tm×Nat×List SV)}{sd:List (Pc×Side)}{aw:List Lo}{bn:List Tm}{L:Lo}
  (h:nU P T L (hdH hs) ρ0 n vs (Ny b u0 u1)) (k:U2 P T ls (tlH hs) ρ) (hL:L=.mk pc base m entry outs sd aw [m0,m1] bn:=by rfl) (hb:Nat.ble base ρ.length=true:=by rfl) (h0:ρ.take base=ρ0:=by rfl) (hv:dU ρ entry=vs:=by rfl)
  (hn:ftV ρ (hdH hs).ft<(n:Int):=by first|exact fuR|exact fuN) (hk:(ρ.getD base eP).D.I=ji b:=by rfl) (hu0:(ρ.drop (base+1)).take u0.length=u0:=by rfl) (hu1:(ρ.drop (base+1+m0)).take u1.length=u1:=by rfl) (hn0:Nat.blt 0 n=true:=by rfl):U2 P T (L::ls) hs ρ:=by
 subst hL;subst h0;subst hv
 refine ⟨?_,k⟩
 simp only [Lo.wk]
 rw [Nat.blt_eq] at hn0
 refine fun _ _=>⟨Nat.le_of_ble_eq_true hb,n,(Ny b u0 u1).1,(Ny b u0 u1).2,⟨hn0,hn⟩,h,fun _=>?_,?_⟩
 .rw [hk];cases b<;>rfl
 .cases b
  .intro i u hu
   have:=ZM hu1 i u hu
   have e:aDJ base [m0,m1] (Ny false u0 u1).1=base+1+m0:=by show (base+1)+(m0+0)=_;omega
   rw [e];exact this
  .intro i u hu
   have:=ZM hu0 i u hu
   have e:aDJ base [m0,m1] (Ny true u0 u1).1=base+1:=rfl
   rw [e];exact this
theorem xn {ρ:List AV}:AO ρ []:=trivial
theorem xc {ρ:List AV}{pc:Pc}{t:Tm}{r:List (Pc×Tm)}(h:(t.den ρ).B=true)(k:AO ρ r):AO ρ ((pc,t)::r):=⟨fun _=>h,k⟩
theorem xp {ρ:List AV}{pc:Pc}{t:Tm}{r:List (Pc×Tm)}(h:Pc.holds ρ pc->(t.den ρ).B=true)(k:AO ρ r):AO ρ ((pc,t)::r):=⟨h,k⟩
section
variable {P : Program} {T:Dc} {X:qO} {I0:Gv} {md:Md} {FC:FuncId->BD} {vK CF f nv:Nat} {args:List SV} {az:List AV} {r:AV} {R:iE}
theorem qY (hm:P.follows .mixedOrders=true)(hX:∀σ:List AV,iW σ=true->o7 P σ X)(h0:∀σ:List AV,iW σ=true->oH P σ I0)(h:jo P X I0 md FC vK CF f args nv=some R)(H:LH)(hc:(adU T (T.at f) args args H R.sd R.aw&&adW T (T.at f) args args H R fun v=>some (args++[v]))=true)(ρ:List AV)[hρ:Xk ρ](hx:AO ρ H.xs)(hw:x9 P T ρ R.sd)(hl:U2 P T R.aw H.sub ρ)(hr:rQ ρ R.rs=r)(ha:dU ρ args=az:=by rfl):CT P T f az r:=
 azj hm hX h0 h H hc ρ hρ.h hx hw hl ha hr
theorem mkO (hm:P.follows .mixedOrders=true)(hX:∀σ:List AV,iW σ=true->o7 P σ X)(h0:∀σ:List AV,iW σ=true->oH P σ I0){p:List Nat}{sz:Nat}(h:agm P X I0 md FC vK CF f args nv p sz=some R)(H:LH)(hc:(adU T (T.at f) args args H R.sd R.aw&&adW T (T.at f) args args H R fun v=>some (args++[v]))=true)(ρ:List AV)[hρ:Xk ρ](hx:AO ρ H.xs)(hw:x9 P T ρ R.sd)(hl:U2 P T R.aw H.sub ρ)(hr:rQ ρ R.rs=r)(ha:dU ρ args=az:=by rfl):CTo P T f az r p sz:=
 axb hm hX h0 h H hc ρ hρ.h hx hw hl ha hr
theorem mkW (hm:P.follows .mixedOrders=true)(hX:∀σ:List AV,iW σ=true->o7 P σ X)(h0:∀σ:List AV,iW σ=true->oH P σ I0){cs:List AV}{bl:List (Nat×SB)}{vZ:List (Nat×Nat)}{n0:Nat}{bin Nv:List (Nat×wB)}(h:P_ P X I0 md FC vK CF f args nv bl vZ n0=some R)(H:LH)(hc:(adU T (T.atW f n0) (args++Sv bl) args H R.sd R.aw&&adW T (T.atW f n0) (args++Sv bl) args H R (anV args bl vZ))=true)(ρ:List AV)[hρ:Xk ρ](hx:AO ρ H.xs)(hw:x9 P T ρ R.sd)(hl:U2 P T R.aw H.sub ρ)(hr:rQ ρ R.rs=.fD (r::cs))(ha:dU ρ args=az:=by rfl)(hb:Iz ρ bl=bin:=by rfl)(hb2:uU ρ vZ cs 0 bl=Nv:=by rfl):CTw P T f az bin n0 r Nv:=
 axc hm hX h0 h H hc ρ hρ.h hx hw hl ha hb hr hb2
end
end Go.Fw
end
section
namespace Go.Fw
def OY (x0:List UInt8):dI:=
 (dI.mk x0 0)
end Go.Fw
end
section
namespace Go.Fw
def pJ (r:dS×Int):AV:=.fD [(dS.av r.1),(.p (.int .i64 r.2))]
def iP (x0:dK)(u4:List Bool):Nat->Bool->Int->(List (Int×Bool))->(Bool×Bool×Int×List (Int×Bool)×Bool×List (Int×Bool))
 |0,_,_,_=>default
 |n+1,u5,u6,u7=>
  let v8:Bool:=u4.getD (u6:Int).toNat default
  let v9:Bool×Bool:=n_ false u6 u7
  let v10:List (Int×Bool):=og u6 true u7
  let v11:dS:=x0.Objects.getD (u6:Int).toNat default
  bif (!(!v8)) then (true,u5,u6,u7,default,default)
  else bif v9.2 then (false,default,default,default,true,u7)
  else bif (dZ v11.eu.Kind 1) then (true,u5,u6,v10,default,default)
  else iP x0 u4 n u5 v11.eu.Ref v10
def kZ (x0:dK)(u4:List Bool):Nat->Bool->Int->(List (Int×Bool))->Bool
 |0,_,_,_=>false
 |n+1,u5,u6,u7=>
  let v8:Bool:=u4.getD (u6:Int).toNat default
  let v9:Bool×Bool:=n_ false u6 u7
  let v10:List (Int×Bool):=og u6 true u7
  let v11:dS:=x0.Objects.getD (u6:Int).toNat default
  bif (!(!v8)) then true
  else bif v9.2 then true
  else bif (dZ v11.eu.Kind 1) then true
  else kZ x0 u4 n u5 v11.eu.Ref v10
def lN (x0:dK):Nat->Bool->Int->(List Bool)->(Bool×Bool×List Bool×Bool×List Bool)
 |0,_,_,_=>default
 |n+1,u2,u3,u4=>
  let r5:Bool×Bool×Int×List (Int×Bool)×Bool×List (Int×Bool):=iP x0 u4 (x0.Objects.length+3) u2 u3 []
  let v11:List Bool:=Qa r5.2.2.2.1 u4
  bif (!(decide ((u3:Int)<(je dS.enc x0.Objects)))) then (true,u2,u4,default,default)
  else bif (!(dZ (ji r5.1) 0)) then (false,default,default,r5.2.2.2.2.1,u4)
  else lN x0 n r5.2.1 (dY .i64 u3 1) v11
def qW (x0:dK):Bool:=
 let v1:List Bool:=List.replicate ((je dS.enc x0.Objects):Int).toNat false
 let r2:Bool×Bool×List Bool×Bool×List Bool:=lN x0 (x0.Objects.length+1) false 0 v1
 bif (!(dZ (ji r2.1) 0)) then r2.2.2.2.1
 else false
def nR (x0:dL)(x1:Int):Bool:=
 let v2:Bool:=iZ x0
 ((dZ x0.Kind x1)&&v2)
def AP (x0:dS):Int:=
 bif x0.Makes then 8
 else bif x0.Calls then 7
 else 6
def eH (x0:dK)(x1:dL):Bool:=
 let v2:Bool:=iZ x1
 let v3:Bool:=dM x1
 let v4:dS:=x0.Objects.getD (x1.Ref:Int).toNat default
 let v5:Int:=AP v4
 bif (!v2) then false
 else ((!v3)||((decide ((x1.Ref:Int)<(je dS.enc x0.Objects)))&&(dZ v5 x1.Kind)))
def jJ (x0:dK)(x2:Int):Nat->Bool->Int->(List dL)->(Bool×Bool×List dL×Bool×List dL)
 |0,_,_,_=>default
 |n+1,u6,u7,u8=>
  let v9:dL:=u8.getD (u7:Int).toNat default
  let v10:Bool:=dM v9
  let v11:Bool:=eH x0 v9
  bif (!(decide ((u7:Int)<2))) then (true,u6,u8,default,default)
  else bif (((!v10)||(!v11))||(decide ((v9.Ref:Int)>=x2))) then (false,default,default,false,u8)
  else jJ x0 x2 n u6 (dY .i64 u7 1) u8
def pK (x0:dK)(x1:dS)(x2:Int):Bool:=
 let v3:Bool:=nR x1.eu 1
 let v4:Bool:=nR x1.Target 1
 let v5:Bool:=nR x1.Handler 1
 let r6:Bool×Bool×List dL×Bool×List dL:=jJ x0 x2 ((2:Int).toNat+1) false 0 [x1.Target,x1.Handler]
 let v11:dS:=x0.Objects.getD (x1.Target.Ref:Int).toNat default
 bif (((((decide (((je dJ.enc x1.Props):Int) > 0))||x1.Ext)||(!v3))||(sNe x1.Text []))||(x1.Makes&&(!x1.Calls))) then false
 else bif (v4&&v5) then true
 else bif (!(dZ (ji r6.1) 0)) then r6.2.2.2.1
 else ((Nr v11.Calls x1.Calls)&&(Nr v11.Makes x1.Makes))
def iU (x0:Nat)(x1:List dJ):Nat->Int->Int->(Bool×Int×Int)
 |0,_,_=>default
 |n+1,u2,u3=>
  let v4:dJ:=x1.getD (u3:Int).toNat default
  let v5:Int×Bool:=iI v4.Key
  bif (!(decide ((u3:Int)<(je dJ.enc x1)))) then (true,u2,default)
  else bif (v5.2&&(decide ((v5.1:Int)>=(((FloatKind.f64.decode x0).toInt .zero).getD 0)))) then (false,default,u3)
  else iU x0 x1 n u2 (dY .i64 u3 1)
def mO (x0:Nat)(x1:List dJ):Int:=
 let r2:Bool×Int×Int:=iU x0 x1 (x1.length+1) 0 0
 bif (!(dZ (ji r2.1) 0)) then r2.2.2
 else (-1)
def jU (x0:Nat)(x1:List dJ):Bool:=
 let w2:Int:=mO x0 x1
 let r2:Int:=w2
 (decide ((r2:Int)>=0))
def xE (x0:List dJ):Bool:=
 let v1:dJ:=x0.getD (0:Int).toNat default
 let v2:dI:=OY [108,101,110,103,116,104]
 let v3:dJ:=x0.getD (0:Int).toNat default
 let v4:Bool:=lH v3.dV
 let w5:Bool:=jU v3.dV.Value.Num x0
 let r5:Bool:=w5
 bif ((dZ (je dJ.enc x0) 0)||(!((zW v1.Key.Str v2.Str)&&(dZ v1.Key.Sym v2.Sym)))) then false
 else bif (((((!v4)||v3.dV.eG)||v3.dV.Configurable)||(jC v3.dV.Value.Kind 3))||(!((Yd v3.dV.Value.Num 0)&&(UH v3.dV.Value.Num 4652218415073722368)))) then false
 else (!r5)
def jh (x0:List dJ)(x1:List UInt8):Nat->Int->Int->(Bool×Int×Int)
 |0,_,_=>default
 |n+1,u2,u3=>
  let v4:dJ:=x0.getD (u3:Int).toNat default
  let v5:Int×Bool:=iI v4.Key
  let v6:dI:=OY [108,101,110,103,116,104]
  bif (!(decide ((u3:Int)<(je dJ.enc x0)))) then (true,u2,default)
  else bif ((v5.2&&(decide ((v5.1:Int)<(sLen x1))))||((zW v4.Key.Str v6.Str)&&(dZ v4.Key.Sym v6.Sym))) then (false,default,u3)
  else jh x0 x1 n u2 (dY .i64 u3 1)
def nS (x0:List dJ)(x1:List UInt8):Int:=
 let r2:Bool×Int×Int:=jh x0 x1 (x0.length+1) 0 0
 bif (!(dZ (ji r2.1) 0)) then r2.2.2
 else (-1)
def lU (x0:List dJ)(x1:List UInt8):Bool:=
 let w2:Int:=nS x0 x1
 let r2:Int:=w2
 (decide ((r2:Int)>=0))
def xG (x0:List dJ)(x1:List UInt8):Bool:=
 let w2:Bool:=lU x0 x1
 let r2:Bool:=w2
 ((decide (((sLen x1):Int)<=4096))&&(!r2))
def ig (x0:dK)(v2:dS):Nat->Bool->Int->(Bool×Bool×Bool)
 |0,_,_=>default
 |n+1,u12,u13=>
  let v14:dJ:=v2.Props.getD (u13:Int).toNat default
  let v15:Bool:=eH x0 v14.dV.Value
  let v16:Bool:=eH x0 v14.dV.Get
  let v17:Bool:=eH x0 v14.dV.Set
  bif (!(decide ((u13:Int)<(je dJ.enc v2.Props)))) then (true,u12,default)
  else bif (((!v15)||(!v16))||(!v17)) then (false,default,false)
  else ig x0 v2 n u12 (dY .i64 u13 1)
def jv (x0:dK)(x1:Int):Bool:=
 let v2:dS:=x0.Objects.getD (x1:Int).toNat default
 let v3:Bool:=pK x0 v2 x1
 let v4:Bool:=dM v2.Target
 let v5:Bool:=eH x0 v2.Target
 let v6:dS:=x0.Objects.getD (v2.Target.Ref:Int).toNat default
 let v7:Bool:=nR v2.Target 0
 let v8:Bool:=nR v2.Handler 0
 let v9:Bool:=dM v2.eu
 let v10:Bool:=eH x0 v2.eu
 let v11:Int:=jF v2.Props
 let r12:Bool×Bool×Bool:=ig x0 v2 (v2.Props.length+1) false 0
 let v15:Bool:=xE v2.Props
 let v16:Bool:=xG v2.Props v2.Text
 bif (dZ v2.Kind 6) then v3
 else bif ((((!v7)&&(!(((((dZ v2.Kind 5)&&v4)&&(decide ((v2.Target.Ref:Int)<x1)))&&v5)&&(dZ v6.Kind 6))))||(!v8))||((sNe v2.Text [])&&(jC v2.Kind 3))) then false
 else bif ((((jC v2.eu.Kind 1)&&(!v9))||(!v10))||(jC v11 0)) then false
 else bif (!(dZ (ji r12.1) 0)) then r12.2.2
 else bif (dZ v2.Kind 1) then ((!v2.Calls)&&(!v2.Makes))
 else bif (dZ v2.Kind 2) then (((!v2.Calls)&&(!v2.Makes))&&v15)
 else bif (dZ v2.Kind 3) then (((!v2.Calls)&&(!v2.Makes))&&v16)
 else bif (dZ v2.Kind 4) then (v2.Calls&&v2.Makes)
 else bif (dZ v2.Kind 5) then v2.Calls
 else false
def qX (x0:dK):Nat->Int->Int->(Bool×Int×Int)
 |0,_,_=>default
 |n+1,u1,u2=>
  let v3:Bool:=jv x0 u2
  bif (!(decide ((u2:Int)<(je dS.enc x0.Objects)))) then (true,u1,default)
  else bif (!v3) then (false,default,9)
  else qX x0 n u1 (dY .i64 u2 1)
def kR (x0:dK):Int:=
 let r1:Bool×Int×Int:=qX x0 (x0.Objects.length+1) 0 0
 let v4:Bool:=qW x0
 bif (decide (((je dS.enc x0.Objects):Int) > 4096)) then 9
 else bif (!(dZ (ji r1.1) 0)) then r1.2.2
 else bif v4 then 9
 else 0
def kV (x0:dK)(x1:dL):Bool:=
 let v2:Bool:=dM x1
 let v3:Bool:=iZ x1
 let v4:Bool:=iZ x1
 let v5:dS:=x0.Objects.getD (x1.Ref:Int).toNat default
 bif (!v2) then v3
 else bif ((!v4)||(decide ((x1.Ref:Int)>=(je dS.enc x0.Objects)))) then false
 else ((((dZ x1.Kind 8)&&v5.Makes)||(((dZ x1.Kind 7)&&v5.Calls)&&(!v5.Makes)))||(((dZ x1.Kind 6)&&(!v5.Calls))&&(!v5.Makes)))
def jV (x0:dK)(x1:dL):Bool:=
 let v2:Bool:=dM x1
 let v3:Bool:=kV x0 x1
 (((dZ x1.Kind 1)||v2)&&v3)
def Qm (x0:dS):dS:=
 x0
def jP (x0:dK)(x1:Int):Nat->Bool->dL->(Bool×Bool×dL×Bool×dL)
 |0,_,_=>default
 |n+1,u3,u4=>
  let v5:Bool:=dM u4
  let v6:dS:=x0.Objects.getD (u4.Ref:Int).toNat default
  bif (!v5) then (true,u3,u4,default,default)
  else bif (dZ u4.Ref x1) then (false,default,default,true,u4)
  else bif (dZ v6.Kind 6) then (false,default,default,false,u4)
  else jP x0 x1 n u3 v6.eu
def jX (x0:dK)(x1:Int):Nat->Bool->dL->Bool
 |0,_,_=>false
 |n+1,u3,u4=>
  let v5:Bool:=dM u4
  let v6:dS:=x0.Objects.getD (u4.Ref:Int).toNat default
  bif (!v5) then true
  else bif (dZ u4.Ref x1) then true
  else bif (dZ v6.Kind 6) then true
  else jX x0 x1 n u3 v6.eu
def jd (x0:dK)(x1:Int)(x2:dL):Bool:=
 let r3:Bool×Bool×dL×Bool×dL:=jP x0 x1 (x0.Objects.length+1) false x2
 bif (dZ (ji r3.1) 0) then false
 else r3.2.2.2.1
def yZ (x0:dK):Nat->Bool->Int->(Bool×Bool×Bool)
 |0,_,_=>default
 |n+1,u1,u2=>
  let v3:dS:=x0.Objects.getD (u2:Int).toNat default
  let v4:dS:=x0.Objects.getD (u2:Int).toNat default
  let v5:dS:=x0.Objects.getD (u2:Int).toNat default
  bif (!(decide ((u2:Int)<(je dS.enc x0.Objects)))) then (true,u1,default)
  else bif (((decide (((je dJ.enc v3.Props):Int) > 100))&&(decide (((je dJ.enc v4.Props):Int)<1020)))||(decide (((je dJ.enc v5.Props):Int) > 1100))) then (false,default,true)
  else yZ x0 n u1 (dY .i64 u2 1)
def EX (x0:dK):Bool:=
 let r1:Bool×Bool×Bool:=yZ x0 (x0.Objects.length+1) false 0
 bif (((decide (((je dS.enc x0.Objects):Int) > 60))&&(decide (((je dS.enc x0.Objects):Int)<=4096)))||(decide (((je dS.enc x0.Objects):Int) > 5000))) then true
 else bif (!(dZ (ji r1.1) 0)) then r1.2.2
 else false
def Bo (x0:dK)(x1:Int):dS×Int:=
 let v2:Int:=kR x0
 let v3:dS:=x0.Objects.getD (x1:Int).toNat default
 let v4:dS:=Qm v3
 bif (jC v2 0) then ((dS.mk 0 (dL.mk 0 0 [] 0) false [] (dL.mk 0 0 [] 0) (dL.mk 0 0 [] 0) [] false false),v2)
 else bif ((decide ((x1:Int)<0))||(decide ((x1:Int)>=(je dS.enc x0.Objects)))) then ((dS.mk 0 (dL.mk 0 0 [] 0) false [] (dL.mk 0 0 [] 0) (dL.mk 0 0 [] 0) [] false false),2)
 else (v4,0)
def y7 (x0:dK)(x1:Int)(x2:dI):dN×Bool×Int:=
 let v3:dS×Int:=Bo x0 x1
 let v4:dN×Bool×Int:=kK v3.1.Props x2
 bif (jC v3.2 0) then ((dN.mk 0 (dL.mk 0 0 [] 0) (dL.mk 0 0 [] 0) (dL.mk 0 0 [] 0) false false false),false,v3.2)
 else (v4.1,v4.2.1,v4.2.2)
def wH (x0:dK)(x1:Int):List dI×Int:=
 let v2:dS×Int:=Bo x0 x1
 let v3:List dI×Int:=xB v2.1.Props
 bif (jC v2.2 0) then ([],v2.2)
 else (v3.1,v3.2)
def u_ (x0:dK)(x1:Int)(x2:dL):Bool×Int:=
 let v3:dS×Int:=Bo x0 x1
 let v4:Bool:=jV x0 x2
 let v5:Bool:=jd x0 x1 x2
 bif (jC v3.2 0) then (false,v3.2)
 else bif (!v4) then (false,9)
 else (v5,0)
end Go.Fw
end
section
namespace Go.Fw
def ltK (a b:dI):Bool:=(decide (((dW a).1:Int)<(dW b).1))||((dZ (dW a).1 (dW b).1)&&(decide (((dW a).2:Int)<(dW b).2)))
theorem Nh {a b:dI}:ltK a b=true↔(dW a).1<(dW b).1\/((dW a).1=(dW b).1/\(dW a).2<(dW b).2):=by
 simp [ltK,Yl]
theorem JA {a b:dI}:ltK a b=false↔¬((dW a).1<(dW b).1\/((dW a).1=(dW b).1/\(dW a).2<(dW b).2)):=by
 rw [<- Nh];simp
def Ej (l:List dI):Prop:=l.Pairwise fun a b=>ltK b a=false
def um (l m:List dI):Prop:=∀p:Int×Int,l.filter (fun k=>decide (dW k=p))=m.filter (fun k=>decide (dW k=p))
theorem um.refl (l:List dI):um l l:=fun _=>rfl
theorem um.symm {l m:List dI}(h:um l m):um m l:=fun p=>(h p).symm
theorem um.trans {l m n:List dI}(h:um l m)(k:um m n):um l n:=fun p=>(h p).trans (k p)
theorem um.app {a b c d:List dI}(h:um a b)(k:um c d):um (a++c) (b++d):=fun p=>by rw [List.filter_append,List.filter_append,h p,k p]
theorem um.swap {a b:List dI}(h:∀x∈a,∀y∈b,ltK y x=true):um (a++b) (b++a):=by
 intro p
 rw [List.filter_append,List.filter_append]
 by_cases ha:a.filter (fun k=>decide (dW k=p))=[]
 .rw [ha];simp
 .by_cases hb:b.filter (fun k=>decide (dW k=p))=[]
  .rw [hb];simp
  .obtain ⟨x,hx⟩:=List.exists_mem_of_ne_nil _ ha
   obtain ⟨y,hy⟩:=List.exists_mem_of_ne_nil _ hb
   rw [List.mem_filter] at hx hy
   have h1:=of_decide_eq_true hx.2
   have h2:=of_decide_eq_true hy.2
   have:=Nh.1 (h x hx.1 y hy.1)
   rw [h1,h2] at this
   omega
theorem um.Nj {a b:List dI}(h:um a b):∀x,x∈a->x∈b:=by
 intro x hx
 have h1:x∈a.filter (fun k=>decide (dW k=dW x)):=List.mem_filter.2 ⟨hx,by simp⟩
 rw [h] at h1
 exact (List.mem_filter.1 h1).1
theorem aDD {a b c:dI}(h:ltK b a=false)(k:ltK c b=false):ltK c a=false:=by
 rw [JA] at *;omega
theorem aDI {a b c:dI}(h:ltK b a=false)(k:ltK b c=true):ltK a c=true:=by
 rw [JA] at h;rw [Nh] at *;omega
theorem Ur {a b c:dI}(h:ltK a b=true)(k:ltK c b=false):ltK a c=true:=by
 rw [JA] at k;rw [Nh] at *;omega
theorem SC {a b:dI}(h:ltK a b=true):ltK b a=false:=by
 rw [Nh] at h;rw [JA];omega
theorem Ej.uniq : ∀{a b:List dI},Ej a->Ej b->um a b->a=b
 |[],b,ha,hb,h=>by
  cases b with
  |nil=>rfl
  |cons y r=>have:=h.symm.Nj y (by simp);cases this
 |x::r,b,ha,hb,h=>by
  cases b with
  |nil=>have:=h.Nj x (by simp);cases this
  |cons y s=>
   obtain ⟨a1,a2⟩:=List.pairwise_cons.1 ha
   obtain ⟨b1,b2⟩:=List.pairwise_cons.1 hb
   have hxy:ltK y x=false:=by
    have:=h.symm.Nj y (by simp)
    cases this with
    |head=>rw [JA];omega
    |tail _ hm=>exact a1 y hm
   have hyx:ltK x y=false:=by
    have:=h.Nj x (by simp)
    cases this with
    |head=>rw [JA];omega
    |tail _ hm=>exact b1 x hm
   have hp:dW x=dW y:=by
    rw [JA] at hxy hyx
    exact Prod.ext (by omega) (by omega)
   have he:=h (dW x)
   simp only [List.filter_cons,hp,decide_true,if_true,List.cons.injEq] at he
   obtain ⟨rfl,he2⟩:=he
   have:um r s:=by
    intro p
    have:=h p
    simp only [List.filter_cons] at this
    by_cases hq:dW x=p
    .simp only [hq,decide_true,if_true,List.cons.injEq,true_and] at this;exact this
    .simp only [hq,decide_false,Bool.false_eq_true,if_false] at this;exact this
   rw [Ej.uniq a2 b2 this]
theorem y8 {α:Type}[Inhabited α]{A B:List α}{x:α}{i:Int}(h:i=A.length):(A++x::B).getD i.toNat default=x:=by
 subst h;simp
theorem aDB {α:Type}{A B:List α}{x y:α}{i:Int}(h:i=A.length):(A++x::B).set i.toNat y=A++y::B:=by
 subst h;simp
theorem aEP {A M B:List dI}{x y:dI}{i j:Int}(hi:i=A.length)(hj:j=A.length+1+M.length) :
  ((A++x::(M++y::B)).set i.toNat y).set j.toNat x=A++y::(M++x::B):=by
 rw [aDB hi,show A++y::(M++y::B)=(A++y::M)++y::B by simp,aDB (by simp;omega)]
 simp
theorem JB {a b n:Int}:∀(k:Nat) (P Y1 X2 M X1 Y2 T:List dI) (i:Int),a=P.length->i=Y1.length->Y1.length=X1.length->X2.length=Y2.length->b=a+i+X2.length+M.length->n=i+X2.length->X2.length<k->a+b+n<4294967296->
  iC a b n k i (P++Y1++X2++M++X1++Y2++T)=P++Y1++Y2++M++X1++X2++T
 |0,P,Y1,X2,M,X1,Y2,T,i,ha,hi,h1,h2,hb,hn,hk,hlim=>by omega
 |k+1,P,Y1,X2,M,X1,Y2,T,i,ha,hi,h1,h2,hb,hn,hk,hlim=>by
  simp only [iC]
  cases X2 with
  |nil=>
   have:Y2=[]:=List.length_eq_zero_iff.1 (by simpa using h2.symm)
   subst this
   have hd:decide (i<n)=false:=decide_eq_false (by simp at hn;omega)
   simp [hd]
  |cons x X=>
   cases Y2 with
   |nil=>simp at h2
   |cons y Y=>
    simp only [List.length_cons] at *
    have hd:decide (i<n)=true:=decide_eq_true (by omega)
    have e1:dY .i64 a i=a+i:=nG (by omega) (by omega)
    have e2:dY .i64 b i=b+i:=nG (by omega) (by omega)
    have e3:dY .i64 i 1=i+1:=nG (by omega) (by omega)
    simp only [hd,Bool.not_true,cond_false,e1,e2,e3]
    have q1:P++Y1++x::X++M++X1++y::Y++T=(P++Y1)++x::((X++M++X1)++y::(Y++T)):=by simp
    have q2:P++Y1++x::X++M++X1++y::Y++T=((P++Y1)++x::(X++M++X1))++y::(Y++T):=by simp
    have g1:(P++Y1++x::X++M++X1++y::Y++T).getD (a+i).toNat default=x:=by rw [q1];exact y8 (by simp;omega)
    have g2:(P++Y1++x::X++M++X1++y::Y++T).getD (b+i).toNat default=y:=by rw [q2];exact y8 (by simp;omega)
    rw [g1,g2,q1,aEP (by simp;omega) (by simp;omega)]
    have:=JB k P (Y1++[y]) X M (X1++[x]) Y T (i+1) ha (by simp;omega) (by simp;omega) (by omega) (by omega) (by omega) (by omega) hlim
    rw [show P++Y1++y::(X++M++X1++x::(Y++T))=P++(Y1++[y])++X++M++(X1++[x])++Y++T by simp,this]
    simp
theorem Jh {P X M Y T:List dI}{a b n:Int}(ha:a=P.length)(hx:n=X.length)(hy:n=Y.length)(hb:b=a+n+M.length)(hlim:a+b+n<4294967296) :
  fC (P++X++M++Y++T) a b n=P++Y++M++X++T:=by
 unfold fC
 have:=JB (a:=a) (b:=b) (n:=n) (n.toNat+1) P [] X M [] Y T 0 ha rfl rfl (by omega) (by omega) (by omega) (by omega) hlim
 simpa using this
theorem Ji {m:Int}:∀(k:Nat) (P A B T:List dI) (i j:Int),m=P.length+A.length->i=A.length->j=B.length->0<A.length->0<B.length->A.length+B.length<k->4*(P.length+A.length+B.length)<4294967296->
  ∃P' A' B' T',(gU m k i j (P++A++B++T)).2=P'++A'++B'++T'/\(gU m k i j (P++A++B++T)).1=A'.length/\A'.length=B'.length/\m=P'.length+A'.length/\P'++B'++A'++T'=P++B++A++T/\0<A'.length/\A'.length<=A.length/\A'.length<=B.length
 |0,P,A,B,T,i,j,hm,hi,hj,hA,hB,hk,hlim=>by omega
 |k+1,P,A,B,T,i,j,hm,hi,hj,hA,hB,hk,hlim=>by
  simp only [gU]
  by_cases he:A.length=B.length
  .have hd:jC i j=false:=wF.2 (by omega)
   simp only [hd,Bool.not_false,cond_true]
   exact ⟨P,A,B,T,rfl,hi,he,by omega,rfl,hA,Nat.le_refl _,by omega⟩
  .have hd:jC i j=true:=GL.2 (by omega)
   simp only [hd,Bool.not_true,cond_false]
   have e1:iq .i64 m i=m-i:=uV (by omega) (by omega)
   by_cases hg:i > j
   .have hgd:decide (i > j)=true:=decide_eq_true hg
    have e2:iq .i64 i j=i-j:=uV (by omega) (by omega)
    simp only [hgd,cond_true,e1,e2]
    have hA1:A=A.take B.length++A.drop B.length:=(List.take_append_drop _ _).symm
    generalize hX:A.take B.length=X at *
    generalize hA2:A.drop B.length=A2 at *
    have lX:X.length=B.length:=by rw [<- hX];simp;omega
    have lA:A.length=X.length+A2.length:=by rw [hA1];simp
    have sw:fC (P++A++B++T) (m-i) m j=P++B++A2++X++T:=by
     have:=Jh (P:=P) (X:=X) (M:=A2) (Y:=B) (T:=T) (a:=m-i) (b:=m) (n:=j) (by omega) (by omega) (by omega) (by omega) (by omega)
     rw [hA1,show P++(X++A2)++B++T=P++X++A2++B++T by simp];exact this
    rw [sw]
    obtain ⟨P',A',B',T',q1,q2,q3,q4,q5,q6,q7,q8⟩:=Ji (m:=m) k (P++B) A2 X T (i-j) j (by simp;omega) (by omega) (by omega) (by omega) (by omega) (by omega) (by simp;omega)
    refine ⟨P',A',B',T',q1,q2,q3,q4,?_,q6,by omega,by omega⟩
    rw [q5,hA1];simp
   .have hgd:decide (i > j)=false:=decide_eq_false hg
    have e2:iq .i64 j i=j-i:=uV (by omega) (by omega)
    have e3:dY .i64 m j=m+j:=nG (by omega) (by omega)
    have e4:iq .i64 (m+j) i=m+j-i:=uV (by omega) (by omega)
    simp only [hgd,cond_false,e1,e2,e3,e4]
    have hB1:B=B.take (B.length-A.length)++B.drop (B.length-A.length):=(List.take_append_drop _ _).symm
    generalize hX:B.take (B.length-A.length)=B1 at *
    generalize hA2:B.drop (B.length-A.length)=B2 at *
    have lB1:B1.length=B.length-A.length:=by rw [<- hX];simp
    have lB:B.length=B1.length+B2.length:=by rw [hB1];simp
    have sw:fC (P++A++B++T) (m-i) (m+j-i) i=P++B2++B1++A++T:=by
     have:=Jh (P:=P) (X:=A) (M:=B1) (Y:=B2) (T:=T) (a:=m-i) (b:=m+j-i) (n:=i) (by omega) (by omega) (by omega) (by omega) (by omega)
     rw [hB1,show P++A++(B1++B2)++T=P++A++B1++B2++T by simp];exact this
    rw [sw]
    obtain ⟨P',A',B',T',q1,q2,q3,q4,q5,q6,q7,q8⟩:=Ji (m:=m) k P B2 B1 (A++T) i (j-i) (by omega) (by omega) (by omega) (by omega) (by omega) (by omega) (by omega)
    rw [show P++B2++B1++A++T=P++B2++B1++(A++T) by simp]
    refine ⟨P',A',B',T',q1,q2,q3,q4,?_,q6,by omega,by omega⟩
    rw [q5,hB1];simp
theorem akA {P A B T:List dI}{a m b:Int}(ha:a=P.length)(hm:m=a+A.length)(hb:b=m+B.length)(hA:0<A.length)(hB:0<B.length)(hlim:4*(P.length+A.length+B.length)<4294967296) :
  jl (P++A++B++T) a m b=P++B++A++T:=by
 unfold jl
 dsimp only
 have e1:iq .i64 m a=m-a:=uV (by omega) (by omega)
 have e2:iq .i64 b m=b-m:=uV (by omega) (by omega)
 rw [e1,e2]
 obtain ⟨P',A',B',T',q1,q2,q3,q4,q5,q6,q7,q8⟩:=Ji (m:=m) ((b-a).toNat+1) P A B T (m-a) (b-m) (by omega) (by omega) (by omega) hA hB (by omega) hlim
 rw [q1,q2]
 have e3:iq .i64 m (A'.length:Int)=m-A'.length:=uV (by omega) (by omega)
 rw [e3]
 have lim:(P'.length:Int)+A'.length<=P.length+A.length:=by omega
 have:=Jh (P:=P') (X:=A') (M:=[]) (Y:=B') (T:=T') (a:=m-A'.length) (b:=m) (n:=A'.length) (by omega) rfl (by omega) (by simp) (by omega)
 simp only [List.append_nil] at this
 rw [this,q5]
end Go.Fw
end
section
namespace Go.Fw
theorem JC {a:Int}:∀(k:Nat) (P S T:List dI) (x:dI) (j:Int),a=P.length->j=P.length+S.length->S.length<k->P.length+S.length<4294967296->Ej S->
  ∃S1 S2,S=S1++S2/\(∀y∈S1,ltK x y=false)/\(∀y∈S2,ltK x y=true)/\(gI a k j (P++S++x::T)).2=P++S1++x::(S2++T)
 |0,P,S,T,x,j,ha,hj,hk,hlim,hs=>by omega
 |k+1,P,S,T,x,j,ha,hj,hk,hlim,hs=>by
  simp only [gI]
  rcases List.eq_nil_or_concat S with rfl|⟨S',y,rfl⟩
  .have hd:decide (j > a)=false:=decide_eq_false (by simp at hj;omega)
   refine ⟨[],[],rfl,by simp,by simp,?_⟩
   simp [hd]
  .simp only [List.concat_eq_append,List.length_append,List.length_cons,List.length_nil] at *
   have hd:decide (j > a)=true:=decide_eq_true (by omega)
   have e1:iq .i64 j 1=j-1:=uV (by omega) (by omega)
   have g1:(P++(S'++[y])++x::T).getD j.toNat default=x:=y8 (by simp;omega)
   have g2:(P++(S'++[y])++x::T).getD (j-1).toNat default=y:=by
    rw [show P++(S'++[y])++x::T=(P++S')++y::(x::T) by simp];exact y8 (by simp;omega)
   have hs':Ej S':=(List.pairwise_append.1 hs).1
   have hsy:∀z∈S',ltK y z=false:=fun z hz=>(List.pairwise_append.1 hs).2.2 z hz y (by simp)
   simp only [hd,e1,g1,g2,Bool.true_and,Bool.not_true,cond_false]
   have hl:(decide (((dW x).1:Int)<(dW y).1)||dZ (dW x).1 (dW y).1&&decide (((dW x).2:Int)<(dW y).2))=ltK x y:=rfl
   rw [hl]
   cases hlt:ltK x y
   .refine ⟨S'++[y],[],by simp,?_,by simp,by simp⟩
    intro z hz
    rcases List.mem_append.1 hz with hz|hz
    .exact aDD (hsy z hz) hlt
    .simp at hz;subst hz;exact hlt
   .simp only [Bool.not_true,cond_false]
    have sw:(((P++(S'++[y])++x::T).set j.toNat y).set (j-1).toNat x)=P++S'++x::(y::T):=by
     rw [aDB (by simp;omega),show P++(S'++[y])++y::T=(P++S')++y::(y::T) by simp,aDB (by simp;omega)]
    rw [sw]
    obtain ⟨S1,S2,q1,q2,q3,q4⟩:=JC k P S' (y::T) x (j-1) ha (by omega) (by omega) (by omega) hs'
    refine ⟨S1,S2++[y],by rw [q1];simp,q2,fun z hz=>?_,by rw [q4];simp⟩
    rcases List.mem_append.1 hz with hz|hz
    .exact q3 z hz
    .simp at hz;subst hz;exact hlt
theorem abB {S1 S2:List dI}{x:dI}(hs:Ej (S1++S2))(h1:∀y∈S1,ltK x y=false)(h2:∀y∈S2,ltK x y=true):Ej (S1++x::S2):=by
 obtain ⟨a1,a2,a3⟩:=List.pairwise_append.1 hs
 refine List.pairwise_append.2 ⟨a1,List.pairwise_cons.2 ⟨fun y hy=>SC (h2 y hy),a2⟩,fun y hy z hz=>?_⟩
 cases hz with
 |head=>exact h1 y hy
 |tail _ hz=>exact a3 y hy z hz
theorem abC {S1 S2:List dI}{x:dI}(h2:∀y∈S2,ltK x y=true):um (S1++x::S2) (S1++S2++[x]):=by
 rw [List.append_assoc]
 refine um.app (um.refl _) (um.symm (um.swap (a:=S2) (b:=[x]) fun y hy z hz=>?_))
 simp at hz;subst hz;exact h2 y hy
theorem JD {a b:Int}:∀(k:Nat) (P S R T:List dI) (i:Int),a=P.length->i=P.length+S.length->b=i+R.length->R.length<k->P.length+S.length+R.length<4294967296->Ej S->
  ∃S',fM a b k i (P++S++R++T)=P++S'++T/\Ej S'/\um S' (S++R)
 |0,P,S,R,T,i,ha,hi,hb,hk,hlim,hs=>by omega
 |k+1,P,S,R,T,i,ha,hi,hb,hk,hlim,hs=>by
  simp only [fM]
  cases R with
  |nil=>
   have hd:decide (i<b)=false:=decide_eq_false (by simp at hb;omega)
   refine ⟨S,by simp [hd],hs,by simp;exact um.refl _⟩
  |cons x R=>
   simp only [List.length_cons] at *
   have hd:decide (i<b)=true:=decide_eq_true (by omega)
   have e1:dY .i64 i 1=i+1:=nG (by omega) (by omega)
   simp only [hd,Bool.not_true,cond_false,e1]
   obtain ⟨S1,S2,q1,q2,q3,q4⟩:=JC (a:=a) ((i-a).toNat+1) P S (R++T) x i ha hi (by omega) (by omega) hs
   rw [show P++S++x::R++T=P++S++x::(R++T) by simp,q4]
   have hs2:=abB (q1▸hs) q2 q3
   obtain ⟨S',r1,r2,r3⟩:=JD (a:=a) (b:=b) k P (S1++x::S2) R T (i+1) ha (by rw [q1] at hi;simp at hi ⊢;omega) (by omega) (by omega) (by rw [q1] at hlim;simp at hlim ⊢;omega) hs2
   refine ⟨S',by rw [<- r1];simp,r2,r3.trans ?_⟩
   rw [show S++x::R=(S++[x])++R by simp,q1]
   exact um.app (abC q3) (um.refl _)
theorem Qn {P M T:List dI}{a b:Int}(ha:a=P.length)(hb:b=a+M.length)(hlim:P.length+M.length<4294967296) :
  ∃M',gJ (P++M++T) a b=P++M'++T/\Ej M'/\um M' M:=by
 unfold gJ
 dsimp only
 have e1:dY .i64 a 1=a+1:=nG (by omega) (by omega)
 rw [e1]
 cases M with
 |nil=>
  refine ⟨[],?_,List.Pairwise.nil,um.refl _⟩
  simp only [List.length_nil] at hb
  simp only [fM]
  have hd:decide (a+1<b)=false:=decide_eq_false (by omega)
  simp [hd]
 |cons x M=>
  simp only [List.length_cons] at *
  obtain ⟨S',r1,r2,r3⟩:=JD (a:=a) (b:=b) (b.toNat+1) P [x] M T (a+1) ha (by simp;omega) (by omega) (by omega) (by simp;omega) (List.pairwise_singleton _ _)
  exact ⟨S',by rw [<- r1];simp,r2,by simpa using r3⟩
abbrev au2 (a b:Int):Int:=IntKind.wrap .i64 (jm .u64 (IntKind.wrap .u64 (dY .i64 a b)) 1)
theorem Nk {a b:Int}(h0:0<=a)(h1:0<=b)(h2:a+b<9223372036854775807):au2 a b=(a+b) / 2:=by
 have e:dY .i64 a b=a+b:=nG (by omega) (by omega)
 show IntKind.wrap .i64 (jm .u64 (IntKind.wrap .u64 (dY .i64 a b)) 1)=_
 rw [e,ay8 (by omega) (by omega)]
def bs (q:Int->Bool):Nat->Int->Int->Int
 |0,i,_=>i
 |n+1,i,j=>bif decide (i<j) then (bif q ((i+j) / 2) then bs q n ((i+j) / 2+1) j else bs q n i ((i+j) / 2)) else i
theorem adX {q:Int->Bool}:∀(n:Nat) {i j:Int},i<=j->i<=bs q n i j/\bs q n i j<=j
 |0,i,j,h=>by simp [bs,h]
 |n+1,i,j,h=>by
  simp only [bs]
  by_cases hlt:i<j
  .simp only [hlt,decide_true,cond_true]
   cases q ((i+j) / 2) with
   |true=>simp only [cond_true];have:=adX (q:=q) n (i:=(i+j) / 2+1) (j:=j) (by omega);omega
   |false=>simp only [cond_false];have:=adX (q:=q) n (i:=i) (j:=(i+j) / 2) (by omega);omega
  .simp only [hlt,decide_false,cond_false];omega
theorem adY {q:Int->Bool}:∀(n:Nat) {i j:Int},i<=j->(j-i).toNat<n->(∀c d,i<=c->c<=d->d<j->q d=true->q c=true)->
  (∀c,i<=c->c<bs q n i j->q c=true)/\(∀c,bs q n i j<=c->c<j->q c=false)
 |0,i,j,h,hn,hm=>by omega
 |n+1,i,j,h,hn,hm=>by
  simp only [bs]
  by_cases hlt:i<j
  .simp only [hlt,decide_true,cond_true]
   cases hq:q ((i+j) / 2) with
   |true=>
    simp only [cond_true]
    obtain ⟨h1,h2⟩:=adY (q:=q) n (i:=(i+j) / 2+1) (j:=j) (by omega) (by omega) (fun c d a b e=>hm c d (by omega) b e)
    refine ⟨fun c hc hl=>?_,h2⟩
    by_cases h3:c<=(i+j) / 2
    .exact hm c _ hc h3 (by omega) hq
    .exact h1 c (by omega) hl
   |false=>
    simp only [cond_false]
    obtain ⟨h1,h2⟩:=adY (q:=q) n (i:=i) (j:=(i+j) / 2) (by omega) (by omega) (fun c d a b e=>hm c d a b (by omega))
    refine ⟨h1,fun c hc hl=>?_⟩
    by_cases h3:c<(i+j) / 2
    .exact h2 c hc h3
    .cases hqc:q c with
     |false=>rfl
     |true=>rw [hm _ c (by omega) (by omega) hl hqc] at hq;cases hq
  .simp only [hlt,decide_false,cond_false]
   exact ⟨fun c h1 h2=>by omega,fun c h1 h2=>by omega⟩
abbrev gt (l:List dI)(i:Int):dI:=l.getD i.toNat default
theorem anY {x0:List dI}{a:Int}:∀(n:Nat) {i j:Int},0<=i->i<=j->j<=4294967296->gX x0 a n i j=bs (fun c=>ltK (gt x0 c) (gt x0 a)) n i j
 |0,i,j,_,_,_=>rfl
 |n+1,i,j,h0,h1,h2=>by
  simp only [gX,bs]
  rw [show IntKind.wrap .i64 (jm .u64 (IntKind.wrap .u64 (dY .i64 i j)) 1)=(i+j) / 2 from Nk h0 (by omega) (by omega)]
  have e:dY .i64 ((i+j) / 2) 1=(i+j) / 2+1:=nG (by omega) (by omega)
  rw [e]
  by_cases hlt:i<j
  .simp only [hlt,decide_true,Bool.not_true,cond_false,cond_true]
   show gX x0 a n (bif ltK (gt x0 ((i+j) / 2)) (gt x0 a) then _ else _) (bif ltK (gt x0 ((i+j) / 2)) (gt x0 a) then _ else _)=_
   cases ltK (gt x0 ((i+j) / 2)) (gt x0 a) with
   |true=>simp only [cond_true];exact anY n (by omega) (by omega) h2
   |false=>simp only [cond_false];exact anY n h0 (by omega) (by omega)
  .simp only [hlt,decide_false,Bool.not_false,cond_true,cond_false]
theorem anZ {x0:List dI}{m:Int}:∀(n:Nat) {i j:Int},0<=i->i<=j->j<=4294967296->iK x0 m n i j=bs (fun c=>!ltK (gt x0 m) (gt x0 c)) n i j
 |0,i,j,_,_,_=>rfl
 |n+1,i,j,h0,h1,h2=>by
  simp only [iK,bs]
  rw [show IntKind.wrap .i64 (jm .u64 (IntKind.wrap .u64 (dY .i64 i j)) 1)=(i+j) / 2 from Nk h0 (by omega) (by omega)]
  have e:dY .i64 ((i+j) / 2) 1=(i+j) / 2+1:=nG (by omega) (by omega)
  rw [e]
  by_cases hlt:i<j
  .simp only [hlt,decide_true,Bool.not_true,cond_false,cond_true]
   show iK x0 m n (bif ltK (gt x0 m) (gt x0 ((i+j) / 2)) then _ else _) (bif ltK (gt x0 m) (gt x0 ((i+j) / 2)) then _ else _)=_
   cases ltK (gt x0 m) (gt x0 ((i+j) / 2)) with
   |true=>simp only [cond_true,Bool.not_true,cond_false];exact anZ n h0 (by omega) (by omega)
   |false=>simp only [cond_false,Bool.not_false,cond_true];exact anZ n (by omega) (by omega) h2
  .simp only [hlt,decide_false,Bool.not_false,cond_true,cond_false]
theorem an0 {x0:List dI}{a m b:Int}(ha:0<=a)(hab:a<=b)(hb:b<=4294967296)(hm0:0<=m)(hm1:m<=b):∀(n:Nat) {i j:Int},0<=i->i<=j->j<=4294967296->
  jg x0 a m b n i j=bs (fun c=>!ltK (gt x0 ((a+b) / 2+m-1-c)) (gt x0 c)) n i j
 |0,i,j,_,_,_=>rfl
 |n+1,i,j,h0,h1,h2=>by
  simp only [jg,bs]
  rw [show IntKind.wrap .i64 (jm .u64 (IntKind.wrap .u64 (dY .i64 i j)) 1)=(i+j) / 2 from Nk h0 (by omega) (by omega),
   show IntKind.wrap .i64 (jm .u64 (IntKind.wrap .u64 (dY .i64 a b)) 1)=(a+b) / 2 from Nk ha (by omega) (by omega)]
  have e:dY .i64 ((i+j) / 2) 1=(i+j) / 2+1:=nG (by omega) (by omega)
  have e2:dY .i64 ((a+b) / 2) m=(a+b) / 2+m:=nG (by omega) (by omega)
  have e3:iq .i64 ((a+b) / 2+m) 1=(a+b) / 2+m-1:=uV (by omega) (by omega)
  have e4:iq .i64 ((a+b) / 2+m-1) ((i+j) / 2)=(a+b) / 2+m-1-(i+j) / 2:=uV (by omega) (by omega)
  rw [e,e2,e3,e4]
  by_cases hlt:i<j
  .simp only [hlt,decide_true,Bool.not_true,cond_false,cond_true]
   show jg x0 a m b n (bif ltK (gt x0 ((a+b) / 2+m-1-(i+j) / 2)) (gt x0 ((i+j) / 2)) then _ else _) (bif ltK (gt x0 ((a+b) / 2+m-1-(i+j) / 2)) (gt x0 ((i+j) / 2)) then _ else _)=_
   cases ltK (gt x0 ((a+b) / 2+m-1-(i+j) / 2)) (gt x0 ((i+j) / 2)) with
   |true=>simp only [cond_true,Bool.not_true,cond_false];exact an0 ha hab hb hm0 hm1 n h0 (by omega) (by omega)
   |false=>simp only [cond_false,Bool.not_false,cond_true];exact an0 ha hab hb hm0 hm1 n (by omega) (by omega) h2
  .simp only [hlt,decide_false,Bool.not_false,cond_true,cond_false]
theorem aso {r:Int}:∀(k:Nat) (P B R:List dI) (x:dI) (i:Int),i=P.length->r=P.length+1+B.length->B.length<k->P.length+B.length+1<4294967296->
  gY r k i (P++x::(B++R))=P++B++x::R
 |0,P,B,R,x,i,hi,hr,hk,hlim=>by omega
 |k+1,P,B,R,x,i,hi,hr,hk,hlim=>by
  simp only [gY]
  have e0:iq .i64 r 1=r-1:=uV (by omega) (by omega)
  rw [e0]
  cases B with
  |nil=>
   have hd:decide (i<r-1)=false:=decide_eq_false (by simp at hr;omega)
   simp [hd]
  |cons y B=>
   simp only [List.length_cons] at *
   have hd:decide (i<r-1)=true:=decide_eq_true (by omega)
   have e1:dY .i64 i 1=i+1:=nG (by omega) (by omega)
   simp only [hd,Bool.not_true,cond_false,e1]
   have g1:(P++x::(y::B++R)).getD i.toNat default=x:=y8 hi
   have g2:(P++x::(y::B++R)).getD (i+1).toNat default=y:=by
    rw [show P++x::(y::B++R)=(P++[x])++y::(B++R) by simp];exact y8 (by simp;omega)
   rw [g1,g2,aDB hi,show P++y::(y::B++R)=(P++[y])++y::(B++R) by simp,aDB (by simp;omega)]
   rw [aso k (P++[y]) B R x (i+1) (by simp;omega) (by simp;omega) (by omega) (by simp;omega)]
   simp
theorem asq {r:Int}:∀(k:Nat) (R A T:List dI) (y:dI) (i:Int),r=R.length->i=R.length+A.length->A.length<k->R.length+A.length+1<4294967296->
  gZ r k i (R++A++y::T)=R++y::(A++T)
 |0,R,A,T,y,i,hr,hi,hk,hlim=>by omega
 |k+1,R,A,T,y,i,hr,hi,hk,hlim=>by
  simp only [gZ]
  rcases List.eq_nil_or_concat A with rfl|⟨A',z,rfl⟩
  .have hd:decide (i > r)=false:=decide_eq_false (by simp at hi;omega)
   simp [hd]
  .simp only [List.concat_eq_append,List.length_append,List.length_cons,List.length_nil] at *
   have hd:decide (i > r)=true:=decide_eq_true (by omega)
   have e1:iq .i64 i 1=i-1:=uV (by omega) (by omega)
   have g1:(R++(A'++[z])++y::T).getD i.toNat default=y:=y8 (by simp;omega)
   have g2:(R++(A'++[z])++y::T).getD (i-1).toNat default=z:=by
    rw [show R++(A'++[z])++y::T=(R++A')++z::(y::T) by simp];exact y8 (by simp;omega)
   simp only [hd,Bool.not_true,cond_false,e1,g1,g2]
   rw [aDB (by simp;omega),show R++(A'++[z])++z::T=(R++A')++z::(z::T) by simp,aDB (by simp;omega)]
   rw [show R++A'++y::z::T=R++A'++y::(z::T) by simp,asq k R A' (z::T) y (i-1) hr (by omega) (by omega) (by omega)]
   simp
end Go.Fw
end
section
namespace Go.Fw
theorem G7 {a b n:Int}:∀{k:Nat} {i:Int} {l:List dI},(iC a b n k i l).length=l.length
 |0,i,l=>rfl
 |k+1,i,l=>by
  simp only [iC,Bool.cond_eq_ite]
  split
  .rfl
  .rw [G7];simp
theorem FV {x0:List dI}{a b n:Int}:(fC x0 a b n).length=x0.length:=G7
theorem G8 {a:Int}:∀{k:Nat} {i:Int} {l:List dI},(gI a k i l).2.length=l.length
 |0,i,l=>rfl
 |k+1,i,l=>by
  simp only [gI,Bool.cond_eq_ite]
  split
  .rfl
  .split
   .rfl
   .rw [G8];simp
theorem G9 {a b:Int}:∀{k:Nat} {i:Int} {l:List dI},(fM a b k i l).length=l.length
 |0,i,l=>rfl
 |k+1,i,l=>by
  simp only [fM,Bool.cond_eq_ite]
  split
  .rfl
  .rw [G9,G8]
theorem uy {x0:List dI}{a b:Int}:(gJ x0 a b).length=x0.length:=G9
theorem FW {m:Int}:∀{k:Nat} {i j:Int} {l:List dI},(gU m k i j l).2.length=l.length
 |0,i,j,l=>rfl
 |k+1,i,j,l=>by
  simp only [gU,Bool.cond_eq_ite]
  split
  .rfl
  .split
   .rw [FW,FV]
   .rw [FW,FV]
theorem agJ {x0:List dI}{a m b:Int}:(jl x0 a m b).length=x0.length:=by
 simp only [jl,FV,FW]
theorem JE {r:Int}:∀{k:Nat} {i:Int} {l:List dI},(gY r k i l).length=l.length
 |0,i,l=>rfl
 |k+1,i,l=>by
  simp only [gY,Bool.cond_eq_ite]
  split
  .rfl
  .rw [JE];simp
theorem JF {r:Int}:∀{k:Nat} {i:Int} {l:List dI},(gZ r k i l).length=l.length
 |0,i,l=>rfl
 |k+1,i,l=>by
  simp only [gZ,Bool.cond_eq_ite]
  split
  .rfl
  .rw [JF];simp
theorem vN : ∀{n:Nat} {x0:List dI} {a m b:Int},(dR n x0 a m b).length=x0.length
 |0,x0,a,m,b=>rfl
 |n+1,x0,a,m,b=>by
  unfold dR
  dsimp only
  refine (yV ?_ (yV ?_ (yV ?_ (yV ?_ (yV ?_ (yV ?_ (yV ?_ (yV ?_ (yV ?_ ?_)))))))))
  all_goals first|rfl|simp only [JE,JF,vN (n:=n),agJ]
theorem NU {x1:Int}:∀{n:Nat} {a b:Int} {l:List dI},(gV x1 n a b l).2.2.length=l.length
 |0,a,b,l=>rfl
 |n+1,a,b,l=>by
  simp only [gV,Bool.cond_eq_ite]
  split
  .rfl
  .rw [NU,uy]
theorem D8 {x1 s:Int}:∀{n:Nat} {a b:Int} {l:List dI},(fF x1 s n a b l).2.2.length=l.length
 |0,a,b,l=>rfl
 |n+1,a,b,l=>by
  simp only [fF,Bool.cond_eq_ite]
  split
  .rfl
  .rw [D8,vN]
theorem FX {x1:Int}:∀{n:Nat} {s a b:Int} {l:List dI},(iH x1 n s a b l).length=l.length
 |0,s,a,b,l=>rfl
 |n+1,s,a,b,l=>by
  simp only [iH,Bool.cond_eq_ite]
  split
  .rfl
  .split
   .rw [FX,vN,D8]
   .rw [FX,D8]
theorem Xl {x0:List dI}{x1:Int}:(fA x0 x1).length=x0.length:=by
 simp only [fA,FX,uy,NU]
theorem Xm (x0:List dI)(hb:x0.length<=4294967296):Lu x0=uf x0:=by
 unfold Lu uf
 dsimp only
 rw [iL]
 have hs:(fA x0 (x0.length:Int)).length=x0.length:=Xl
 have:((fA x0 (x0.length:Int)).drop 0).take ((x0.length:Int).toNat-0)=fA x0 x0.length:=by
  rw [List.drop_zero];exact List.take_of_length_le (by omega)
 rw [this]
theorem an1 {α:Type}{f:α->List AV}{l:List α}{x:α}(h:l.length<=4294967296):iq .i64 (je f (l++[x])) 1=l.length:=by
 rw [iL,List.length_append,uV (by simp<;>omega) (by simp<;>omega)]
 simp
end Go.Fw
end
section
namespace Go.Fw
theorem LJ {P A T:List dI}{x:dI}(hx:x∈A):∃c:Int,(P.length:Int)<=c/\c<P.length+A.length/\gt (P++A++T) c=x:=by
 obtain ⟨A1,A2,rfl⟩:=List.append_of_mem hx
 refine ⟨P.length+A1.length,by omega,by simp;omega,?_⟩
 show (P++(A1++x::A2)++T).getD _ default=x
 rw [show P++(A1++x::A2)++T=(P++A1)++x::(A2++T) by simp]
 exact y8 (by simp)
theorem an2 {P A T:List dI}{c:Int}(h0:(P.length:Int)<=c)(h1:c<P.length+A.length):∃A1 A2,A=A1++gt (P++A++T) c::A2/\(A1.length:Int)=c-P.length:=by
 refine ⟨A.take (c-P.length).toNat,A.drop ((c-P.length).toNat+1),?_,by simp;omega⟩
 have hk:(c-P.length).toNat<A.length:=by omega
 have e:gt (P++A++T) c=A.getD (c-P.length).toNat default:=by
  show (P++A++T).getD c.toNat default=_
  simp only [List.getD_eq_getElem?_getD,List.append_assoc]
  rw [List.getElem?_append_right (by omega),List.getElem?_append_left (by omega),show c.toNat-P.length=(c-P.length).toNat by omega]
 rw [e,<- I_ A _ hk,List.take_append_drop]
theorem U4 {P A T:List dI}(hs:Ej A){c d:Int}(h0:(P.length:Int)<=c)(h1:c<=d)(h2:d<P.length+A.length):ltK (gt (P++A++T) d) (gt (P++A++T) c)=false:=by
 by_cases hcd:c=d
 .subst hcd;rw [JA];omega
 obtain ⟨A1,A2,q1,q2⟩:=an2 (T:=T) h0 (by omega:c<P.length+A.length)
 generalize gt (P++A++T) c=x at *
 have e:P++A++T=(P++(A1++[x]))++A2++T:=by rw [q1];simp
 rw [e]
 obtain ⟨B1,B2,r1,r2⟩:=an2 (P:=P++(A1++[x])) (A:=A2) (T:=T) (c:=d) (by simp;omega) (by rw [q1] at h2;simp at h2 ⊢;omega)
 generalize gt ((P++(A1++[x]))++A2++T) d=y at *
 rw [q1] at hs
 have:=(List.pairwise_append.1 hs).2.1
 have:=(List.pairwise_cons.1 this).1 y (by rw [r1];simp)
 exact this
theorem abD {A B:List dI}(ha:Ej A)(hb:Ej B)(h:∀x∈A,∀y∈B,ltK y x=false):Ej (A++B):=List.pairwise_append.2 ⟨ha,hb,h⟩
theorem LK {A:List dI}{k:Int}(h0:0<=k)(h1:k<=A.length):∃A1 A2,A=A1++A2/\(A1.length:Int)=k:=
 ⟨A.take k.toNat,A.drop k.toNat,(List.take_append_drop _ _).symm,by simp;omega⟩
theorem au3 {P A B T:List dI}{a m b mid lo hi r:Int}{k:Nat}(ha:a=P.length)(hm:m=a+A.length)(hb:b=m+B.length)(hA:Ej A)(hB:Ej B)(hmid:mid=(a+b) / 2)
  (hlo:lo=if m > mid then mid+m-b else a) (hhi:hi=if m > mid then mid else m) (hA0:0<A.length) (hB0:0<B.length)
  (hr:r=bs (fun c=>!ltK (gt (P++A++B++T) (mid+m-1-c)) (gt (P++A++B++T) c)) k lo hi) (hk:b-a<k) :
  ∃A1 A2 B1 B2,A=A1++A2/\B=B1++B2/\r=a+A1.length/\mid-r=B1.length/\(∀x∈A1,∀y∈B2,ltK y x=false)/\(∀x∈A2,∀y∈B1,ltK y x=true):=by
 have hlh:lo<=hi:=by split at hlo<;>split at hhi<;>omega
 have bd:=adX (q:=fun c=>!ltK (gt (P++A++B++T) (mid+m-1-c)) (gt (P++A++B++T) c)) k hlh
 rw [<- hr] at bd
 have eA:∀c d:Int,a<=c->c<=d->d<m->ltK (gt (P++A++B++T) d) (gt (P++A++B++T) c)=false:=by
  intro c d h1 h2 h3
  have:=U4 (P:=P) (T:=B++T) hA (c:=c) (d:=d) (by omega) h2 (by omega)
  rw [show P++A++B++T=P++A++(B++T) by simp];exact this
 have eB:∀c d:Int,m<=c->c<=d->d<b->ltK (gt (P++A++B++T) d) (gt (P++A++B++T) c)=false:=by
  intro c d h1 h2 h3
  exact U4 (P:=P++A) (T:=T) hB (c:=c) (d:=d) (by simp;omega) h2 (by simp;omega)
 obtain ⟨h1,h2⟩:=adY (q:=fun c=>!ltK (gt (P++A++B++T) (mid+m-1-c)) (gt (P++A++B++T) c)) k hlh (by split at hlo<;>split at hhi<;>omega) (by
  intro c d h1 h2 h3 h4
  simp only [Bool.not_eq_true'] at h4 ⊢
  have q1:=eA c d (by split at hlo<;>omega) h2 (by split at hhi<;>omega)
  have q2:=eB (mid+m-1-d) (mid+m-1-c) (by split at hhi<;>omega) (by omega) (by split at hlo<;>omega)
  exact aDD q1 (aDD h4 q2))
 rw [<- hr] at h1 h2
 have b1:a<=r:=by split at hlo<;>omega
 have b2:r<=m:=by split at hhi<;>omega
 have b3:r<=mid:=by split at hhi<;>omega
 have b4:mid+m-r<=b:=by split at hlo<;>omega
 obtain ⟨A1,A2,rfl,l1⟩:=LK (A:=A) (k:=r-a) (by omega) (by omega)
 obtain ⟨B1,B2,rfl,l2⟩:=LK (A:=B) (k:=mid-r) (by omega) (by omega)
 simp only [List.length_append] at *
 refine ⟨A1,A2,B1,B2,rfl,rfl,by omega,by omega,fun x hx y hy=>?_,fun x hx y hy=>?_⟩
 .obtain ⟨c,c0,c1,c2⟩:=LJ (P:=P) (T:=A2++(B1++B2)++T) hx
  obtain ⟨d,d0,d1,d2⟩:=LJ (P:=P++(A1++A2)++B1) (T:=T) hy
  rw [show P++A1++(A2++(B1++B2)++T)=P++(A1++A2)++(B1++B2)++T by simp] at c2
  rw [show P++(A1++A2)++B1++B2++T=P++(A1++A2)++(B1++B2)++T by simp] at d2
  simp only [List.length_append] at d0 d1
  have q:=h1 (r-1) (by split at hlo<;>omega) (by omega)
  simp only [Bool.not_eq_true'] at q
  have q1:=eA c (r-1) (by omega) (by omega) (by omega)
  have q2:=eB (mid+m-1-(r-1)) d (by omega) (by omega) (by omega)
  rw [<- c2,<- d2]
  exact aDD q1 (aDD q q2)
 .obtain ⟨c,c0,c1,c2⟩:=LJ (P:=P++A1) (T:=(B1++B2)++T) hx
  obtain ⟨d,d0,d1,d2⟩:=LJ (P:=P++(A1++A2)) (T:=B2++T) hy
  rw [show P++A1++A2++(B1++B2++T)=P++(A1++A2)++(B1++B2)++T by simp] at c2
  rw [show P++(A1++A2)++B1++(B2++T)=P++(A1++A2)++(B1++B2)++T by simp] at d2
  simp only [List.length_append] at c0 c1 d0 d1
  have q:=h2 r (by omega) (by split at hhi<;>omega)
  simp only [Bool.not_eq_false'] at q
  have q1:=eA r c (by omega) (by omega) (by omega)
  have q2:=eB d (mid+m-1-r) (by omega) (by omega) (by omega)
  rw [<- c2,<- d2]
  exact Ur (aDI q2 q) q1
theorem one1 {A:List dI}(h:A.length=1):∃x,A=[x]:=by
 match A,h with
 |[x],_=>exact ⟨x,rfl⟩
theorem au4 {P B T:List dI}{x:dI}{a m b:Int}(ha:a=P.length)(hm:m=a+1)(hb:b=m+B.length)(hB:Ej B)(hlim:b<4294967296) :
  ∃C,gY (gX (P++[x]++B++T) a ((b-m).toNat+1) m b) ((iq .i64 (gX (P++[x]++B++T) a ((b-m).toNat+1) m b) 1).toNat+1) a (P++[x]++B++T)=P++C++T/\Ej C/\um C ([x]++B):=by
 rw [anY _ (by omega) (by omega) (by omega)]
 have gx:gt (P++[x]++B++T) a=x:=by
  show (P++[x]++B++T).getD _ default=x
  rw [show P++[x]++B++T=P++x::(B++T) by simp];exact y8 ha
 rw [gx]
 have eB:∀c d:Int,m<=c->c<=d->d<b->ltK (gt (P++[x]++B++T) d) (gt (P++[x]++B++T) c)=false:=by
  intro c d h1 h2 h3
  exact U4 (P:=P++[x]) (T:=T) hB (c:=c) (d:=d) (by simp;omega) h2 (by simp;omega)
 generalize hr:bs (fun c=>ltK (gt (P++[x]++B++T) c) x) ((b-m).toNat+1) m b=r
 have bd:=adX (q:=fun c=>ltK (gt (P++[x]++B++T) c) x) ((b-m).toNat+1) (i:=m) (j:=b) (by omega)
 obtain ⟨h1,h2⟩:=adY (q:=fun c=>ltK (gt (P++[x]++B++T) c) x) ((b-m).toNat+1) (i:=m) (j:=b) (by omega) (by omega) (fun c d h1 h2 h3 h4=>aDI (eB c d h1 h2 h3) h4)
 rw [hr] at bd h1 h2
 obtain ⟨B1,B2,rfl,l1⟩:=LK (A:=B) (k:=r-m) (by omega) (by omega)
 have m1:∀y∈B1,ltK y x=true:=by
  intro y hy
  obtain ⟨c,c0,c1,c2⟩:=LJ (P:=P++[x]) (T:=B2++T) hy
  rw [<- c2,show P++[x]++B1++(B2++T)=P++[x]++(B1++B2)++T by simp]
  exact h1 c (by simp at c0;omega) (by simp at c1;omega)
 have m2:∀y∈B2,ltK y x=false:=by
  intro y hy
  obtain ⟨c,c0,c1,c2⟩:=LJ (P:=P++[x]++B1) (T:=T) hy
  rw [<- c2,show P++[x]++B1++B2++T=P++[x]++(B1++B2)++T by simp]
  simp at c0 c1 hb
  exact h2 c (by omega) (by omega)
 have e1:iq .i64 r 1=r-1:=uV (by omega) (by omega)
 rw [e1,show P++[x]++(B1++B2)++T=P++x::(B1++(B2++T)) by simp,aso _ P B1 (B2++T) x a ha (by omega) (by omega) (by simp at hb;omega)]
 obtain ⟨s1,s2,s3⟩:=List.pairwise_append.1 hB
 refine ⟨B1++x::B2,by simp,List.pairwise_append.2 ⟨s1,List.pairwise_cons.2 ⟨m2,s2⟩,fun y hy z hz=>?_⟩,?_⟩
 .cases hz with
  |head=>exact SC (m1 y hy)
  |tail _ hz=>exact s3 y hy z hz
 .rw [show B1++x::B2=(B1++[x])++B2 by simp,<- List.append_assoc]
  exact um.app (um.symm (um.swap fun z hz y hy=>by simp at hz;subst hz;exact m1 y hy)) (um.refl _)
theorem an3 {P A T:List dI}{y:dI}{a m:Int}(ha:a=P.length)(hm:m=a+A.length)(hA:Ej A)(hlim:m+1<4294967296) :
  ∃C,gZ (iK (P++A++[y]++T) m ((m-a).toNat+1) a m) ((m-a).toNat+1) m (P++A++[y]++T)=P++C++T/\Ej C/\um C (A++[y]):=by
 rw [anZ _ (by omega) (by omega) (by omega)]
 have gx:gt (P++A++[y]++T) m=y:=by
  show (P++A++[y]++T).getD _ default=y
  rw [show P++A++[y]++T=(P++A)++y::T by simp];exact y8 (by simp;omega)
 rw [gx]
 have eA:∀c d:Int,a<=c->c<=d->d<m->ltK (gt (P++A++[y]++T) d) (gt (P++A++[y]++T) c)=false:=by
  intro c d h1 h2 h3
  rw [show P++A++[y]++T=P++A++([y]++T) by simp]
  exact U4 (P:=P) (T:=[y]++T) hA (c:=c) (d:=d) (by omega) h2 (by omega)
 generalize hr:bs (fun c=>!ltK y (gt (P++A++[y]++T) c)) ((m-a).toNat+1) a m=r
 have bd:=adX (q:=fun c=>!ltK y (gt (P++A++[y]++T) c)) ((m-a).toNat+1) (i:=a) (j:=m) (by omega)
 obtain ⟨h1,h2⟩:=adY (q:=fun c=>!ltK y (gt (P++A++[y]++T) c)) ((m-a).toNat+1) (i:=a) (j:=m) (by omega) (by omega) (fun c d h1 h2 h3 h4=>by
  simp only [Bool.not_eq_true'] at h4 ⊢
  exact aDD (eA c d h1 h2 h3) h4)
 rw [hr] at bd h1 h2
 obtain ⟨A1,A2,rfl,l1⟩:=LK (A:=A) (k:=r-a) (by omega) (by omega)
 simp only [List.length_append] at hm
 have m1:∀z∈A1,ltK y z=false:=by
  intro z hz
  obtain ⟨c,c0,c1,c2⟩:=LJ (P:=P) (T:=A2++[y]++T) hz
  rw [<- c2,show P++A1++(A2++[y]++T)=P++(A1++A2)++[y]++T by simp]
  have:=h1 c (by omega) (by omega)
  simpa using this
 have m2:∀z∈A2,ltK y z=true:=by
  intro z hz
  obtain ⟨c,c0,c1,c2⟩:=LJ (P:=P++A1) (T:=[y]++T) hz
  rw [<- c2,show P++A1++A2++([y]++T)=P++(A1++A2)++[y]++T by simp]
  simp only [List.length_append] at c0 c1
  have:=h2 c (by omega) (by omega)
  simpa using this
 rw [show P++(A1++A2)++[y]++T=(P++A1)++A2++y::T by simp,asq _ (P++A1) A2 T y m (by simp;omega) (by simp;omega) (by omega) (by simp;omega)]
 refine ⟨A1++y::A2,by simp,abB hA m1 m2,abC m2⟩
theorem nine {α:Type}{c1 c2 c3:Bool}{x v9:α}{M1 M2:α->α} :
  (bif c1&&(c2&&c3) then M2 (M1 v9) else bif c1&&c2 then M1 v9 else bif c1&&c3 then M2 v9 else bif c1 then v9 else bif c2&&c3 then M2 (M1 x) else bif c2 then M1 x else bif c3 then M2 x else x)
   = (bif c3 then M2 (bif c2 then M1 (bif c1 then v9 else x) else (bif c1 then v9 else x)) else (bif c2 then M1 (bif c1 then v9 else x) else (bif c1 then v9 else x))):=by
 cases c1<;>cases c2<;>cases c3<;>rfl
theorem EY : ∀(k:Nat) (P A B T:List dI) (a m b:Int),a=P.length->m=a+A.length->b=m+B.length->0<A.length->0<B.length->b-a<=k->4*b<4294967296->Ej A->Ej B->
  ∃C,dR k (P++A++B++T) a m b=P++C++T/\Ej C/\um C (A++B)
 |0,P,A,B,T,a,m,b,ha,hm,hb,hA,hB,hk,hlim,sA,sB=>by omega
 |k+1,P,A,B,T,a,m,b,ha,hm,hb,hA,hB,hk,hlim,sA,sB=>by
  unfold dR
  simp only [show IntKind.wrap .i64 (jm .u64 (IntKind.wrap .u64 (dY .i64 a b)) 1)=(a+b) / 2 from Nk (by omega) (by omega) (by omega)]
  have e1:iq .i64 m a=m-a:=uV (by omega) (by omega)
  have e2:iq .i64 b m=b-m:=uV (by omega) (by omega)
  simp only [e1,e2]
  by_cases hA1:A.length=1
  .obtain ⟨x,rfl⟩:=one1 hA1
   simp only [show dZ (m-a) 1=true from by rw [Yl];exact decide_eq_true (by omega),cond_true]
   exact au4 ha (by simp at hm;omega) hb sB (by omega)
  simp only [show dZ (m-a) 1=false from by rw [Yl];exact decide_eq_false (by omega),cond_false]
  by_cases hB1:B.length=1
  .obtain ⟨y,rfl⟩:=one1 hB1
   simp only [show dZ (b-m) 1=true from by rw [Yl];exact decide_eq_true (by omega),cond_true]
   exact an3 ha hm sA (by simp at hb;omega)
  simp only [show dZ (b-m) 1=false from by rw [Yl];exact decide_eq_false (by omega),cond_false]
  have e3:dY .i64 ((a+b) / 2) m=(a+b) / 2+m:=nG (by omega) (by omega)
  have e4:iq .i64 ((a+b) / 2+m) b=(a+b) / 2+m-b:=uV (by omega) (by omega)
  simp only [e3,e4]
  generalize hlo:(bif decide (m > (a+b) / 2) then (a+b) / 2+m-b else a)=lo
  generalize hhi:(bif decide (m > (a+b) / 2) then (a+b) / 2 else m)=hi
  have ajK:lo=if m > (a+b) / 2 then (a+b) / 2+m-b else a:=by rw [<- hlo];simp only [Bool.cond_eq_ite,decide_eq_true_eq]
  have au5:hi=if m > (a+b) / 2 then (a+b) / 2 else m:=by rw [<- hhi];simp only [Bool.cond_eq_ite,decide_eq_true_eq]
  rw [an0 (by omega) (by omega) (by omega) (by omega) (by omega) _ (by split at ajK<;>omega) (by split at ajK<;>split at au5<;>omega) (by split at au5<;>omega)]
  obtain ⟨A1,A2,B1,B2,rfl,rfl,q1,q2,q3,q4⟩:=au3 (P:=P) (A:=A) (B:=B) (T:=T) ha hm hb sA sB rfl ajK au5 hA hB rfl (by omega:b-a<(((b-a).toNat+1:Nat):Int))
  generalize hr:bs (fun c=>!ltK (gt (P++(A1++A2)++(B1++B2)++T) ((a+b) / 2+m-1-c)) (gt (P++(A1++A2)++(B1++B2)++T) c)) ((b-a).toNat+1) lo hi=r at *
  simp only [List.length_append] at *
  have e5:iq .i64 ((a+b) / 2+m) r=(a+b) / 2+m-r:=uV (by omega) (by omega)
  simp only [e5]
  generalize hmid:(a+b) / 2=mid at *
  rw [nine (M1:=fun l=>dR k l a r mid) (M2:=fun l=>dR k l mid (mid+m-r) b)]
  obtain ⟨sA1,sA2,sA3⟩:=List.pairwise_append.1 sA
  obtain ⟨sB1,sB2,sB3⟩:=List.pairwise_append.1 sB
  have w:(bif (decide (r<m)&&decide (m<mid+m-r)) then jl (P++(A1++A2)++(B1++B2)++T) r m (mid+m-r) else P++(A1++A2)++(B1++B2)++T)=P++A1++B1++(A2++B2++T):=by
   by_cases h1:r<m
   .by_cases h2:m<mid+m-r
    .simp only [h1,h2,decide_true,Bool.true_and,cond_true]
     have:=akA (P:=P++A1) (A:=A2) (B:=B1) (T:=B2++T) (a:=r) (m:=m) (b:=mid+m-r) (by simp;omega) (by omega) (by omega) (by omega) (by omega) (by simp;omega)
     rw [show P++(A1++A2)++(B1++B2)++T=P++A1++A2++B1++(B2++T) by simp,this]
     simp
    .have:B1=[]:=List.length_eq_zero_iff.1 (by omega)
     subst this
     simp [h2]
   .have:A2=[]:=List.length_eq_zero_iff.1 (by omega)
    subst this
    simp [h1]
  rw [w]
  have w2:∃D,(bif (decide (a<r)&&decide (r<mid)) then dR k (P++A1++B1++(A2++B2++T)) a r mid else P++A1++B1++(A2++B2++T))=P++D++(A2++B2++T)/\Ej D/\um D (A1++B1)/\D.length=A1.length+B1.length:=by
   by_cases h1:a<r
   .by_cases h2:r<mid
    .simp only [h1,h2,decide_true,Bool.true_and,cond_true]
     obtain ⟨C,c1,c2,c3⟩:=EY k P A1 B1 (A2++B2++T) a r mid ha (by omega) (by omega) (by omega) (by omega) (by omega) (by omega) sA1 sB1
     refine ⟨C,c1,c2,c3,?_⟩
     have:=congrArg List.length c1
     rw [vN] at this
     simp at this
     omega
    .have:B1=[]:=List.length_eq_zero_iff.1 (by omega)
     subst this
     exact ⟨A1,by simp [h2],sA1,by simpa using um.refl _,by simp⟩
   .have:A1=[]:=List.length_eq_zero_iff.1 (by omega)
    subst this
    exact ⟨B1,by simp [h1],sB1,by simpa using um.refl _,by simp⟩
  obtain ⟨D,d1,d2,d3,d4⟩:=w2
  rw [d1]
  have w3:∃E,(bif (decide (mid<mid+m-r)&&decide (mid+m-r<b)) then dR k (P++D++(A2++B2++T)) mid (mid+m-r) b else P++D++(A2++B2++T))=P++D++(E++T)/\Ej E/\um E (A2++B2):=by
   by_cases h1:mid<mid+m-r
   .by_cases h2:mid+m-r<b
    .simp only [h1,h2,decide_true,Bool.true_and,cond_true]
     obtain ⟨C,c1,c2,c3⟩:=EY k (P++D) A2 B2 T mid (mid+m-r) b (by simp;omega) (by omega) (by omega) (by omega) (by omega) (by omega) (by omega) sA2 sB2
     exact ⟨C,by rw [show P++D++(A2++B2++T)=P++D++A2++B2++T by simp,c1];simp,c2,c3⟩
    .have:B2=[]:=List.length_eq_zero_iff.1 (by omega)
     subst this
     exact ⟨A2,by simp [h2],sA2,by simpa using um.refl _⟩
   .have:A2=[]:=List.length_eq_zero_iff.1 (by omega)
    subst this
    exact ⟨B2,by simp [h1],sB2,by simpa using um.refl _⟩
  obtain ⟨E,f1,f2,f3⟩:=w3
  rw [f1]
  refine ⟨D++E,by simp,abD d2 f2 fun x hx y hy=>?_,?_⟩
  .have hx:=d3.Nj x hx
   have hy:=f3.Nj y hy
   rcases List.mem_append.1 hx with hx|hx<;>rcases List.mem_append.1 hy with hy|hy
   .exact sA3 x hx y hy
   .exact q3 x hx y hy
   .exact SC (q4 y hy x hx)
   .exact sB3 x hx y hy
  .refine (um.app d3 f3).trans ?_
   rw [show A1++B1++(A2++B2)=A1++(B1++A2)++B2 by simp,show A1++A2++(B1++B2)=A1++(A2++B1)++B2 by simp]
   exact um.app (um.app (um.refl _) (um.symm (um.swap q4))) (um.refl _)
end Go.Fw
end
section
namespace Go.Fw
inductive Full (s:Int):List dI->Prop
 |nil:Full s []
 |cons {b r:List dI}:(b.length:Int)=s->Ej b->Full s r->Full s (b++r)
theorem Qo {x1:Int}(hlim:x1+64<4294967296):∀(k:Nat) (P R:List dI) (a b:Int),a=P.length->b=a+20->x1=a+R.length->R.length<k->
  ∃Q R',(gV x1 k a b (P++R)).2.2=P++Q++R'/\(gV x1 k a b (P++R)).1=a+Q.length/\Full 20 Q/\R'.length<20/\um (Q++R') R/\x1=a+Q.length+R'.length
 |0,P,R,a,b,ha,hb,hx,hk=>by omega
 |k+1,P,R,a,b,ha,hb,hx,hk=>by
  simp only [gV]
  by_cases hd:b<=x1
  .simp only [decide_eq_true hd,Bool.not_true,cond_false]
   have e:dY .i64 b 20=b+20:=nG (by omega) (by omega)
   rw [e]
   obtain ⟨M,R,rfl,l1⟩:=LK (A:=R) (k:=20) (by omega) (by omega)
   simp only [List.length_append] at *
   obtain ⟨M',q1,q2,q3⟩:=Qn (P:=P) (M:=M) (T:=R) (a:=a) (b:=b) ha (by omega) (by omega)
   have lM:M'.length=M.length:=by
    have:=congrArg List.length q1
    rw [uy] at this
    simp at this;omega
   rw [show P++(M++R)=P++M++R by simp,q1]
   obtain ⟨Q,R',r1,r2,r3,r4,r5,r6⟩:=Qo hlim k (P++M') R b (b+20) (by simp;omega) rfl (by omega) (by omega)
   refine ⟨M'++Q,R',by rw [r1];simp,by rw [r2];simp;omega,Full.cons (by omega) q2 r3,r4,?_,by simp;omega⟩
   rw [List.append_assoc]
   exact um.app q3 r5
  .simp only [decide_eq_false hd,Bool.not_false,cond_true]
   exact ⟨[],R,by simp,by simp,Full.nil,by omega,um.refl _,by simp;omega⟩
def Rest (s:Int)(R:List dI):Prop:=(∃b R0,R=b++R0/\(b.length:Int)=s/\Ej b/\Ej R0/\(R0.length:Int)<s)\/(Ej R/\(R.length:Int)<s)
theorem NV {x1 s:Int}(h0:20<=s)(h8:s<=2*x1+20)(hlim:64*x1+640<4294967296):∀(k:Nat) (P Q R:List dI) (a b:Int),a=P.length->b=a+2*s->x1=a+Q.length+R.length->Q.length<k->Full s Q->Ej R->(R.length:Int)<s->
  ∃Q' R',(fF x1 s k a b (P++Q++R)).2.2=P++Q'++R'/\(fF x1 s k a b (P++Q++R)).1=a+Q'.length/\Full (2*s) Q'/\Rest s R'/\um (Q'++R') (Q++R)/\x1=a+Q'.length+R'.length
 |0,P,Q,R,a,b,ha,hb,hx,hk,hf,hr,hl=>by omega
 |k+1,P,Q,R,a,b,ha,hb,hx,hk,hf,hr,hl=>by
  simp only [fF]
  have e0:Rf .i64 2 s=2*s:=aij (by omega) (by omega)
  have e1:dY .i64 a s=a+s:=nG (by omega) (by omega)
  rw [e0,e1]
  cases hf with
  |nil=>
   have hd:¬b<=x1:=by simp at hx;omega
   simp only [decide_eq_false hd,Bool.not_false,cond_true]
   exact ⟨[],R,by simp,by simp,Full.nil,Or.inr ⟨hr,hl⟩,um.refl _,by simp at hx ⊢;omega⟩
  |@cons b0 Q1 l0 s0 f1=>
   cases f1 with
   |nil=>
    have hd:¬b<=x1:=by simp at hx;omega
    simp only [decide_eq_false hd,Bool.not_false,cond_true]
    exact ⟨[],b0++R,by simp,by simp,Full.nil,Or.inl ⟨b0,R,rfl,l0,s0,hr,hl⟩,by simpa using um.refl _,by simp at hx ⊢;omega⟩
   |@cons b1 Q2 l1 s1 f2=>
    simp only [List.length_append] at *
    have hd:b<=x1:=by omega
    simp only [decide_eq_true hd,Bool.not_true,cond_false]
    have e:dY .i64 b (2*s)=b+2*s:=nG (by omega) (by omega)
    rw [e]
    obtain ⟨C,c1,c2,c3⟩:=EY ((b-a).toNat+1) P b0 b1 (Q2++R) a (a+s) b ha (by omega) (by omega) (by omega) (by omega) (by omega) (by omega) s0 s1
    have lC:C.length=b0.length+b1.length:=by
     have:=congrArg List.length c1
     rw [vN] at this
     simp at this;omega
    rw [show P++(b0++(b1++Q2))++R=P++b0++b1++(Q2++R) by simp,c1,<- List.append_assoc]
    obtain ⟨Q',R',r1,r2,r3,r4,r5,r6⟩:=NV h0 h8 hlim k (P++C) Q2 R b (b+2*s) (by simp;omega) rfl (by omega) (by omega) f2 hr hl
    refine ⟨C++Q',R',by rw [r1];simp,by rw [r2];simp;omega,Full.cons (by omega) c2 r3,r4,?_,by simp;omega⟩
    rw [show C++Q'++R'=C++(Q'++R') by simp,show b0++(b1++Q2)++R=(b0++b1)++(Q2++R) by simp]
    exact um.app c3 r5
theorem Df {x1:Int}(hlim:64*x1+640<4294967296):∀(k:Nat) (Q R:List dI) (s u v:Int),20<=s->s<=2*x1+20->x1=Q.length+R.length->x1-s<k->0<k->Full s Q->Ej R->(R.length:Int)<s->
  ∃L,iH x1 k s u v (Q++R)=L/\Ej L/\um L (Q++R)
 |0,Q,R,s,u,v,h0,h8,hx,hk,hk0,hf,hr,hl=>by omega
 |k+1,Q,R,s,u,v,h0,h8,hx,hk,hk0,hf,hr,hl=>by
  simp only [iH]
  by_cases hd:s<x1
  .simp only [decide_eq_true hd,Bool.not_true,cond_false]
   have e0:Rf .i64 2 s=2*s:=aij (by omega) (by omega)
   have e2:Rf .i64 s 2=s*2:=aij (by omega) (by omega)
   rw [e0,e2]
   obtain ⟨Q',R',r1,r2,r3,r4,r5,r6⟩:=NV h0 h8 hlim ((x1+2*s).toNat+1) [] Q R 0 (2*s) rfl (by omega) (by omega) (by omega) hf hr hl
   simp only [List.nil_append] at r1 r2
   rw [r1,r2]
   have e1:dY .i64 (0+(Q'.length:Int)) s=Q'.length+s:=by rw [nG (by omega) (by omega)];omega
   rw [e1,show s*2=2*s by omega]
   rcases r4 with ⟨b,R0,rfl,l1,s1,s0,l0⟩|⟨s1,l1⟩
   .simp only [List.length_append] at r6
    by_cases h1:(Q'.length:Int)+s<x1
    .simp only [decide_eq_true h1,cond_true]
     obtain ⟨C,c1,c2,c3⟩:=EY ((x1-(0+(Q'.length:Int))).toNat+1) Q' b R0 [] (0+Q'.length) (Q'.length+s) x1 (by omega) (by omega) (by omega) (by omega) (by omega) (by omega) (by omega) s1 s0
     have lC:C.length=b.length+R0.length:=by
      have:=congrArg List.length c1
      rw [vN] at this
      simp at this;omega
     simp only [List.append_nil] at c1
     rw [<- List.append_assoc,c1]
     obtain ⟨L,d1,d2,d3⟩:=Df hlim k Q' C (2*s) (0+Q'.length) ((fF x1 s ((x1+2*s).toNat+1) 0 (2*s) (Q++R)).2.1) (by omega) (by omega) (by omega) (by omega) (by omega) r3 c2 (by omega)
     exact ⟨L,d1,d2,d3.trans ((um.app (um.refl _) c3).trans r5)⟩
    .simp only [decide_eq_false h1,cond_false]
     have:R0=[]:=List.length_eq_zero_iff.1 (by omega)
     subst this
     simp only [List.append_nil] at *
     obtain ⟨L,d1,d2,d3⟩:=Df hlim k Q' b (2*s) (0+Q'.length) ((fF x1 s ((x1+2*s).toNat+1) 0 (2*s) (Q++R)).2.1) (by omega) (by omega) (by simp at r6;omega) (by omega) (by omega) r3 s1 (by omega)
     exact ⟨L,d1,d2,d3.trans r5⟩
   .have h1:¬(Q'.length:Int)+s<x1:=by omega
    simp only [decide_eq_false h1,cond_false]
    obtain ⟨L,d1,d2,d3⟩:=Df hlim k Q' R' (2*s) (0+Q'.length) ((fF x1 s ((x1+2*s).toNat+1) 0 (2*s) (Q++R)).2.1) (by omega) (by omega) (by omega) (by omega) (by omega) r3 s1 (by omega)
    exact ⟨L,d1,d2,d3.trans r5⟩
  .simp only [decide_eq_false hd,Bool.not_false,cond_true]
   refine ⟨_,rfl,?_,um.refl _⟩
   cases hf with
   |nil=>simpa using hr
   |@cons b0 Q1 l0 s0 f1=>
    simp only [List.length_append] at hx
    have h1:Q1=[]:=List.length_eq_zero_iff.1 (by omega)
    have h2:R=[]:=List.length_eq_zero_iff.1 (by omega)
    subst h1;subst h2
    simpa using s0
theorem akB {l:List dI}{n:Int}(hn:n=l.length)(hlim:64*n+640<4294967296):Ej (fA l n)/\um (fA l n) l:=by
 unfold fA
 dsimp only
 obtain ⟨Q,R,r1,r2,r3,r4,r5,r6⟩:=Qo (x1:=n) (by omega) (n.toNat+21) [] l 0 20 rfl rfl (by omega) (by omega)
 simp only [List.nil_append] at r1 r2
 rw [r1,r2]
 obtain ⟨M,q1,q2,q3⟩:=Qn (P:=Q) (M:=R) (T:=[]) (a:=0+Q.length) (b:=n) (by omega) (by omega) (by omega)
 simp only [List.append_nil] at q1
 have lM:M.length=R.length:=by
  have:=congrArg List.length q1
  rw [uy] at this
  simp at this;omega
 rw [q1]
 obtain ⟨L,d1,d2,d3⟩:=Df (x1:=n) hlim (n.toNat+1) Q M 20 (0+Q.length) ((gV n (n.toNat+21) 0 20 l).2.1) (by omega) (by omega) (by omega) (by omega) (by omega) r3 q2 (by omega)
 rw [d1]
 exact ⟨d2,d3.trans ((um.app (um.refl _) q3).trans r5)⟩
theorem aq2 {l:List dI}(h:l.length<=1):Ej l:=by
 match l,h with
 |[],_=>exact List.Pairwise.nil
 |[x],_=>exact List.pairwise_singleton _ _
theorem an4 {l:List dI}(hlim:l.length<=1048576):Ej (uf l)/\um (uf l) l:=by
 unfold uf
 dsimp only
 rw [iL,Yl,Yl]
 by_cases h:l.length<=1
 .have:(decide ((l.length:Int)=0)||decide ((l.length:Int)=1))=true:=by
   rw [<- Bool.decide_or];exact decide_eq_true (by omega)
  rw [this]
  exact ⟨aq2 h,um.refl _⟩
 .have:(decide ((l.length:Int)=0)||decide ((l.length:Int)=1))=false:=by
   rw [<- Bool.decide_or];exact decide_eq_false (by omega)
  rw [this]
  have hs:(fA l (l.length:Int)).length=l.length:=Xl
  have:((fA l (l.length:Int)).drop 0).take ((l.length:Int).toNat-0)=fA l l.length:=by
   rw [List.drop_zero];exact List.take_of_length_le (by omega)
  simp only [cond_false]
  rw [this]
  exact akB rfl (by omega)
end Go.Fw
end
