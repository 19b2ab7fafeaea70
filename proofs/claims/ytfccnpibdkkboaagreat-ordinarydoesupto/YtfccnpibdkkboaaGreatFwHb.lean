
import Derived.Test.YtfccnpibdkkboaaGreatFwHa
set_option linter.unusedVariables false
set_option linter.unusedSimpArgs false
set_option linter.unusedSectionVars false
set_option linter.unnecessarySimpa false
section
namespace Go.Fw
open Go.Proofs Go.Lib
set_option maxRecDepth 100000
set_option maxHeartbeats 4000000
theorem PN {x0:List dJ}:PC Tryz.prog 83 [eL dJ.enc x0] (eB (xR x0)):=by
 refine mF (M:=[(0,eL dJ.enc x0)]) Tryz.func83 ?_ ⟨rfl,trivial⟩
 unfold xR
 try simp only [dN]
 exact kZ @PG (ajc (b:=(x0.getD (0:Int).toNat default).dY.Value.Num))
theorem Aw {x0:dM}:PC Tryz.prog 48 [dM.av x0] (eI (jl x0)):=by
 refine mF (M:=[(0,dM.av x0)]) Tryz.func48 ?_ ⟨rfl,trivial⟩
 unfold jl
 try simp only [dN]
 exact kZ @zC @tu @TN @xZ @vO @OB
theorem PO {x0:dK}{x1:dQ}{x2:Int}:PC Tryz.prog 78 [dK.av x0,dQ.av x1,eI x2] (eB (vK x0 x1 x2)):=by
 refine mF (M:=[(0,dK.av x0),(1,dQ.av x1),(2,eI x2)]) Tryz.func78 ?_ ⟨rfl,rfl,rfl,trivial⟩
 unfold vK
 try simp only [dN]
 exact kZ @TS @lF @Ac (@Yd x0 x1.Target) (@Yd x0 x1.Handler) (@Ye x0 x1.Target) (@Ye x0 x1.Handler)
theorem Ls {x0:dK}{x1:dQ}{x2:Int}:PC Tryz.prog 80 [dK.av x0,dQ.av x1,eI x2] (eB (tZ x0 x1 x2)):=by
 refine mF (M:=[(0,dK.av x0),(1,dQ.av x1),(2,eI x2)]) Tryz.func80 ?_ ⟨rfl,rfl,rfl,trivial⟩
 unfold tZ
 try simp only [dN]
 exact kZ @lF @Ac (@Yd x0 x1.Target) (@Ye x0 x1.Target)
theorem TV {x0:List dJ}:PC Tryz.prog 64 [eL dJ.enc x0] (eB (uQ x0)):=by
 refine mF (M:=[(0,eL dJ.enc x0)]) Tryz.func64 ?_ ⟨rfl,trivial⟩
 unfold uQ
 try simp only [dN]
 exact kZ @Wq @xC (fun {u v}=>Yk (x0:=u) (x1:=v)) (ajc (b:=(x0.getD (0:Int).toNat default).dY.Value.Num))
end Go.Fw
end
section
namespace Go.Fw
open Go.Proofs Go.Lib
set_option maxRecDepth 100000
set_option maxHeartbeats 4000000
theorem TW {x0:List dJ}{x1:List UInt8}:PC Tryz.prog 65 [eL dJ.enc x0,eS x1] (eB (uS x0 x1)):=by
 refine mF (M:=[(0,eL dJ.enc x0),(1,eS x1)]) Tryz.func65 ?_ ⟨rfl,rfl,trivial⟩
 unfold uS
 try simp only [dN]
 exact kZ @Yl
theorem TY {x0:dK}{x1:dQ}{x2:Int}:PC Tryz.prog 59 [dK.av x0,dQ.av x1,eI x2] (eB (o7 x0 x1 x2)):=by
 refine mF (M:=[(0,dK.av x0),(1,dQ.av x1),(2,eI x2)]) Tryz.func59 ?_ ⟨rfl,rfl,rfl,trivial⟩
 unfold o7
 try simp only [dN]
 generalize hR:lQ x0 x2 ((2:Int).toNat+1) false 0 [x1.Target,x1.Handler]=R
 replace hR:=hR.symm
 simp only [show (2:Int).toNat=2 from rfl,lQ,show eG .i64 0 1=1 from rfl,show eG .i64 1 1=2 from rfl] at hR
 exact kZ (KFL.mk (t:=50) (e:=dP.enc) (l:=[x1.Target,x1.Handler])) (KU.mk (k:=3)) @QT @QS @m_ (fun {v}=>Zq (h:=x0) (v:=v)) (fun {v}=>Zr (h:=x0) (v:=v)) (show eG .i64 0 1=1 from rfl) (show eG .i64 1 1=2 from rfl) (show [x1.Target,x1.Handler].getD (Int.toNat 0) default=x1.Target from rfl)
theorem DI {x0:dM}:PC Tryz.prog 35 [dM.av x0] (eI (qL x0)):=by
 refine mF (M:=[(0,dM.av x0)]) Tryz.func35 ?_ ⟨rfl,trivial⟩
 unfold qL
 try simp only [dN]
 exact kZ @xC @yB @x9 @PL
theorem Ku {x0:dK}{x1:dP}:PC Tryz.prog 33 [dK.av x0,dP.av x1] (eB (jD x0 x1)):=by
 refine mF (M:=[(0,dK.av x0),(1,dP.av x1)]) Tryz.func33 ?_ ⟨rfl,rfl,trivial⟩
 unfold jD
 try simp only [dN]
 exact kZ @m_ @GH
theorem OC : ∀{k n:Nat} {l:List dL} {x1 x2 x3:Int},(l.length=n/\n<=4294967296/\0<=x1/\x1<x2/\x2<x3/\x3<=n/\(x3-x1).toNat<k)->SC n 151 [eI x1,eI x2,eI x3] l (eu k l x1 x2 x3)
 |0,n,l,x1,x2,x3,h=>by omega
 |k+1,n,l,x1,x2,x3,h=>ahO (k:=k) OC h
theorem yC {x0:dM}:PC Tryz.prog 124 [dM.av x0] (eB (fQ x0)):=by
 refine mF (M:=[(0,dM.av x0)]) Tryz.func124 ?_ ⟨rfl,trivial⟩
 unfold fQ
 try simp only [dN]
 exact kZ @Aw
theorem PS {x0:dK}{x1:iK}:PC Tryz.prog 24 [dK.av x0,iK.av x1] (eI (lD x0 x1)):=by
 refine mF (M:=[(0,dK.av x0),(1,iK.av x1)]) Tryz.func24 ?_ ⟨rfl,rfl,trivial⟩
 unfold lD
 try simp only [dN]
 exact kZ @Aq @Aw @Yj @lF
theorem Lu {x0:dM}:PC Tryz.prog 110 [dM.av x0] (IQ (xw x0)):=by
 refine mF (M:=[(0,dM.av x0)]) Tryz.func110 ?_ ⟨rfl,trivial⟩
 unfold xw
 try simp only [dN]
 exact kZ @DI @yT
theorem Kv {x0:dK}{x1:iK}:PC Tryz.prog 12 [dK.av x0,iK.av x1] (eI (fZ x0 x1)):=by
 refine mF (M:=[(0,dK.av x0),(1,iK.av x1)]) Tryz.func12 ?_ ⟨rfl,rfl,trivial⟩
 unfold fZ
 try simp only [dN]
 exact kZ @Ku @Fq @DI @GH
theorem T_ {x0:dM}{x1:Bool}{x2:dM}:PC Tryz.prog 108 [dM.av x0,eB x1,dM.av x2] (eI (zu x0 x1 x2)):=by
 refine mF (M:=[(0,dM.av x0),(1,eB x1),(2,dM.av x2)]) Tryz.func108 ?_ ⟨rfl,rfl,rfl,trivial⟩
 unfold zu
 try simp only [dN]
 exact kZ @DI @yT
end Go.Fw
end
section
namespace Go.Fw
open Go.Proofs Go.Lib
set_option maxRecDepth 100000
set_option maxHeartbeats 4000000
theorem adG {n:Nat}{l:List dL}{x1:Int}(h:l.length=n/\n<=4294967296/\0<=x1/\x1<=n):SC n 132 [eI x1] l (fU l x1):=by
 refine kpS (M:=[(0,sDa n),(1,eI x1)]) Tryz.func132 ?_ ⟨rfl,rfl,trivial⟩
 unfold fU
 exact kZ (KE.mk @gY.eq_2) (KE.mk @iP.eq_2) (KE.mk @fJ.eq_2)
  (Sz.mk:Sz (fun (m:Nat) (u2 u3:Int) (u4:List dL)=>0<=u2/\u3<=u2+20/\u2+20<=u3/\u2<=x1/\1<=m/\x1-u2<m/\u4.length=n) (gY x1) (fun u2 u3 _=>[(5,eI u2),(6,eI u3)]) (fun _ _ _=>[]) (fun _ _ u4=>[(3,.rows 1 [[.os 2 2 0 n]]),(2,.rows 2 (List.map dL.enc u4))]) [1,2,4] (x1.toNat+21))
  (fun {m:Nat} {u7:Int} {u10:List dL} (hJ:20<=u7/\u7<=2*x1+20/\1<=m/\x1-u7<m/\u10.length=n)=>(Sz.mk:Sz (fun (m:Nat) (u11 u12:Int) (u13:List dL)=>0<=u11/\u12<=u11+2*u7/\u11+2*u7<=u12/\u11<=x1/\1<=m/\x1-u11<m/\u13.length=n) (fJ x1 u7) (fun u11 u12 _=>[(5,eI u11),(6,eI u12)]) (fun _ _ _=>[]) (fun _ _ u13=>[(3,.rows 1 [[.os 2 2 0 n]]),(2,.rows 2 (List.map dL.enc u13))]) [1,2,4] ((x1+2*u7).toNat+1)))
  (KI4.mk:KI4 (fun (m:Nat) (u7 u8 u9:Int) (u10:List dL)=>20<=u7/\u7<=2*x1+20/\1<=m/\x1-u7<m/\u10.length=n) (iP x1) (fun u7 u8 u9 _=>[(4,eI u7),(5,eI u8),(6,eI u9)]) (fun _ _ _ _=>[]) (fun _ _ _ u10=>[(3,.rows 1 [[.os 2 2 0 n]]),(2,.rows 2 (List.map dL.enc u10))]) [1,2] (x1.toNat+1))
  (fun {m:Nat} {u2 u3:Int} {u4:List dL} (hJ:0<=u2/\u3<=u2+20/\u2+20<=u3/\u2<=x1/\1<=m/\x1-u2<m/\u4.length=n)=>wu (a:=u3) (b:=20) (by omega))
  (fun {m:Nat} {u7:Int} {u10:List dL} (hJ:20<=u7/\u7<=2*x1+20/\1<=m/\x1-u7<m/\u10.length=n)=>acK (u:=u7) (by omega))
  (fun {m:Nat} {u7:Int} {u10:List dL} (hJ:20<=u7/\u7<=2*x1+20/\1<=m/\x1-u7<m/\u10.length=n)=>fun ⦃m:Nat⦄ ⦃u11 u12:Int⦄ ⦃u13:List dL⦄ (hJ:0<=u11/\u12<=u11+2*u7/\u11+2*u7<=u12/\u11<=x1/\1<=m/\x1-u11<m/\u13.length=n)=>have e:=acK (u:=u7) (by omega);And.intro (wu (a:=u11) (b:=u7) (by omega)) (wu (a:=u12) (b:=D9 .i64 2 u7) (by omega)))
  @Wy @(fun {n:Nat} {l:List dL} {a m b:Int} h=>OC (k:=(b-a).toNat+1) (n:=n) (l:=l) (x1:=a) (x2:=m) (x3:=b) h)
theorem Az {x0:List dJ}:PC Tryz.prog 98 [eL dJ.enc x0] (eI (iY x0)):=oN fun hb=>by
 have h0:x0.length<=4294967296:=by simpa using hb.1.1
 refine mF (M:=[(0,eL dJ.enc x0)]) Tryz.func98 ?_ ⟨rfl,trivial⟩
 unfold iY
 try simp only [dN]
 generalize hR:nM x0 (x0.length+1) 0 0=R
 exact kZ (KE.mk @nM.eq_2) (QB.mk hR.symm (J:=fun (n:Nat) (u1:Int) (u2:Int)=>((0:Int)<=u2)/\0<=((x0.length:Int)-u2)/\((x0.length:Int)-u2)<n) (F:=(nM x0)) (R:=R) (vars:=fun (u1:Int) (u2:Int)=>[(2,eI u1),(3,eI u2)]) (ow:=fun (u1:Int) (u2:Int)=>[]) (vb:=fun _ _=>[]) (ts:=[0]) (a0:=(0:Int)) (b0:=(0:Int)) (n0:=(x0.length+1))) @Aq @yC @Ar
theorem H7 {x0:Bool}{x1:dM}{x2:Bool}{x3:dM}:PC Tryz.prog 121 [eB x0,dM.av x1,eB x2,dM.av x3] (Dt (jB x0 x1 x2 x3)):=by
 refine mF (M:=[(0,eB x0),(1,dM.av x1),(2,eB x2),(3,dM.av x3)]) Tryz.func121 ?_ ⟨rfl,rfl,rfl,rfl,trivial⟩
 unfold jB
 try simp only [dN]
 exact kZ @Aw @yC @xZ @zC @tu @Jm
theorem GI {x0:dM}:PC Tryz.prog 76 [dM.av x0] (eB (sF x0)):=by
 refine mF (M:=[(0,dM.av x0)]) Tryz.func76 ?_ ⟨rfl,trivial⟩
 unfold sF
 try simp only [dN]
 exact kZ @Lu
theorem Jq {x0:Bool}{x1:dM}{x2:Bool}{x3:dM}:PC Tryz.prog 74 [eB x0,dM.av x1,eB x2,dM.av x3] (Dt (jy x0 x1 x2 x3)):=by
 refine mF (M:=[(0,eB x0),(1,dM.av x1),(2,eB x2),(3,dM.av x3)]) Tryz.func74 ?_ ⟨rfl,rfl,rfl,rfl,trivial⟩
 unfold jy
 try simp only [dN]
 exact kZ @T_ @Ym
theorem afE {n:Nat}{l:List dL}(h:l.length=n/\2<=n/\n<=4294967296):SCg (.wI 37 (.os 2 2 0 n)) n 113 [.fn (.func 111) [] [.op 3 1 0 0]] l (fU l n):=by
 refine kpS (M:=[(0,.wI 37 (.os 2 2 0 n)),(1,.fn (.func 111) [] [.op 3 1 0 0])]) Tryz.func113 ?_ ⟨rfl,rfl,trivial⟩
 exact kZ @adG (KSp.mk (by rw [if_neg (by omega),if_neg (by omega)]):KSp n 2 (.fn (.func 149) [] [.os 2 2 0 n,.p (typeHandle Tryz.prog 26)]))
theorem PU {x0:dK}{x1:List dJ}:PC Tryz.prog 82 [dK.av x0,eL dJ.enc x1] (eB (zZ x0 x1)):=oN fun hb=>by
 have h0:x0.Objects.length<=4294967296:=by simpa using hb.1.1.1
 have h1:x1.length<=4294967296:=by simpa using hb.2.1.1
 refine mF (M:=[(0,dK.av x0),(1,eL dJ.enc x1)]) Tryz.func82 ?_ ⟨rfl,rfl,trivial⟩
 unfold zZ
 try simp only [dN]
 generalize hR:o8 x0 x1 (x1.length+1) false 0=R
 exact kZ (KE.mk @o8.eq_2) (QB.mk hR.symm (J:=fun (n:Nat) (u3:Bool) (u4:Int)=>0<=u4/\0<=((x1.length:Int)-u4)/\((x1.length:Int)-u4)<n) (F:=(o8 x0 x1)) (R:=R) (vars:=fun (u3:Bool) (u4:Int)=>[(4,eB u3),(5,eI u4)]) (ow:=fun (u3:Bool) (u4:Int)=>[]) (vb:=fun _ _=>[]) (ts:=[1,2]) (a0:=(false:Bool)) (b0:=(0:Int)) (n0:=(x1.length+1))) @Ac @Az
theorem AA {x0:List dJ}{x1:dL}:PC Tryz.prog 92 [eL dJ.enc x0,dL.av x1] (eI (kH x0 x1)):=by
 refine mF (M:=[(0,eL dJ.enc x0),(1,dL.av x1)]) Tryz.func92 ?_ ⟨rfl,rfl,trivial⟩
 unfold kH
 try simp only [dN]
 exact kZ @Az @Aq
theorem Ua {x0:List dJ}:PC Tryz.prog 58 [eL dJ.enc x0] (IW (wW x0)):=oN fun hb=>by
 have h0:x0.length<=4294967296:=by simpa using hb.1.1
 refine mF (M:=[(0,eL dJ.enc x0)]) Tryz.func58 ?_ ⟨rfl,trivial⟩
 unfold wW
 try simp only [dN]
 generalize hR:oC x0 (x0.length+1) [] 0=R
 exact kZ (KE.mk @oC.eq_2) (QB.mk hR.symm (J:=fun (n:Nat) (u2:List dL) (u3:Int)=>((u2.length:Int)=u3)/\((u2.length:Int)<=(x0.length:Int))/\0<=((x0.length:Int)-u3)/\((x0.length:Int)-u3)<n) (F:=(oC x0)) (R:=R) (vars:=fun (u2:List dL) (u3:Int)=>[(6,eI u3)]) (ow:=fun (u2:List dL) (u3:Int)=>[(5,2,List.map dL.enc u2)]) (vb:=fun _ _=>[]) (ts:=[0,2,3]) (a0:=([]:List dL)) (b0:=(0:Int)) (n0:=(x0.length+1))) (KN.mk (t:=5) (n:=2)) @Az @PK (I4 (x:=x0))
theorem PV {x0:Bool}{x1:dM}{x2:Bool}{x3:dM}:PC Tryz.prog 94 [eB x0,dM.av x1,eB x2,dM.av x3] (lT (vI x0 x1 x2 x3)):=by
 refine mF (M:=[(0,eB x0),(1,dM.av x1),(2,eB x2),(3,dM.av x3)]) Tryz.func94 ?_ ⟨rfl,rfl,rfl,rfl,trivial⟩
 unfold vI
 try simp only [dN]
 exact kZ @H7 @PE @zC @tu @xZ
end Go.Fw
end
section
namespace Go.Fw
open Go.Proofs Go.Lib
set_option maxRecDepth 100000
set_option maxHeartbeats 4000000
theorem AB {x0:List dJ}:PC Tryz.prog 63 [eL dJ.enc x0] (eI (jm x0)):=oN fun hb=>by
 have h0:x0.length<=4294967296:=by simpa using hb.1.1
 refine mF (M:=[(0,eL dJ.enc x0)]) Tryz.func63 ?_ ⟨rfl,trivial⟩
 unfold jm
 try simp only [dN]
 generalize hR:nK x0 (x0.length+1) 0 0 []=R
 exact kZ (KE.mk @nK.eq_2) (KL3.mk hR.symm (J:=fun (n:Nat) (u1:Int) (u2:Int) (u3:List (dL×Int))=>0<=u2/\0<=(x0.length:Int)-u2/\(x0.length:Int)-u2<n) (F:=nK x0) (R:=R) (vars:=fun u1 u2 u3=>[(2,eI u1),(15,eI u2)]) (ow:=fun _ _ _=>[]) (vb:=fun _ _ u3=>[(6,.map (mE dL.av eI u3))]) (ts:=[3,13,14]) (a0:=(0:Int)) (b0:=(0:Int)) (c0:=[]) (n0:=x0.length+1)) @Fq @GI
theorem Ub {x0:Bool}{x1:dM}{x2:Bool}{x3:dM}:PC Tryz.prog 42 [eB x0,dM.av x1,eB x2,dM.av x3] (lT (fG x0 x1 x2 x3)):=by
 refine mF (M:=[(0,eB x0),(1,dM.av x1),(2,eB x2),(3,dM.av x3)]) Tryz.func42 ?_ ⟨rfl,rfl,rfl,rfl,trivial⟩
 unfold fG
 try simp only [dN]
 exact kZ @Jq @yT @xC @yB (@yT (dM.mk (o_ .u8 x1.Has 48) (dP.mk 0 0 [] 0) (dP.mk 0 0 [] 0) (dP.mk 0 0 [] 0) false x3.fE x3.Configurable))
theorem adH {n:Nat}{l:List dL}(h:l.length=n/\n<=4294967296):SCg (.wI 37 (.os 2 2 0 n)) n 113 [.fn (.func 111) [] [.op 3 1 0 0]] l (mZ l):=by
 by_cases h2:2<=n
 .rw [Wl (by omega),h.1];exact afE ⟨h.1,h2,h.2⟩
 .rw [Wn (by omega)]
  by_cases h0:n=0
  .exact Wx (g:=141) (by omega) ⟨if_pos h0⟩
  .exact Wx (g:=142) (by omega) ⟨by rw [if_neg h0,if_pos (by omega)]⟩
theorem OD {x0:dK}{x1:Int}(p1:0<=x1)(p2:x1<x0.Objects.length):PC Tryz.prog 46 [dK.av x0,eI x1] (eB (jX x0 x1)):=by
 refine mF (M:=[(0,dK.av x0),(1,eI x1)]) Tryz.func46 ?_ ⟨rfl,rfl,trivial⟩
 unfold jX
 try simp only [dN]
 exact kZ @PO @TR @Ls @lF @Ac @PU @PN @PI
theorem DJ {x0:List dJ}{x1:dL}:PC Tryz.prog 55 [eL dJ.enc x0,dL.av x1] (lT (uP x0 x1)):=by
 refine mF (M:=[(0,eL dJ.enc x0),(1,dL.av x1)]) Tryz.func55 ?_ ⟨rfl,rfl,trivial⟩
 unfold uP
 try simp only [dN]
 exact kZ @AA @Ar (@KZ x0 x1)
theorem WA {x0:List dJ}{x1:dL}{x2:dM}:PC Tryz.prog 96 [eL dJ.enc x0,dL.av x1,dM.av x2] (Ak (BA x0 x1 x2)):=by
 refine mF (M:=[(0,eL dJ.enc x0),(1,dL.av x1),(2,dM.av x2)]) Tryz.func96 ?_ ⟨rfl,rfl,rfl,trivial⟩
 unfold BA
 try simp only [dN]
 exact kZ @AA @yC @Ar (KV.mk (v:=(dJ.mk x1 x2))) (KV.mk (v:=(dJ.mk (x0.getD (jE x0 x1:Int).toNat default).Key x2))) (@I5 x0 x1) (@KZ x0 x1)
theorem Uc {x0:List dJ}{x1:dL}:PC Tryz.prog 97 [eL dJ.enc x0,dL.av x1] (Ak (wV x0 x1)):=oN fun hb=>by
 have h0:x0.length<=4294967296:=by simpa using hb.1.1
 refine mF (M:=[(0,eL dJ.enc x0),(1,dL.av x1)]) Tryz.func97 ?_ ⟨rfl,rfl,trivial⟩
 unfold wV
 try simp only [dN]
 generalize hR:oz x0 x1 (x0.length+1) [] 0=R
 exact kZ (KE.mk @oz.eq_2) (QB.mk hR.symm (J:=fun (n:Nat) (u3:List dJ) (u4:Int)=>((u3.length:Int)<=u4)/\0<=((x0.length:Int)-u4)/\((x0.length:Int)-u4)<n) (F:=(oz x0 x1)) (R:=R) (vars:=fun (u3:List dJ) (u4:Int)=>[(8,eI u4)]) (ow:=fun (u3:List dJ) (u4:Int)=>[(7,18,List.map dJ.enc u3)]) (vb:=fun _ _=>[]) (ts:=[0,3,4,5]) (a0:=([]:List dJ)) (b0:=(0:Int)) (n0:=(x0.length+1))) (KN.mk (t:=7) (n:=18)) @AA
theorem PW {x0:dK}{x1:Int}(p1:0<=x1)(p2:x1<x0.Objects.length):PC Tryz.prog 31 [dK.av x0,eI x1] (eB (jo x0 x1)):=oN fun hb=>by
 have h0:x0.Objects.length<=4294967296:=by simpa using hb.1.1.1
 have h1:(x0.Objects.getD x1.toNat default).Props.length<=4294967296:=by simpa using ajr hb x1.toNat
 refine mF (M:=[(0,dK.av x0),(1,eI x1)]) Tryz.func31 ?_ ⟨rfl,rfl,trivial⟩
 unfold jo
 try simp only [dN]
 generalize hR:gU x0 (x0.Objects.getD (x1:Int).toNat default) ((x0.Objects.getD (x1:Int).toNat default).Props.length+1) false 0=R
 exact kZ (KE.mk @gU.eq_2) (QB.mk hR.symm (J:=fun (n:Nat) (u12:Bool) (u13:Int)=>0<=u13/\0<=(((x0.Objects.getD (x1:Int).toNat default).Props.length:Int)-u13)/\(((x0.Objects.getD (x1:Int).toNat default).Props.length:Int)-u13)<n) (F:=(gU x0 (x0.Objects.getD (x1:Int).toNat default))) (R:=R) (vars:=fun (u12:Bool) (u13:Int)=>[(4,eB u12),(103,eI u13)]) (ow:=fun (u12:Bool) (u13:Int)=>[]) (vb:=fun _ _=>[]) (ts:=[2,5,101,102]) (a0:=(false:Bool)) (b0:=(0:Int)) (n0:=((x0.Objects.getD (x1:Int).toNat default).Props.length+1))) @QS @TY @m_ @QT @AB @TV @TW (fun {v}=>Zq (h:=x0) (v:=v)) (fun {v}=>Zr (h:=x0) (v:=v))
theorem AO {x0:List dJ}{x1:dL}:PC Tryz.prog 72 [eL dJ.enc x0,dL.av x1] (eI (mD x0 x1)):=by
 refine mF (M:=[(0,eL dJ.enc x0),(1,dL.av x1)]) Tryz.func72 ?_ ⟨rfl,rfl,trivial⟩
 unfold mD
 try simp only [dN]
 exact kZ @AB @Fq
theorem PX {x0:List dL}:Y0 Tryz.prog 77 [eL dL.enc x0] (.sl (List.map dL.enc (mZ x0)) false) [] 2:=RJ fun hb=>by
 have h0:x0.length<=4294967296:=by simpa using hb.1.1
 have h1:=@QO x0
 refine kpo (rows:=List.map dL.enc (mZ x0)) (y:=.one) (M:=[(0,eL dL.enc x0)]) Tryz.func77 ?_ ⟨rfl,trivial⟩
 exact kZ @adH QC.mk
end Go.Fw
end
section
namespace Go.Fw
open Go.Proofs Go.Lib
set_option maxRecDepth 100000
set_option maxHeartbeats 4000000
theorem WB {x0:dK}:PC Tryz.prog 22 [dK.av x0] (eB (rC x0)):=oN fun hb=>by
 have hB:x0.Objects.length<=4294967296:=by simpa using hb.1.1.1
 refine mF (M:=[(0,dK.av x0)]) Tryz.func22 ?_ ⟨rfl,trivial⟩
 unfold rC
 try simp only [dN]
 exact kZ (KE.mk @lW.eq_2) (KE.mk @nG.eq_2) (KE.mk @iI.eq_2) (KE.mk @nD.eq_2) (KE.mk @kY.eq_2) (KE.mk @kK.eq_2)
  (J5.mk:J5 (fun (n:Nat) (u1:Bool) (u2:Int)=>0<=u2/\0<=(x0.Objects.length:Int)-u2/\(x0.Objects.length:Int)-u2<n) (lW x0) (fun u1 u2=>[(2,eB u1),(4,eI u2)]) (fun _ _=>[]) (fun _ _=>[]) [1,3] (x0.Objects.length+1))
  (Sz.mk:Sz (fun (n:Nat) (u5:Bool) (u6:Int) (u7:List Int)=>0<=u6/\0<=(x0.Objects.length:Int)-u6/\(x0.Objects.length:Int)-u6<n/\u7.length=x0.Objects.length) (nG x0) (fun u5 u6 _=>[(2,eB u5),(6,eI u6)]) (fun _ _ u7=>[(5,1,List.map Vw u7)]) (fun _ _ _=>[]) [1,3] (x0.Objects.length+1))
  (fun {n:Nat} {u6:Int} {u7:List Int} (h:0<=u6/\0<=(x0.Objects.length:Int)-u6/\(x0.Objects.length:Int)-u6<n/\u7.length=x0.Objects.length)=>(Sz.mk:Sz (fun (n:Nat) (u8:Bool) (u9:Int) (u10:List Int)=>kY x0 u6 n u8 u9 u10=true/\0<=u9/\u9<x0.Objects.length/\u10.length=x0.Objects.length) (iI x0 u6) (fun u8 u9 _=>[(2,eB u8),(7,eI u9)]) (fun _ _ u10=>[(5,1,List.map Vw u10)]) (fun _ _ _=>[]) [1,3,6] (x0.Objects.length+1)))
  (fun {n:Nat} {u6:Int} {u7:List Int} (h:0<=u6/\0<=(x0.Objects.length:Int)-u6/\(x0.Objects.length:Int)-u6<n/\u7.length=x0.Objects.length)=>(J5.mk:J5 (fun (n:Nat) (u9:Int) (u10:List Int)=>kK x0 u6 n u9 u10=true/\0<=u9/\u9<x0.Objects.length/\u10.length=x0.Objects.length) (nD x0 u6) (fun u9 _=>[(62,eI u6),(7,eI u9)]) (fun _ u10=>[(5,1,List.map Vw u10)]) (fun _ _=>[]) [1,2,3,6] (x0.Objects.length+1)))
  (fun {u v:Bool} (h:lW x0 (x0.Objects.length+1) false 0=(true,u,v))=>@(adA (TG hB h)))
  (fun {u v:Bool} (h:lW x0 (x0.Objects.length+1) false 0=(true,u,v))=>@(afC (TG hB h) hB)) (fun {u v:Bool} (h:lW x0 (x0.Objects.length+1) false 0=(true,u,v))=>@(afD (TG hB h) hB))
  (KMS.mk:KMS Vw 0) @OD
theorem OE {x0:List dJ}{x1:Bool}{x2:dL}{x3:dM}:PC Tryz.prog 56 [eL dJ.enc x0,eB x1,dL.av x2,dM.av x3] (IX (yQ x0 x1 x2 x3)):=by
 refine mF (M:=[(0,eL dJ.enc x0),(1,eB x1),(2,dL.av x2),(3,dM.av x3)]) Tryz.func56 ?_ ⟨rfl,rfl,rfl,rfl,trivial⟩
 unfold yQ
 try simp only [dN]
 exact kZ @DJ @PV @La (@Pz [116,111,111,32,109,97,110,121]) @WA
theorem OG {x0:List dJ}{x1:dL}:PC Tryz.prog 57 [eL dJ.enc x0,dL.av x1] (Gv (yR x0 x1)):=by
 refine mF (M:=[(0,eL dJ.enc x0),(1,dL.av x1)]) Tryz.func57 ?_ ⟨rfl,rfl,trivial⟩
 unfold yR
 try simp only [dN]
 exact kZ @DJ @Uc
theorem Ud {x0:dK}:PC Tryz.prog 11 [dK.av x0] (eI (iR x0)):=oN fun hb=>by
 have h0:x0.Objects.length<=4294967296:=by simpa using hb.1.1.1
 refine mF (M:=[(0,dK.av x0)]) Tryz.func11 ?_ ⟨rfl,trivial⟩
 unfold iR
 try simp only [dN]
 generalize hR:oD x0 (x0.Objects.length+1) 0 0=R
 exact kZ (KE.mk @oD.eq_2) (QB.mk hR.symm (J:=fun (n:Nat) (u1 u2:Int)=>0<=u2/\0<=(x0.Objects.length:Int)-u2/\(x0.Objects.length:Int)-u2<n) (F:=oD x0) (R:=R) (vars:=fun u1 u2=>[(2,eI u1),(11,eI u2)]) (ow:=fun _ _=>[]) (vb:=fun _ _=>[]) (ts:=[1,10]) (a0:=(0:Int)) (b0:=(0:Int)) (n0:=x0.Objects.length+1)) @PW (fun (h:kP R.1=0)=>@TM x0 (afq h0 (by rw [hR];exact h)) h0) (show kP true=0 from rfl)
theorem Ue {x0:List dJ}{x1:dL}:PC Tryz.prog 41 [eL dJ.enc x0,dL.av x1] (lT (dZ x0 x1)):=by
 refine mF (M:=[(0,eL dJ.enc x0),(1,dL.av x1)]) Tryz.func41 ?_ ⟨rfl,rfl,trivial⟩
 unfold dZ
 try simp only [dN]
 exact kZ @AO @HY (@I7 x0 x1)
theorem PY {x0:List dJ}{x1:dL}{x2:dM}:Y0 Tryz.prog 43 [eL dJ.enc x0,dL.av x1,dM.av x2] (.kS [.sl (List.map dJ.enc (fC x0 x1 x2).1) false,eI (fC x0 x1 x2).2]) [0] 18:=by
 refine kpo (rows:=List.map dJ.enc (fC x0 x1 x2).1) (y:=.kS (eI (fC x0 x1 x2).2)) (M:=[(0,eL dJ.enc x0),(1,dL.av x1),(2,dM.av x2)]) Tryz.func43 ?_ ⟨rfl,rfl,rfl,trivial⟩
 unfold fC
 try simp only [dN]
 exact kZ @AO @HY @GI (KV.mk (v:=(dJ.mk x1 x2))) (KV.mk (v:=(dJ.mk (x0.getD (lU x0 x1:Int).toNat default).Key x2))) (@xA x0 x1) (@I7 x0 x1) (KNR.mk:KNR 6 18) QC.mk
theorem OH {x0:List dJ}{x1:dL}:Y0 Tryz.prog 44 [eL dJ.enc x0,dL.av x1] (.kS [.sl (List.map dJ.enc (fK x0 x1).1) false,eI (fK x0 x1).2]) [0] 18:=by
 refine kpo (rows:=List.map dJ.enc (fK x0 x1).1) (y:=.kS (eI (fK x0 x1).2)) (M:=[(0,eL dJ.enc x0),(1,dL.av x1)]) Tryz.func44 ?_ ⟨rfl,rfl,trivial⟩
 unfold fK
 try simp only [dN]
 exact kZ @AO @HY (@I7 x0 x1) (@xA x0 x1) (@aaH x0 x1) (KNR.mk:KNR 4 18) QC.mk
theorem OI {x0:List dJ}:Y0 Tryz.prog 45 [eL dJ.enc x0] (.kS [.sl (List.map dL.enc (jC x0).1) false,eI (jC x0).2]) [0] 2:=RJ fun hb=>by
 have h0:x0.length<=4294967296:=by simpa using hb.1.1
 have h1:=fun {l:List dL}=>@QO l
 refine kpo (rows:=List.map dL.enc (jC x0).1) (y:=.kS (eI (jC x0).2)) (M:=[(0,eL dJ.enc x0)]) Tryz.func45 ?_ ⟨rfl,trivial⟩
 unfold jC
 try simp only [dN]
 exact kZ (KE.mk @ru.eq_2) (J5.mk:J5 (fun (m:Nat) (u2:List dL) (u3:Int)=>0<=u3/\0<=(x0.length:Int)-u3/\(x0.length:Int)-u3<m/\(u2.length:Int)<=u3) (ru x0) (fun _ u3=>[(15,eI u3)]) (fun u2 _=>[(5,2,List.map dL.enc u2)]) (fun _ _=>[]) [13,14] (x0.length+1)) (KNE.mk:KNE 5 2 dL.enc) @AB @PX (KNR.mk:KNR 2 2) QC.mk
theorem Jr {x0:dK}{x1:iK}(hM:rC x0=true)(hA:lD x0 x1=0)(p1:0<=x1.Object)(p2:x1.Object<x0.Objects.length):PC Tryz.prog 25 [dK.av x0,iK.av x1] (Gw (sK x0 x1)):=by
 refine mF (M:=[(0,dK.av x0),(1,iK.av x1)]) Tryz.func25 ?_ ⟨rfl,rfl,trivial⟩
 unfold sK
 try simp only [dN]
 exact kZ @wH @TI @Jm @La @Fv @DJ @OE @OG @Ua (fun h=>@Fv x0 x1.Object x1.Value (adu hM) (aa1 hM) (Ot hA h))
theorem Yn {x0:dK}{x1:iK}:PC Tryz.prog 7 [dK.av x0,iK.av x1] (wX (E5 x0 x1)):=by
 refine mF (M:=[(0,dK.av x0),(1,iK.av x1)]) Tryz.func7 ?_ ⟨rfl,rfl,trivial⟩
 unfold E5
 try simp only [dN]
 exact kZ @WB @Px @PS @Jr @PD (fun (h:rC x0=true/\lD x0 x1=0/\0<=x1.Object/\x1.Object<x0.Objects.length)=>@Jr x0 x1 h.1 h.2.1 h.2.2.1 h.2.2.2)
end Go.Fw
end
section
namespace Go.Fw
open Go.Proofs
set_option maxRecDepth 100000
theorem kL (x0:Bool):PC Tryz.prog 39 [eB x0] (gZ.av (dW x0)):=Oy
theorem AP (x0:List dJ)(x1:dL):PC Tryz.prog 41 [eL dJ.enc x0,dL.av x1] (lT (dZ x0 x1)):=Ue
theorem GK (x0:dK)(x1:dK):PC Tryz.prog 9 [dK.av x0,dK.av x1] (eB (zy x0 x1)):=TU
theorem PZ (x0:dP)(x1:dP):PC Tryz.prog 38 [dP.av x0,dP.av x1] (eB (jQ x0 x1)):=Jp
theorem WC (x0:dK)(x1:iK):PC Tryz.prog 7 [dK.av x0,iK.av x1] (wX (E5 x0 x1)):=Yn
theorem P5 (x0:dK):PC Tryz.prog 5 [dK.av x0] (dK.av (qN x0)):=TD
theorem Kw (x0:gZ)(x1:gZ):PC Tryz.prog 8 [gZ.av x0,gZ.av x1] (eB (t_ x0 x1)):=Lr
theorem Js (x0:dK)(x1:iK):PC Tryz.prog 12 [dK.av x0,iK.av x1] (eI (fZ x0 x1)):=Kv
theorem H8 (x0:dK)(x1:Int)(x2:dP)(hC:iR x0=0)(h2:hIn x0 x2):PC Tryz.prog 40 [dK.av x0,eI x1,dP.av x2] (eB (iD x0 x1 x2)):=Jo hC h2
theorem OJ (x0:dK):PC Tryz.prog 4 [dK.av x0] (eB (EY x0)):=Pn
theorem P6 (x0:dK):PC Tryz.prog 11 [dK.av x0] (eI (iR x0)):=Ud
theorem P7 (x0:Bool)(x1:dM)(x2:Bool)(x3:dM):PC Tryz.prog 42 [eB x0,dM.av x1,eB x2,dM.av x3] (lT (fG x0 x1 x2 x3)):=Ub
theorem Uf (l:List dJ)(k:dL)(d:dM):Y0 Tryz.prog 43 [eL dJ.enc l,dL.av k,dM.av d] (.kS [.sl (List.map dJ.enc (fC l k d).1) false,eI (fC l k d).2]) [0] 18:=PY
theorem P8 (l:List dJ)(k:dL):Y0 Tryz.prog 44 [eL dJ.enc l,dL.av k] (.kS [.sl (List.map dJ.enc (fK l k).1) false,eI (fK l k).2]) [0] 18:=OH
theorem P9 (l:List dJ):Y0 Tryz.prog 45 [eL dJ.enc l] (.kS [.sl (List.map dL.enc (jC l).1) false,eI (jC l).2]) [0] 2:=OI
end Go.Fw
end
