
import Derived.Test.YtfccnpibdkkboaaGreatFwD
import Derived.Lib.ReflectliteSlice
import Derived.Laws.Externs
import Derived.Test.YtfccnpibdkkboaaGreatFwA
import Derived.Test.YtfccnpibdkkboaaGreatFwB
import Derived.WideKeyArgs
import Derived.Below
import Derived.RowKit
import Derived.OpenShut
import Derived.ChangeMaps5
import Derived.ChangeSame
import Derived.ProofKit
import Derived.JoinedCond
import Derived.KernelRfl
import Derived.Test.YtfccnpibdkkboaaGreatFwC
set_option linter.unusedVariables false
set_option linter.unusedSimpArgs false
set_option linter.unusedSectionVars false
set_option linter.unnecessarySimpa false
section
namespace Go.Fw
variable [iZ]
section
variable {P : Program} {ρ:List AV}
theorem Ai.refl : ∀fr:nP,Ai fr fr
 |[]=>trivial
 |none::r=>Ai.refl r
 |some a::r=>⟨rfl,Ai.refl r⟩
end
end Go.Fw
end
section
namespace Go.Fw
variable [iZ]
def Nr (fn:Func):Bool:=decide (fn.name≠ "runtime.NumGoroutine")
section
variable {P : Program} {ρ:List AV} {N:Nat}
theorem JW : ∀(l:List AV) (m i:Nat),ji (l.map some++List.replicate m none) i=l[i]?
 |[],0,i=>by simp [ji]
 |[],m+1,0=>by simp [List.replicate_succ,ji]
 |[],m+1,i+1=>by
  have:=JW [] m i
  simp only [List.map_nil,List.nil_append,List.replicate_succ,ji] at this ⊢
  rw [this];simp
 |a::l,m,0=>by simp [ji]
 |a::l,m,i+1=>by
  have:=JW l m i
  simp only [bg,cu,ji] at this ⊢
  rw [this];simp
def Gp (N:Nat)(l:List AV):nP:=l.map some++List.replicate (N-l.length) none
theorem Iu {l:List AV}(h:l.length<=N):(Gp N l).length=N:=by simp [Gp];omega
theorem aat {w:World}{E:Env}{l:List AV}{vs:List Value}(hG:ZR w E.fix)(h:iT w E l vs)(hN:l.length<=N):yg w E (Gp N l) (vs.toArray++Array.replicate (N-vs.toArray.size) undef):=by
 refine ⟨?_,fun i x hx=>?_,hG⟩
 .simp [Gp,h.1]
 .rw [Gp,JW] at hx
  have hi:=(aG.1 hx).1
  have hvl:i<vs.length:=by rw [<- h.1];exact hi
  refine ⟨vs[i],?_,h.2 i x _ hx (by simp [hvl])⟩
  rw [Array.getElem?_append_left (by simpa using hvl)]
  simp [hvl]
end
end Go.Fw
end
section
namespace Go.Fw
theorem zk {α:Type}{f:α->List AV}{l:List α}(h:∀x,jZ (f x)=true):Nk (l.map f)=true:=by
 induction l with
 |nil=>rfl
 |cons x l ih=>simp [Nk,h x,ih]
theorem Xq : jZ []=true:=rfl
theorem fM {a:AV}{l:List AV}(h:a.fz=true)(k:jZ l=true):jZ (a::l)=true:=by simp [jZ,h,k]
theorem WV {α:Type}{f:α->List AV}(h:∀x,jZ (f x)=true)(l:List α):(AV.sl (List.map f l) false).fz=true:=by simp [AV.fz,zk h]
theorem fzb {b:Bool}{x y:List AV}(h:jZ x=true)(k:jZ y=true):jZ (bif b then x else y)=true:=by cases b<;>simpa
def rowB (b:Bool):List AV:=[.p (.bool b)]
def abT (n:Int):List AV:=[.p (.int .i64 n)]
def abU (n:Int):List AV:=[.p (.int .u8 n)]
def agY (s:List UInt8):List AV:=[.str s]
theorem aeA (b:Bool):jZ (rowB b)=true:=rfl
theorem RG (b:Int):jZ (abT b)=true:=rfl
theorem abV (b:Int):jZ (abU b)=true:=rfl
theorem aeB (b:List UInt8):jZ (agY b)=true:=rfl
structure dP where
 Kind:Int
 Num:Nat
 Str:List UInt8
 Ref:Int
 deriving DecidableEq,Inhabited
def dP.enc (v:dP):List AV:=[.p (.int .u8 v.Kind),.p (.float .f64 v.Num),.str v.Str,.p (.int .i64 v.Ref)]
def dP.av (v:dP):AV:=.agg v.enc
theorem dP.jZ (v:dP):Go.Fw.jZ v.enc=true:=fM rfl (fM rfl (fM rfl (fM rfl (Xq))))
theorem dP.fz (v:dP):v.av.fz=true:=dP.jZ v
theorem dP.len (v:dP):v.enc.length=4:=rfl
structure dL where
 Str:List UInt8
 Sym:Int
 deriving DecidableEq,Inhabited
def dL.enc (v:dL):List AV:=[.str v.Str,.p (.int .i64 v.Sym)]
def dL.av (v:dL):AV:=.agg v.enc
theorem dL.jZ (v:dL):Go.Fw.jZ v.enc=true:=fM rfl (fM rfl (Xq))
theorem dL.fz (v:dL):v.av.fz=true:=dL.jZ v
theorem dL.len (v:dL):v.enc.length=2:=rfl
structure dM where
 Has:Int
 Value:dP
 Get:dP
 Set:dP
 iw:Bool
 fE:Bool
 Configurable:Bool
 deriving DecidableEq,Inhabited
def dM.enc (v:dM):List AV:=[.p (.int .u8 v.Has),.p (.int .u8 v.Value.Kind),.p (.float .f64 v.Value.Num),.str v.Value.Str,.p (.int .i64 v.Value.Ref),.p (.int .u8 v.Get.Kind),.p (.float .f64 v.Get.Num),.str v.Get.Str,.p (.int .i64 v.Get.Ref),.p (.int .u8 v.Set.Kind),.p (.float .f64 v.Set.Num),.str v.Set.Str,.p (.int .i64 v.Set.Ref),.p (.bool v.iw),.p (.bool v.fE),.p (.bool v.Configurable)]
def dM.av (v:dM):AV:=.agg v.enc
theorem dM.jZ (v:dM):Go.Fw.jZ v.enc=true:=fM rfl (fM rfl (fM rfl (fM rfl (fM rfl (fM rfl (fM rfl (fM rfl (fM rfl (fM rfl (fM rfl (fM rfl (fM rfl (fM rfl (fM rfl (fM rfl (Xq))))))))))))))))
theorem dM.fz (v:dM):v.av.fz=true:=dM.jZ v
theorem dM.len (v:dM):v.enc.length=16:=rfl
structure dJ where
 Key:dL
 dY:dM
 deriving DecidableEq,Inhabited
def dJ.enc (v:dJ):List AV:=[.str v.Key.Str,.p (.int .i64 v.Key.Sym),.p (.int .u8 v.dY.Has),.p (.int .u8 v.dY.Value.Kind),.p (.float .f64 v.dY.Value.Num),.str v.dY.Value.Str,.p (.int .i64 v.dY.Value.Ref),.p (.int .u8 v.dY.Get.Kind),.p (.float .f64 v.dY.Get.Num),.str v.dY.Get.Str,.p (.int .i64 v.dY.Get.Ref),.p (.int .u8 v.dY.Set.Kind),.p (.float .f64 v.dY.Set.Num),.str v.dY.Set.Str,.p (.int .i64 v.dY.Set.Ref),.p (.bool v.dY.iw),.p (.bool v.dY.fE),.p (.bool v.dY.Configurable)]
def dJ.av (v:dJ):AV:=.agg v.enc
theorem dJ.jZ (v:dJ):Go.Fw.jZ v.enc=true:=fM rfl (fM rfl (fM rfl (fM rfl (fM rfl (fM rfl (fM rfl (fM rfl (fM rfl (fM rfl (fM rfl (fM rfl (fM rfl (fM rfl (fM rfl (fM rfl (fM rfl (fM rfl (Xq))))))))))))))))))
theorem dJ.fz (v:dJ):v.av.fz=true:=dJ.jZ v
theorem dJ.rok (l:List dJ):Ae 18 (l.map dJ.enc):=by
 intro row h
 obtain ⟨x,-,rfl⟩:=aX.1 h
 rfl
structure dQ where
 Kind:Int
 fB:dP
 Ext:Bool
 Props:List dJ
 Target:dP
 Handler:dP
 Text:List UInt8
 Calls:Bool
 Makes:Bool
 deriving DecidableEq,Inhabited
def dQ.enc (v:dQ):List AV:=[.p (.int .u8 v.Kind),.p (.int .u8 v.fB.Kind),.p (.float .f64 v.fB.Num),.str v.fB.Str,.p (.int .i64 v.fB.Ref),.p (.bool v.Ext),.sl (List.map dJ.enc v.Props) false,.p (.int .u8 v.Target.Kind),.p (.float .f64 v.Target.Num),.str v.Target.Str,.p (.int .i64 v.Target.Ref),.p (.int .u8 v.Handler.Kind),.p (.float .f64 v.Handler.Num),.str v.Handler.Str,.p (.int .i64 v.Handler.Ref),.str v.Text,.p (.bool v.Calls),.p (.bool v.Makes)]
def dQ.av (v:dQ):AV:=.agg v.enc
theorem dQ.jZ (v:dQ):Go.Fw.jZ v.enc=true:=fM rfl (fM rfl (fM rfl (fM rfl (fM rfl (fM rfl (fM (WV dJ.jZ _) (fM rfl (fM rfl (fM rfl (fM rfl (fM rfl (fM rfl (fM rfl (fM rfl (fM rfl (fM rfl (fM rfl (Xq))))))))))))))))))
theorem dQ.fz (v:dQ):v.av.fz=true:=dQ.jZ v
theorem dQ.rok (l:List dQ):Ae 18 (l.map dQ.enc):=by
 intro row h
 obtain ⟨x,-,rfl⟩:=aX.1 h
 rfl
structure dK where
 Objects:List dQ
 deriving DecidableEq,Inhabited
def dK.enc (v:dK):List AV:=[.sl (List.map dQ.enc v.Objects) false]
def dK.av (v:dK):AV:=.agg v.enc
theorem dK.jZ (v:dK):Go.Fw.jZ v.enc=true:=fM (WV dQ.jZ _) (Xq)
theorem dK.fz (v:dK):v.av.fz=true:=dK.jZ v
theorem dK.len (v:dK):v.enc.length=1:=rfl
structure gZ where
 Kind:Int
 Value:dP
 Yes:Bool
 Found:Bool
 dY:dM
 Keys:List dL
 Error:Int
 Text:List UInt8
 deriving DecidableEq,Inhabited
def gZ.enc (v:gZ):List AV:=[.p (.int .u8 v.Kind),.p (.int .u8 v.Value.Kind),.p (.float .f64 v.Value.Num),.str v.Value.Str,.p (.int .i64 v.Value.Ref),.p (.bool v.Yes),.p (.bool v.Found),.p (.int .u8 v.dY.Has),.p (.int .u8 v.dY.Value.Kind),.p (.float .f64 v.dY.Value.Num),.str v.dY.Value.Str,.p (.int .i64 v.dY.Value.Ref),.p (.int .u8 v.dY.Get.Kind),.p (.float .f64 v.dY.Get.Num),.str v.dY.Get.Str,.p (.int .i64 v.dY.Get.Ref),.p (.int .u8 v.dY.Set.Kind),.p (.float .f64 v.dY.Set.Num),.str v.dY.Set.Str,.p (.int .i64 v.dY.Set.Ref),.p (.bool v.dY.iw),.p (.bool v.dY.fE),.p (.bool v.dY.Configurable),.sl (List.map dL.enc v.Keys) false,.p (.int .u8 v.Error),.str v.Text]
def gZ.av (v:gZ):AV:=.agg v.enc
theorem gZ.jZ (v:gZ):Go.Fw.jZ v.enc=true:=fM rfl (fM rfl (fM rfl (fM rfl (fM rfl (fM rfl (fM rfl (fM rfl (fM rfl (fM rfl (fM rfl (fM rfl (fM rfl (fM rfl (fM rfl (fM rfl (fM rfl (fM rfl (fM rfl (fM rfl (fM rfl (fM rfl (fM rfl (fM (WV dL.jZ _) (fM rfl (fM rfl (Xq))))))))))))))))))))))))))
theorem gZ.fz (v:gZ):v.av.fz=true:=gZ.jZ v
structure zU where
 aiH:Int
 Object:Int
 Method:Int
 Key:dL
 Throw:Bool
 Out:gZ
 deriving DecidableEq,Inhabited
def zU.enc (v:zU):List AV:=[.p (.int .i64 v.aiH),.p (.int .i64 v.Object),.p (.int .u8 v.Method),.str v.Key.Str,.p (.int .i64 v.Key.Sym),.p (.bool v.Throw),.p (.int .u8 v.Out.Kind),.p (.int .u8 v.Out.Value.Kind),.p (.float .f64 v.Out.Value.Num),.str v.Out.Value.Str,.p (.int .i64 v.Out.Value.Ref),.p (.bool v.Out.Yes),.p (.bool v.Out.Found),.p (.int .u8 v.Out.dY.Has),.p (.int .u8 v.Out.dY.Value.Kind),.p (.float .f64 v.Out.dY.Value.Num),.str v.Out.dY.Value.Str,.p (.int .i64 v.Out.dY.Value.Ref),.p (.int .u8 v.Out.dY.Get.Kind),.p (.float .f64 v.Out.dY.Get.Num),.str v.Out.dY.Get.Str,.p (.int .i64 v.Out.dY.Get.Ref),.p (.int .u8 v.Out.dY.Set.Kind),.p (.float .f64 v.Out.dY.Set.Num),.str v.Out.dY.Set.Str,.p (.int .i64 v.Out.dY.Set.Ref),.p (.bool v.Out.dY.iw),.p (.bool v.Out.dY.fE),.p (.bool v.Out.dY.Configurable),.sl (List.map dL.enc v.Out.Keys) false,.p (.int .u8 v.Out.Error),.str v.Out.Text]
def zU.av (v:zU):AV:=.agg v.enc
theorem zU.jZ (v:zU):Go.Fw.jZ v.enc=true:=fM rfl (fM rfl (fM rfl (fM rfl (fM rfl (fM rfl (fM rfl (fM rfl (fM rfl (fM rfl (fM rfl (fM rfl (fM rfl (fM rfl (fM rfl (fM rfl (fM rfl (fM rfl (fM rfl (fM rfl (fM rfl (fM rfl (fM rfl (fM rfl (fM rfl (fM rfl (fM rfl (fM rfl (fM rfl (fM (WV dL.jZ _) (fM rfl (fM rfl (Xq))))))))))))))))))))))))))))))))
theorem zU.fz (v:zU):v.av.fz=true:=zU.jZ v
structure iK where
 Method:Int
 Object:Int
 Key:dL
 dY:dM
 Value:dP
 Receiver:dP
 Args:List dP
 deriving DecidableEq,Inhabited
def iK.enc (v:iK):List AV:=[.p (.int .u8 v.Method),.p (.int .i64 v.Object),.str v.Key.Str,.p (.int .i64 v.Key.Sym),.p (.int .u8 v.dY.Has),.p (.int .u8 v.dY.Value.Kind),.p (.float .f64 v.dY.Value.Num),.str v.dY.Value.Str,.p (.int .i64 v.dY.Value.Ref),.p (.int .u8 v.dY.Get.Kind),.p (.float .f64 v.dY.Get.Num),.str v.dY.Get.Str,.p (.int .i64 v.dY.Get.Ref),.p (.int .u8 v.dY.Set.Kind),.p (.float .f64 v.dY.Set.Num),.str v.dY.Set.Str,.p (.int .i64 v.dY.Set.Ref),.p (.bool v.dY.iw),.p (.bool v.dY.fE),.p (.bool v.dY.Configurable),.p (.int .u8 v.Value.Kind),.p (.float .f64 v.Value.Num),.str v.Value.Str,.p (.int .i64 v.Value.Ref),.p (.int .u8 v.Receiver.Kind),.p (.float .f64 v.Receiver.Num),.str v.Receiver.Str,.p (.int .i64 v.Receiver.Ref),.sl (List.map dP.enc v.Args) false]
def iK.av (v:iK):AV:=.agg v.enc
theorem iK.jZ (v:iK):Go.Fw.jZ v.enc=true:=fM rfl (fM rfl (fM rfl (fM rfl (fM rfl (fM rfl (fM rfl (fM rfl (fM rfl (fM rfl (fM rfl (fM rfl (fM rfl (fM rfl (fM rfl (fM rfl (fM rfl (fM rfl (fM rfl (fM rfl (fM rfl (fM rfl (fM rfl (fM rfl (fM rfl (fM rfl (fM rfl (fM rfl (fM (WV dP.jZ _) (Xq)))))))))))))))))))))))))))))
theorem iK.fz (v:iK):v.av.fz=true:=iK.jZ v
structure zV where
 Kind:Int
 Ask:iK
 Func:dP
 This:dP
 For:dP
 Args:List dP
 Object:dQ
 Out:gZ
 deriving DecidableEq,Inhabited
def zV.enc (v:zV):List AV:=[.p (.int .u8 v.Kind),.p (.int .u8 v.Ask.Method),.p (.int .i64 v.Ask.Object),.str v.Ask.Key.Str,.p (.int .i64 v.Ask.Key.Sym),.p (.int .u8 v.Ask.dY.Has),.p (.int .u8 v.Ask.dY.Value.Kind),.p (.float .f64 v.Ask.dY.Value.Num),.str v.Ask.dY.Value.Str,.p (.int .i64 v.Ask.dY.Value.Ref),.p (.int .u8 v.Ask.dY.Get.Kind),.p (.float .f64 v.Ask.dY.Get.Num),.str v.Ask.dY.Get.Str,.p (.int .i64 v.Ask.dY.Get.Ref),.p (.int .u8 v.Ask.dY.Set.Kind),.p (.float .f64 v.Ask.dY.Set.Num),.str v.Ask.dY.Set.Str,.p (.int .i64 v.Ask.dY.Set.Ref),.p (.bool v.Ask.dY.iw),.p (.bool v.Ask.dY.fE),.p (.bool v.Ask.dY.Configurable),.p (.int .u8 v.Ask.Value.Kind),.p (.float .f64 v.Ask.Value.Num),.str v.Ask.Value.Str,.p (.int .i64 v.Ask.Value.Ref),.p (.int .u8 v.Ask.Receiver.Kind),.p (.float .f64 v.Ask.Receiver.Num),.str v.Ask.Receiver.Str,.p (.int .i64 v.Ask.Receiver.Ref),.sl (List.map dP.enc v.Ask.Args) false,.p (.int .u8 v.Func.Kind),.p (.float .f64 v.Func.Num),.str v.Func.Str,.p (.int .i64 v.Func.Ref),.p (.int .u8 v.This.Kind),.p (.float .f64 v.This.Num),.str v.This.Str,.p (.int .i64 v.This.Ref),.p (.int .u8 v.For.Kind),.p (.float .f64 v.For.Num),.str v.For.Str,.p (.int .i64 v.For.Ref),.sl (List.map dP.enc v.Args) false,.p (.int .u8 v.Object.Kind),.p (.int .u8 v.Object.fB.Kind),.p (.float .f64 v.Object.fB.Num),.str v.Object.fB.Str,.p (.int .i64 v.Object.fB.Ref),.p (.bool v.Object.Ext),.sl (List.map dJ.enc v.Object.Props) false,.p (.int .u8 v.Object.Target.Kind),.p (.float .f64 v.Object.Target.Num),.str v.Object.Target.Str,.p (.int .i64 v.Object.Target.Ref),.p (.int .u8 v.Object.Handler.Kind),.p (.float .f64 v.Object.Handler.Num),.str v.Object.Handler.Str,.p (.int .i64 v.Object.Handler.Ref),.str v.Object.Text,.p (.bool v.Object.Calls),.p (.bool v.Object.Makes),.p (.int .u8 v.Out.Kind),.p (.int .u8 v.Out.Value.Kind),.p (.float .f64 v.Out.Value.Num),.str v.Out.Value.Str,.p (.int .i64 v.Out.Value.Ref),.p (.bool v.Out.Yes),.p (.bool v.Out.Found),.p (.int .u8 v.Out.dY.Has),.p (.int .u8 v.Out.dY.Value.Kind),.p (.float .f64 v.Out.dY.Value.Num),.str v.Out.dY.Value.Str,.p (.int .i64 v.Out.dY.Value.Ref),.p (.int .u8 v.Out.dY.Get.Kind),.p (.float .f64 v.Out.dY.Get.Num),.str v.Out.dY.Get.Str,.p (.int .i64 v.Out.dY.Get.Ref),.p (.int .u8 v.Out.dY.Set.Kind),.p (.float .f64 v.Out.dY.Set.Num),.str v.Out.dY.Set.Str,.p (.int .i64 v.Out.dY.Set.Ref),.p (.bool v.Out.dY.iw),.p (.bool v.Out.dY.fE),.p (.bool v.Out.dY.Configurable),.sl (List.map dL.enc v.Out.Keys) false,.p (.int .u8 v.Out.Error),.str v.Out.Text]
def zV.av (v:zV):AV:=.agg v.enc
theorem zV.jZ (v:zV):Go.Fw.jZ v.enc=true:=fM rfl (fM rfl (fM rfl (fM rfl (fM rfl (fM rfl (fM rfl (fM rfl (fM rfl (fM rfl (fM rfl (fM rfl (fM rfl (fM rfl (fM rfl (fM rfl (fM rfl (fM rfl (fM rfl (fM rfl (fM rfl (fM rfl (fM rfl (fM rfl (fM rfl (fM rfl (fM rfl (fM rfl (fM rfl (fM (WV dP.jZ _) (fM rfl (fM rfl (fM rfl (fM rfl (fM rfl (fM rfl (fM rfl (fM rfl (fM rfl (fM rfl (fM rfl (fM rfl (fM (WV dP.jZ _) (fM rfl (fM rfl (fM rfl (fM rfl (fM rfl (fM rfl (fM (WV dJ.jZ _) (fM rfl (fM rfl (fM rfl (fM rfl (fM rfl (fM rfl (fM rfl (fM rfl (fM rfl (fM rfl (fM rfl (fM rfl (fM rfl (fM rfl (fM rfl (fM rfl (fM rfl (fM rfl (fM rfl (fM rfl (fM rfl (fM rfl (fM rfl (fM rfl (fM rfl (fM rfl (fM rfl (fM rfl (fM rfl (fM rfl (fM rfl (fM rfl (fM rfl (fM rfl (fM (WV dL.jZ _) (fM rfl (fM rfl (Xq)))))))))))))))))))))))))))))))))))))))))))))))))))))))))))))))))))))))))))))))))))))))
theorem zV.fz (v:zV):v.av.fz=true:=zV.jZ v
structure Iw where
 shut:Bool
 proto:dP
 keys:List dL
 found:Bool
 desc:dM
 deriving DecidableEq,Inhabited
def Iw.enc (v:Iw):List AV:=[.p (.bool v.shut),.p (.int .u8 v.proto.Kind),.p (.float .f64 v.proto.Num),.str v.proto.Str,.p (.int .i64 v.proto.Ref),.sl (List.map dL.enc v.keys) false,.p (.bool v.found),.p (.int .u8 v.desc.Has),.p (.int .u8 v.desc.Value.Kind),.p (.float .f64 v.desc.Value.Num),.str v.desc.Value.Str,.p (.int .i64 v.desc.Value.Ref),.p (.int .u8 v.desc.Get.Kind),.p (.float .f64 v.desc.Get.Num),.str v.desc.Get.Str,.p (.int .i64 v.desc.Get.Ref),.p (.int .u8 v.desc.Set.Kind),.p (.float .f64 v.desc.Set.Num),.str v.desc.Set.Str,.p (.int .i64 v.desc.Set.Ref),.p (.bool v.desc.iw),.p (.bool v.desc.fE),.p (.bool v.desc.Configurable)]
def Iw.av (v:Iw):AV:=.agg v.enc
theorem Iw.jZ (v:Iw):Go.Fw.jZ v.enc=true:=fM rfl (fM rfl (fM rfl (fM rfl (fM rfl (fM (WV dL.jZ _) (fM rfl (fM rfl (fM rfl (fM rfl (fM rfl (fM rfl (fM rfl (fM rfl (fM rfl (fM rfl (fM rfl (fM rfl (fM rfl (fM rfl (fM rfl (fM rfl (fM rfl (Xq)))))))))))))))))))))))
theorem Iw.fz (v:Iw):v.av.fz=true:=Iw.jZ v
structure vY where
 Ext:Bool
 fB:dP
 Found:Bool
 dY:dM
 Keys:List dL
 Own:List dM
 deriving DecidableEq,Inhabited
def vY.enc (v:vY):List AV:=[.p (.bool v.Ext),.p (.int .u8 v.fB.Kind),.p (.float .f64 v.fB.Num),.str v.fB.Str,.p (.int .i64 v.fB.Ref),.p (.bool v.Found),.p (.int .u8 v.dY.Has),.p (.int .u8 v.dY.Value.Kind),.p (.float .f64 v.dY.Value.Num),.str v.dY.Value.Str,.p (.int .i64 v.dY.Value.Ref),.p (.int .u8 v.dY.Get.Kind),.p (.float .f64 v.dY.Get.Num),.str v.dY.Get.Str,.p (.int .i64 v.dY.Get.Ref),.p (.int .u8 v.dY.Set.Kind),.p (.float .f64 v.dY.Set.Num),.str v.dY.Set.Str,.p (.int .i64 v.dY.Set.Ref),.p (.bool v.dY.iw),.p (.bool v.dY.fE),.p (.bool v.dY.Configurable),.sl (List.map dL.enc v.Keys) false,.sl (List.map dM.enc v.Own) false]
def vY.av (v:vY):AV:=.agg v.enc
theorem vY.jZ (v:vY):Go.Fw.jZ v.enc=true:=fM rfl (fM rfl (fM rfl (fM rfl (fM rfl (fM rfl (fM rfl (fM rfl (fM rfl (fM rfl (fM rfl (fM rfl (fM rfl (fM rfl (fM rfl (fM rfl (fM rfl (fM rfl (fM rfl (fM rfl (fM rfl (fM rfl (fM (WV dL.jZ _) (fM (WV dM.jZ _) (Xq))))))))))))))))))))))))
theorem vY.fz (v:vY):v.av.fz=true:=vY.jZ v
structure zW where
 entries:List Int
 closing:Int
 deriving DecidableEq,Inhabited
def zW.enc (v:zW):List AV:=[.sl (List.map abT v.entries) false,.p (.int .i64 v.closing)]
def zW.av (v:zW):AV:=.agg v.enc
theorem zW.jZ (v:zW):Go.Fw.jZ v.enc=true:=fM (WV RG _) (fM rfl (Xq))
theorem zW.fz (v:zW):v.av.fz=true:=zW.jZ v
end Go.Fw
end
section
namespace Go.Fw
variable [iZ]
def jc {α:Type}(f:α->List AV)(l:List α):Int:=pW (List.map f l)
theorem dN {α:Type}(f:α->List AV)(l:List α):jc f l=l.length:=by simp [jc,pW]
end Go.Fw
end
section
namespace Go.Fw
variable [iZ]
theorem Qv {i:Int}(h0:0<=i)(h1:i<9223372036854775807):eG .i64 i 1=i+1:=by
 have e:IntKind.wrap .i64 (i+1)=if (i+1) % 18446744073709551616>=9223372036854775808 then (i+1) % 18446744073709551616-18446744073709551616 else (i+1) % 18446744073709551616:=by
  show (if (true&&decide ((i+1) % 2 ^ 64>=2 ^ (64-1)))=true then (i+1) % 2 ^ 64-2 ^ 64 else (i+1) % 2 ^ 64)=_
  simp
 have h3:(i+1) % 18446744073709551616=i+1:=by omega
 show IntKind.wrap .i64 (i+1)=i+1
 rw [e,h3,if_neg (by omega)]
def kP (b:Bool):Int:=bif b then 0 else 1
theorem aeC (b:Bool):dV (kP b) 0=b:=by cases b<;>rfl
theorem Gq {a b:Int}:iO a b=true↔a≠b:=by simp [iO]
theorem qy {a b:Int}:iO a b=false↔a=b:=by simp [iO]
theorem mV {a b:Int}:dV a b=true↔a=b:=by simp [dV]
theorem pJ {a b:Int}:dV a b=false↔a≠b:=by simp [dV]
end Go.Fw
end
section
namespace Go.Fw
variable [iZ]
def CQ (n:Nat):Prop:=∀s t,FloatKind.f64.format.read n≠.nan s t
theorem U5 {m n:Nat}{o:Ordering}(h:FloatKind.f64.format.order m n=some o):CQ m/\CQ n:=by
 unfold Ieee.Format.order at h
 constructor<;>intro s t e
 .rw [e] at h;simp [Ieee.Datum.order] at h
 .rw [e] at h;cases hm:FloatKind.f64.format.read m<;>rw [hm] at h<;>simp [Ieee.Datum.order] at h
theorem aiI {m n:Nat}(h:fEq m n=true):CQ m:=(U5 (by simpa [fEq] using h)).1
theorem agZ {m n:Nat}(h:Ll m n=false):CQ m:=(U5 (by simpa [Ll] using h)).1
theorem abW : ∃m i,m≠0/\FloatKind.f64.format.read 4607182418800017408=.number false m i:=⟨4503599627370496,-52,by decide,by rfl⟩
theorem apk {n:Nat}(h:CQ n):FloatKind.f64.format.div 4607182418800017408 n=some ((FloatKind.f64.format.div 4607182418800017408 n).getD 0):=by
 have:∃d,FloatKind.f64.format.div 4607182418800017408 n=some d:=by
  unfold Ieee.Format.div
  obtain ⟨m,i,hm,e⟩:=abW
  rw [e]
  cases hn:FloatKind.f64.format.read n with
  |nan s t=>exact absurd hn (h s t)
  |infinity s=>simp [Ieee.Datum.quotient]
  |number s k j=>
   by_cases hk:k=0
   .simp [Ieee.Datum.quotient,hk,hm]
   .simp [Ieee.Datum.quotient,hk,hm]
 obtain ⟨d,hd⟩:=this
 rw [hd];rfl
def sW (x:Nat):Int:=x
def xK (n:Int):Nat:=n.toNat
def kV (x:Nat):Nat:=FloatKind.f64.encode ((FloatKind.f64.decode x).integral .zero)
theorem aau {x:Nat}(h:CQ x):Extern.MathFloor.toIntegral "math.archTrunc" .zero #[.float .f64 x]=pure (.float .f64 (kV x)):=by
 have e:Extern.MathFloor.toIntegral "math.archTrunc" .zero #[.float .f64 x]=(match FloatKind.f64.decode x with
  | .nan s t=>
   if FloatKind.f64.format.quiet t=t then pure (.float .f64 x) else do
   let kept <- choose (.extern "math.Floor,Ceil,Trunc,RoundToEven.signallingNaN kept" 2)
   pure (.float .f64 (if kept == 1 then x else FloatKind.f64.encode (.nan s (FloatKind.f64.format.quiet t))))
  |d=>pure (.float .f64 (FloatKind.f64.encode (d.integral .zero)))):=by kernel_rfl
 rw [e]
 unfold kV
 cases hd:FloatKind.f64.decode x with
 |nan s t=>exact absurd hd (h s t)
 |_=>rfl
theorem RH {P:Program}{f:FuncId}{fn:Func}{e:Array Value->Sem Value}{a u:Value}{r:AV}(hf:P.funcs[f]?=some fn)(hb:fn.body.isNone=true)(hname:(fn.name == "runtime.NumGoroutine")=false)
  (hn:Extern.findNext fn=none) (he:Extern.find fn=some e) (ha:Ef a=true) (hrun:e #[a]=pure u) (hr:Ef u=true) (hu:r=.p u):PC P f [.p a] r:=by
 intro w fix vs hfix hG hargs
 rw [hf]
 dsimp only
 rw [if_pos hb]
 obtain ⟨v0,rfl⟩:∃v0,vs=[v0]:=by
  have:=hargs.1
  match vs,this with
  |[v0],_=>exact ⟨v0,rfl⟩
 have h0:=hargs.2 0 (.p a) v0 rfl rfl
 obtain rfl:=h0.gV
 subst hu
 refine ⟨u,?_,.p hr⟩
 have hm:(mark (.extern f)).run P w=.ok () w:=rfl
 simp only [callFunc,Sem.run_bind,run_program,Result.andThen_ok,hf,hname,aV,if_false,hb,if_true,hm,hn,he]
 simp [hrun]
theorem FQ : FloatKind.f64.format.read 4845873199050653695=.number false 9007199254740991 0:=by rfl
theorem CS : FloatKind.f64.format.read 14069245235905429503=.number true 9007199254740991 0:=by rfl
theorem EJ (s:Bool)(n d:Nat):Ieee.Toward.cut .zero s n d=n / 2 ^ d:=by
 unfold Ieee.Toward.cut
 simp only [Nat.shiftLeft_eq,Nat.one_mul,Bool.toNat_false,Nat.add_zero]
 rcases Nat.le_total d (n.log2+2) with h|h
 .rw [Nat.min_eq_left h]
 .rw [Nat.min_eq_right h]
  have h1:n<2 ^ (n.log2+2):=cZ Nat.lt_log2_self (Nat.pow_le_pow_right (by decide) (by omega))
  have h2:n<2 ^ d:=cZ h1 (Nat.pow_le_pow_right (by decide) h)
  rw [Nat.div_eq_of_lt h1,Nat.div_eq_of_lt h2]
theorem apu {m:Nat}(h1:Qq m 14069245235905429503=true)(h2:OT m 4845873199050653695=true):∃s k i,FloatKind.f64.format.read m=.number s k i/\k*2 ^ i.toNat / 2 ^ (-i).toNat<=9007199254740991:=by
 unfold Qq at h1
 unfold OT at h2
 unfold Ieee.Format.order at h1 h2
 rw [CS] at h1
 rw [FQ] at h2
 cases hm:FloatKind.f64.format.read m with
 |nan s t=>rw [hm] at h1;simp [Ieee.Datum.order] at h1
 |infinity s=>rw [hm] at h1 h2;cases s<;>simp [Ieee.Datum.order] at h1 h2
 |number s k i=>
  rw [hm] at h1 h2
  refine ⟨s,k,i,rfl,?_⟩
  simp only [Ieee.Datum.order,Ieee.signed,Nat.shiftLeft_eq,aV,if_false,if_true] at h1 h2
  have c1:∀a b:Int,((some (compare a b) == some Ordering.gt)||(some (compare a b) == some Ordering.eq))=true->b<=a:=by
   intro a b h
   have hc:compare a b=if a<b then Ordering.lt else if a=b then Ordering.eq else Ordering.gt:=rfl
   rw [hc] at h
   by_cases h':a<b
   .rw [if_pos h'] at h;simp at h
   .omega
  have c2:∀a b:Int,((some (compare a b) == some Ordering.lt)||(some (compare a b) == some Ordering.eq))=true->a<=b:=by
   intro a b h
   have hc:compare a b=if a<b then Ordering.lt else if a=b then Ordering.eq else Ordering.gt:=rfl
   rw [hc] at h
   by_cases h':a<b
   .omega
   .rw [if_neg h'] at h
    by_cases h2:a=b
    .omega
    .rw [if_neg h2] at h;simp at h
  have g1:=c1 _ _ h1
  have g2:=c2 _ _ h2
  have key:k*2 ^ (i-min i 0).toNat<=9007199254740991*2 ^ (0-min i 0).toNat:=by
   cases s
   .simp only [aV,if_false] at g1 g2;exact_mod_cast g2
   .simp only [if_true] at g1 g2
    have:(((k*2 ^ (i-min i 0).toNat:Nat)):Int)<=((9007199254740991*2 ^ (0-min i 0).toNat:Nat):Int):=by omega
    exact_mod_cast this
  rcases Int.le_total i 0 with hi|hi
  .rw [Int.min_eq_left hi] at key
   have e1:i.toNat=0:=by omega
   have e2:(i-i).toNat=0:=by simp
   have e3:(0-i).toNat=(-i).toNat:=by simp
   rw [e1,Nat.pow_zero,Nat.mul_one]
   rw [e2,e3,Nat.pow_zero,Nat.mul_one] at key
   exact Nat.div_le_of_le_mul (by rw [Nat.mul_comm];exact key)
  .rw [Int.min_eq_right hi] at key
   have e1:(-i).toNat=0:=by omega
   have e2:(i-0).toNat=i.toNat:=by simp
   rw [e1,Nat.pow_zero,Nat.div_one]
   rw [e2] at key
   simpa using key
theorem aeD {m:Nat}(h1:Qq m 14069245235905429503=true)(h2:OT m 4845873199050653695=true) :
  (FloatKind.f64.decode m).toInt .zero=some (((FloatKind.f64.decode m).toInt .zero).getD 0)/\IntKind.i64.min<=((FloatKind.f64.decode m).toInt .zero).getD 0/\((FloatKind.f64.decode m).toInt .zero).getD 0<=IntKind.i64.max:=by
 obtain ⟨s,k,i,hm,hb⟩:=apu h1 h2
 have e:(FloatKind.f64.decode m).toInt .zero=some (Ieee.signed s (k*2 ^ i.toNat / 2 ^ (-i).toNat) 0):=by
  unfold FloatKind.decode
  rw [hm]
  simp only [Ieee.Datum.toInt,Ieee.Datum.integral,EJ,Nat.shiftLeft_eq]
 rw [e]
 generalize k*2 ^ i.toNat / 2 ^ (-i).toNat=q at hb
 have e2:Ieee.signed s q 0=if s then -(q:Int) else q:=by simp [Ieee.signed]
 have e3:IntKind.i64.min = -9223372036854775808:=rfl
 have e4:IntKind.i64.max=9223372036854775807:=rfl
 refine ⟨rfl,?_,?_⟩
 .rw [e3];simp only [Option.getD_some,e2];split<;>omega
 .rw [e4];simp only [Option.getD_some,e2];split<;>omega
theorem ag0 : FloatKind.f64.format.read 4652218415073722368=.number false 4503599627370496 (-42):=by decide +kernel
theorem ag1 : FloatKind.f64.format.read 0=.number false 0 (-1074):=by decide +kernel
theorem abX {m:Nat}(h1:Qq m 0=true)(h2:OT m 4652218415073722368=true):∃s k i,FloatKind.f64.format.read m=.number s k i/\k*2 ^ i.toNat / 2 ^ (-i).toNat<=4503599627370496/\(s=false\/k=0)/\(s=false->k*2 ^ (i-min i (-42)).toNat<=4503599627370496*2 ^ ((-42)-min i (-42)).toNat):=by
 unfold Qq at h1
 unfold OT at h2
 unfold Ieee.Format.order at h1 h2
 rw [ag1] at h1
 rw [ag0] at h2
 cases hm:FloatKind.f64.format.read m with
 |nan s t=>rw [hm] at h1;simp [Ieee.Datum.order] at h1
 |infinity s=>rw [hm] at h1 h2;cases s<;>simp [Ieee.Datum.order] at h1 h2
 |number s k i=>
  rw [hm] at h1 h2
  simp only [Ieee.Datum.order,Ieee.signed,Nat.shiftLeft_eq,aV,if_false,if_true] at h1 h2
  have c1:∀a b:Int,((some (compare a b) == some Ordering.gt)||(some (compare a b) == some Ordering.eq))=true->b<=a:=by
   intro a b h
   have hc:compare a b=if a<b then Ordering.lt else if a=b then Ordering.eq else Ordering.gt:=rfl
   rw [hc] at h
   by_cases h':a<b
   .rw [if_pos h'] at h;simp at h
   .omega
  have c2:∀a b:Int,((some (compare a b) == some Ordering.lt)||(some (compare a b) == some Ordering.eq))=true->a<=b:=by
   intro a b h
   have hc:compare a b=if a<b then Ordering.lt else if a=b then Ordering.eq else Ordering.gt:=rfl
   rw [hc] at h
   by_cases h':a<b
   .omega
   .rw [if_neg h'] at h
    by_cases h2:a=b
    .omega
    .rw [if_neg h2] at h;simp at h
  have g1:=c1 _ _ h1
  have g2:=c2 _ _ h2
  have hs:s=false\/k=0:=by
   cases s
   .exact .inl rfl
   .right
    simp only [if_true] at g1
    have hp:0<2 ^ (i-min i (-1074)).toNat:=Nat.two_pow_pos _
    rcases Nat.eq_zero_or_pos k with h|h
    .exact h
    .have:0<k*2 ^ (i-min i (-1074)).toNat:=Nat.mul_pos h hp
     have h3:(0:Int) <= -((k*2 ^ (i-min i (-1074)).toNat:Nat):Int):=by simpa using g1
     omega
  have key:s=false->k*2 ^ (i-min i (-42)).toNat<=4503599627370496*2 ^ ((-42)-min i (-42)).toNat:=by
   intro e;subst e
   simp only [aV,if_false] at g2
   exact_mod_cast g2
  refine ⟨s,k,i,rfl,?_,hs,key⟩
  rcases hs with hs|hs
  .have key:=key hs
   rcases Int.le_total i (-42) with hi|hi
   .rw [Int.min_eq_left hi] at key
    have e1:i.toNat=0:=by omega
    have e2:(i-i).toNat=0:=by simp
    rw [e1,Nat.pow_zero,Nat.mul_one]
    rw [e2,Nat.pow_zero,Nat.mul_one] at key
    have h3:2 ^ ((-42)-i).toNat<=2 ^ (-i).toNat:=Nat.pow_le_pow_right (by decide) (by omega)
    exact Nat.div_le_of_le_mul (cO key (by rw [Nat.mul_comm];exact b_ _ h3))
   .rw [Int.min_eq_right hi] at key
    have e3:((-42:Int) - -42).toNat=0:=by decide
    rw [e3,Nat.pow_zero,Nat.mul_one] at key
    have h3:2 ^ i.toNat<=2 ^ (i - -42).toNat:=Nat.pow_le_pow_right (by decide) (by omega)
    exact cO (Nat.div_le_self _ _) (cO (Nat.mul_le_mul_left _ h3) key)
  .subst hs;simp
theorem aeE {m:Nat}(h1:Qq m 0=true)(h2:OT m 4652218415073722368=true):∃q:Nat,(FloatKind.f64.decode m).toInt .zero=some (q:Int)/\q<=4503599627370496:=by
 obtain ⟨s,k,i,hm,hb,hs,-⟩:=abX h1 h2
 refine ⟨k*2 ^ i.toNat / 2 ^ (-i).toNat,?_,hb⟩
 unfold FloatKind.decode
 rw [hm]
 simp only [Ieee.Datum.toInt,Ieee.Datum.integral,EJ,Nat.shiftLeft_eq]
 rcases hs with rfl|rfl
 .simp [Ieee.signed]
 .cases s<;>simp [Ieee.signed]
end Go.Fw
end
section
namespace Go.Fw
variable [iZ]
section
variable {P : Program}
def Hg (fn:Func):Option TypeId:=
 match fn.body with
 |some (.seq (.region _ r0 false) (.seq (.seq (.region _ r1 false) (.cond (.tmp 4) (.seq (.region _ r2 false) .ret) .skip)) (.seq (.region _ r3 false) .ret)))=>
  match r0.toList,r1.toList,r2.toList,r3.toList with
  |[a0],[b0,b1],[c0],[d0,d1,d2,d3]=>
   match a0.op,b0.op,b1.op,c0.op,d0.op,d1.op,d2.op,d3.op with
   | .assign (.const (.slice none 0 0)),.move (.tmp 0),.binOp .eql t (.tmp 3) (.const (.slice none 0 0)) _,.assign (.const (.slice none 0 0)),.buildSlice t1 0 ps,.move (.tmp 0),.call ⟨.builtin .append,az,ts⟩,.assign (.tmp 7)=>
    match az.toList,ts.toList with
    |[.tmp 5,.tmp 6],[t2,t3]=>
     bif [a0,b0,b1,c0,d0,d1,d2,d3].all (fun o=>o.guard.isNone)&&([a0,b0,b1,c0,d0,d1,d2,d3].map (·.dst) == [some 2,some 3,some 4,some 2,some 5,some 6,some 7,some 2])&&(Nat.beq t t1&&(Nat.beq t t2&&(Nat.beq t t3&&ps.isEmpty)))
      &&Nat.beq fn.ntmps 8&&decide (fn.name≠ "runtime.NumGoroutine")&&(match fn.results.toList with | [.tmp 2]=>true|_=>false) then some t else none
    |_,_=>none
   |_,_,_,_,_,_,_,_=>none
  |_,_,_,_=>none
 |_=>none
end
end Go.Fw
end
section
namespace Go.Fw
variable [iZ]
section
variable {P : Program}
def LH (x:AV)(rows:List (List AV)):Prop:=∀w E v,Rep w E x v->∃a n c,v=.slice a n c/\(a=none->rows=[])
theorem aeF {w:World}{E:Env}{t e:TypeId}(hu:P.underlying t=some (.slice e)){x:AV}{rows:List (List AV)}{v:Value}(hx:LH x rows)(h:Rep w E x v)(ox oy:Operand) :
  ∃b:Bool,(do eqGuard .eql t ox oy v (.slice none 0 0);binOp .eql t v (.slice none 0 0):Sem Value).run P w=.ok (.bool b) w/\(b=true->rows=[]):=by
 have run:∀(a:Option Addr) (n c:Nat),(do eqGuard .eql t ox oy (.slice a n c) (.slice none 0 0);binOp .eql t (.slice a n c) (.slice none 0 0):Sem Value).run P w=.ok (.bool a.isNone) w:=by
  intro a n c
  have key:∀d,(Op.equalIn (d+1) t (.slice a n c) (.slice none 0 0)).run P w=.ok a.isNone w:=by
   intro d
   cases a<;>simp [Op.equalIn,run_underlying hu]
  have key2:(Op.equal t (.slice a n c) (.slice none 0 0)).run P w=.ok a.isNone w:=key 9999
  simp [eqGuard,binOp,key2]
 obtain ⟨a,n,c,rfl,hn⟩:=hx w E v h
 exact ⟨_,run a n c,fun h=>hn (by simpa using h)⟩
theorem aeG {id:Nat}{ops:Array Oper}{o0 o1:Oper}{t e:TypeId}{yt:TypeId}{fr:nP}{ah:AH}{nx:Nat}{Q:AQ}{x:AV}{rows:List (List AV)}(hx:LH x rows)(hops:ops=#[o0,o1])(h0:o0.op=.move (.tmp 0))(g0:o0.guard=none)(d0:o0.dst=some 3)
  (h1:o1.op=.binOp .eql t (.tmp 3) (.const (.slice none 0 0)) yt) (g1:o1.guard=none) (d1:o1.dst=some 4) (hu:P.underlying t=some (.slice e)) (hfr:ji fr 0=some x) (hlen:4<fr.length)
  (hQ:∀b:Bool,(b=true->rows=[])->Q .normal (pG (pG fr 3 x) 4 (.p (.bool b))) ah (nx+2)):AW P (.region id ops false) fr ah nx Q:=by
 subst hops
 intro base w E a hs
 refine wp_region ?_
 show wpOps P #[o0,o1] _ [0,1] a w
 rw [wpOps_cons]
 unfold wpOp
 simp only [List.getElem?_toArray,List.getElem?_cons_zero]
 obtain ⟨v,hv,hr⟩:=hs.fr.get 0 _ hfr
 have ev0:a.eval (.tmp 0)=v:=by simp [Act.eval,hv]
 rw [if_pos (by simp [Region.wanted,g0])]
 refine .inl (aoL (P:=P) (s:=pure (.value v)) (v:=v) (w':=w) (by simp [execOp,h0,ev0]) rfl ?_)
 rw [wpOps_cons]
 unfold wpOp
 simp only [List.getElem?_toArray,List.getElem?_cons_zero,List.getElem?_cons_succ]
 rw [if_pos (by simp [Region.wanted,g1])]
 have O1:=hs.fr.put o0.dst hr
 have hput:ji (vT fr o0.dst x) 3=some x:=by rw [d0];simp only [vT,oJ];rw [if_pos ⟨trivial,by omega⟩]
 obtain ⟨v1,hv1,hr1⟩:=O1.get 3 _ hput
 have ev1:(a.put o0.dst v).eval (.tmp 3)=v1:=by simp [Act.eval,hv1]
 have ev2:(a.put o0.dst v).eval (.const (.slice none 0 0))=.slice none 0 0:=rfl
 obtain ⟨b,hb,hbr⟩:=aeF (P:=P) hu hx hr1 (.tmp 3) (.const (.slice none 0 0))
 refine .inl (aoL (P:=P) (s:=do pure (.value (<- (do eqGuard .eql t (.tmp 3) (.const (.slice none 0 0)) v1 (.slice none 0 0);binOp .eql t v1 (.slice none 0 0):Sem Value)))) (v:=.bool b) (w':=w) (by simp only [execOp,h1,ev1,ev2]) ?_ ?_)
 .rw [Sem.run_bind,hb];rfl
 .show yD base w E Q .normal _ _
  have hfr2:=O1.put (x:=.p (.bool b)) o1.dst (.p rfl)
  have e1:vT (vT fr o0.dst x) o1.dst (.p (.bool b))=pG (pG fr 3 x) 4 (.p (.bool b)):=by rw [d0,d1];rfl
  rw [e1] at hfr2
  exact ⟨E,_,ah,nx+2,hQ b hbr,⟨hs.heap.weaken (fun b hb=>by omega),hfr2,by rw [aoF,aoF];exact hs.defers⟩,Step.refl _ _ _⟩
theorem ag2 {rows:List (List AV)}{full:Bool}:LH (.sl rows full) rows:=fun w E v h=>by
 cases h with
 |slnil _ a=>exact ⟨a,0,0,rfl,fun _=>rfl⟩
 |sl _ _ sz c o cap g=>exact ⟨_,_,_,rfl,fun h=>by cases h⟩
theorem aeH {id:Nat}{ops:Array Oper}{o0:Oper}{d sz q:Nat}{fr:nP}{ah:AH}{nx:Nat}{Q:AQ}(hops:ops.toList=[o0])(h0:o0.op=.assign (.const (.slice none 0 0)))(g0:o0.guard=none)(d0:o0.dst=some d)(hq:nx<=q)
  (hQ:Q .normal (pG fr d (.os q sz 0 0)) (upd ah q (some (.rows sz []))) (q+1)):AW P (.region id ops false) fr ah nx Q:=by
 have hops:ops=#[o0]:=by apply Array.ext';simpa using hops
 subst hops
 intro base w E a hs
 refine wp_region ?_
 show wpOps P #[o0] _ [0] a w
 rw [wpOps_cons]
 unfold wpOp
 simp only [List.getElem?_toArray,List.getElem?_cons_zero]
 rw [if_pos (by simp [Region.wanted,g0])]
 refine .inl (aoL (P:=P) (s:=pure (.value (.slice none 0 0))) (v:=.slice none 0 0) (w':=w) (by simp [execOp,h0,Act.eval]) rfl ?_)
 show yD base w E Q .normal _ _
 obtain ⟨h1,h2⟩:=AZ hs.heap (id:=q) hq sz
 have hb:(E.set q .empty).own q≠.free:=by simp [Env.set]
 have hfr:=(hs.fr.mono h1.ext).put (x:=.os q sz 0 0) o0.dst (Rep.lg q sz 0 none hb)
 rw [d0] at hfr
 refine ⟨E.set q .empty,_,_,q+1,hQ,⟨h2.weaken fun b hb=>?_,by rw [d0];exact hfr,by rw [aoF];exact hs.defers⟩,h1⟩
 have hb':q+1<=b:=hb
 exact ⟨by omega,by omega⟩
theorem abY {f:FuncId}{fn:Func}{t e:TypeId}{i:TypeInfo}{z:List AV}(hfn:P.funcs[f]?=some fn)(h:Hg fn=some t)(hu:P.underlying t=some (.slice e))(hi:P.info? e=some i)(hz:aoH P e=some z)
  (hzl:z.length=i.size) (hby:i.bytes<=4096) (hsz:i.size≠0) {x:AV} {rows:List (List AV)} {rd:List Nat} {ah:AH} {nx:Nat} (hx:LH x rows) (hro:∀(eX:AH) (K:List (List AV)->List Nat->Prop),(∀b,b<nx->eX b=ah b)->K rows rd->aoQ eX i.size x K) (hl:rows.length<=4294967296) :
  ∃c,fn.body=some c/\Nr fn=true/\fn.ntmps=8/\fn.results.toList=[.tmp 2]/\∀Q:AQ,(∀fr eX,ji fr 2=some (.os (nx+5) i.size 0 rows.length)->(∀b,eX b=if b=nx+5 then some (.rows i.size rows) else if b=nx+3 then none else ah b)->Q .ret fr eX (nx+7))->
   AW P c (Gp 8 [x]) ah nx Q:=by
 unfold Hg at h
 split at h
 .rename_i iG r0 id1 r1 id2 r2 id3 r3 hbody
  split at h
  .rename_i a0 b0 b1 c0 d0 d1 d2 d3 e0 e1 e2 e3
   split at h
   .rename_i t' yt t1 ps az ts q0 q1 q2 q3 q4 q5 q6 q7
    split at h
    .rename_i t2 t3 eas ets
     generalize hg:(([a0,b0,b1,c0,d0,d1,d2,d3].all (fun o=>o.guard.isNone)&&([a0,b0,b1,c0,d0,d1,d2,d3].map (·.dst) == [some 2,some 3,some 4,some 2,some 5,some 6,some 7,some 2])&&(Nat.beq t' t1&&(Nat.beq t' t2&&(Nat.beq t' t3&&ps.isEmpty)))
      &&Nat.beq fn.ntmps 8&&decide (fn.name≠ "runtime.NumGoroutine")&&(match fn.results.toList with | [.tmp 2]=>true|_=>false)))=g at h
     cases g
     .cases h
     .simp only [cond_true,au] at h
      subst h
      simp only [ay,decide_eq_true_eq,beq_iff_eq] at hg
      obtain ⟨⟨⟨⟨⟨hgu,hds⟩,hty,akV,akW,hps⟩,hnt⟩,hname⟩,hres⟩:=hg
      have ht1:=aA hty
      have ht2:=aA akV
      have ht3:=aA akW
      subst ht1;subst ht2;subst ht3
      have hnt:=aA hnt
      simp only [List.all_cons,List.all_nil,Bool.and_true,ay,Option.isNone_iff_eq_none] at hgu
      obtain ⟨ga0,gb0,gb1,gc0,gd0,gd1,gd2,gd3⟩:=hgu
      simp only [bg,List.map_nil,List.cons.injEq,and_true] at hds
      obtain ⟨da0,db0,db1,dc0,dd0,dd1,dd2,dd3⟩:=hds
      have akX:ps.toList=[]:=by
       have:ps=#[]:=by simpa using hps
       rw [this]
      have aiJ:fn.results.toList=[.tmp 2]:=by
       split at hres
       .assumption
       .cases hres
      have er1:r1=#[b0,b1]:=by apply Array.ext';simpa using e1
      have one:∀(id:Nat) (ops:Array Oper) (l:List Oper) (fr:nP) (ah:AH) (nx:Nat) (Q:AQ),ops.toList=l->Gg P ops none nx 0 l fr ah [] (fun fr' eX=>Q .normal fr' eX (nx+ops.size))->AW P (.region id ops false) fr ah nx Q:=by
       intro id ops l fr ah nx Q hl h
       subst hl
       exact aap h
      have huE:aoH P e=some z:=hz
      have akY:kU P t'=some (i.size,i.bytes):=by simp [kU,hu,hi]
      refine ⟨_,hbody,by simpa [Nr] using hname,hnt,aiJ,fun Q hQ=>?_⟩
      refine FN (one _ _ _ _ _ _ _ e0 ?_)
      simp only [Gg,pV,ga0,aIf,JG,q0,ev,ofV,ofC,gG,ao2,da0,vT,true_and]
      refine FN (FN (aeG hx er1 q1 gb0 db0 q2 gb1 db1 hu (by rfl) (by simp [gQ,Gp]) fun b hb=>?_))
      refine YV b (by rfl) ?_
      have s0:r0.size=1:=by have:=congrArg List.length e0;simpa using this
      cases b with
      |true=>
       have hrn:=hb rfl
       subst hrn
       rw [if_pos rfl]
       refine FN (aeH (q:=nx+5) (sz:=i.size) e2 q3 gc0 dc0 (by rw [s0];omega) ?_)
       refine aew (nX:=fun b=>if b=nx+5 then some (.rows i.size []) else if b=nx+3 then none else ah b) (rH:=nx+7) (fun b k hb=>?_) (by omega) (Xp (hQ _ _ (by rfl) (fun b=>rfl)))
       by_cases e5:b=nx+5
       .rw [eY e5];rw [if_pos e5] at hb;exact hb
       .rw [aoE e5];rw [if_neg e5] at hb
        split at hb
        .cases hb
        .exact hb
      |false=>
       rw [if_neg (by simp)]
       refine YU ?_
       refine FN (one _ _ _ _ _ _ _ e3 ?_)
       have s3:r3.size=4:=by have:=congrArg List.length e3;simpa using this
       have happ:∀(eX:AH) (id1 id2:Nat) (K:nT->Prop),nx<=id1->(∀b,b<nx->eX b=ah b)->eX id1=some (.rows i.size [])->K ⟨.os id2 i.size 0 (0+rows.length),[(id1,none),(id2,some (.rows i.size (((([]:List (List AV)).drop 0).take 0)++rows)))],id1::rd⟩->
         zI P id2 eX t' t' (.os id1 i.size 0 0) x K:=by
        intro eX id1 id2 K hle hsame hab hK
        refine dI.2 ⟨_,akY,hby,hsz,?_,?_,?_⟩
        .rw [hu];trivial
        .rw [hu];simp [huE,hzl]
        .refine hro eX _ hsame ⟨rfl,?_⟩
         rw [hab];exact ⟨rfl,by simp,by simpa using hl,hK⟩
       have hbs:∀(id:Nat) (K:nT->Prop),K ⟨.os id i.size 0 0,[(id,some (.rows i.size (aoS i.size 0 [])))],[]⟩->pO P t' id 0 [] K:=by
        intro id K hK
        unfold pO
        rw [hu]
        exact dI.2 ⟨i,hi,dI.2 ⟨z,huE,hzl,by simp,dI.2 ⟨[],rfl,hK⟩⟩⟩
       simp only [Gg,pV,gd0,gd1,gd2,gd3,aIf,JG,q4,q5,q6,q7,akX,OV,eas,ets,ao2,dd0,dd1,dd2,dd3,true_and]
       refine dI.2 ⟨[],rfl,hbs _ _ ?_⟩
       refine dI.2 ⟨x,rfl,?_⟩
       refine dI.2 ⟨[.os _ i.size 0 0,x],rfl,?_⟩
       have hts:ts=#[t',t']:=by apply Array.ext';simpa using ets
       subst hts
       refine dI.2 ⟨t',rfl,dI.2 ⟨t',rfl,.inl<|happ _ _ _ _ (by omega) (fun b hb=>?_) (by simp [lJ,upd,aoS]) ?_⟩⟩
       .simp only [lJ];rw [aoE (by omega)]
       refine dI.2 ⟨.os _ i.size 0 (0+rows.length),rfl,?_⟩
       simp only [s0,s3,Nat.zero_add]
       refine Xp ?_
       refine hQ _ _ ?_ (fun b=>?_)
       .rfl
       simp only [lJ,List.drop_nil,List.take_nil,List.nil_append]
       by_cases h5:b=nx+5
       .rw [eY h5,if_pos h5]
       .rw [aoE h5,if_neg h5]
        by_cases h3:b=nx+3
        .rw [eY h3,if_pos h3]
        .rw [aoE h3,if_neg h3,aoE h3]
    .cases h
   .cases h
  .cases h
 .cases h
end
end Go.Fw
end
section
namespace Go.Fw
variable [iZ]
end Go.Fw
namespace Go.Fw
variable [iZ]
end Go.Fw
namespace Go.Fw
variable [iZ]
end Go.Fw
namespace Go.Fw
variable [iZ]
end Go.Fw
namespace Go.Fw
variable [iZ]
end Go.Fw
end
section
namespace Go.Fw
variable [iZ]
open Go.Lib
structure JX where
 vo:FuncId
 ln:FuncId
 sw:FuncId
 l1:FuncId
 l2:FuncId
 l9:FuncId
def Ns (P:Program)(f:FuncId)(e:Array Value->Sem Value):Prop:=
 ∀args w,(callFunc f args).run P w=((e args).run P w).andThen fun v w'=>.ok (.value v) w'
structure U6 (P:Program)(c:JX):Prop where
 vo:Ns P c.vo fun args=>Extern.ReflectliteValue.unpack (args.getD 0 (.tuple #[]))
 ln:Ns P c.ln (Extern.ReflectliteValue.method (Extern.ReflectliteValue.valueError "reflectlite.Value.Len" 0) Extern.ReflectliteValue.len)
 sw:Ns P c.sw (Extern.ReflectliteSwapper.swapper "internal/reflectlite" (Extern.ReflectliteValue.valueError "Swapper"))
 l9:Ns P c.l9 (Extern.ReflectliteSwapper.swap false)
 n1:P.funcs.findIdx? (·.name == "internal/reflectlite" ++ ".Swapper$" ++toString 1)=some c.l1
 n2:P.funcs.findIdx? (·.name == "internal/reflectlite" ++ ".Swapper$" ++toString 2)=some c.l2
 n9:P.funcs.findIdx? (·.name == "internal/reflectlite" ++ ".Swapper$" ++toString 9)=some c.l9
def abZ (P:Program)(t:TypeId):Option TypeId:=
 match P.info? t with
 |some i=>match i.desc with
  | .slice e=>bif !P.packed t then some e else none
  |_=>none
 |none=>none
theorem RI {P:Program}{t e:TypeId}(h:abZ P t=some e):∃i,P.info? t=some i/\i.desc=.slice e/\P.packed t=false:=by
 unfold abZ at h
 split at h
 .rename_i i hi
  split at h
  .rename_i e' he
   cases hp:P.packed t
   .simp [hp] at h;subst h;exact ⟨i,hi,he,rfl⟩
   .simp [hp] at h
  .cases h
 .cases h
def ab1 : TypeDesc->Bool
 | .struct _=>true
 |_=>false
def ab2 (P:Program)(e:TypeId):Bool:=
 match P.info? e with
 |some ie=>ie.hasPointers&&(!(ie.bytes == 8)&&(match ie.desc with
  | .struct _=>true
  | .named _ u=>(match P.info? u with|some iu=>ab1 iu.desc|none=>false)
  |_=>false))
 |none=>false
theorem ab3 {P:Program}{e:TypeId}(h:ab2 P e=true):∃ie,P.info? e=some ie/\(∀w,(Extern.Rtype.kind e).run P w=.ok 25 w)/\∀n,swapperK n ie 25=if n=0 then 1 else if n=1 then 2 else 9:=by
 unfold ab2 at h
 split at h
 .rename_i ie hie
  simp only [ay,Bool.not_eq_true'] at h
  obtain ⟨h1,h2,h3⟩:=h
  refine ⟨ie,hie,fun w=>?_,fun n=>?_⟩
  .split at h3
   .rename_i fs hd
    simp [Extern.Rtype.kind,Extern.Rtype.under,rl_info e ie hie,hd,Result.andThen]
   .rename_i nm u hd
    split at h3
    .rename_i iu hiu
     cases hs:iu.desc with
     |struct fs=>simp [Extern.Rtype.kind,Extern.Rtype.under,rl_info e ie hie,hd,rl_info u iu hiu,hs,Result.andThen]
     |_=>rw [hs] at h3;simp [ab1] at h3
    .cases h3
   .cases h3
  .unfold swapperK
   by_cases e0:n=0
   .simp [e0]
   .by_cases e1:n=1
    .simp [e1]
    .simp [e0,e1,h1,h2]
 .cases h
theorem Nu {w:World}{E:Env}{b sz off n:Nat}{v:Value}(h:Rep w E (.os b sz off n) v):∃p c,v=.slice p n c:=by
 cases h<;>exact ⟨_,_,rfl⟩
theorem Y5 {w:World}{E:Env}{t:TypeId}{a:AV}{v:Value}(h:Rep w E (.wI t a) v):∃u,v=.iface t u/\Rep w E a u:=by
 cases h with|wI t a v h=>exact ⟨_,rfl,h⟩
theorem vF {P:Program}{o:Oper}{a:Act}{w w':World}{f:FuncId}{args:Array Value}{v:Value}{next:Act->World->Prop}{Q:Exit->Act->World->Prop}{e:Array Value->Sem Value}(he:Ns P f e)
  (h:∀w',(execOp a.eval o).run P w'=(callFunc f args).run P w') (hr:(e args).run P w=.ok v w') (hn:next (a.put o.dst v) w'):o.wp P a w next Q:=by
 unfold Oper.wp
 rw [h,he,hr]
 exact hn
theorem Nv {w:World}{E:Env}{a:AV}{vs:List Value}(h:iT w E [a] vs):∃v,vs=[v]/\Rep w E a v:=by
 match vs,h.1 with
 |[v],_=>exact ⟨v,rfl,h.2 0 _ _ rfl rfl⟩
theorem Xr {P:Program}{t:TypeId}{a:Addr}{w:World}:(Instr.loadAt t (.pointer (some a))).run P w=(loadVar t a).run P w:=by
 simp [Instr.loadAt,Instr.sureAddr]
theorem U7 {P:Program}{t:TypeId}{a:Addr}{v:Value}{w:World}:(Instr.storeAt t (.pointer (some a)) v).run P w=(storeVar t a v).run P w:=by
 simp [Instr.storeAt,Instr.sureAddr]
theorem apd {row cs:List AV}(h:cs.length=row.length):lay row 0 cs=cs:=by
 simp [lay,h]
theorem Xt {P:Program}{e:TypeId}{b:Bool}{sz:Nat}(h:qI P e=some (b,sz))(w:World):(sizeOf e).run P w=.ok sz w:=by
 unfold qI at h
 simp only [aW,aB] at h
 obtain ⟨d,hd,i,hi,he⟩:=h
 cases he
 simp [sizeOf,rl_info e i hi,Result.andThen]
theorem apt (i j:Int)(a:Addr)(n cap:Nat)(h:Value):Extern.ReflectliteSwapper.swap false #[.int .i64 i,.int .i64 j,.slice (some a) n cap,h]=(do
 if i<0||i>=n||j<0||j>=n then Extern.ReflectliteSwapper.outOfRange
 Extern.ReflectliteSwapper.exchange (<- Extern.Rtype.ofHandle h) a i.toNat j.toNat):=rfl
theorem ab4 (i j:Nat)(a:Addr)(n cap:Nat)(h:Value)(hi:i<n)(hj:j<n):Extern.ReflectliteSwapper.swap false #[.int .i64 i,.int .i64 j,.slice (some a) n cap,h]=(do Extern.ReflectliteSwapper.exchange (<- Extern.Rtype.ofHandle h) a i j):=by
 rw [apt,if_neg (by simp;omega)]
 simp
end Go.Fw
end
section
namespace Go.Fw
variable [iZ]
theorem aav {y y':AV}(hs:y'.mP=y.mP):∀{p:List Nat} {a:AV},(EG p a y').mP=(EG p a y).mP
 |[],a=>hs
 |j::p,a=>by cases a<;>rfl
theorem Bf {l:List AV}{j i:Nat}{x c:AV}(hij:j≠i)(hi:l[i]?=some c):(l.set j x)[i]?=some c:=by rw [List.getElem?_set_ne hij];exact hi
theorem Nw {w:World}{E E':Env}{y y':AV}(Q:AV->Prop)(hagg:∀l,Q (.agg l)->∀(i:Nat) (c:AV),l[i]?=some c->Q c)(aeI:∀l,Q (.kS l)->∀(i:Nat) (c:AV),l[i]?=some c->Q c)(hs:y'.mP=y.mP)(hy:∀u,Rep w E y u->Rep w E' y' u)(hall:∀x u,Rep w E x u->Q x->Rep w E' x u):∀{p:List Nat} {a:AV} {v:Value},Q (EG p a (.sl [] true))->aoN a p≠uJ->Rep w E (EG p a y) v->Rep w E' (EG p a y') v
 |[],a,v,_,_,h=>hy _ h
 |j::p,.agg l,v,hc,hne,h=>by
  simp only [aoN] at hne
  simp only [EG] at h hc ⊢
  have hj:j<l.length:=by
   refine Nat.lt_of_not_le fun hle=>hne ?_
   have e:l.getD j uJ=uJ:=by simp [aH,bT hle]
   rw [e]
   cases p<;>rfl
  have hcj:=hagg _ hc j _ (by rw [bU hj])
  cases h with
  |agg cs vs hl hsc h=>
   refine .agg _ _ (by simpa using hl) ?_ ?_
   .intro c hcm
    obtain ⟨i,hi⟩:=List.getElem?_of_mem hcm
    by_cases hij:j=i
    .subst hij
     rw [bU (by simpa using hj)] at hi
     simp only [au] at hi;subst hi
     rw [aav hs]
     exact hsc _ (aK (i:=j) (by rw [bU hj]))
    .rw [List.getElem?_set_ne hij] at hi
     exact hsc c (aK (i:=i) (Bf hij hi))
   .intro i c u hi hu
    by_cases hij:j=i
    .subst hij
     rw [bU (by simpa using hj)] at hi
     simp only [au] at hi;subst hi
     exact Nw Q hagg aeI hs hy hall hcj hne (h j _ u (by rw [bU hj]) hu)
    .rw [List.getElem?_set_ne hij] at hi
     exact hall _ _ (h i c u (Bf hij hi) hu) (hagg _ hc i c (Bf hij hi))
 |j::p,.kS l,v,hc,hne,h=>by
  simp only [aoN] at hne
  simp only [EG] at h hc ⊢
  have hj:j<l.length:=by
   refine Nat.lt_of_not_le fun hle=>hne ?_
   have e:l.getD j uJ=uJ:=by simp [aH,bT hle]
   rw [e]
   cases p<;>rfl
  have hcj:=aeI _ hc j _ (by rw [bU hj])
  cases h with
  |kS cs vs hl h=>
   refine .kS _ _ (by simpa using hl) ?_
   intro i c u hi hu
   by_cases hij:j=i
   .subst hij
    rw [bU (by simpa using hj)] at hi
    simp only [au] at hi;subst hi
    exact Nw Q hagg aeI hs hy hall hcj hne (h j _ u (by rw [bU hj]) hu)
   .rw [List.getElem?_set_ne hij] at hi
    exact hall _ _ (h i c u (Bf hij hi) hu) (aeI _ hc i c (Bf hij hi))
 |_::_,.p _,_,_,hne,_|_::_,.str _,_,_,hne,_|_::_,.nan,_,_,hne,_|_::_,.sl ..,_,_,hne,_|_::_,.vp ..,_,_,hne,_|_::_,.os ..,_,_,hne,_|_::_,.op ..,_,_,hne,_|_::_,.fn ..,_,_,hne,_|_::_,.wI ..,_,_,hne,_|_::_,.mp _,_,_,hne,_=>absurd rfl hne
theorem Hl {y:AV}(hy:y.clean=true):∀{p:List Nat} {a:AV},a.clean=true->(EG p a y).clean=true
 |[],a,_=>hy
 |j::p,.agg l,h=>by
  show jY (l.set j (EG p (l.getD j uJ) y))=true
  refine Hf fun x hx=>?_
  rcases List.mem_or_eq_of_mem_set hx with hx|rfl
  .exact Np (l:=l) h hx
  .refine Hl hy ?_
   rw [aH]
   cases e:l[j]? with
   |none=>rfl
   |some z=>exact kF (l:=l) h j z e
 |j::p,.kS l,h=>by
  show jY (l.set j (EG p (l.getD j uJ) y))=true
  refine Hf fun x hx=>?_
  rcases List.mem_or_eq_of_mem_set hx with hx|rfl
  .exact Np (l:=l) h hx
  .refine Hl hy ?_
   rw [aH]
   cases e:l[j]? with
   |none=>rfl
   |some z=>exact kF (l:=l) h j z e
 |_::_,.p _,h|_::_,.str _,h|_::_,.nan,h|_::_,.sl ..,h|_::_,.vp ..,h|_::_,.os ..,h|_::_,.op ..,h|_::_,.fn ..,h|_::_,.wI ..,h|_::_,.mp _,h=>h
theorem r_ : ∀{l:List AV} {b:Nat},b∈jR l->∃(i:Nat) (x:AV),l[i]?=some x/\b∈x.refs
 |[],b,h=>by simp [jR] at h
 |y::r,b,h=>by
  simp only [jR,aN] at h
  rcases h with h|h
  .exact ⟨0,y,rfl,h⟩
  .obtain ⟨i,x,h1,h2⟩:=r_ h;exact ⟨i+1,x,by simpa using h1,h2⟩
theorem FT : ∀{l:List (List AV)} {b:Nat},b∈jI l->∃(i:Nat) (x:List AV),l[i]?=some x/\b∈jR x
 |[],b,h=>by simp [jI] at h
 |y::r,b,h=>by
  simp only [jI,aN] at h
  rcases h with h|h
  .exact ⟨0,y,rfl,h⟩
  .obtain ⟨i,x,h1,h2⟩:=FT h;exact ⟨i+1,x,by simpa using h1,h2⟩
section
variable {P : Program}
theorem yI {w:World}{E:Env}{a:AV}{v:Value}(h:Rep w E a v):∀b∈a.refs,E.own b≠.free:=by
 induction h with
 |p|str|slnil|nan=>intro b hb;simp [AV.refs,jI] at hb
 |agg cs vs hl hs h ih=>
  intro b hb
  obtain ⟨i,c,hi,hb⟩:=r_ hb
  exact ih i c (vs[i]'(by rw [<- hl];exact (aG.1 hi).1)) hi (by simp) b hb
 |kS cs vs hl h ih=>
  intro b hb
  obtain ⟨i,c,hi,hb⟩:=r_ hb
  exact ih i c (vs[i]'(by rw [<- hl];exact (aG.1 hi).1)) hi (by simp) b hb
 |sl rows full sz c o cap g h1 h2 h3 h4 h5 h6 h7 ih=>
  intro b hb
  obtain ⟨i,row,hi,hb⟩:=FT hb
  obtain ⟨j,x,hj,hb⟩:=r_ hb
  exact ih i row j x hi hj b hb
 |vp row off c o g h1 h2 h3 h4 ih=>
  intro b hb
  obtain ⟨j,x,hj,hb⟩:=r_ hb
  exact ih j x hj b hb
 |lg b sz off a hb=>intro x hx;simp [AV.refs] at hx;subst hx;exact hb
 |os b sz off len c o cap hb=>intro x hx;simp [AV.refs] at hx;subst hx;rw [hb];simp
 |op b sz row off c o hb=>intro x hx;simp [AV.refs] at hx;subst hx;rw [hb];simp
 |fn f first captured vs us hl hl' h h' ih ih'=>
  intro b hb
  simp only [AV.refs,aN] at hb
  rcases hb with hb|hb
  .obtain ⟨i,c,hi,hb⟩:=r_ hb
   exact ih i c (vs[i]'(by rw [<- hl];exact (aG.1 hi).1)) hi (by simp) b hb
  .obtain ⟨i,c,hi,hb⟩:=r_ hb
   exact ih' i c (us[i]'(by rw [<- hl'];exact (aG.1 hi).1)) hi (by simp) b hb
 |wI t a v h ih=>exact ih
 |mp b c hb=>intro x hx;simp [AV.refs] at hx;subst hx;rw [hb];simp
theorem Qw {base:Nat}{w:World}{E:Env}{b:Nat}{k:pI}(h:rO base w E b k){x:Nat}(hx:x∈k.vW):E.own x≠.free:=by
 cases k with
 |rows sz rs=>
  obtain ⟨i,row,hi,hx⟩:=FT hx
  obtain ⟨j,y,hj,hx⟩:=r_ hx
  rcases h with ⟨-,q2⟩|⟨c,o,arr,ty,q1,q2,q3,q4,q5,q6,q7,q8⟩
  .rw [q2] at hi;simp at hi
  .obtain ⟨v,-,hr⟩:=q8 i row j y hi hj
   exact yI hr x hx
 |tC ty sz rs=>
  obtain ⟨i,row,hi,hx⟩:=FT hx
  obtain ⟨j,y,hj,hx⟩:=r_ hx
  rcases h with ⟨-,q2⟩|⟨c,o,arr,q1,q2,q3,q4,⟨q5,q6,q7,q8⟩,q9⟩
  .rw [q2] at hi;simp at hi
  .obtain ⟨v,-,hr⟩:=q8 i row j y hi hj
   exact yI hr x hx
 |it m n k=>
  obtain ⟨c,cm,q1,q2,q3,q4,q5⟩:=h
  simp only [pI.vW,bZ] at hx
  subst hx;rw [q5];simp
 |map es=>
  obtain ⟨c,lG,clock,q1,q2,q3,q4,q5,q6,q7⟩:=h
  simp only [pI.vW,aN] at hx
  rcases hx with hx|hx
  .obtain ⟨i,y,hi,hx⟩:=r_ hx
   simp only [bV,aB] at hi
   obtain ⟨e,he,rfl⟩:=hi
   exact yI (q6 i e (lG[i]'(by rw [<- q5];exact (aG.1 he).1)) he (by simp)).1 x hx
  .obtain ⟨i,y,hi,hx⟩:=r_ hx
   simp only [bV,aB] at hi
   obtain ⟨e,he,rfl⟩:=hi
   exact yI (q6 i e (lG[i]'(by rw [<- q5];exact (aG.1 he).1)) he (by simp)).2.1 x hx
theorem CU {w:World}{E E':Env}(hf:∀c o,E.fix c o->E'.fix c o){a:AV}{v:Value}(h:Rep w E a v)(hc:a.clean=true):Rep w E' a v:=by
 refine xg hf h fun b hb=>?_
 have:=jM (l:=[a]) (by simp [jY,hc])
 simp only [jR,dn] at this
 rw [this] at hb;cases hb
theorem Xu {p:List Nat}{r:AV}{rows:List (List AV)}{f:Bool}(h:aoN r p=.sl rows f):aoN r p≠uJ:=by rw [h];intro e;cases e
end
end Go.Fw
end
section
namespace Go.Fw
variable [iZ]
end Go.Fw
namespace Go.Fw
variable [iZ]
end Go.Fw
end
section
namespace Go.Fw
variable [iZ]
end Go.Fw
end
section
namespace Go.Fw
variable [iZ]
theorem RJ {P:Program}{f:FuncId}{args:List AV}{r:AV}{p:List Nat}{sz:Nat}(h:D_ args->Y0 P f args r p sz):Y0 P f args r p sz:=by
 intro w fix vs hfix hG hargs
 refine h (FP fun a ha=>?_) w fix vs hfix hG hargs
 obtain ⟨i,hi⟩:=bJ.1 ha
 have hlt:i<vs.length:=by rw [<- hargs.1];exact (aG.1 hi).1
 exact RF (hargs.2 i a vs[i] hi (by simp [hlt]))
def aiK {K V:Type}(f:K->List AV)(g:V->List AV)(e:K×V):List AV:=f e.1++g e.2
theorem aeJ {K V:Type}{f:K->List AV}{g:V->List AV}(hf:∀x,jZ (f x)=true)(hg:∀x,jZ (g x)=true)(e:K×V):jZ (aiK f g e)=true:=by
 have app:∀{a b:List AV},jZ a=true->jZ b=true->jZ (a++b)=true:=by
  intro a
  induction a with
  |nil=>intro b _ h;exact h
  |cons x r ih=>intro b h1 h2;simp only [jZ,ay,cu] at h1 ⊢;exact ⟨h1.1,ih h1.2 h2⟩
 exact app (hf _) (hg _)
def qh {K V:Type}[DecidableEq K](z:V)(k:K):List (K×V)->Bool×V
 |[]=>(false,z)
 |e::r=>if k=e.1 then (true,e.2) else qh z k r
def qj {K V:Type}[DecidableEq K](k:K)(v:V):List (K×V)->List (K×V)
 |[]=>[(k,v)]
 |e::r=>if k=e.1 then (k,v)::r else e::qj k v r
theorem vZ {α:Type}{c:Bool}{a b:List α}{n:Nat}(ha:a.length=n)(hb:b.length=n):(bif c then a else b).length=n:=by cases c<;>simp [ha,hb]
theorem aiL {x:Int}(h0:0<=x)(h1:x<9223372036854775808):IntKind.wrap .i64 (jA .u64 (IntKind.wrap .u64 x) 1)=x / 2:=by
 have e1:IntKind.wrap .u64 x=x:=by
  show (if (false&&decide (x % 2 ^ 64>=2 ^ (64-1)))=true then x % 2 ^ 64-2 ^ 64 else x % 2 ^ 64)=_
  simp;omega
 have e2:jA .u64 x 1=x / 2:=by
  show x.fdiv (2 ^ (min (1:Int).toNat 64))=_
  rw [Int.fdiv_eq_ediv_of_nonneg _ (by decide)];rfl
 rw [e1,e2]
 have e:IntKind.wrap .i64 (x / 2)=if (x / 2) % 18446744073709551616>=9223372036854775808 then (x / 2) % 18446744073709551616-18446744073709551616 else (x / 2) % 18446744073709551616:=by
  show (if (true&&decide ((x / 2) % 2 ^ 64>=2 ^ (64-1)))=true then (x / 2) % 2 ^ 64-2 ^ 64 else (x / 2) % 2 ^ 64)=_
  simp
 rw [e]
 split<;>omega
theorem Qx {a b:Int}(h0 : -9223372036854775808<=a*b)(h1:a*b<9223372036854775808):D9 .i64 a b=a*b:=by
 have e:IntKind.wrap .i64 (a*b)=if (a*b) % 18446744073709551616>=9223372036854775808 then (a*b) % 18446744073709551616-18446744073709551616 else (a*b) % 18446744073709551616:=by
  show (if (true&&decide ((a*b) % 2 ^ 64>=2 ^ (64-1)))=true then (a*b) % 2 ^ 64-2 ^ 64 else (a*b) % 2 ^ 64)=_
  simp
 unfold D9
 rw [e]
 split<;>omega
def EK (m:List (Int×Bool))(d:List Bool):List Bool:=d.mapIdx fun i b=>b||m.any fun e=>Nat.beq e.1.toNat i
theorem apn {a b:Int}:(a == b)=decide (a=b):=by by_cases h:a=b<;>simp [h]
end Go.Fw
namespace Go.Fw
variable [iZ]
theorem aiM {a b:Int}(h0:0<=a)(h1:a<9223372036854775808)(hb:0<b):CO .i64 a b=a / b:=by
 have e0:a.tdiv b=a / b:=Int.tdiv_eq_ediv_of_nonneg h0
 have h2:0<=a / b:=Int.ediv_nonneg h0 (by omega)
 have h3:a / b<=a:=Int.ediv_le_self _ h0
 have e:IntKind.wrap .i64 (a / b)=if (a / b) % 18446744073709551616>=9223372036854775808 then (a / b) % 18446744073709551616-18446744073709551616 else (a / b) % 18446744073709551616:=by
  show (if (true&&decide ((a / b) % 2 ^ 64>=2 ^ (64-1)))=true then (a / b) % 2 ^ 64-2 ^ 64 else (a / b) % 2 ^ 64)=_
  simp
 unfold CO
 rw [e0,e]
 generalize a / b=c at *
 split<;>omega
def Xv : List UInt8:=[0,1,2,3,4,5,6,7,8,9,10,11,12,13,14,15,16,17,18,19,20,21,22,23,24,25,26,27,28,29,30,31,32,33,34,35,36,37,38,39,40,41,42,43,44,45,46,47,48,49,50,51,52,53,54,55,56,57,58,59,60,61,62,63,64,65,66,67,68,69,70,71,72,73,74,75,76,77,78,79,80,81,82,83,84,85,86,87,88,89,90,91,92,93,94,95,96,97,98,99,100,101,102,103,104,105,106,107,108,109,110,111,112,113,114,115,116,117,118,119,120,121,122,123,124,125,126,127]
def O3 (n:Int):List UInt8:=(Xv.drop n.toNat).take ((eG .i64 n 1).toNat-n.toNat)
theorem U8 (n:Int):(O3 n).length<=128:=by
 unfold O3
 rw [List.length_take,List.length_drop]
 have:Xv.length=128:=rfl
 omega
end Go.Fw
end
section
namespace Go.Fw
variable [iZ]
open Go.ChangeShapes Go.WideShapes Go.RowKit
structure O4 {H:Type}(f:DataW H->Nat)(fa:List (DataW H)->Nat):Prop where
 str:∀b,f (.lit (.string b))=b.length+1
 sl:∀e s,f (.slice e s)=fa e+fa s+1
 agg:∀p,f (.agg p)=fa p+1
 nil:fa []=0
 cons:∀d r,fa (d::r)=f d+fa r
 one:∀d,1<=f d
theorem O4.get {H:Type}{f:DataW H->Nat}{fa}(hb:O4 f fa):∀{a:List (DataW H)} {i:Nat} {x},a[i]?=some x->f x<=fa a
 |y::a,0,x,h=>by simp at h;subst h;rw [hb.cons];omega
 |y::a,i+1,x,h=>by have:=hb.get (a:=a) (i:=i) (by simpa using h);rw [hb.cons];omega
theorem O4.len {H:Type}{f:DataW H->Nat}{fa}(hb:O4 f fa)(a:List (DataW H)):a.length<=fa a:=by
 induction a with
 |nil=>simp
 |cons x a ih=>have:=hb.one x;simp [hb.cons];omega
abbrev lim : Nat:=1048576
def Ny (w:World):Env:=iq fun c _=>c<w.heap.size
structure Rd (P:Program)(t:TypeId){α:Type}(row:α->List AV)(wf:α->Prop):Prop where
 get:∀{H:Type} {enc:TypeId×Value->H} {f:DataW H->Nat} {fa:List (DataW H)->Nat} (_:O4 f fa) {w:World} {fuel:Nat} {cs:List Value} {x:DataW H×List MemPlace},
  DataW.trod enc P w 0 (fun _=>true) true fuel t cs=some x->f x.1<=lim->∃a,wf a/\iT w (Ny w) (row a) cs/\∀c∈row a,c.mP=true
theorem Rd.to {P t}{α β:Type}{row:α->List AV}{wf:α->Prop}(h:Rd P t row wf)(g:α->β){row':β->List AV}{wf':β->Prop}(hr:∀a,row' (g a)=row a)(hw:∀a,wf a->wf' (g a)):Rd P t row' wf':=by
 constructor
 intro H enc f fa hb w fuel cs x hx hl
 obtain ⟨a,h1,h2,h3⟩:=h.get hb hx hl
 exact ⟨g a,hw a h1,by rw [hr];exact h2,by rw [hr];exact h3⟩
theorem iT.one {w E a v}(h:Rep w E a v):iT w E [a] [v]:=
 ⟨rfl,fun i x y hx hy=>by cases i with|zero=>simp at hx hy;subst hx;subst hy;exact h|succ i=>simp at hx⟩
theorem FU {P t}(ht:P.underlying t=some .bool):Rd P t (fun b:Bool=>[.p (.bool b)]) (fun _=>True):=by
 constructor
 intro H enc f fa hb w fuel cs x hx hl
 obtain ⟨b,rfl,rfl⟩:=DataW.trod_bool ht hx
 exact ⟨b,trivial,iT.one (.p rfl),by simp [AV.mP]⟩
def inR (k:IntKind)(n:Int):Prop:=k.min<=n/\n<=k.max
theorem Ho {P t}{k:IntKind}(ht:P.underlying t=some (.int k)):Rd P t (fun n:Int=>[.p (.int k n)]) (inR k):=by
 constructor
 intro H enc f fa hb w fuel cs x hx hl
 obtain ⟨n,rfl,rfl,hw⟩:=DataW.trod_int ht hx
 exact ⟨n,by simpa [Lit.wf,inR] using hw,iT.one (.p rfl),by simp [AV.mP]⟩
theorem Xw {H:Type}{enc:TypeId×Value->H}{P:Program}{w:World}{base:Nat}{spare:Nat->Bool}{held:Bool}{fuel:Nat}{t:TypeId}{cs:List Value}{x:DataW H×List MemPlace}{k}(ht:P.underlying t=some (.float k))
  (h:DataW.trod enc P w base spare held fuel t cs=some x):∃n,cs=[.float k n]/\x=(.lit (.float k n),[])/\(Lit.float k n).wf=true:=by
 cases fuel with
 |zero=>simp [DataW.trod] at h
 |succ n=>
  unfold DataW.trod at h
  rw [ht] at h
  split at h<;>simp_all
theorem ab5 {P t}(ht:P.underlying t=some (.float .f64)):Rd P t (fun n:Nat=>[.p (.float .f64 n)]) (fun n=>n<2 ^ 64):=by
 constructor
 intro H enc f fa hb w fuel cs x hx hl
 obtain ⟨n,rfl,rfl,hw⟩:=Xw ht hx
 exact ⟨n,by simpa [Lit.wf,inR] using hw,iT.one (.p rfl),by simp [AV.mP]⟩
theorem Xx {P t}(ht:P.underlying t=some .string):Rd P t (fun s:List UInt8=>[.str s]) (fun s=>s.length<=lim):=by
 constructor
 intro H enc f fa hb w fuel cs x hx hl
 obtain ⟨s,rfl,rfl,hw⟩:=DataW.trod_string ht hx
 refine ⟨s.data.toList,?_,iT.one (.str s _ rfl),by simp [AV.mP]⟩
 rw [hb.str] at hl
 omega
theorem iT.get {w E az vs}(h:iT w E az vs){i:Nat}{a:AV}(ha:az[i]?=some a):∃v,vs[i]?=some v/\Rep w E a v:=by
 have hlt:i<vs.length:=by rw [<- h.1];exact (aG.1 ha).1
 exact ⟨vs[i],by simp [hlt],h.2 i a _ ha (by simp [hlt])⟩
theorem apa {w:World}{a:Addr}{v}(h:w.cell? a=some v):a.spot=none:=World.cell?_spot h
theorem KQ {α:Type}{p:Nat->α->Prop}:∀(n:Nat),(∀i,i<n->∃a,p i a)->∃l:List α,l.length=n/\∀i a,l[i]?=some a->p i a
 |0,_=>⟨[],rfl,by simp⟩
 |n+1,h=>by
  obtain ⟨l,h1,h2⟩:=KQ n (fun i hi=>h i (by omega))
  obtain ⟨a,ha⟩:=h n (by omega)
  refine ⟨l++[a],by simp [h1],fun i x hx=>?_⟩
  by_cases hi:i<n
  .rw [bF (by omega)] at hx
   exact h2 i x hx
  .have:i=n:=by
    have:=(aG.1 hx).1
    simp at this;omega
   subst this
   rw [bP (by omega)] at hx
   simp [h1] at hx
   subst hx
   exact ha
def apg {α:Type}(wf:α->Prop)(l:List α):Prop:=l.length<=lim/\∀x∈l,wf x
theorem Nz {P:Program}{t e:TypeId}{α:Type}{row:α->List AV}{wf:α->Prop}{m:Nat}(ht:P.underlying t=some (.slice e))(hm:P.cellsOf e=m)(hpos:0<m)(hrow:∀a,(row a).length=m)(he:Rd P e row wf) :
  Rd P t (fun l:List α=>[.sl (l.map row) false]) (apg wf):=by
 constructor
 intro H enc f fa hb w fuel cs x hx hl
 rcases DataW.trod_slice ht hx with ⟨rfl,rfl⟩|⟨a,len,cap,elems,rest,n,-,rfl,rfl,-,hlc,-,hlen,hel,hsp,-⟩
 .exact ⟨[],⟨by simp,by simp⟩,iT.one (.slnil false none),by simp [AV.mP]⟩
 .subst hm
  obtain ⟨hrl,hre⟩:=hsp rfl
  dsimp only at hl
  rw [hb.sl] at hl
  have hone:∀i,i<len->∃b:α,wf b/\(∀c∈row b,c.mP=true)/\∃cs',w.cells? 0 (a.add (i*P.cellsOf e)) (P.cellsOf e)=some cs'/\iT w (Ny w) (row b) cs':=by
   intro i hi
   have h:=hel i hi
   have hi':i<elems.length:=by omega
   rw [bf hi',aW] at h
   obtain ⟨cs',h1,h2⟩:=h
   have hbd:f elems[i].1<=lim:=by
    have h3:f elems[i].1<=fa (elems.map (·.1)):=hb.get (a:=elems.map (·.1)) (i:=i) (x:=elems[i].1) (by simp [hi'])
    omega
   obtain ⟨b,g1,g2,g3⟩:=he.get hb h2 hbd
   exact ⟨b,g1,g3,cs',h1,g2⟩
  obtain ⟨l,hl1,hl2⟩:=KQ len hone
  refine ⟨l,⟨?_,fun x hx=>?_⟩,?_,by simp [AV.mP]⟩
  .have:=hb.len (elems.map (·.1))
   simp at this
   omega
  .obtain ⟨i,hi⟩:=bJ.1 hx
   exact (hl2 i x hi).1
  .apply iT.one
   by_cases hc0:cap=0
   .subst hc0
    obtain rfl:len=0:=by omega
    obtain rfl:l=[]:=List.eq_nil_of_length_eq_zero hl1
    exact .slnil false _
   .have hspot:a.spot=none:=by
     have key:∃cs',w.cells? 0 (a.add 0) (P.cellsOf e)=some cs':=by
      by_cases hlz:len=0
      .have h:=hre 0 (by omega)
       have hi':0<rest.length:=by omega
       rw [bf hi',aW] at h
       obtain ⟨cs',h1,h2⟩:=h
       subst hlz
       exact ⟨cs',by simpa using h1⟩
      .obtain ⟨b,-,-,cs',h1,-⟩:=hone 0 (by omega)
       exact ⟨cs',by simpa using h1⟩
     obtain ⟨cs',h1⟩:=key
     obtain ⟨-,q1,q2⟩:=World.cells?_some h1
     have:=q2 0 hpos
     rw [bf (by omega)] at this
     have:=apa this
     obtain ⟨bl,o,s⟩:=a
     cases s with
     |none=>rfl
     |some s=>simp [Addr.add] at this
    obtain ⟨bl,o,s⟩:=a
    cases hspot
    have cell:∀(i:Nat) (b:α) (j:Nat) (y:AV),l[i]?=some b->(row b)[j]?=some y->∃v,w.cell? ⟨bl,o+i*P.cellsOf e+j,none⟩=some v/\Rep w (Ny w) y v:=by
     intro i b j y hi hj
     obtain ⟨-,-,cs',h1,h2⟩:=hl2 i b hi
     obtain ⟨v,hv,hr⟩:=h2.get hj
     obtain ⟨-,q1,q2⟩:=World.cells?_some h1
     refine ⟨v,?_,hr⟩
     have hjl:j<P.cellsOf e:=by rw [<- hrow b];exact (aG.1 hj).1
     have:=q2 j hjl
     rw [hv,WideShapes.add_plain,WideShapes.add_plain] at this
     exact this
    have hlim:lim=1048576:=rfl
    have hlen2:=hb.len (elems.map (·.1))
    simp only [dB] at hlen2
    have:=Rep.sl (w:=w) (E:=Ny w) (l.map row) false (P.cellsOf e) bl o cap (fun i j=>(w.cell? ⟨bl,o+i*P.cellsOf e+j,none⟩).getD .nilIface) (by simp;omega) (by simp)
     (fun i r hr=>by
      simp only [bV,aB] at hr
      obtain ⟨b,-,rfl⟩:=hr
      exact hrow b)
     (fun i r j y hr hy=>by
      simp only [bV,aB] at hr
      obtain ⟨b,hb',rfl⟩:=hr
      obtain ⟨v,hv,-⟩:=cell i b j y hb' hy
      exact World.block_lt_of_cell? w _ hv)
     (fun i r j y hr hy=>by
      simp only [bV,aB] at hr
      obtain ⟨b,hb',rfl⟩:=hr
      obtain ⟨v,hv,-⟩:=cell i b j y hb' hy
      simp [hv])
     (fun r hr y hy=>by
      obtain ⟨b,hb',rfl⟩:=aX.1 hr
      obtain ⟨i,hi⟩:=bJ.1 hb'
      exact (hl2 i b hi).2.1 y hy)
     (fun i r j y hr hy=>by
      simp only [bV,aB] at hr
      obtain ⟨b,hb',rfl⟩:=hr
      obtain ⟨v,hv,hrp⟩:=cell i b j y hb' hy
      simpa [hv] using hrp)
    simp only [dB,hl1] at this
    exact this
structure RdF (P:Program)(fs:List Field)(off:Nat){α:Type}(row:α->List AV)(wf:α->Prop):Prop where
 get:∀{H:Type} {enc:TypeId×Value->H} {f:DataW H->Nat} {fa:List (DataW H)->Nat} (_:O4 f fa) {w:World} {n:Nat} {cs:List Value} {xs:List (DataW H×List MemPlace)},
  xs.length=fs.length->(∀(i:Nat) (fd:Field),fs[i]?=some fd->DataW.trod enc P w 0 (fun _=>true) true n fd.type ((cs.drop fd.offset).take (P.cellsOf fd.type))=xs[i]?)->
  cs.length=off+(fs.map fun fd=>P.cellsOf fd.type).sum->fa (xs.map (·.1))<=lim->∃a,wf a/\iT w (Ny w) (row a) (cs.drop off)/\∀c∈row a,c.mP=true
theorem CV {P off}:RdF P [] off (fun _:Unit=>[]) (fun _=>True):=by
 constructor
 intro H enc f fa hb w n cs xs hx hf hl hbd
 refine ⟨(),trivial,?_,by simp⟩
 have:cs.drop off=[]:=List.drop_eq_nil_of_le (by simp at hl;omega)
 rw [this]
 exact ⟨rfl,fun i a v h=>by simp at h⟩
theorem iV {P:Program}{fd:Field}{fs:List Field}{off m:Nat}{α β:Type}{row:α->List AV}{wf:α->Prop}{row':β->List AV}{wf':β->Prop}(ho:fd.offset=off)(hm:P.cellsOf fd.type=m)(h:Rd P fd.type row wf)
  (h':RdF P fs (off+m) row' wf'):RdF P (fd::fs) off (fun x:α×β=>row x.1++row' x.2) (fun x=>wf x.1/\wf' x.2):=by
 subst ho hm
 constructor
 intro H enc f fa hb w n cs xs hx hf hl hbd
 match xs,hx with
 |x::xs,hx=>
  have h0:=hf 0 fd rfl
  simp only [List.getElem?_cons_zero] at h0
  simp only [bg,hb.cons] at hbd
  obtain ⟨a,a1,a2,a3⟩:=h.get hb h0 (by omega)
  obtain ⟨b,b1,b2,b3⟩:=h'.get hb (xs:=xs) (by simpa using hx) (fun i fd' hi=>by simpa using hf (i+1) fd' (by simpa using hi)) (by simp at hl;omega) (by omega)
  refine ⟨(a,b),⟨a1,b1⟩,?_,fun c hc=>?_⟩
  .have:cs.drop fd.offset=(cs.drop fd.offset).take (P.cellsOf fd.type)++cs.drop (fd.offset+P.cellsOf fd.type):=by
    rw [<- List.drop_drop,List.take_append_drop]
   rw [this]
   exact a2.append b2
  .rcases aN.1 hc with hc|hc
   .exact a3 c hc
   .exact b3 c hc
theorem wR {P:Program}{t:TypeId}{fs:Array Field}{α:Type}{row:α->List AV}{wf:α->Prop}(ht:P.underlying t=some (.struct fs))(hs:P.cellsOf t=(fs.toList.map fun fd=>P.cellsOf fd.type).sum)(h:RdF P fs.toList 0 row wf) :
  Rd P t row wf:=by
 constructor
 intro H enc f fa hb w fuel cs x hx hl
 obtain ⟨xs,n,-,rfl,hlen,hxs,hf⟩:=DataW.trod_struct ht hx
 dsimp only at hl
 rw [hb.agg] at hl
 obtain ⟨a,a1,a2,a3⟩:=h.get hb (xs:=xs) (w:=w) (n:=n) (cs:=cs) (by simpa using hxs) (fun i fd hi=>hf i fd (by simpa using hi)) (by rw [hlen,hs];simp) (by omega)
 exact ⟨a,a1,by simpa using a2,a3⟩
structure RdV (P:Program)(t:TypeId){α:Type}(av:α->AV)(wf:α->Prop):Prop where
 get:∀{H:Type} {enc:TypeId×Value->H} {f:DataW H->Nat} {fa:List (DataW H)->Nat} (_:O4 f fa) {w:World} {base:Nat} {v:Value} {d:DataW H} {ps:List MemPlace},
  Value.okWide P w .any base t v->DataW.Trod enc P w 0 (fun _=>true) true t v d ps->f d<=lim->∃a,wf a/\Rep w (Ny w) (av a) v
theorem NC {P:Program}{t:TypeId}{fs:Array Field}{α:Type}{row:α->List AV}{wf:α->Prop}(ht:P.underlying t=some (.struct fs))(h:Rd P t row wf):RdV P t (fun a=>.agg (row a)) wf:=by
 constructor
 intro H enc f fa hb w base v d ps hok ⟨fuel,htr⟩ hl
 obtain ⟨cs,rfl,-⟩:=okWide_struct ht hok
 obtain ⟨a,h1,h2,h3⟩:=h.get hb htr hl
 refine ⟨a,h1,.agg _ _ ?_ h3 (fun i c v hc hv=>h2.2 i c v hc ?_)⟩
 .simpa [Value.cells] using h2.1
 .simpa [Value.cells] using hv
structure RdA (P:Program)(ts:List TypeId){α:Type}(avs:α->List AV)(wf:α->Prop):Prop where
 get:∀{H:Type} {enc:TypeId×Value->H} {f:DataW H->Nat} {fa:List (DataW H)->Nat} (_:O4 f fa) {w:World} {base:Nat} {vs:List Value} {ds:List (DataW H)} {ps:List MemPlace},
  (∀(j:Nat) t v,ts[j]?=some t->vs[j]?=some v->Value.okWide P w .any base t v)->DataW.TrodAll enc P w 0 (fun _=>true) true ts vs ds ps->fa ds<=lim->∃a,wf a/\iT w (Ny w) (avs a) vs
theorem aeK {P}:RdA P [] (fun _:Unit=>[]) (fun _=>True):=by
 constructor
 intro H enc f fa hb w base vs ds ps hok h hl
 obtain ⟨rfl,-,-⟩:=trodAll_nil h
 exact ⟨(),trivial,rfl,fun i a v h=>by simp at h⟩
theorem U9 {P:Program}{t:TypeId}{ts:List TypeId}{α β:Type}{av:α->AV}{wf:α->Prop}{avs:β->List AV}{wf':β->Prop}(h:RdV P t av wf)(h':RdA P ts avs wf') :
  RdA P (t::ts) (fun x:α×β=>av x.1::avs x.2) (fun x=>wf x.1/\wf' x.2):=by
 constructor
 intro H enc f fa hb w base vs ds ps hok ht hl
 obtain ⟨v,vs,d,ds,p,q,rfl,rfl,rfl,h1,h2⟩:=trodAll_cons ht
 rw [hb.cons] at hl
 obtain ⟨a,a1,a2⟩:=h.get hb (hok 0 t v rfl rfl) h1 (by omega)
 obtain ⟨b,b1,b2⟩:=h'.get hb (fun j t v hj hv=>hok (j+1) t v (by simpa using hj) (by simpa using hv)) h2 (by omega)
 exact ⟨(a,b),⟨a1,b1⟩,(iT.one a2).append b2⟩
theorem Gs {H:Type}{enc:TypeId×Value->H}{P:Program}(hl:laidOutB P=true){W W':World}{sp':Nat->Bool}:∀{ts:List TypeId} (_:∀t∈ts,P.readableRec t=true/\t<P.types.size) {vs:List Value} {ds:List (DataW H)} {ps:List MemPlace},
  DataW.TrodAll enc P W 0 (fun _=>true) true ts vs ds ps->(∀p∈ps,W.sameAt W' p)->(∀p∈ps,sp' p.block=true)->DataW.TrodAll enc P W' 0 sp' true ts vs ds ps
 |[],_,_,_,_,h,_,_=>by
  obtain ⟨rfl,rfl,rfl⟩:=trodAll_nil h
  exact trodAll_mk0
 |t::ts,hr,_,_,_,h,hs,hsp=>by
  obtain ⟨v,vs,d,ds,p,q,rfl,rfl,rfl,h1,h2⟩:=trodAll_cons h
  exact trodAll_cons_mk (WideElems.Trod_stays hl (hr t (by simp)).1 (hr t (by simp)).2 h1 (fun p hp=>hs p (by simp [hp])) (fun p hp=>hsp p (by simp [hp])))
   (Gs hl (fun t ht=>hr t (by simp [ht])) h2 (fun p hp=>hs p (by simp [hp])) (fun p hp=>hsp p (by simp [hp])))
section
variable {H : Type} {enc:TypeId×Value->H} {P:Program}
theorem Xy {f:Func}{s:ChangeSpec}{apart fresh handsOn again:Bool}{W W':World}{args:Array Value}{v:Value}{ds gs:List (DataW H)}{before pa pv:List MemPlace}
  (hW:DataW.Whole enc P f.params.toList s.vars apart W args.toList ds gs before)
  (hres:∀(b:Nat) (sp:Nat->Bool) (hd:Bool),DataW.TrodAll enc P W' b sp hd f.resultTypes.toList (v.resultList f.resultTypes.size) (s.fn H (ds++gs)).results [])
  (hargs:∀sp:Nat->Bool,(∀p∈before,sp p.block=true)->DataW.TrodAll enc P W' 0 sp true f.params.toList args.toList (s.fn H (ds++gs)).args pa)
  (hvars:∀sp:Nat->Bool,(∀p∈before,sp p.block=true)->DataW.TrodVars enc P W' sp s.vars (s.fn H (ds++gs)).vars pv)
  (hps:before=pa++pv) (hb:Below W.heap.size W W')
  (hok:∀(j:Nat) (t:TypeId) (r:Value),f.resultTypes[j]?=some t->(v.resultList f.resultTypes.size)[j]?=some r->Value.okWide P W' .any 0 t r) :
  s.post enc P f apart fresh handsOn again W args v W':=by
 have hlt:∀p∈before,p.block<W.heap.size:=fun p hp=>hW.lt p hp
 have hold:∀p∈before,(fun b=>decide (b<W.heap.size)) p.block=true:=fun p hp=>by simpa using hlt p hp
 refine ⟨ds,gs,before,[],pa,pv,hW,hres _ _ _,hargs _ hold,hvars _ hold,World.keptBut_mono (fun p hp=>⟨hp,?_⟩) (hb.frame (·∈before)),fun _=>?_⟩
 .rw [hps,aN] at hp
  exact Or.inr hp
 .obtain ⟨_,_,_,_,_,hz,hn⟩:=hW
  refine ⟨hok,_,_,([]++pa)++pv,⟨[]++pa,pv,trodAll_append (hargs _ (fun _ _=>rfl)) (hres _ _ _),hvars _ (fun _ _=>rfl),rfl,?_,?_⟩,?_⟩
  .intro b off hp
   have hin:MemPlace.cell b off∈before:=by rw [hps];simpa using hp
   rw [hb.frozen (hlt _ hin)]
   exact hz b off hin
  .intro ha
   have:=hn ha
   rw [hps] at this
   simpa using this
  .intro p hp _
   rw [hps]
   simpa using hp
end
theorem RN {P:Program}{fid:FuncId}{fn:Func}{s:ChangeSpec}{apart fresh handsOn again:Bool}{α:Type}{avs:α->List AV}{wf:α->Prop}{tb:TypeId}
  (hf:P.funcs[fid]?=some fn) (hbody:fn.body.isNone=false) (hlaid:laidOutB P=true) (hread:∀t∈fn.params.toList,P.readableRec t=true/\t<P.types.size)
  (hrt:fn.resultTypes=#[tb]) (htb:P.underlying tb=some .bool) (hvars:s.vars=[])
  (hs:∀(H:Type) (ds:List (DataW H)),ds.length=fn.params.size->s.fn H ds={results:=[.lit (.bool true)],args:=ds})
  (ra:RdA P fn.params.toList avs wf) (pc:∀a,wf a->PC P fid (avs a) (.p (.bool true)))
  {H:Type} {enc:TypeId×Value->H} {f:DataW H->Nat} {fa:List (DataW H)->Nat} (hb:O4 f fa) {W:World} {base:Nat} {args:Array Value} {ds gs:List (DataW H)} {before:List MemPlace}
  (hval:∀(j:Nat) t v,fn.params[j]?=some t->args[j]?=some v->Value.okWide P W .any base t v)
  (hW:DataW.Whole enc P fn.params.toList s.vars apart W args.toList ds gs before) (hbd:fa (ds++gs)<=lim) (hG:ZR W (fun c _=>c<W.heap.size)) :
  Calls P fid args W fun e W'=>∃v,e=.returned v/\s.post enc P fn apart fresh handsOn again W args v W':=by
 have hW':=hW
 obtain ⟨p,q,hA,hV,rfl,hfz,hnd⟩:=hW
 rw [hvars] at hV
 obtain ⟨rfl,rfl⟩:=trodVars_none hV
 simp only [dn] at hW' hbd
 have hlen:∀{ts:List TypeId} {vs:List Value} {ds:List (DataW H)} {ps:List MemPlace},DataW.TrodAll enc P W 0 (fun _=>true) true ts vs ds ps->ds.length=ts.length:=by
  intro ts
  induction ts with
  |nil=>intro vs ds ps h;obtain ⟨-,rfl,-⟩:=trodAll_nil h;rfl
  |cons t ts ih=>intro vs ds ps h;obtain ⟨_,_,_,_,_,_,_,rfl,_,_,h2⟩:=trodAll_cons h;simp [ih h2]
 obtain ⟨a,ha,hrep⟩:=ra.get hb (fun j t v hj hv=>hval j t v (by simpa using hj) (by simpa using hv)) hA hbd
 have hpc:=pc a ha W (fun c _=>c<W.heap.size) args.toList (fun c o h=>h) hG hrep
 rw [hf] at hpc
 dsimp only at hpc
 rw [if_neg (by simp [hbody])] at hpc
 have hc:=hpc.2
 simp only [Array.toArray_toList] at hc
 refine hc.mono fun e W' ⟨v,vU,he,hstep,_,hr⟩=>?_
 obtain rfl:=hr.gV
 have hbel:=hstep.below
 have hspec:=hs H ds (by rw [hlen hA];simp)
 refine ⟨_,he,Xy (pa:=p) (pv:=[]) (gs:=[]) hW' ?_ ?_ ?_ (by simp) hbel ?_⟩
 .intro b sp hd
  rw [dn,hspec,hrt]
  exact trodAll_cons_mk (shut_bool htb _) trodAll_mk0
 .intro sp hsp
  rw [dn,hspec]
  exact Gs hlaid hread hA (fun x hx=>hbel.same (hW'.lt x hx)) hsp
 .intro sp hsp
  rw [dn,hspec,hvars]
  rfl
 .exact ok_one hrt rfl (okWide_bool_mk htb _)
end Go.Fw
end
section
namespace Go.Fw
structure dP.wf (v:dP):Prop where
 Kind:inR .u8 v.Kind
 Num:v.Num<2 ^ 64
 Str:v.Str.length<=lim
 Ref:inR .i64 v.Ref
structure dL.wf (v:dL):Prop where
 Str:v.Str.length<=lim
 Sym:inR .i64 v.Sym
structure dM.wf (v:dM):Prop where
 Has:inR .u8 v.Has
 Value:v.Value.wf
 Get:v.Get.wf
 Set:v.Set.wf
structure dJ.wf (v:dJ):Prop where
 Key:v.Key.wf
 dY:v.dY.wf
structure dQ.wf (v:dQ):Prop where
 Kind:inR .u8 v.Kind
 fB:v.fB.wf
 Props:apg dJ.wf v.Props
 Target:v.Target.wf
 Handler:v.Handler.wf
 Text:v.Text.length<=lim
structure dK.wf (v:dK):Prop where
 Objects:apg dQ.wf v.Objects
structure iK.wf (v:iK):Prop where
 Method:inR .u8 v.Method
 Object:inR .i64 v.Object
 Key:v.Key.wf
 dY:v.dY.wf
 Value:v.Value.wf
 Receiver:v.Receiver.wf
 Args:apg dP.wf v.Args
end Go.Fw
end
section
namespace Go.Fw
theorem ab6 (a b:Int):compare a b=if a<b then Ordering.lt else if a=b then Ordering.eq else Ordering.gt:=rfl
theorem ab7 (a b:Int):((some (compare a b) == some Ordering.lt)||(some (compare a b) == some Ordering.eq))=decide (a<=b):=by
 rw [ab6];split
 .simp;omega
 .split
  .simp;omega
  .simp;omega
theorem ab8 (a b:Int):((some (compare a b) == some Ordering.gt)||(some (compare a b) == some Ordering.eq))=decide (b<=a):=by
 rw [ab6];split
 .simp;omega
 .split
  .simp;omega
  .simp;omega
theorem aoZ (a b:Int):(some (compare a b) == some Ordering.eq)=decide (a=b):=by
 rw [ab6];split
 .simp;omega
 .split
  .simp;assumption
  .simp;assumption
theorem ag3 (a b:Int):(some (compare a b) != some Ordering.eq)=!decide (a=b):=by
 simp only [bne,aoZ]
abbrev kM (x:Nat):Ieee.Datum:=FloatKind.f64.format.read x
theorem Y6 : kM 0=.number false 0 (-1074):=by rfl
theorem ag4 : kM 4607182418800017408=.number false 4503599627370496 (-52):=by rfl
theorem sg0 (s:Bool)(u:Nat):Ieee.signed s 0 u=0:=by cases s<;>simp [Ieee.signed]
theorem sgz {s:Bool}{m u:Nat}:Ieee.signed s m u=0↔m=0:=by
 have:(0:Nat)<2 ^ u:=Nat.two_pow_pos u
 have h2:m*2 ^ u=0↔m=0:=Nat.mul_eq_zero.trans ⟨fun h=>h.resolve_right (by omega),.inl⟩
 cases s
 .simp only [Ieee.signed,aV,if_false,Nat.shiftLeft_eq];omega
 .simp only [Ieee.signed,if_true,Nat.shiftLeft_eq];omega
def yE (x:Nat):Bool:=match kM x with | .nan ..=>true|_=>false
theorem EL (x:Nat):Ll x x=yE x:=by
 unfold Ll yE Ieee.Format.order
 show (Ieee.Datum.order (kM x) (kM x) != some .eq)=_
 cases kM x with
 |nan s t=>simp [Ieee.Datum.order]
 |infinity s=>cases s<;>rfl
 |number s m i=>simp only [Ieee.Datum.order,ag3];simp
theorem FV (x y:Nat):Ll x y=!fEq x y:=rfl
theorem U_ (x y:Nat):fEq x y=fEq y x:=by
 unfold fEq Ieee.Format.order
 show (Ieee.Datum.order (kM x) (kM y) == some .eq)=(Ieee.Datum.order (kM y) (kM x) == some .eq)
 generalize kM x=a
 generalize kM y=b
 match a,b with
 | .nan _ _,.nan _ _=>rfl
 | .nan _ _,.infinity _=>rfl
 | .nan _ _,.number _ _ _=>rfl
 | .infinity _,.nan _ _=>rfl
 | .number _ _ _,.nan _ _=>rfl
 | .infinity s,.infinity t=>cases s<;>cases t<;>rfl
 | .infinity s,.number _ _ _=>cases s<;>rfl
 | .number _ _ _,.infinity s=>cases s<;>rfl
 | .number s m i,.number t n j=>
  simp only [Ieee.Datum.order]
  rw [aoZ,aoZ,Int.min_comm j i]
  by_cases h:Ieee.signed s m (i-min i j).toNat=Ieee.signed t n (j-min i j).toNat
  .simp [h]
  .simp [h,Ne.symm h]
theorem EM (x:Nat):fEq x 0=(kM x).isZero:=by
 unfold fEq Ieee.Format.order
 show (Ieee.Datum.order (kM x) (kM 0) == some .eq)=_
 rw [Y6]
 cases kM x with
 |nan s t=>rfl
 |infinity s=>cases s<;>rfl
 |number s m i=>
  simp only [Ieee.Datum.order,aoZ,sg0]
  cases m with
  |zero=>simp [sg0,Ieee.Datum.isZero]
  |succ m=>simp [sgz,Ieee.Datum.isZero]
theorem af_ (x:Nat):(kM x).neg=(x / 9223372036854775808 % 2 == 1):=by
 unfold kM Ieee.Format.read
 have e:FloatKind.f64.format.signWeight=9223372036854775808:=by rfl
 simp only [e]
 split
 .rfl
 .split
  .rfl
  .split<;>rfl
theorem ag5 (x:Nat):kM (x % 9223372036854775808)=match kM x with | .number _ m i=>.number false m i | .infinity _=>.infinity false | .nan _ t=>.nan false t:=by
 unfold kM Ieee.Format.read
 have e:FloatKind.f64.format.signWeight=9223372036854775808:=by rfl
 have e2:x % 9223372036854775808 / 9223372036854775808=0:=Nat.div_eq_of_lt (Nat.mod_lt _ (by decide))
 simp only [e,e2,Nat.mod_mod]
 split
 .rfl
 .split
  .rfl
  .split<;>rfl
theorem aeL {x:Nat}(h:x<2 ^ 64):decide (((IntKind.wrap .i64 (x:Int)):Int)<0)=(kM x).neg:=by
 rw [af_]
 have h2:(2:Nat) ^ 64=18446744073709551616:=by decide
 rw [h2] at h
 have e:IntKind.wrap .i64 (x:Int)=if (x:Int) % 18446744073709551616>=9223372036854775808 then (x:Int) % 18446744073709551616-18446744073709551616 else (x:Int) % 18446744073709551616:=by
  show (if (true&&decide ((x:Int) % 2 ^ 64>=2 ^ (64-1)))=true then (x:Int) % 2 ^ 64-2 ^ 64 else (x:Int) % 2 ^ 64)=_
  simp
 have h3:(x:Int) % 18446744073709551616=x:=by omega
 rw [e,h3]
 by_cases hx:(x:Int)>=9223372036854775808
 .have h4:x / 9223372036854775808=1:=by omega
  have h5:(x:Int)-18446744073709551616<0:=by omega
  simp [hx,h4,h5]
 .have h4:x / 9223372036854775808=0:=by omega
  have h5:¬(x:Int)<0:=by omega
  simp [hx,h4,h5]
theorem apj (b:BitVec 64):IntKind.wrap .u64 (b.toNat:Int)=b.toNat:=by
 have h:=b.isLt
 have h2:(2:Nat) ^ 64=18446744073709551616:=by decide
 rw [h2] at h
 show (if (false&&decide ((b.toNat:Int) % 2 ^ 64>=2 ^ (64-1)))=true then (b.toNat:Int) % 2 ^ 64-2 ^ 64 else (b.toNat:Int) % 2 ^ 64)=_
 simp
 omega
theorem apx {x:Nat}(h:x<2 ^ 64):(o_ .u64 (x:Int) 9223372036854775808).toNat=x % 9223372036854775808:=by
 have e1:(BitVec.ofInt 64 (x:Int))=BitVec.ofNat 64 x:=by
  apply BitVec.eq_of_toNat_eq
  simp [BitVec.toNat_ofInt]
 have e2 : ~~~ (BitVec.ofInt 64 (9223372036854775808:Int))=BitVec.ofNat 64 (2 ^ 63-1):=by decide
 have e:o_ .u64 (x:Int) 9223372036854775808=((BitVec.ofNat 64 x&&&BitVec.ofNat 64 (2 ^ 63-1)).toNat:Int):=by
  show IntKind.wrap .u64 ((BitVec.ofInt 64 (x:Int)&&&~~~ BitVec.ofInt 64 (9223372036854775808:Int)).toNat:Int)=_
  rw [e1,e2,apj]
 rw [e,aY,BitVec.toNat_and,BitVec.toNat_ofNat,BitVec.toNat_ofNat,Nat.mod_eq_of_lt h,Nat.mod_eq_of_lt (by decide:2 ^ 63-1<2 ^ 64),Nat.and_two_pow_sub_one_eq_mod]
theorem aoV {s:Bool}{i:Int}{x:Nat}(h:kM x=.number s 0 i):(FloatKind.f64.format.div 4607182418800017408 x).getD 0=FloatKind.f64.format.word s FloatKind.f64.format.infRung:=by
 unfold Ieee.Format.div
 show ((Ieee.Datum.quotient _ (kM 4607182418800017408) (kM x)).map _).getD 0=_
 rw [ag4,h]
 have e:Ieee.Datum.quotient (FloatKind.f64.format.fractionBits+2) (.number false 4503599627370496 (-52)) (.number s 0 i)=some (.infinity s):=by
  simp [Ieee.Datum.quotient]
 rw [e]
 rfl
theorem Xz (s:Bool):kM (FloatKind.f64.format.word s 0)=.number s 0 (-1074):=by cases s<;>rfl
theorem ab9 {s:Bool}{i:Int}{x:Nat}(h:kM x=.number s 0 i):fLt ((FloatKind.f64.format.div 4607182418800017408 x).getD 0) 0=s:=by
 rw [aoV h];cases s<;>rfl
theorem XA {s:Bool}{i:Int}{x:Nat}(h:kM x=.number s 0 i):fGt ((FloatKind.f64.format.div 4607182418800017408 x).getD 0) 0=!s:=by
 rw [aoV h];cases s<;>rfl
theorem Qy (s:Bool):FloatKind.f64.format.nearest s 0 0=FloatKind.f64.format.word s 0:=by cases s<;>rfl
theorem ab_ (x:Nat)(h:yE x=false):OT (x % 9223372036854775808) 4845873199050653695=(Qq x 14069245235905429503&&OT x 4845873199050653695):=by
 unfold OT Qq Ieee.Format.order
 have e1:FloatKind.f64.format.read 4845873199050653695=.number false 9007199254740991 0:=FQ
 have e2:FloatKind.f64.format.read 14069245235905429503=.number true 9007199254740991 0:=CS
 rw [e1,e2]
 show ((Ieee.Datum.order (kM _) _ == _)||(Ieee.Datum.order (kM _) _ == _))=(((Ieee.Datum.order (kM x) _ == _)||(Ieee.Datum.order (kM x) _ == _))&&((Ieee.Datum.order (kM x) _ == _)||(Ieee.Datum.order (kM x) _ == _)))
 rw [ag5]
 unfold yE at h
 cases hx:kM x with
 |nan s t=>rw [hx] at h;cases h
 |infinity s=>cases s<;>rfl
 |number s m i=>
  simp only [Ieee.Datum.order,ab7,ab8]
  have hp:0<=((m <<< (i-min i 0).toNat:Nat):Int):=Int.natCast_nonneg _
  have hq:0<=((9007199254740991 <<< (0-min i 0).toNat:Nat):Int):=Int.natCast_nonneg _
  cases s
  .simp only [Ieee.signed,aV,if_false,if_true]
   generalize ((m <<< (i-min i 0).toNat:Nat):Int)=a at *
   generalize ((9007199254740991 <<< (0-min i 0).toNat:Nat):Int)=b at *
   by_cases h:a<=b<;>simp [h];omega
  .simp only [Ieee.signed,aV,if_false,if_true]
   generalize ((m <<< (i-min i 0).toNat:Nat):Int)=a at *
   generalize ((9007199254740991 <<< (0-min i 0).toNat:Nat):Int)=b at *
   by_cases h:a<=b
   .have : -b <= -a:=by omega
    simp [h,this];omega
   .have:¬(-b <= -a):=by omega
    simp [h,this]
theorem ND {x:Nat}{s:Bool}{m:Nat}{i:Int}(h:kM x=.number s m i)(y:Nat) :
  fEq (kV x) y=fEq (FloatKind.f64.nearest (((FloatKind.f64.decode x).toInt .zero).getD 0)) y:=by
 have e1:kV x=FloatKind.f64.format.nearest s (m*2 ^ i.toNat / 2 ^ (-i).toNat) 0:=by
  unfold kV FloatKind.decode FloatKind.encode
  show FloatKind.f64.format.write ((kM x).integral .zero)=_
  rw [h]
  simp only [Ieee.Datum.integral,EJ,Nat.shiftLeft_eq,Ieee.Format.write]
 have e2:((FloatKind.f64.decode x).toInt .zero).getD 0=Ieee.signed s (m*2 ^ i.toNat / 2 ^ (-i).toNat) 0:=by
  unfold FloatKind.decode
  show ((kM x).toInt .zero).getD 0=_
  rw [h]
  simp only [Ieee.Datum.toInt,Ieee.Datum.integral,EJ,Nat.shiftLeft_eq,Option.getD_some]
 rw [e1,e2]
 generalize m*2 ^ i.toNat / 2 ^ (-i).toNat=q
 have e3:FloatKind.f64.nearest (Ieee.signed s q 0)=FloatKind.f64.format.nearest (s&&decide (q≠0)) q 0:=by
  unfold FloatKind.nearest FloatKind.encode
  simp only [Ieee.Format.write]
  congr 1
  .cases s
   .simp [Ieee.signed]
   .cases q<;>simp [Ieee.signed]
  .cases s<;>simp [Ieee.signed]
 rw [e3]
 cases q with
 |succ q=>simp
 |zero=>
  simp only [ne_eq,not_true_eq_false,decide_false,Bool.and_false,Qy]
  unfold fEq Ieee.Format.order
  show (Ieee.Datum.order (kM _) (kM y) == _)=(Ieee.Datum.order (kM _) (kM y) == _)
  rw [Xz,Xz]
  cases kM y with
  |nan=>rfl
  |infinity=>rfl
  |number t n j=>simp only [Ieee.Datum.order,sg0]
end Go.Fw
end
section
namespace Go.Fw
theorem aaw (a:Int):iO a a=false:=by simp [iO]
theorem ag6 (a b:List UInt8):wJ a b=decide (a=b):=rfl
theorem O5 (a b:Int):dV a b=decide (a=b):=by unfold dV;exact apn
theorem akZ (a b:Int):iO a b=!decide (a=b):=by unfold iO bne;rw [apn]
theorem CX {α:Type}[Inhabited α](l:List α)(k:Nat)(h:k<l.length):l.drop k=l.getD k default::l.drop (k+1):=by
 rw [List.drop_eq_getElem_cons h]
 simp [aH,h]
theorem XB {α:Type}[Inhabited α](l:List α)(k:Nat)(h:k<l.length):l.take (k+1)=l.take k++[l.getD k default]:=by
 rw [List.take_add_one]
 simp [aH,h]
theorem ag7 {α:Type}[Inhabited α](l:List α)(k:Nat)(h:k<l.length):l.getD k default∈l:=by
 simp [aH,h]
theorem Lm {k:Nat}(h:k<=4294967296):eG .i64 (k:Int) 1=((k+1:Nat):Int):=by
 rw [Qv (by omega) (by omega)];omega
theorem O6 (b:Bool):(!(dV (kP b) 0))=!b:=by rw [aeC]
theorem apl {α:Type}(f:α->List AV)(x:List α)(j:Nat):(!(decide ((j:Int)<(jc f x:Int))))=!decide (j<x.length):=by
 rw [dN];congr 1;exact decide_eq_decide.2 (by omega)
theorem apr (a b:dL):(wJ a.Str b.Str&&dV a.Sym b.Sym)=decide (a=b):=by
 cases a;cases b
 simp [ag6,O5,Bool.decide_and]
end Go.Fw
end
section
namespace Go.Fw
variable [iZ]
abbrev CK :=AV->AH->Nat->Prop
def CW (P:Program)(f:FuncId)(az:List AV)(ah:AH)(nx:Nat)(K:CK):Prop:=
 ∀base w E vs,eH base w E ah (fun b=>nx<=b)->ZR w E.fix->iT w E az vs->
  ∀(o:Oper) (a:Act),(∀w',(execOp a.eval o).run P w'=(callFunc f vs.toArray).run P w')->∀(next:Act->World->Prop) (Q:Exit->Act->World->Prop),
   (∀v w' E' r eX nx',K r eX nx'->Step base w E w' E'->eH base w' E' eX (fun b=>nx'<=b)->Rep w' E' r v->next (a.put o.dst v) w')->o.wp P a w next Q
section
variable {P : Program} {fr:nP} {ah:AH} {nx:Nat} {Q:AQ}
theorem CW.mono {f:FuncId}{az:List AV}{K K':CK}(h:CW P f az ah nx K)(hk:∀r ah nx,K r ah nx->K' r ah nx):CW P f az ah nx K':=
 fun base w E vs hh hG hr o a he next Q hn=>h base w E vs hh hG hr o a he next Q fun v w' E' r eX nx' hK=>hn v w' E' r eX nx' (hk _ _ _ hK)
theorem Va {f:FuncId}{fn:Func}{c:Code}{args:List AV}{K:CK}(hf:P.funcs[f]?=some fn)(hb:fn.body=some c)(hn:args.length<=fn.ntmps)
  (h:AW P c (Gp fn.ntmps args) ah nx (fun e fr eX nx'=>(e=.normal\/e=.ret)/\tX P fr eX fn.results.toList fun l=>K (one l) eX nx')) {base:Nat} {w:World} {E:Env} {vs:List Value} (hh:eH base w E ah (fun b=>nx<=b)) (hG:ZR w E.fix) (hrep:iT w E args vs) :
  Calls P f vs.toArray w fun e w'=>∃r eX nx' v E',K r eX nx'/\e=.returned v/\Step base w E w' E'/\eH base w' E' eX (fun b=>nx'<=b)/\Rep w' E' r v:=by
 have Rz:Lj base w E (Gp fn.ntmps args) ah nx {tmps:=vs.toArray++Array.replicate (fn.ntmps-vs.toArray.size) undef,defers:=[]}:=⟨hh,aat hG hrep hn,rfl⟩
 refine calls_of_wp hf hb (wp_mono (h base w E _ Rz) fun e a' w' hp=>?_)
 obtain ⟨E',fr',eX,nx',⟨he',hres⟩,hs',hst⟩:=hp
 obtain ⟨az,vs',hK,hrun,YF⟩:=sU hs' hres
 have hres':(results fn a'.tmps).run P w'=.ok (if h:vs'.toArray.size=1 then vs'.toArray[0] else .tuple vs'.toArray) w':=by
  have e:results fn a'.tmps=(do
    let vs <- fn.results.mapM (Nc a'.tmps)
    pure (if h:vs.size=1 then vs[0] else .tuple vs)):=by
   unfold results
   congr 1
  rw [e,Array.mapM_eq_mapM_toList,Sem.run_bind,Sem.run_map,hrun]
  rfl
 have hv:=YX YF
 rcases he' with rfl|rfl
 .exact ⟨hs'.defers,_,hres',one az,eX,nx',_,E',hK,rfl,hst,hs'.heap,hv⟩
 .exact ⟨hs'.defers,_,hres',one az,eX,nx',_,E',hK,rfl,hst,hs'.heap,hv⟩
theorem Vb {f:FuncId}{fn:Func}{c:Code}{args:List AV}{K:CK}(hf:P.funcs[f]?=some fn)(hb:fn.body=some c)(hname:fn.name≠ "runtime.NumGoroutine") (hn:args.length<=fn.ntmps)
  (h:AW P c (Gp fn.ntmps args) ah nx (fun e fr eX nx'=>(e=.normal\/e=.ret)/\tX P fr eX fn.results.toList fun l=>K (one l) eX nx')):CW P f args ah nx K:=by
 intro base w E vs hh hG hrep o a he next Q hnext
 have hcall:(callFunc f vs.toArray).run P w=.ok (.enter f vs.toArray) w:=by
  have e1:(fn.name == "runtime.NumGoroutine")=false:=by simpa using hname
  have e2:fn.body.isNone=false:=by rw [hb];rfl
  simp only [callFunc,Sem.run_bind,run_program,Result.andThen_ok,hf,e1,aV,if_false,e2,Sem.run_pure]
 unfold Oper.wp
 rw [he w,hcall]
 refine (Va hf hb hn h hh hG hrep).mono fun e w' hq=>?_
 obtain ⟨r,eX,nx',v,E',hK,rfl,q1,q2,q3⟩:=hq
 exact hnext v w' E' r eX nx' hK q1 q2 q3
theorem XC {w:World}{E:Env}{l:List AV}{vs:List Value}(h:iT w E l vs)(hc:jY l=true):iT w (iq E.fix) l vs:=
 ⟨h.1,fun i a v h1 h2=>CU (E:=E) (E':=iq E.fix) (fun _ _ h=>h) (h.2 i a v h1 h2) (kF hc i a h1)⟩
theorem aax {f:FuncId}{az as':List AV}{r:AV}{p:List Nat}{sz:Nat}{K:CK}(hw:∀w E vs,iT w E az vs->iT w E as' vs)(hcl:jY as'=true)(hr:r.clean=true)
  {rows:List (List AV)} (hcell:aoN r p=.sl rows false) (hpc:Y0 P f as' r p sz) (hK:K (EG p r (.os nx sz 0 rows.length)) (upd ah nx (some (.rows sz rows))) (nx+1)):CW P f az ah nx K:=by
 intro base w E vs hh hG hrep o a he next Q hnext
 have hrows:Nj p r=rows:=by unfold Nj;rw [hcell];rfl
 have acd:iT w (iq E.fix) as' vs:=XC (hw _ _ _ hrep) hcl
 have hq:=hpc w E.fix vs hh.jO hG acd
 split at hq
 .exact hq.elim
 rename_i fn hfn
 obtain ⟨hbody,hname,hq⟩:=hq
 have hcall:(callFunc f vs.toArray).run P w=.ok (.enter f vs.toArray) w:=by
  have:(fn.name == "runtime.NumGoroutine")=false:=by simpa using hname
  simp only [callFunc,Sem.run_bind,run_program,Result.andThen_ok,hfn,this,aV,if_false,hbody,Sem.run_pure]
 unfold Oper.wp
 rw [he w,hcall]
 refine hq.mono fun e w' hq=>?_
 obtain ⟨v,E1,rfl,hst,hh1,hv⟩:=hq
 rw [hrows] at hh1 hv
 let E2:Env:=⟨fun c o=>E.fix c o\/(w.heap.size<=c/\E1.fix c o),fun b=>if b=nx then E1.own 0 else E.own b⟩
 have Iy:E.own nx=.free:=hh.fresh nx (dH _)
 have su:E2.own nx=E1.own 0:=if_pos rfl
 have own_ne:∀b,b≠nx->E2.own b=E.own b:=fun b h=>if_neg h
 have hblk:∀c,c<w.heap.size->w'.heap[c]?=w.heap[c]?:=hst.below.block
 have hown1:∀c o,E1.own 0=.at c o->w.heap.size<=c/\c<w'.heap.size:=fun c o h=>hh1.lH 0 c o h
 have hx:Ext w E w' E2:=by
  refine ⟨fun c o h=>.inl h,fun c o h=>World.cell?_of_block (w:=w) (hblk c (hh.jO c o h)),fun b hb=>own_ne b fun e=>hb (by rw [e];exact Iy),fun c arr ty fz h=>⟨arr,fz,?_,rfl⟩⟩
  rw [hblk c (bI.1 h).1];exact h
 have aga:∀c o,E1.fix c o->E2.fix c o:=fun c o h=>by
  rcases Nat.lt_or_ge c w.heap.size with hc|hc
  .exact .inl (hst.Ei c o hc h)
  .exact .inr ⟨hc,h⟩
 have ak0:iM rows=true:=by
  have:∀(p:List Nat) (r:AV),r.clean=true->aoN r p=.sl rows false->(AV.sl rows false).clean=true:=by
   intro p
   induction p with
   |nil=>
    intro r hr h
    have e:r=.sl rows false:=by cases r<;>simp_all [aoN]
    rw [<- e];exact hr
   |cons j p ih=>
    intro r hr h
    cases r with
    |agg l=>
     simp only [aoN] at h
     refine ih _ ?_ h
     rw [aH]
     cases e:l[j]? with
     |none=>rfl
     |some z=>exact kF (l:=l) hr j z e
    |kS l=>
     simp only [aoN] at h
     refine ih _ ?_ h
     rw [aH]
     cases e:l[j]? with
     |none=>rfl
     |some z=>exact kF (l:=l) hr j z e
    |_=>simp [aoN,uJ] at h
  exact this p r hr hcell
 refine hnext v w' E2 _ _ (nx+1) hK ⟨hx,hst.below.mono hh.bs,fun c o hc h=>?_,fun c hc _=>hblk c hc,fun b c o h hc=>?_,fun c o h hc=>?_⟩ ?_ ?_
 .rcases h with h|⟨h,-⟩
  .exact h
  .have:=hh.bs;omega
 .by_cases hb:b=nx
  .subst hb;rw [su] at h;have:=(hown1 c o h).1;omega
  .rw [own_ne b hb] at h;exact ⟨b,o,h⟩
 .rcases h with h|⟨h,-⟩
  .exact .inl h
  .omega
 .have hb1:=hh1.blk 0 _ (by rfl:EH (.rows sz rows) 0=some _)
  refine ⟨fun b k hb=>?_,fun b b' k k' c o c' o' hne h1 h2 h3 h4=>?_,fun b hb=>?_,fun c o h=>?_,cO hh.bs hst.below.size,fun b c o h=>?_⟩
  .by_cases hbn:b=nx
   .subst hbn
    rw [eY rfl] at hb
    simp only [au] at hb;subst hb
    rcases hb1 with ⟨q1,q2⟩|⟨c,o,arr,ty,q1,q2,q3,q4,q5,q6,q7,q8⟩
    .exact .inl ⟨by rw [su];exact q1,q2⟩
    .refine .inr ⟨c,o,arr,ty,by rw [su];exact q1,cO hh.bs q2,fun off h=>?_,q4,q5,q6,q7,fun i row j x hi hj=>?_⟩
     .rcases h with h|⟨-,h⟩
      .have:=hh.jO c off h;omega
      .exact q3 off h
     .obtain ⟨u,hu,hxu⟩:=q8 i row j x hi hj
      refine ⟨u,hu,CU aga hxu (kF (zN ak0 i row hi) j x hj)⟩
   .rw [aoE hbn] at hb
    have hb':=hh.blk b k hb
    have hk:=hb'.keep (w':=w') (E':=⟨E2.fix,E.own⟩) ⟨fun c o h=>.inl h,hx.cell,fun _ _=>rfl,hx.arr⟩ (fun c o ho=>hblk c (hb'.lt ho).1) (fun c o off ho h=>?_)
    .refine hk.env (fun _ _ h=>h) (fun _ _ _ _ h=>h) (own_ne b hbn) fun x hxr=>own_ne x ?_
     intro e
     rw [e] at hxr
     exact Qw hb' hxr Iy
    .rcases h with h|⟨h,-⟩
     .exact h
     .have:=(hb'.lt ho).1;omega
  .by_cases e1:b=nx
   .subst e1
    rw [su] at h3
    rw [own_ne b' (Ne.symm hne)] at h4
    have:=(hown1 c o h3).1
    have:=(hh.lH b' c' o' h4).2
    omega
   .rw [own_ne b e1] at h3
    by_cases e2:b'=nx
    .subst e2
     rw [su] at h4
     have:=(hown1 c' o' h4).1
     have:=(hh.lH b c o h3).2
     omega
    .rw [own_ne b' e2] at h4
     rw [aoE e1] at h1
     rw [aoE e2] at h2
     exact hh.sep b b' k k' c o c' o' hne h1 h2 h3 h4
  .rw [own_ne b (by omega)];exact hh.fresh b (by omega)
  .rcases h with h|⟨-,h⟩
   .exact cZ (hh.jO c o h) hst.below.size
   .exact hh1.jO c o h
  .by_cases hbn:b=nx
   .subst hbn;rw [su] at h
    have:=hown1 c o h
    exact ⟨cO hh.bs this.1,this.2⟩
   .rw [own_ne b hbn] at h
    exact ⟨(hh.lH b c o h).1,cZ (hh.lH b c o h).2 hst.below.size⟩
 .have hy:∀u,Rep w' E1 (.os 0 sz 0 rows.length) u->Rep w' E2 (.os nx sz 0 rows.length) u:=by
   intro u hu
   generalize rows.length=len at hu ⊢
   cases hu with
   |lg _ _ _ a1 hb1=>exact .lg nx sz 0 a1 (by rw [su];exact hb1)
   |os _ _ _ _ c o cap hb1 hcap hsize=>exact .os nx sz 0 len c o cap (by rw [su];exact hb1) hcap hsize
  exact Nw (fun x=>x.clean=true) (fun l h=>kF (l:=l) h) (fun l h=>kF (l:=l) h) (y:=.os 0 sz 0 rows.length) (y':=.os nx sz 0 rows.length) rfl hy (fun x u hx hc=>CU aga hx hc) (Hl rfl hr) (Xu hcell) hv
def OW (P:Program)(ops:Array Oper)(i:Nat)(fr:nP)(ah:AH)(nx:Nat)(Q:AQ):Prop:=
 ∀base w E a,Lj base w E fr ah nx a->∀QQ:Exit->Act->World->Prop,(∀a' w',yD base w E Q .normal a' w'->QQ .normal a' w')->wpOps P ops QQ (List.range' i (ops.size-i)) a w
theorem aiO {id:Nat}{ops:Array Oper}(h:OW P ops 0 fr ah nx Q):AW P (.region id ops false) fr ah nx Q:=by
 intro base w E a hs
 refine wp_region ?_
 simpa [List.range_eq_range'] using h base w E a hs (yD base w E Q) (fun _ _ h=>h)
theorem ag8 {ops:Array Oper}{i:Nat}(hi:ops.size<=i)(h:Q .normal fr ah nx):OW P ops i fr ah nx Q:=by
 intro base w E a hs QQ hQ
 rw [Nat.sub_eq_zero_of_le hi]
 exact hQ _ _ ⟨E,fr,ah,nx,h,hs,Step.refl _ _ _⟩
theorem XD {ops:Array Oper}{i:Nat}{o:Oper}{K:nT->Prop}(ho:ops[i]?=some o)(hK:∀r,K r->OW P ops (i+1) (vT fr o.dst r.v) (lJ ah r.wr) (nx+1) Q)
  (h:pV ops fr o fun wt=>aIf wt (JG P nx fr ah o.op K) (OW P ops (i+1) (vT fr o.dst (.p undef)) ah nx Q)):OW P ops i fr ah nx Q:=by
 intro base w E a hs QQ hQ
 have hlt:=(bI.1 ho).1
 rw [show ops.size-i=(ops.size-(i+1))+1 by omega,List.range'_succ,wpOps_cons]
 unfold wpOp
 rw [ho]
 dsimp only
 obtain ⟨wt,hk,hw⟩:=zQ hs.fr h
 cases wt with
 |true=>
  rw [qH,if_pos rfl] at hk
  rw [if_pos hw]
  refine .inl (Xb hs.heap (dH _) hs.fr hk (fun r v w' E' hr hst hh' hv=>?_))
  exact hK r hr base w' E' (a.put o.dst v) ⟨hh'.weaken fun b hb=>⟨by omega,by omega⟩,(hs.fr.mono hst.ext).put o.dst hv,by rw [aoF];exact hs.defers⟩ QQ
   fun a' w'' hp=>hQ a' w'' (hp.mono hst fun _ _ _ h=>h)
 |false=>
  rw [qH,if_neg (by simp)] at hk
  rw [if_neg (by rw [hw];simp)]
  exact hk base w E (a.put o.dst undef) ⟨hs.heap,hs.fr.put o.dst (.p rfl),by rw [aoF];exact hs.defers⟩ QQ hQ
theorem aiP {ops:Array Oper}{i:Nat}{o:Oper}(ho:ops[i]?=some o)
 (h:pV ops fr o fun wt=>aIf wt (JG P nx fr ah o.op fun r=>OW P ops (i+1) (vT fr o.dst r.v) (lJ ah r.wr) (nx+1) Q) (OW P ops (i+1) (vT fr o.dst (.p undef)) ah nx Q)):OW P ops i fr ah nx Q:=XD ho (fun _ h=>h) h
theorem aeM {ops:Array Oper}{i:Nat}{o:Oper}{f:FuncId}{args:Array Operand}{ts:Array TypeId}{az:List AV}(ho:ops[i]?=some o)(hg:o.guard=none)(hop:o.op=.call ⟨.value (.func f),args,ts⟩)
  (hev:Qa fr args.toList=some az) (h:CW P f az ah nx fun r eX nx'=>OW P ops (i+1) (vT fr o.dst r) eX nx' Q):OW P ops i fr ah nx Q:=by
 intro base w E a hs QQ hQ
 have hlt:=(bI.1 ho).1
 rw [show ops.size-i=(ops.size-(i+1))+1 by omega,List.range'_succ,wpOps_cons]
 unfold wpOp
 rw [ho]
 dsimp only
 rw [if_pos (by unfold Region.wanted;rw [hg])]
 have rl:=qJ hs.fr hev
 refine .inl (h base w E _ hs.heap hs.fr.GY rl o a ?_ _ _ fun v w' E' r eX nx' hK hst hh' hv=>?_)
 .have e:args.map a.eval=(args.toList.map a.eval).toArray:=by apply Array.ext';simp
  intro w';simp [execOp,hop,resolve,invoke,Deferred.ofValue,Act.eval,e]
 .exact hK base w' E' (a.put o.dst v) ⟨hh',(hs.fr.mono hst.ext).put o.dst hv,by rw [aoF];exact hs.defers⟩ QQ fun a' w'' hp=>hQ a' w'' (hp.mono hst fun _ _ _ h=>h)
theorem ace {ops:Array Oper}{i:Nat}{o:Oper}{f:FuncId}{x:Operand}{args:Array Operand}{ts:Array TypeId}{first captured az:List AV}(ho:ops[i]?=some o)(hg:o.guard=none)(hop:o.op=.call ⟨.value x,args,ts⟩)
  (hx:ev fr x=some (.fn (.func f) first captured)) (hev:Qa fr args.toList=some az) (h:CW P f (first++az++captured) ah nx fun r eX nx'=>OW P ops (i+1) (vT fr o.dst r) eX nx' Q):OW P ops i fr ah nx Q:=by
 intro base w E a hs QQ hQ
 have hlt:=(bI.1 ho).1
 rw [show ops.size-i=(ops.size-(i+1))+1 by omega,List.range'_succ,wpOps_cons]
 unfold wpOp
 rw [ho]
 dsimp only
 rw [if_pos (by unfold Region.wanted;rw [hg])]
 obtain ⟨vs,rl,hrun⟩:=Nq (P:=P) hs.fr hop hx hev
 refine .inl (h base w E _ hs.heap hs.fr.GY rl o a hrun _ _ fun v w' E' r eX nx' hK hst hh' hv=>?_)
 exact hK base w' E' (a.put o.dst v) ⟨hh',(hs.fr.mono hst.ext).put o.dst hv,by rw [aoF];exact hs.defers⟩ QQ fun a' w'' hp=>hQ a' w'' (hp.mono hst fun _ _ _ h=>h)
end
end Go.Fw
end
section
namespace Go.Fw
variable [iZ]
abbrev MT :=List (Nat×AV)
def fD : MT->Nat->Option AV
 |[],_=>none
 |(k,a)::r,t=>match Nat.beq k t with|true=>some a|false=>fD r t
def lI (M:MT):Operand->Option AV
 | .tmp t=>fD M t
 | .const v=>ofV v
 | .func f=>some (.fn (.func f) [] [])
 | .global _=>none
def qw (M:MT):List Operand->Option (List AV)
 |[]=>some []
 |x::r=>match lI M x with
  |some a=>(match qw M r with|some l=>some (a::l)|none=>none)
  |none=>none
def XE {α:Type}(M:MT):List (α×Operand)->Option (List (α×AV))
 |[]=>some []
 |x::r=>match lI M x.2 with
  |some a=>(match XE M r with|some l=>some ((x.1,a)::l)|none=>none)
  |none=>none
def iW (M:MT)(d:Option Tmp)(a:AV):MT:=match d with|some t=>(t,a)::M|none=>M
def mX (N:Nat):Option Tmp->Bool
 |none=>true
 |some t=>Nat.blt t N
def gB (ops:Array Oper)(M:MT):Option (Nat×Bool)->Bool
 |none=>true
 |some (j,want)=>match (ops[j]?).bind (·.dst) with
  |some t=>(match fD M t with|some (.p (.bool b))=>b == want|_=>false)
  |none=>false
def gN (ops:Array Oper)(M:MT):Option (Nat×Bool)->Bool
 |none=>false
 |some (j,want)=>match (ops[j]?).bind (·.dst) with
  |some t=>(match fD M t with|some (.p (.bool b))=>!(b == want)|some (.p (.tuple _))=>true|_=>false)
  |none=>false
structure FA (N:Nat)(M:MT)(fr:nP):Prop where
 len:fr.length=N
 get:∀t a,fD M t=some a->ji fr t=some a
def ML (M:MT):MT->Prop
 |[]=>True
 |x::r=>fD M x.1=some x.2/\ML M r
theorem ML.get {M:MT}:∀{M':MT} {t:Nat} {a:AV},ML M M'->fD M' t=some a->fD M t=some a
 |[],t,a,_,h=>by cases h
 |x::r,t,a,hl,h=>by
  simp only [fD] at h
  split at h
  .rename_i hb
   obtain rfl:=aA hb
   simp only [au] at h;subst h
   exact hl.1
  .exact ML.get hl.2 h
theorem FA.le {N:Nat}{M M':MT}{fr:nP}(h:FA N M fr)(hl:ML M M'):FA N M' fr:=⟨h.len,fun t a ht=>h.get t a (hl.get ht)⟩
theorem FA.put {N:Nat}{M:MT}{fr:nP}{d:Option Tmp}{a:AV}(h:FA N M fr)(hd:mX N d=true):FA N (iW M d a) (vT fr d a):=by
 cases d with
 |none=>exact h
 |some t=>
  have hlt:t<N:=by simpa [mX] using hd
  refine ⟨by simp [vT,gQ,h.len],fun j x hj=>?_⟩
  simp only [iW,fD] at hj
  simp only [vT,oJ,h.len]
  split at hj
  .rename_i hb
   obtain rfl:=aA hb
   rw [if_pos ⟨rfl,hlt⟩];exact hj
  .rename_i hb
   rw [if_neg (fun e=>by rw [e.1] at hb;simp at hb)]
   exact h.get j x hj
theorem eP {N:Nat}{M:MT}{fr:nP}(h:FA N M fr){x:Operand}{a:AV}(hx:lI M x=some a):ev fr x=some a:=by
 cases x with
 |tmp t=>exact h.get t a hx
 |const v=>exact hx
 |func f=>exact hx
 |global g=>cases hx
theorem mG {N:Nat}{M:MT}{fr:nP}(h:FA N M fr):∀{l:List Operand} {az:List AV},qw M l=some az->Qa fr l=some az
 |[],az,e=>e
 |x::r,az,e=>by
  simp only [qw] at e
  split at e
  .rename_i a ha
   split at e
   .rename_i l hl
    simp only [au] at e;subst e
    simp [Qa,eP h ha,mG h hl]
   .cases e
  .cases e
theorem Iz {α:Type}{N:Nat}{M:MT}{fr:nP}(h:FA N M fr):∀{l:List (α×Operand)} {az:List (α×AV)},XE M l=some az->OV fr l=some az
 |[],az,e=>e
 |x::r,az,e=>by
  simp only [XE] at e
  split at e
  .rename_i a ha
   split at e
   .rename_i l hl
    simp only [au] at e;subst e
    obtain ⟨i,x⟩:=x
    simp [OV,eP h ha,Iz h hl]
   .cases e
  .cases e
abbrev MQ :=Exit->MT->AH->Nat->Prop
def lft (N:Nat)(Q:MQ):AQ:=fun e fr ah nx=>∃M,FA N M fr/\Q e M ah nx
def mJ (P:Program)(c:Code)(N:Nat)(M:MT)(ah:AH)(nx:Nat)(Q:MQ):Prop:=∀fr,FA N M fr->AW P c fr ah nx (lft N Q)
def tJ (P:Program)(ops:Array Oper)(i N:Nat)(M:MT)(ah:AH)(nx:Nat)(Q:MQ):Prop:=∀fr,FA N M fr->OW P ops i fr ah nx (lft N Q)
def qp (K:MT->AH->Nat->Prop)(Q:MQ):MQ
 | .normal,M,ah,nx=>K M ah nx
 |e,M,ah,nx=>Q e M ah nx
def MIn (id:Nat)(Q:MQ):MQ
 | .exit id',M,ah,nx=>(match Nat.beq id' id with|true=>Q .normal M ah nx|false=>Q (.exit id') M ah nx)
 |e,M,ah,nx=>Q e M ah nx
section
variable {P : Program} {N:Nat} {M:MT} {ah:AH} {nx:Nat} {Q:MQ}
theorem nY {c:Code}(M':MT)(hl:ML M M')(h:mJ P c N M' ah nx Q):mJ P c N M ah nx Q:=fun fr hf=>h fr (hf.le hl)
theorem mJ.mono {c:Code}{Q':MQ}(h:mJ P c N M ah nx Q)(hq:∀e M ah nx,Q e M ah nx->Q' e M ah nx):mJ P c N M ah nx Q':=
 fun fr hf=>(h fr hf).mono fun e fr ah nx ⟨M,h1,h2⟩=>⟨M,h1,hq _ _ _ _ h2⟩
theorem fA {x y:Code}(h:mJ P x N M ah nx (qp (fun M ah nx=>mJ P y N M ah nx Q) Q)):mJ P (.seq x y) N M ah nx Q:=by
 intro fr hf
 refine FN ((h fr hf).mono fun e fr ah nx hq=>?_)
 obtain ⟨M',h1,h2⟩:=hq
 cases e with
 |normal=>exact h2 fr h1
 |_=>exact ⟨M',h1,h2⟩
theorem pq {x y:Code}(K:MT->AH->Nat->Prop)(h:mJ P x N M ah nx (qp K Q))(hk:∀M ah nx,K M ah nx->mJ P y N M ah nx Q):mJ P (.seq x y) N M ah nx Q:=
 fA (h.mono fun e M ah nx hq=>by cases e<;>first|exact hk _ _ _ hq|exact hq)
theorem nJ (h:Q .normal M ah nx):mJ P .skip N M ah nx Q:=fun fr hf=>YU ⟨M,hf,h⟩
theorem IB {id:Nat}(h:Q (.exit id) M ah nx):mJ P (.exit id) N M ah nx Q:=fun fr hf=>aeu ⟨M,hf,h⟩
theorem mM (h:Q .ret M ah nx):mJ P .ret N M ah nx Q:=fun fr hf=>Xp ⟨M,hf,h⟩
theorem jT {c:Operand}{x y:Code}{t:Bool}(hc:lI M c=some (.p (.bool t)))(h1:t=true->mJ P x N M ah nx Q)(h2:t=false->mJ P y N M ah nx Q):mJ P (.cond c x y) N M ah nx Q:=by
 intro fr hf
 refine YV t (eP hf hc) ?_
 cases t with
 |true=>exact h1 rfl fr hf
 |false=>exact h2 rfl fr hf
theorem vG {id:Nat}{c:Code}(h:mJ P c N M ah nx (MIn id Q)):mJ P (.block id c) N M ah nx Q:=by
 intro fr hf
 refine abM ((h fr hf).mono fun e fr ah nx hq=>?_)
 obtain ⟨M',h1,h2⟩:=hq
 cases e with
 |exit id'=>
  simp only [MIn] at h2
  simp only [AIn]
  split at h2
  .rename_i hb;rw [if_pos (aA hb)];exact ⟨M',h1,h2⟩
  .rename_i hb;rw [if_neg (fun e=>by rw [e] at hb;simp at hb)];exact ⟨M',h1,h2⟩
 |_=>exact ⟨M',h1,h2⟩
theorem NG {c:Code}(I:Nat->MT->AH->Nat->Prop)(n0:Nat)(M0:MT)(hl:ML M M0)(h0:I n0 M0 ah nx)
  (round:∀n M ah nx,I n M ah nx->mJ P c N M ah nx (qp (fun M ah nx=>∃m,m<n/\∃M',ML M M'/\I m M' ah nx) Q)):mJ P (.loop c) N M ah nx Q:=by
 intro fr hf
 refine YW (fun n fr ah nx=>∃M,FA N M fr/\I n M ah nx) n0 fr (Ai.refl fr) ⟨M0,hf.le hl,h0⟩ fun n fr ah nx hI K hK=>?_
 obtain ⟨M1,h1,h2⟩:=hI
 refine (round n M1 ah nx h2 fr h1).mono fun e fr ah nx hq=>?_
 obtain ⟨M2,q1,q2⟩:=hq
 cases e with
 |normal=>
  obtain ⟨m,hm,M3,hl3,h3⟩:=q2
  exact hK _ _ _ ⟨m,hm,fr,Ai.refl fr,M3,q1.le hl3,h3⟩
 |_=>exact ⟨M2,q1,q2⟩
theorem dR {id:Nat}{ops:Array Oper}(h:tJ P ops 0 N M ah nx Q):mJ P (.region id ops false) N M ah nx Q:=fun fr hf=>aiO (h fr hf)
variable {ops : Array Oper} {i:Nat} {d:Option Tmp} {ty:TypeId} {pos:String} {lZ:Array Edge} {g:Option (Nat×Bool)}
theorem acf {fr:nP}{o:Oper}(hf:FA N M fr)(hg:gB ops M o.guard=true){k:Bool->Prop}(hk:k true):pV ops fr o k:=by
 unfold pV
 cases hgo:o.guard with
 |none=>exact hk
 |some jw=>
  obtain ⟨j,want⟩:=jw
  rw [hgo] at hg
  simp only [gB] at hg
  split at hg
  .rename_i t ht
   split at hg
   .rename_i b hb
    refine dI.2 ⟨t,ht,dI.2 ⟨_,hf.get _ _ hb,?_⟩⟩
    show k (b == want)
    rw [hg];exact hk
   .cases hg
  .cases hg
theorem agb {fr:nP}{o:Oper}(hf:FA N M fr)(hg:gN ops M o.guard=true){k:Bool->Prop}(hk:k false):pV ops fr o k:=by
 unfold pV
 cases hgo:o.guard with
 |none=>rw [hgo] at hg;cases hg
 |some jw=>
  obtain ⟨j,want⟩:=jw
  rw [hgo] at hg
  simp only [gN] at hg
  split at hg
  .rename_i t ht
   split at hg
   .rename_i b hb
    refine dI.2 ⟨t,ht,dI.2 ⟨_,hf.get _ _ hb,?_⟩⟩
    show k (b == want)
    rw [show (b == want)=false by simpa using hg]
    exact hk
   .rename_i b hb
    exact dI.2 ⟨t,ht,dI.2 ⟨_,hf.get _ _ hb,hk⟩⟩
   .cases hg
  .cases hg
theorem dU (hi:Nat.ble ops.size i=true)(h:Q .normal M ah nx):tJ P ops i N M ah nx Q:=fun fr hf=>ag8 (aI hi) ⟨M,hf,h⟩
theorem nZ {op:Op}(ho:ops[i]?=some ⟨d,op,ty,pos,lZ,g⟩)(hg:gB ops M g=true)(hd:mX N d=true)
  (h:∀fr,FA N M fr->JG P nx fr ah op fun r=>tJ P ops (i+1) N (iW M d r.v) (lJ ah r.wr) (nx+1) Q):tJ P ops i N M ah nx Q:=by
 intro fr hf
 exact XD ho (K:=fun r=>tJ P ops (i+1) N (iW M d r.v) (lJ ah r.wr) (nx+1) Q) (fun r hr=>hr _ (hf.put hd)) (acf hf hg (h fr hf))
theorem RP {op:Op}(ho:ops[i]?=some ⟨d,op,ty,pos,lZ,g⟩)(hg:gN ops M g=true)(hd:mX N d=true)(h:tJ P ops (i+1) N (iW M d (.p undef)) ah nx Q):tJ P ops i N M ah nx Q:=by
 intro fr hf
 exact aiP ho (agb hf hg (h _ (hf.put hd)))
theorem iJ {x:Operand}{a:AV}(ho:ops[i]?=some ⟨d,.move x,ty,pos,lZ,g⟩)(hg:gB ops M g=true)(hd:mX N d=true)(hx:lI M x=some a)(h:tJ P ops (i+1) N (iW M d a) ah (nx+1) Q):tJ P ops i N M ah nx Q:=
 nZ ho hg hd fun fr hf=>dI.2 ⟨a,eP hf hx,h⟩
theorem j_ {x:Operand}{a:AV}(ho:ops[i]?=some ⟨d,.assign x,ty,pos,lZ,g⟩)(hg:gB ops M g=true)(hd:mX N d=true)(hx:lI M x=some a)(h:tJ P ops (i+1) N (iW M d a) ah (nx+1) Q):tJ P ops i N M ah nx Q:=
 nZ ho hg hd fun fr hf=>dI.2 ⟨a,eP hf hx,h⟩
theorem IC {c x y:Operand}{t:Bool}{a:AV}(ho:ops[i]?=some ⟨d,.pick c x y,ty,pos,lZ,g⟩)(hg:gB ops M g=true)(hd:mX N d=true)(hc:lI M c=some (.p (.bool t)))
  (hx:lI M (match t with|true=>x|false=>y)=some a) (h:tJ P ops (i+1) N (iW M d a) ah (nx+1) Q):tJ P ops i N M ah nx Q:=
 nZ ho hg hd fun fr hf=>dI.2 ⟨_,eP hf hc,by
  show aIf t _ _
  cases t with
  |true=>exact dI.2 ⟨a,eP hf hx,h⟩
  |false=>exact dI.2 ⟨a,eP hf hx,h⟩⟩
theorem ao4 {t:Bool×Nat}{row:List AV}{off:Nat}{v:AV}{k:AV->Prop}(h:apart t row off fun x=>x=v)(hk:k v):apart t row off k:=by
 unfold apart at h ⊢
 split
 .rename_i ht;rw [if_pos ht] at h;exact ⟨h.1,by rw [h.2];exact hk⟩
 .rename_i ht
  rw [if_neg ht] at h
  obtain ⟨a,h1,h2⟩:=dI.1 h
  exact dI.2 ⟨a,h1,by rw [h2];exact hk⟩
theorem iH {t:TypeId}{x:Operand}{b sz j off:Nat}{rs:List (List AV)}{row:List AV}{tt:Bool×Nat}{v:AV}(ho:ops[i]?=some ⟨d,.load t x,ty,pos,lZ,g⟩)(hg:gB ops M g=true)(hd:mX N d=true)(hx:lI M x=some (.op b sz j off))
  (ht:qI P t=some tt) (hb:ah b=some (.rows sz rs)) (hr:rs[j]?=some row) (hp:apart tt row off fun x=>x=v) (h:tJ P ops (i+1) N (iW M d v) ah (nx+1) Q):tJ P ops i N M ah nx Q:=
 nZ ho hg hd fun fr hf=>dI.2 ⟨_,eP hf hx,dI.2 ⟨tt,ht,by dsimp only;rw [hb];exact ⟨rfl,dI.2 ⟨row,hr,ao4 hp h⟩⟩⟩⟩
theorem kQ {t:TypeId}{x y:Operand}{b sz j off:Nat}{rs:List (List AV)}{row:List AV}{tt:Bool×Nat}{v:AV}(ho:ops[i]?=some ⟨d,.store t x y,ty,pos,lZ,g⟩)(hg:gB ops M g=true)(hd:mX N d=true)(hx:lI M x=some (.op b sz j off))(hy:lI M y=some v)
  (ht:qI P t=some tt) (hb:ah b=some (.rows sz rs)) (hv:v.Eh=true) (hl:v.cells.length=tt.2) (hr:rs[j]?=some row) (hfit:off+tt.2<=row.length)
  (h:tJ P ops (i+1) N (iW M d (.p undef)) (upd ah b (some (.rows sz (rs.set j (lay row off v.cells))))) (nx+1) Q):tJ P ops i N M ah nx Q:=
 nZ ho hg hd fun fr hf=>dI.2 ⟨_,eP hf hx,dI.2 ⟨_,eP hf hy,dI.2 ⟨tt,ht,by dsimp only;rw [hb];exact ⟨rfl,hv,hl,dI.2 ⟨row,hr,hfit,h⟩⟩⟩⟩⟩
theorem jJ {s:TypeId}{x:Operand}{k b sz j off:Nat}{f:Nat×Bool×Nat}(ho:ops[i]?=some ⟨d,.fieldAddr s x k,ty,pos,lZ,g⟩)(hg:gB ops M g=true)(hd:mX N d=true)(hx:lI M x=some (.op b sz j off))
  (hf:rP P s k=some f) (h0:Nat.beq f.2.2 0=false) (h:tJ P ops (i+1) N (iW M d (.op b sz j (off+f.1))) ah (nx+1) Q):tJ P ops i N M ah nx Q:=
 nZ ho hg hd fun fr hfr=>dI.2 ⟨_,eP hfr hx,dI.2 ⟨f,hf,fun e=>by rw [e] at h0;simp at h0,h⟩⟩
theorem IE {t:TypeId}{x y:Operand}{b sz off len:Nat}{kk:IntKind}{n:Int}{e:Nat×Nat}(ho:ops[i]?=some ⟨d,.indexAddr t x y,ty,pos,lZ,g⟩)(hg:gB ops M g=true)(hd:mX N d=true)
  (hx:lI M x=some (.os b sz off len)) (hy:lI M y=some (.p (.int kk n))) (he:kU P t=some e) (h0:0<=n) (hn:n.toNat<len) (hs:sz=e.1) (h:tJ P ops (i+1) N (iW M d (.op b sz (off+n.toNat) 0)) ah (nx+1) Q):tJ P ops i N M ah nx Q:=
 nZ ho hg hd fun fr hfr=>dI.2 ⟨_,eP hfr hx,dI.2 ⟨_,eP hfr hy,dI.2 ⟨e,he,h0,hn,hs,h⟩⟩⟩
theorem sZ {x:Operand}{k:Nat}{vs:List AV}{v:AV}(ho:ops[i]?=some ⟨d,.extract x k,ty,pos,lZ,g⟩)(hg:gB ops M g=true)(hd:mX N d=true)(hx:lI M x=some (.kS vs))(hv:vs[k]?=some v)
  (h:tJ P ops (i+1) N (iW M d v) ah (nx+1) Q):tJ P ops i N M ah nx Q:=
 nZ ho hg hd fun fr hfr=>dI.2 ⟨_,eP hfr hx,dI.2 ⟨v,hv,h⟩⟩
theorem pX {o:BinOp}{t ty2:TypeId}{x y:Operand}{a b v:AV}(ho:ops[i]?=some ⟨d,.binOp o t x y ty2,ty,pos,lZ,g⟩)(hg:gB ops M g=true)(hd:mX N d=true)(hx:lI M x=some a)(hy:lI M y=some b)
  (hv:∀K:AV->Prop,K v->Q7 P o t (isC x||isC y) a b K) (h:tJ P ops (i+1) N (iW M d v) ah (nx+1) Q):tJ P ops i N M ah nx Q:=
 nZ ho hg hd fun fr hfr=>dI.2 ⟨_,eP hfr hx,dI.2 ⟨_,eP hfr hy,.inl (hv _ h)⟩⟩
theorem RQ {o:UnOp}{t:TypeId}{x:Operand}{a v:AV}(ho:ops[i]?=some ⟨d,.unOp o t x,ty,pos,lZ,g⟩)(hg:gB ops M g=true)(hd:mX N d=true)(hx:lI M x=some a)
  (hv:∀K:AV->Prop,K v->aUn o a K) (h:tJ P ops (i+1) N (iW M d v) ah (nx+1) Q):tJ P ops i N M ah nx Q:=
 nZ ho hg hd fun fr hfr=>dI.2 ⟨_,eP hfr hx,hv _ h⟩
theorem LJ {args:Array Operand}{ts:Array TypeId}{a v:AV}{t:TypeId}(ho:ops[i]?=some ⟨d,.call ⟨.builtin .len,args,ts⟩,ty,pos,lZ,g⟩)(hg:gB ops M g=true)(hd:mX N d=true)(hx:qw M args.toList=some [a])(ht:ts[0]?=some t)
  (hv:∀K:nT->Prop,K (.val v)->JD P ah t a K) (h:tJ P ops (i+1) N (iW M d v) ah (nx+1) Q):tJ P ops i N M ah nx Q:=
 nZ ho hg hd fun fr hfr=>dI.2 ⟨_,mG hfr hx,dI.2 ⟨t,ht,hv _ h⟩⟩
theorem acg {t e:TypeId}{rows:List (List AV)}{full:Bool}(hu:P.underlying t=some (.slice e)):∀K:nT->Prop,K (.val (.p (.int .i64 rows.length)))->JD P ah t (.sl rows full) K:=fun K h=>by unfold JD;rw [hu];exact h
theorem RS {t e:TypeId}{b sz off len:Nat}(hu:P.underlying t=some (.slice e)):∀K:nT->Prop,K (.val (.p (.int .i64 len)))->JD P ah t (.os b sz off len) K:=fun K h=>by unfold JD;rw [hu];exact h
theorem aeN {t:TypeId}{s:List UInt8}(hu:P.underlying t=some .string):∀K:nT->Prop,K (.val (.p (.int .i64 s.length)))->JD P ah t (.str s) K:=fun K h=>by unfold JD;rw [hu];exact h
theorem xk {t:TypeId}{parts:Array (Nat×Operand)}{ps:List (Nat×AV)}{z cs:List AV}{pl:Nat->Option (Nat×Nat)}(ho:ops[i]?=some ⟨d,.build t parts,ty,pos,lZ,g⟩)(hg:gB ops M g=true)(hd:mX N d=true)(hx:XE M parts.toList=some ps)
  (hz:aoH P t=some z) (hp:aoJ P t=some pl) (hf:uV pl z ps=some cs) (h:tJ P ops (i+1) N (iW M d (.agg cs)) ah (nx+1) Q):tJ P ops i N M ah nx Q:=
 nZ ho hg hd fun fr hfr=>dI.2 ⟨_,Iz hfr hx,dI.2 ⟨z,hz,dI.2 ⟨pl,hp,dI.2 ⟨cs,hf,h⟩⟩⟩⟩
theorem FW {t:TypeId}{x:Operand}{v:AV}(ho:ops[i]?=some ⟨d,.box t x,ty,pos,lZ,g⟩)(hg:gB ops M g=true)(hd:mX N d=true)(hx:lI M x=some v)(hb:v.Eh=true)
  (h:tJ P ops (i+1) N (iW M d (.op nx v.cells.length 0 0)) (upd ah nx (some (.rows v.cells.length [v.cells]))) (nx+1) Q):tJ P ops i N M ah nx Q:=
 nZ ho hg hd fun fr hfr=>dI.2 ⟨_,eP hfr hx,hb,h⟩
theorem pz {t:TypeId}{z:List AV}(ho:ops[i]?=some ⟨d,.alloc t,ty,pos,lZ,g⟩)(hg:gB ops M g=true)(hd:mX N d=true)(hz:aoH P t=some z)(ha:ao6 P t=false)
  (h:tJ P ops (i+1) N (iW M d (.op nx z.length 0 0)) (upd ah nx (some (.rows z.length [z]))) (nx+1) Q):tJ P ops i N M ah nx Q:=
 nZ ho hg hd fun fr hfr=>.inl (dI.2 ⟨z,hz,by rw [ha];exact h⟩)
theorem rF {f:FuncId}{args:Array Operand}{ts:Array TypeId}{az Vd as2:List AV}{r:AV}(ho:ops[i]?=some ⟨d,.call ⟨.value (.func f),args,ts⟩,ty,pos,lZ,g⟩)(hg:gB ops M g=true)(hd:mX N d=true)
  (hx:qw M args.toList=some az) (hf:kN (vP ah aoK) az=some Vd) (hw:∀w E vs,iT w E Vd vs->iT w E as2 vs) (hp:PC P f as2 r) (hc:jY az=true\/r.flat=true) (h:tJ P ops (i+1) N (iW M d r) ah (nx+1) Q):tJ P ops i N M ah nx Q:=
 nZ ho hg hd fun fr hfr=>dI.2 ⟨_,mG hfr hx,dI.2 ⟨Vd,hf,as2,r,hw,hp,.inl ⟨hc.imp id .inl,h⟩⟩⟩
theorem yh {f:FuncId}{args:Array Operand}{ts:Array TypeId}{az:List AV}(ho:ops[i]?=some ⟨d,.call ⟨.value (.func f),args,ts⟩,ty,pos,lZ,none⟩)(hd:mX N d=true)
  (hx:qw M args.toList=some az) (h:CW P f az ah nx fun r eX nx'=>tJ P ops (i+1) N (iW M d r) eX nx' Q):tJ P ops i N M ah nx Q:=
 fun fr hfr=>aeM ho rfl rfl (mG hfr hx) (h.mono fun r eX nx' hk=>hk _ (hfr.put hd))
theorem Y7 {c:Code}{b sz:Nat}{l r:List AV}{n:Nat}(hb:ah b=some (.rows sz [l++.sl [] true::r]))(hbn:b<nx)
  (h:mJ P c N M (upd (upd ah nx (some (.rows n []))) b (some (.rows sz [l++.os nx n 0 0::r]))) (nx+1) Q):mJ P c N M ah nx Q:=by
 intro fr hf base w E a hs
 obtain ⟨h1,h2⟩:=AZ hs.heap (id:=nx) (dH _) n
 have hne:b≠nx:=by omega
 have hb2:upd ah nx (some (.rows n [])) b=some (.rows sz [l++.sl [] true::r]):=by rw [aoE hne];exact hb
 have hown:(E.set nx .empty).own nx≠.free:=by simp [Env.set]
 have hB:rO base w (E.set nx .empty) b (.rows sz [l++.os nx n 0 0::r]):=by
  rcases h2.blk b _ hb2 with ⟨-,q⟩|⟨c,o,arr,ty,q1,q2,q3,q4,q5,q6,q7,q8⟩
  .cases q
  .refine .inr ⟨c,o,arr,ty,q1,q2,q3,q4,by simpa using q5,fun i row hi=>?_,fun row hm x hx=>?_,fun i row j x hi hj=>?_⟩
   .cases i with
    |zero=>
     simp at hi;subst hi
     have:=q6 0 _ rfl
     simpa using this
    |succ i=>simp at hi
   .simp only [bZ] at hm;subst hm
    rcases aN.1 hx with hx|hx
    .exact q7 _ (bZ.2 rfl) x (dh _ hx)
    .rcases bH.1 hx with rfl|hx
     .rfl
     .exact q7 _ (bZ.2 rfl) x (dw _ (aQ _ hx))
   .cases i with
    |succ i=>simp at hi
    |zero=>
     simp at hi;subst hi
     rcases Nat.lt_trichotomy j l.length with hlt|rfl|hgt
     .rw [bF hlt] at hj
      exact q8 0 _ j x rfl (by rw [bF hlt];exact hj)
     .simp at hj;subst hj
      obtain ⟨v,hv,hr⟩:=q8 0 _ l.length (.sl [] true) rfl (by simp)
      refine ⟨v,hv,?_⟩
      cases hr with
      |slnil _ a=>exact .lg nx n 0 a hown
      |sl _ _ sz c o cap g hcap hfull=>
       have:=hfull rfl
       subst this
       exact .lg nx n 0 _ hown
     .rw [bP (by omega)] at hj
      refine q8 0 _ j x rfl ?_
      rw [bP (by omega)]
      obtain ⟨m,hm⟩:∃m,j-l.length=m+1:=⟨j-l.length-1,by omega⟩
      rw [hm] at hj ⊢
      simpa using hj
 have h3:=h2.Em hb2 hB
 refine wp_mono (h fr hf base w (E.set nx .empty) a ⟨h3.weaken fun b hb=>?_,hs.fr.mono h1.ext,hs.defers⟩) fun e a' w' hp=>hp.mono h1 fun _ _ _ h=>h
 have hb':nx+1<=b:=hb
 exact ⟨by omega,by omega⟩
def AL (args:List AV):MT->Prop
 |[]=>True
 |x::r=>args[x.1]?=some x.2/\AL args r
theorem AL.get {args:List AV}:∀{M:MT} {t:Nat} {a:AV},AL args M->fD M t=some a->args[t]?=some a
 |[],t,a,_,h=>by cases h
 |x::r,t,a,hl,h=>by
  simp only [fD] at h
  split at h
  .rename_i hb
   obtain rfl:=aA hb
   simp only [au] at h;subst h
   exact hl.1
  .exact AL.get hl.2 h
theorem NH {args:List AV}{n:Nat}{t:Nat}{a:AV}(hM:AL args M)(h:fD M t=some a):ji (args.map some++List.replicate n none) t=some a:=by
 have h0:=hM.get h
 have key:∀(l:List AV) (t:Nat),l[t]?=some a->ji (l.map some++List.replicate n none) t=some a:=by
  intro l
  induction l with
  |nil=>intro t h;simp at h
  |cons x l ih=>
   intro t h
   cases t with
   |zero=>simp at h;subst h;rfl
   |succ t=>exact ih t (by simpa using h)
 exact key args t h0
theorem ach {f:FuncId}{fn:Func}{c:Code}{args:List AV}{r:AV}{M:MT}{Q:MQ}(hf:P.funcs[f]?=some fn)(hb:fn.body=some c)(hname:fn.name≠ "runtime.NumGoroutine") (hn:args.length<=fn.ntmps)
  (hM:AL args M) (h:mJ P c fn.ntmps M (fun _=>none) 0 Q)
  (hq:∀e M fr ah nx,FA fn.ntmps M fr->Q e M ah nx->aiC P fn r e fr ah nx):PC P f args r:=
 abN hf hb hname hn ((h _ ⟨by simp [hn],fun t a ht=>NH hM ht⟩).mono fun e fr ah nx ⟨M',h1,h2⟩=>hq e M' fr ah nx h1 h2)
theorem aeO {args:Array Operand}{ts:Array TypeId}{t t2:TypeId}{e:Nat×Nat}{ys:List (List AV)}{f:Bool}{el:TypeId}{z:List AV}(ho:ops[i]?=some ⟨d,.call ⟨.builtin .append,args,ts⟩,ty,pos,lZ,g⟩)(hg:gB ops M g=true)(hd:mX N d=true)
  (hx:qw M args.toList=some [.sl [] true,.sl ys f]) (ht:ts[0]?=some t) (ht2:ts[1]?=some t2) (he:kU P t=some e) (h1:e.2<=4096) (h2:e.1≠0) (hu2:P.underlying t2=some (.slice el)) (hu:P.underlying t=some (.slice el)) (hz:aoH P el=some z) (hzl:z.length=e.1)
  (hy:Ae e.1 ys) (hlen:ys.length<=4294967296) (h:tJ P ops (i+1) N (iW M d (.os nx e.1 0 ys.length)) (upd ah nx (some (.rows e.1 ys))) (nx+1) Q):tJ P ops i N M ah nx Q:=
 nZ ho hg hd fun fr hfr=>dI.2 ⟨_,mG hfr hx,dI.2 ⟨t,ht,dI.2 ⟨t2,ht2,.inl (dI.2 ⟨e,he,h1,h2,by rw [hu2];trivial,by rw [hu];simp [hz,hzl],by
  refine ⟨hy,?_⟩
  show Ae e.1 []/\true=true/\(([]:List (List AV))=[]\/ys≠[])/\([]:List (List AV)).length+ys.length<=4294967296/\tJ P ops (i+1) N _ _ _ Q
  refine ⟨(fun row hr=>by cases hr),rfl,.inl rfl,by simpa using hlen,?_⟩
  simpa [lJ] using h⟩)⟩⟩⟩
theorem NI {c:Code}{t n:Nat}(ht:fD M t=some (.sl [] true))(hd:Nat.blt t N=true)
  (h:mJ P c N ((t,.os nx n 0 0)::M) (upd ah nx (some (.rows n []))) (nx+1) Q):mJ P c N M ah nx Q:=by
 intro fr hf base w E a hs
 obtain ⟨h1,h2⟩:=AZ hs.heap (id:=nx) (dH _) n
 have hown:(E.set nx .empty).own nx≠.free:=by simp [Env.set]
 have hlt:t<N:=by simpa using hd
 have hg:=hf.get t _ ht
 obtain ⟨v,hv,hr⟩:=hs.fr.get t _ hg
 have hr':Rep w (E.set nx .empty) (.os nx n 0 0) v:=by
  cases hr with
  |slnil _ a=>exact .lg nx n 0 a hown
  |sl _ _ sz c o cap g hcap hfull=>
   have:=hfull rfl
   subst this
   exact .lg nx n 0 _ hown
 have O1:=hs.fr.mono h1.ext
 have hfr2:yg w (E.set nx .empty) (pG fr t (.os nx n 0 0)) a.tmps:=by
  refine ⟨by rw [gQ];exact O1.size,fun j x hj=>?_,O1.GY⟩
  rw [oJ] at hj
  split at hj
  .rename_i hjt
   simp only [au] at hj;subst hj
   rw [hjt.1]
   exact ⟨v,hv,hr'⟩
  .exact O1.get j x hj
 have hfa:FA N ((t,.os nx n 0 0)::M) (pG fr t (.os nx n 0 0)):=FA.put (d:=some t) hf hd
 refine wp_mono (h _ hfa base w (E.set nx .empty) a ⟨h2.weaken fun b hb=>?_,hfr2,hs.defers⟩) fun e a' w' hp=>hp.mono h1 fun _ _ _ h=>h
 have hb':nx+1<=b:=hb
 exact ⟨by omega,by omega⟩
theorem yj {f:FuncId}{fn:Func}{c:Code}{args:List AV}{M:MT}{Q:MQ}{K:CK}{ah:AH}{nx:Nat}(hf:P.funcs[f]?=some fn)(hb:fn.body=some c)(hname:fn.name≠ "runtime.NumGoroutine") (hn:args.length<=fn.ntmps)
  (hM:AL args M) (h:mJ P c fn.ntmps M ah nx Q)
  (hq:∀e M fr ah nx,FA fn.ntmps M fr->Q e M ah nx->(e=.normal\/e=.ret)/\tX P fr ah fn.results.toList fun l=>K (one l) ah nx):CW P f args ah nx K:=
 Vb hf hb hname hn ((h _ ⟨Iu hn,fun t a ht=>NH hM ht⟩).mono fun e fr ah nx ⟨M',h1,h2⟩=>hq e M' fr ah nx h1 h2)
variable {K : List Nat} {iG:Nat}
theorem EN {t el:TypeId}{e:Nat×Nat}(hu:P.underlying t=some (.slice el))(he:kU P t=some e):∃inf,P.info? el=some inf/\inf.size=e.1/\inf.bytes=e.2:=by
 unfold kU at he
 rw [hu] at he
 dsimp only at he
 cases hi:P.info? el with
 |none=>rw [hi] at he;cases he
 |some inf=>
  rw [hi] at he
  simp only [Option.map_some,au] at he
  subst he
  exact ⟨inf,rfl,rfl,rfl⟩
theorem aeP {t el:TypeId}{x y:Operand}{k1 k2:IntKind}{l c:Int}{e:Nat×Nat}{z:List AV}(ho:ops[i]?=some ⟨d,.makeSlice t x y,ty,pos,lZ,g⟩)(hg:gB ops M g=true)(hd:mX N d=true)(hx:lI M x=some (.p (.int k1 l)))(hy:lI M y=some (.p (.int k2 c)))
  (hu:P.underlying t=some (.slice el)) (he:kU P t=some e) (hz:aoH P el=some z) (hzl:z.length=e.1) (h0:0<=l) (hlc:l<=c) (hc:c<=4294967296) (hb:e.2<=4096)
  (h:tJ P ops (i+1) N (iW M d (.os nx e.1 0 l.toNat)) (upd ah nx (some (.rows e.1 (List.replicate l.toNat (z.map GR))))) (nx+1) Q):tJ P ops i N M ah nx Q:=
 nZ ho hg hd fun fr hfr=>dI.2 ⟨_,eP hfr hx,dI.2 ⟨_,eP hfr hy,by
  obtain ⟨inf,hi,h1,h2⟩:=EN hu he
  unfold rQ
  rw [hu]
  refine dI.2 ⟨inf,hi,dI.2 ⟨z,hz,by rw [h1];exact hzl,h0,hlc,hc,by rw [h2];exact hb,?_⟩⟩
  rw [h1];exact h⟩⟩
theorem aeQ {args:Array Operand}{ts:Array TypeId}{t:TypeId}{e:Nat×Nat}{b off len:Nat}{rs ys:List (List AV)}{f:Bool}(ho:ops[i]?=some ⟨d,.call ⟨.builtin .copy,args,ts⟩,ty,pos,lZ,g⟩)(hg:gB ops M g=true)(hd:mX N d=true)
  (hx:qw M args.toList=some [.os b e.1 off len,.sl ys f]) (ht:ts[0]?=some t) (he:kU P t=some e) (h2:e.1≠0) (hy:Ae e.1 ys) (hb:ah b=some (.rows e.1 rs)) (hl:off+len<=rs.length)
  (h:tJ P ops (i+1) N (iW M d (.p (.int .i64 (min ys.length len:Nat)))) (upd ah b (some (.rows e.1 (rs.take off++ys.take len++rs.drop (off+min ys.length len))))) (nx+1) Q):tJ P ops i N M ah nx Q:=
 nZ ho hg hd fun fr hfr=>dI.2 ⟨_,mG hfr hx,dI.2 ⟨t,ht,dI.2 ⟨e,he,h2,by
  refine ⟨hy,?_⟩
  show e.1=e.1/\(match ah b with|some (.rows sz' rs)=>e.1=sz'/\off+len<=rs.length/\_|_=>False)
  rw [hb]
  exact ⟨rfl,rfl,hl,h⟩⟩⟩⟩
theorem aci {f:FuncId}{fn:Func}{t e:TypeId}{s:Nat×Nat}{z:List AV}(hfn:P.funcs[f]?=some fn)(hc:Hg fn=some t)(hu:P.underlying t=some (.slice e))(he:kU P t=some s)(hz:aoH P e=some z)(hzl:z.length=s.1)(hby:s.2<=4096)(hsz:s.1≠0)
  {rows:List (List AV)} {fl:Bool} (hr:Ae s.1 rows) (hl:rows.length<=4294967296):CW P f [.sl rows fl] ah nx fun r eX nx'=>r=.os (nx+5) s.1 0 rows.length/\nx'=nx+7/\eX (nx+5)=some (.rows s.1 rows)/\∀b,b<nx->eX b=ah b:=by
 obtain ⟨inf,hi,h1,h2⟩:=EN hu he
 obtain ⟨c,hb,hg,hn,hres,hw⟩:=abY (nx:=nx) (ah:=ah) (rd:=[]) hfn hc hu hi hz (by rw [h1];exact hzl) (by rw [h2];exact hby) (by rw [h1];exact hsz) (ag2 (rows:=rows) (full:=fl)) (fun eX K _ hK=>⟨by rw [h1];exact hr,hK⟩) hl
 refine Vb hfn hb (by simpa [Nr] using hg) (by rw [hn];simp) ?_
 rw [hn]
 refine hw _ fun fr eX h3 h4=>⟨.inr rfl,?_⟩
 rw [hres]
 refine dI.2 ⟨_,h3,?_⟩
 rw [h1]
 refine ⟨rfl,rfl,?_,fun b hb=>?_⟩
 .rw [h4,if_pos rfl,h1]
 .rw [h4,if_neg (by omega),if_neg (by omega)]
end
end Go.Fw
end
section
namespace Go.Fw
variable [iZ]
theorem Ve {P:Program}{o:Oper}{a:Act}{w:World}{K:Act->World->Prop}{Q Q':Exit->Act->World->Prop}(h:o.wp P a w K Q)(hq:∀c a w,Q (.panic c) a w->Q' (.panic c) a w)(ho:LetsOut Q->LetsOut Q'):o.wp P a w K Q':=by
 unfold Oper.wp at *
 generalize (execOp a.eval o).run P w=r at *
 cases r with
 |ok n w'=>
  cases n<;>simp only [Oper.upon] at h ⊢<;>
   first
    |exact h
    |exact Calls.mono h (fun e w'' he=>by cases e<;>first|exact he|exact hq _ _ _ he|exact ho he)
    |exact Rows.mono h (fun _ _ he=>he)
 |halt x w'=>cases x<;>simp only [Oper.upon] at h ⊢<;>first|exact h|exact hq _ _ _ h
section
variable {P : Program} {N:Nat} {M:MT} {ah:AH} {nx:Nat} {Q:MQ}
theorem zX {ops:Array Oper}{i:Nat}{d:Option Tmp}{ty:TypeId}{pos:String}{lZ:Array Edge}{g:Option (Nat×Bool)}{fn:Fn}{first captured:Array Operand}{fs cs:List AV}(ho:ops[i]?=some ⟨d,.makeFunc fn first captured,ty,pos,lZ,g⟩)(hg:gB ops M g=true)(hd:mX N d=true)
  (hx:qw M first.toList=some fs) (hy:qw M captured.toList=some cs) (h:tJ P ops (i+1) N (iW M d (.fn fn fs cs)) ah (nx+1) Q):tJ P ops i N M ah nx Q:=
 nZ ho hg hd fun fr hfr=>dI.2 ⟨_,mG hfr hx,dI.2 ⟨_,mG hfr hy,h⟩⟩
theorem Y8 {ops:Array Oper}{i:Nat}{d:Option Tmp}{ty:TypeId}{pos:String}{lZ:Array Edge}{f:FuncId}{x:Operand}{args:Array Operand}{ts:Array TypeId}{first captured az:List AV}(ho:ops[i]?=some ⟨d,.call ⟨.value x,args,ts⟩,ty,pos,lZ,none⟩)(hd:mX N d=true)
  (hx:lI M x=some (.fn (.func f) first captured)) (hy:qw M args.toList=some az) (h:CW P f (first++az++captured) ah nx fun r eX nx'=>tJ P ops (i+1) N (iW M d r) eX nx' Q):tJ P ops i N M ah nx Q:=
 fun fr hfr=>ace ho rfl rfl (eP hfr hx) (mG hfr hy) (h.mono fun r eX nx' hk=>hk _ (hfr.put hd))
theorem aeR {id:Nat}{ops:Array Oper}(hm:P.follows .mixedOrders=true)(hg:(ops.toList.all fun o=>o.guard.isNone)=true)(xJ:uw ops=true)(S:(Nat->Bool)->MT->AH->Nat->Prop)
  (h0:S (fun _=>false) M ah nx)
  (step:∀L M ah nx j o,S L M ah nx->L j=false->ops[j]?=some o->(∀e∈o.after.toList,Region.binds .any e=true->L e.on=true)->tJ P #[o] 0 N M ah nx (fun e M' eX nx'=>e=.normal/\S (fun i=>L i||i == j) M' eX nx'))
  (fin:∀L M ah nx,S L M ah nx->(∀i,i<ops.size->L i=true)->Q .normal M ah nx):mJ P (.region id ops true) N M ah nx Q:=by
 intro fr hf base w E a hs
 refine wp_region_any hm ?_
 obtain ⟨d1,d2⟩:=Ii hs.heap (w.drawn+1)
 have main:∀(fuel:Nat) (listed:Array Bool) (L:Nat->Bool) (M:MT) (ah:AH) (nx:Nat) (E':Env) (fr:nP) (a':Act) (w':World),listed.size=ops.size->(∀i,i<ops.size->nI listed i=L i)->S L M ah nx->FA N M fr->
   Lj base w' E' fr ah nx a'->Step base w E w' E'->(List.range ops.size).countP (fun i=>!nI listed i)<=fuel->wpAny P .any ops (yD base w E (lft N Q)) fuel listed a' w':=by
  have done:∀(listed:Array Bool) (L:Nat->Bool) (M:MT) (ah:AH) (nx:Nat) (E':Env) (fr:nP) (a':Act) (w':World),listed.size=ops.size->(∀i,i<ops.size->nI listed i=L i)->S L M ah nx->FA N M fr->
    Lj base w' E' fr ah nx a'->Step base w E w' E'->(∀i,i<ops.size->nI listed i=true)->yD base w E (lft N Q) .normal a' w':=fun listed L M ah nx E' fr a' w' hsz hL hS hf hs' hst hall=>
   ⟨E',fr,ah,nx,⟨M,hf,fin L M ah nx hS fun i hi=>by rw [<- hL i hi];exact hall i hi⟩,hs',hst⟩
  intro fuel
  induction fuel with
  |zero=>
   intro listed L M ah nx E' fr a' w' hsz hL hS hf hs' hst hc
   have hall:∀i,i<ops.size->nI listed i=true:=fun i hi=>by
    have:=List.countP_eq_zero.1 (Nat.le_zero.1 hc) i (by simpa using hi)
    simpa using this
   refine ⟨?_,done listed L M ah nx E' fr a' w' hsz hL hS hf hs' hst hall⟩
   cases hr:Region.ready .any ops listed with
   |nil=>rfl
   |cons x xs=>
    have hx:x∈Region.ready .any ops listed:=by rw [hr];simp
    obtain ⟨hun,o,ho,-⟩:=mem_ready.1 hx
    have hxn:=(bI.1 ho).1
    have:=hall x hxn
    unfold nI at this
    have hxl:x<listed.size:=by rw [hsz];exact hxn
    simp [Array.getD_eq_getD_getElem?,hxl] at this hun
    rw [this] at hun;cases hun
  |succ fuel ih=>
   intro listed L M ah nx E' fr a' w' hsz hL hS hf hs' hst hc
   refine ⟨fun hr=>?_,fun j hj=>?_⟩
   .refine done listed L M ah nx E' fr a' w' hsz hL hS hf hs' hst ?_
    intro i
    induction i using Nat.strongRecOn with
    |_ i ihi=>
     intro hi
     cases hl:nI listed i with
     |true=>rfl
     |false=>
      have ho:ops[i]?=some ops[i]:=by simp [hi]
      have hil:i<listed.size:=by rw [hsz];exact hi
      have:i∈Region.ready .any ops listed:=mem_ready.2 ⟨by unfold nI at hl;simpa [Array.getD_eq_getD_getElem?,hil] using hl,ops[i],ho,fun e he hb=>by
       have hlt:=sS xJ ho (by simpa using he) hb
       exact ihi e.on hlt (by omega)⟩
      rw [hr] at this;cases this
   .obtain ⟨hun,o,ho,hall⟩:=mem_ready.1 hj
    have hjn:j<ops.size:=(bI.1 ho).1
    have hjl:j<listed.size:=by rw [hsz];exact hjn
    have hnl:nI listed j=false:=by unfold nI;simpa [Array.getD_eq_getD_getElem?,hjl] using hun
    have hgo:o.guard=none:=by
     rw [aJ] at hg
     have:=hg o (by rw [Array.mem_toList_iff];exact Array.mem_of_getElem? ho)
     simpa using this
    have st:=step L M ah nx j o hS (by rw [<- hL j hjn];exact hnl) ho (fun e he hb=>by
     have h1:=hall e (by simpa using he) hb
     have h2:=sS xJ ho he hb
     rw [<- hL e.on (by omega)];exact h1) fr hf base w' E' a' hs'
     (fun e a3 w3=>match e with | .normal=>wpAny P .any ops (yD base w E (lft N Q)) fuel (listed.setIfInBounds j true) a3 w3|e=>yD base w E (lft N Q) e a3 w3) ?_
    .have e1:(List.range' 0 ((#[o]:Array Oper).size-0))=[0]:=rfl
     rw [e1,wpOps_cons] at st
     unfold wpOp at st ⊢
     rw [ho]
     have e2:(#[o]:Array Oper)[0]?=some o:=rfl
     rw [e2] at st
     dsimp only at st ⊢
     have hw:∀l,Region.wanted o l=true:=fun l=>by unfold Region.wanted;rw [hgo]
     rw [if_pos (hw _)] at st ⊢
     rcases st with st|⟨s1,s2⟩
     .exact .inl (Ve (Oper.wp_mono (fun a w h=>h) st) (fun _ _ _ h=>h) (fun h=>h))
     .exact .inr ⟨s1,s2⟩
    .rintro a2 w2 ⟨E2,fr2,wL,rJ,⟨M2,hf2,-,hS2⟩,hs2,hst2⟩
     show wpAny P .any ops (yD base w E (lft N Q)) fuel (listed.setIfInBounds j true) a2 w2
     refine ih _ _ _ _ _ _ _ _ _ (by simpa using hsz) (fun i hi=>?_) hS2 hf2 hs2 (hst.trans hst2) ?_
     .rw [uy hjl,hL i hi]
      by_cases e:i=j<;>simp [e]
     .have hcount:(List.range ops.size).countP (fun i=>!nI (listed.setIfInBounds j true) i)<(List.range ops.size).countP (fun i=>!nI listed i):=by
       have hsub:∀l:List Nat,l.Nodup->l.countP (fun i=>!nI (listed.setIfInBounds j true) i)+(if j∈l then 1 else 0)=l.countP (fun i=>!nI listed i):=by
        intro l
        induction l with
        |nil=>intro _;simp
        |cons x l ihl=>
         intro hnd
         obtain ⟨hx,hnd⟩:=List.nodup_cons.1 hnd
         have:=ihl hnd
         simp only [List.countP_cons,uy hjl]
         by_cases e:x=j
         .subst e
          rw [if_neg hx] at this
          have h':l.countP (fun i=>!(nI listed i||decide (i=x)))=l.countP (fun i=>!nI listed i):=by
           simp only [uy hjl] at this;simpa using this
          rw [h'];simp [hnl]
         .have ej:(j∈x::l)↔j∈l:=by simp;intro h;exact absurd h.symm e
          simp only [uy hjl] at this
          have U0:(nI listed x||decide (x=j))=nI listed x:=by simp [e]
          rw [U0]
          by_cases hm:j∈l
          .rw [if_pos hm] at this;rw [if_pos (ej.2 hm)];omega
          .rw [if_neg hm] at this;rw [if_neg (fun h=>hm (ej.1 h))];omega
       have:=hsub (List.range ops.size) List.nodup_range
       rw [if_pos (by simpa using hjn)] at this
       omega
      omega
 exact main ops.size (Array.replicate ops.size false) (fun _=>false) M ah nx E fr a _ (by simp) (fun i hi=>by unfold nI;simp [Array.getD_eq_getD_getElem?,hi]) h0 hf ⟨d2,hs.fr.mono d1.ext,hs.defers⟩ d1
  (cO List.countP_le_length (by simp))
end
end Go.Fw
end
section
namespace Go.Fw
variable [iZ]
section
variable {P : Program} {ops:Array Oper} {iG m n:Nat}
structure Done (ops:Array Oper)(m:Nat)(listed:Array Bool):Prop where
 size:listed.size=ops.size
 low:∀i,i<m->nI listed i=true
 high:∀i,nI listed i=true->i<m
theorem Done.closed {listed:Array Bool}(h:Done ops m listed)(xJ:uw ops=true):∀j,nI listed j=true->Pre ops listed j:=fun j hj o ho e he hb=>
 h.low _ (Nat.lt_trans (sS xJ ho he hb) (h.high j hj))
def acj (ops:Array Oper)(n:Nat):Bool:=(List.range ops.size).all fun j=>Nat.blt j n||(List.range n).all fun i=>((aoI ops.toList []).getD j 0).testBit i
theorem XF (h:acj ops n=true){i j:Nat}(hi:i<n)(hj:n<=j)(hs:j<ops.size):((aoI ops.toList []).getD j 0).testBit i=true:=by
 unfold acj at h
 rw [aJ] at h
 have h1:=h j (by simpa using hs)
 simp only [bC] at h1
 rcases h1 with h1|h1
 .have:j<n:=by simpa using h1
  omega
 .rw [aJ] at h1
  exact h1 i (by simpa using hi)
abbrev unl (ops:Array Oper)(listed:Array Bool):Nat:=(List.range ops.size).countP (fun i=>!nI listed i)
theorem aeS {listed:Array Bool}{j:Nat}(hjn:j<ops.size)(hs:listed.size=ops.size)(hnl:nI listed j=false):unl ops (listed.setIfInBounds j true)+1=unl ops listed:=by
 have hjl:j<listed.size:=by omega
 have hsub:∀l:List Nat,l.Nodup->l.countP (fun i=>!nI (listed.setIfInBounds j true) i)+(if j∈l then 1 else 0)=l.countP (fun i=>!nI listed i):=by
  intro l
  induction l with
  |nil=>intro _;simp
  |cons x l ihl=>
   intro hnd
   obtain ⟨hx,hnd⟩:=List.nodup_cons.1 hnd
   have:=ihl hnd
   simp only [List.countP_cons,uy hjl]
   by_cases e:x=j
   .subst e
    rw [if_neg hx] at this
    have h':l.countP (fun i=>!(nI listed i||decide (i=x)))=l.countP (fun i=>!nI listed i):=by
     simp only [uy hjl] at this;simpa using this
    rw [h'];simp [hnl]
   .have ej:(j∈x::l)↔j∈l:=by simp;intro h;exact absurd h.symm e
    simp only [uy hjl] at this
    have U0:(nI listed x||decide (x=j))=nI listed x:=by simp [e]
    rw [U0]
    by_cases hm:j∈l
    .rw [if_pos hm] at this;rw [if_pos (ej.2 hm)];omega
    .rw [if_neg hm] at this;rw [if_neg (fun h=>hm (ej.1 h))];omega
 have:=hsub (List.range ops.size) List.nodup_range
 rw [if_pos (by simpa using hjn)] at this
 exact this
end
section
variable {P : Program} {ops:Array Oper} {i m n N:Nat} {M:MT} {ah:AH} {nx:Nat} {Q:MQ}
def PWm (P:Program)(ops:Array Oper)(m N:Nat)(M:MT)(ah:AH)(nx:Nat)(Q:MQ):Prop:=
 ∀fr,FA N M fr->∀base w E a,Lj base w E fr ah nx a->∀(QQ:Exit->Act->World->Prop) (listed:Array Bool) (fuel:Nat),Done ops m listed->unl ops listed<=fuel->
  (∀a' w',yD base w E (lft N Q) .normal a' w'->QQ .normal a' w')->wpAny P .any ops QQ fuel listed a w
theorem aay {id:Nat}(hm:P.follows .mixedOrders=true)(h:PWm P ops 0 N M ah nx Q):mJ P (.region id ops true) N M ah nx Q:=by
 intro fr hf base w E a hs
 refine wp_region_any hm ?_
 obtain ⟨d1,d2⟩:=Ii hs.heap (w.drawn+1)
 refine h fr hf base _ E a ⟨d2,hs.fr.mono d1.ext,hs.defers⟩ _ _ _ ⟨by simp,fun i hi=>by omega,fun i hi=>?_⟩ (cO List.countP_le_length (by simp)) fun a' w' hp=>hp.mono d1 fun _ _ _ h=>h
 unfold nI at hi
 simp [Array.getD_eq_getD_getElem?,Array.getElem?_replicate] at hi
 split at hi<;>simp at hi
theorem aeT (hi:Nat.ble ops.size m=true)(h:Q .normal M ah nx):PWm P ops m N M ah nx Q:=by
 intro fr hf base w E a hs QQ listed fuel hd hc hQ
 have hle:=aI hi
 have hr:Region.ready .any ops listed=[]:=by
  cases hr:Region.ready .any ops listed with
  |nil=>rfl
  |cons x xs=>
   have hx:x∈Region.ready .any ops listed:=by rw [hr];simp
   obtain ⟨hun,o,ho,-⟩:=mem_ready.1 hx
   have hxn:=(bI.1 ho).1
   have:=hd.low x (by omega)
   unfold nI at this
   have hxl:x<listed.size:=by rw [hd.size];exact hxn
   simp [Array.getD_eq_getD_getElem?,hxl] at this hun
   rw [this] at hun;cases hun
 have hq:=hQ a w ⟨E,fr,ah,nx,⟨M,hf,h⟩,hs,Step.refl _ _ _⟩
 cases fuel with
 |zero=>exact ⟨hr,hq⟩
 |succ fuel=>exact ⟨fun _=>hq,fun j hj=>by rw [hr] at hj;cases hj⟩
theorem aeU (n:Nat)(hmn:Nat.ble m n=true)(hn:Nat.ble n ops.size=true)(hg:(((ops.toList.take n).drop m).all fun o=>o.guard.isNone)=true)(xJ:uw ops=true)(hcut:acj ops n=true)(S:(Nat->Bool)->MT->AH->Nat->Prop)
  (h0:S (fun i=>Nat.blt i m) M ah nx)
  (step:∀L M ah nx j o,S L M ah nx->(∀j i,L j=true->((aoI ops.toList []).getD j 0).testBit i=true->L i=true)->m<=j->j<n->L j=false->ops[j]?=some o->(∀e∈o.after.toList,Region.binds .any e=true->L e.on=true)->tJ P #[o] 0 N M ah nx (fun e M' eX nx'=>e=.normal/\S (fun i=>L i||i == j) M' eX nx'))
  (fin:∀L M ah nx,S L M ah nx->(∀i,i<n->L i=true)->PWm P ops n N M ah nx Q):PWm P ops m N M ah nx Q:=by
 intro fr hf base w E a hs QQ listed fuel hd hc hQ
 have hmn:=aI hmn
 have hn:=aI hn
 have main:∀(fuel:Nat) (listed:Array Bool) (L:Nat->Bool) (M:MT) (ah:AH) (nx:Nat) (E':Env) (fr:nP) (a':Act) (w':World),listed.size=ops.size->(∀i,i<m->nI listed i=true)->(∀i,nI listed i=true->i<n)->
   (∀j,nI listed j=true->Pre ops listed j)->(∀i,nI listed i=L i)->S L M ah nx->FA N M fr->Lj base w' E' fr ah nx a'->Step base w E w' E'->unl ops listed<=fuel->wpAny P .any ops QQ fuel listed a' w':=by
  have done:∀(fuel:Nat) (listed:Array Bool) (L:Nat->Bool) (M:MT) (ah:AH) (nx:Nat) (E':Env) (fr:nP) (a':Act) (w':World),listed.size=ops.size->(∀i,nI listed i=true->i<n)->
    (∀i,nI listed i=L i)->S L M ah nx->FA N M fr->Lj base w' E' fr ah nx a'->Step base w E w' E'->unl ops listed<=fuel->(∀i,i<n->nI listed i=true)->wpAny P .any ops QQ fuel listed a' w':=fun fuel listed L M ah nx E' fr a' w' hsz hhi hL hS hf hs' hst hc hall=>
   fin L M ah nx hS (fun i hi=>by rw [<- hL i];exact hall i hi) fr hf base w' E' a' hs' QQ listed fuel ⟨hsz,hall,hhi⟩ hc fun a2 w2 hp=>hQ a2 w2 (hp.mono hst fun _ _ _ h=>h)
  intro fuel
  induction fuel with
  |zero=>
   intro listed L M ah nx E' fr a' w' hsz hlow hhi hcl hL hS hf hs' hst hc
   exact done 0 listed L M ah nx E' fr a' w' hsz hhi hL hS hf hs' hst hc fun i hi=>by
    have:=List.countP_eq_zero.1 (Nat.le_zero.1 hc) i (by simpa using (by omega:i<ops.size))
    simpa using this
  |succ fuel ih=>
   intro listed L M ah nx E' fr a' w' hsz hlow hhi hcl hL hS hf hs' hst hc
   by_cases hall:∀i,i<n->nI listed i=true
   .exact done _ listed L M ah nx E' fr a' w' hsz hhi hL hS hf hs' hst hc hall
   have hex:∃i,i<n/\nI listed i=false:=by
    obtain ⟨i,hi⟩:=Classical.not_forall.1 hall
    obtain ⟨hi,hl⟩:=Classical.not_imp.1 hi
    exact ⟨i,hi,by simpa using hl⟩
   refine ⟨fun hr=>?_,fun j hj=>?_⟩
   .exfalso
    apply hall
    intro i
    induction i using Nat.strongRecOn with
    |_ i ihi=>
     intro hi
     cases hl:nI listed i with
     |true=>rfl
     |false=>
      have hio:i<ops.size:=by omega
      have ho:ops[i]?=some ops[i]:=by simp [hio]
      have hil:i<listed.size:=by rw [hsz];exact hio
      have:i∈Region.ready .any ops listed:=mem_ready.2 ⟨by unfold nI at hl;simpa [Array.getD_eq_getD_getElem?,hil] using hl,ops[i],ho,fun e he hb=>by
       have hlt:=sS xJ ho (by simpa using he) hb
       exact ihi e.on hlt (by omega)⟩
      rw [hr] at this;cases this
   .obtain ⟨hun,o,ho,hpre⟩:=mem_ready.1 hj
    have hjs:j<ops.size:=(bI.1 ho).1
    have hjl:j<listed.size:=by rw [hsz];exact hjs
    have hnl:nI listed j=false:=by unfold nI;simpa [Array.getD_eq_getD_getElem?,hjl] using hun
    have hP:Pre ops listed j:=fun o' ho' e he hb=>by
     rw [ho] at ho';cases ho'
     have:=hpre e (by simpa using he) hb
     unfold nI;exact this
    have hjn:j<n:=by
     rcases Nat.lt_or_ge j n with h|h
     .exact h
     .obtain ⟨i,hi,hl⟩:=hex
      have:=zT xJ hcl j hP (XF hcut hi h hjs)
      rw [hl] at this;cases this
    have hmj:m<=j:=by
     rcases Nat.lt_or_ge j m with h|h
     .rw [hlow j h] at hnl;cases hnl
     .exact h
    have hgo:o.guard=none:=by
     rw [aJ] at hg
     have:=hg o (bJ.2 ⟨j-m,by rw [List.getElem?_drop,show m+(j-m)=j by omega,bM,if_pos hjn];simpa using ho⟩)
     simpa using this
    have st:=step L M ah nx j o hS (fun j i hj hb=>by rw [<- hL] at hj ⊢;exact zT xJ hcl j (hcl j hj) hb) hmj hjn (by rw [<- hL j];exact hnl) ho (fun e he hb=>by rw [<- hL e.on];exact hP o ho e he hb) fr hf base w' E' a' hs'
     (fun e a3 w3=>match e with | .normal=>wpAny P .any ops QQ fuel (listed.setIfInBounds j true) a3 w3|e=>QQ e a3 w3) ?_
    .have e1:(List.range' 0 ((#[o]:Array Oper).size-0))=[0]:=rfl
     rw [e1,wpOps_cons] at st
     unfold wpOp at st ⊢
     rw [ho]
     have e2:(#[o]:Array Oper)[0]?=some o:=rfl
     rw [e2] at st
     dsimp only at st ⊢
     have hw:∀l,Region.wanted o l=true:=fun l=>by unfold Region.wanted;rw [hgo]
     rw [if_pos (hw _)] at st ⊢
     rcases st with st|⟨s1,s2⟩
     .exact .inl (Ve (Oper.wp_mono (fun a w h=>h) st) (fun _ _ _ h=>h) (fun h=>h))
     .exact .inr ⟨s1,s2⟩
    .rintro a2 w2 ⟨E2,fr2,wL,rJ,⟨M2,hf2,-,hS2⟩,hs2,hst2⟩
     show wpAny P .any ops QQ fuel (listed.setIfInBounds j true) a2 w2
     have hset:∀i,nI (listed.setIfInBounds j true) i=(nI listed i||decide (i=j)):=fun i=>uy hjl
     refine ih _ _ _ _ _ _ _ _ _ (by simpa using hsz) (fun i hi=>by rw [hset,hlow i hi];rfl) (fun i hi=>?_) (fun i hi=>?_) (fun i=>?_) hS2 hf2 hs2 (hst.trans hst2) ?_
     .rw [hset] at hi
      simp only [bC,decide_eq_true_eq] at hi
      rcases hi with hi|rfl
      .exact hhi i hi
      .exact hjn
     .intro o' ho' e he hb
      rw [hset]
      rw [hset] at hi
      simp only [bC,decide_eq_true_eq] at hi
      rcases hi with hi|rfl
      .rw [hcl i hi o' ho' e he hb];rfl
      .rw [hP o' ho' e he hb];rfl
     .rw [hset,hL i]
      by_cases e:i=j<;>simp [e]
     .have:=aeS hjs hsz hnl
      omega
 refine main fuel listed _ M ah nx E fr a w hd.size hd.low (fun i hi=>by have:=hd.high i hi;omega) (hd.closed xJ) (fun i=>?_) h0 hf hs (Step.refl _ _ _) hc
 show nI listed i=Nat.blt i m
 cases hl:nI listed i with
 |true=>have:=hd.high i hl;simp;omega
 |false=>
  cases hb:Nat.blt i m with
  |false=>rfl
  |true=>
   have:=hd.low i (by simpa using hb)
   rw [hl] at this;cases this
theorem tJ.mono {Q':MQ}(h:tJ P ops i N M ah nx Q)(hq:∀e M ah nx,Q e M ah nx->Q' e M ah nx):tJ P ops i N M ah nx Q':=
 fun fr hf base w E a hs QQ hQ=>h fr hf base w E a hs QQ fun a' w' hp=>hQ a' w' (hp.mono (Step.refl _ _ _) fun _ _ _ ⟨M,h1,h2⟩=>⟨M,h1,hq _ _ _ _ h2⟩)
end
end Go.Fw
end
section
namespace Go.Fw
variable [iZ]
section
variable {P : Program} {ops:Array Oper} {i tp N:Nat} {M:MT} {ah:AH} {Q:MQ} {d:Option Tmp} {ty:TypeId} {pos:String} {lZ:Array Edge} {g:Option (Nat×Bool)} {K V W:List Nat} {U:List qF} {iG:Nat}
def yJ (P:Program)(ops:Array Oper)(K:List Nat)(iG i tp N:Nat)(V W:List Nat)(U:List qF)(M:MT)(ah:AH)(Q:MQ):Prop:=
 ∀fr fs,FA N M fr->(∀f∈fs,f∈U/\f.i∈V/\(f.wr=[]\/f.i∈W)/\(∀b∈f.rd,b<iG+i)/\∀b∈f.wr,b<iG+i)->Gg P ops (some K) iG i ((ops.toList.take tp).drop i) fr ah fs fun fr' eX=>lft N Q .normal fr' eX (iG+tp)
theorem qA {id nx:Nat}(hm:P.follows .mixedOrders=true)(K:List Nat)(hM:aoI ops.toList []=K)(he:uw ops=true)(hsl:zS ops K=true)(h:yJ P ops K nx 0 ops.size N [] [] [] M ah Q):mJ P (.region id ops true) N M ah nx Q:=
 fun fr hf=>aev hm K hM he hsl (by have:=h fr [] hf (fun f hf=>by cases hf);rwa [List.drop_zero,List.take_of_length_le (by simp)] at this)
theorem acn {l:List Oper}{o:Oper}(ho:l[i]?=some o):l.drop i=o::l.drop (i+1):=by
 obtain ⟨hlt,he⟩:=aG.1 ho
 rw [List.drop_eq_getElem_cons hlt,he]
theorem vN {p:qF->Prop}:∀f∈([]:List qF),p f:=fun f h=>by cases h
theorem vC {p:qF->Prop}{f:qF}{V:List qF}(h:p f)(hV:∀f∈V,p f):∀g∈f::V,p g:=List.forall_mem_cons.2 ⟨h,hV⟩
theorem xq (hi:Nat.ble tp i=true)(h:Q .normal M ah (iG+tp)):yJ P ops K iG i tp N V W U M ah Q:=by
 intro fr fs hf hfs
 have:=aI hi
 rw [List.drop_eq_nil_of_le (by simp;omega)]
 exact ⟨M,hf,h⟩
theorem CY {op:Op}{v:AV}{rd:List Nat}{wr:List (Nat×Option pI)}(V' W':List Nat)(U':List qF)(ho:(ops.toList.take tp)[i]?=some ⟨d,op,ty,pos,lZ,g⟩)(hg:gB ops M g=true)(hd:mX N d=true)
  (h:∀fr,FA N M fr->∀K:nT->Prop,K ⟨v,wr,rd⟩->JG P (iG+i) fr ah op K)
  (hc:∀f∈U,f.i∈V->(f.wr=[]\/f.i∈W)->(∀b∈f.rd,b<iG+i)->(∀b∈f.wr,b<iG+i)->EF K i rd (wr.map (·.1)) f)
  (hrd:∀b∈rd,b<iG+(i+1)) (hwr:∀b∈wr.map (·.1),b<iG+(i+1)) (hU:∀f∈U,f∈U') (hV:∀j∈V,j∈V') (hW:∀j∈W,j∈W') (hVi:(rd=[]/\wr=[])\/((⟨i,rd,wr.map (·.1)⟩:qF)∈U'/\i∈V'/\(wr=[]\/i∈W')))
  (hk:yJ P ops K iG (i+1) tp N V' W' U' (iW M d v) (lJ ah wr) Q):yJ P ops K iG i tp N V W U M ah Q:=by
 intro fr fs hf hfs
 rw [acn ho]
 unfold Gg
 have key:=h fr hf (fun r=>ao2 (some K) fs i r.rd (r.wr.map (·.1))/\Gg P ops (some K) iG (i+1) ((ops.toList.take tp).drop (i+1)) (vT fr d r.v) (lJ ah r.wr) (FM (some K) fs i r.rd (r.wr.map (·.1))) fun fr' eX=>lft N Q .normal fr' eX (iG+tp))
  ⟨fun f hf=>hc f (hfs f hf).1 (hfs f hf).2.1 (hfs f hf).2.2.1 (hfs f hf).2.2.2.1 (hfs f hf).2.2.2.2,hk _ _ (hf.put hd) (fun f hf=>by
   have old:f∈fs->f∈U'/\f.i∈V'/\(f.wr=[]\/f.i∈W')/\(∀b∈f.rd,b<iG+(i+1))/\∀b∈f.wr,b<iG+(i+1):=fun hf=>by
    obtain ⟨q0,q1,q2,q3,q4⟩:=hfs f hf
    exact ⟨hU _ q0,hV _ q1,q2.imp id (hW _),fun b hb=>by have:=q3 b hb;omega,fun b hb=>by have:=q4 b hb;omega⟩
   unfold FM at hf
   dsimp only at hf
   split at hf
   .exact old hf
   .rename_i hne
    rcases bH.1 hf with rfl|hf
    .obtain ⟨q0,q1,q2⟩:=hVi.resolve_left fun ⟨e1,e2⟩=>hne (by rw [e1,e2];rfl)
     exact ⟨q0,q1,q2.imp (fun e=>by show List.map (·.1) wr=[];rw [e];rfl) id,hrd,hwr⟩
    .exact old hf)⟩
 exact acf hf hg key
theorem wo {op:Op}{v:AV}(ho:(ops.toList.take tp)[i]?=some ⟨d,op,ty,pos,lZ,g⟩)(hg:gB ops M g=true)(hd:mX N d=true)
  (h:∀fr,FA N M fr->∀K:nT->Prop,K ⟨v,[],[]⟩->JG P (iG+i) fr ah op K) (hk:yJ P ops K iG (i+1) tp N V W U (iW M d v) ah Q):yJ P ops K iG i tp N V W U M ah Q:=
 CY V W U ho hg hd h (fun f _ _ _ _ _=>.inr ⟨fun b hb=>⟨List.not_mem_nil,List.not_mem_nil⟩,fun b hb=>List.not_mem_nil⟩) (fun b hb=>by cases hb) (fun b hb=>by cases hb) (fun j hj=>hj) (fun j hj=>hj) (fun j hj=>hj) (.inl ⟨rfl,rfl⟩) hk
theorem Qz {op:Op}{v:AV}{rd:List Nat}(ho:(ops.toList.take tp)[i]?=some ⟨d,op,ty,pos,lZ,g⟩)(hg:gB ops M g=true)(hd:mX N d=true)(hb:∀b∈rd,b<iG+(i+1))(hW:(W.all fun j=>(K.getD i 0).testBit j)=true)
  (h:∀fr,FA N M fr->∀K:nT->Prop,K ⟨v,[],rd⟩->JG P (iG+i) fr ah op K) (hk:yJ P ops K iG (i+1) tp N (i::V) W (⟨i,rd,[]⟩::U) (iW M d v) ah Q):yJ P ops K iG i tp N V W U M ah Q:=
 CY (i::V) W (⟨i,rd,[]⟩::U) ho hg hd h (fun f h0 h1 h2 h3 h4=>by
  rcases h2 with h2|h2
  .exact .inr ⟨fun b hb=>(by rw [h2] at hb;cases hb),fun b hb=>(by simp)⟩
  .exact .inl (aJ.1 hW _ h2)) hb (fun b hb=>by cases hb) (fun j hj=>aQ _ hj) (fun j hj=>aQ _ hj) (fun j hj=>hj) (.inr ⟨bD,bD,.inl rfl⟩) hk
theorem aco {op:Op}{v:AV}{b:Nat}(ho:(ops.toList.take tp)[i]?=some ⟨d,op,ty,pos,lZ,g⟩)(hg:gB ops M g=true)(hd:mX N d=true)(hb:b<iG+(i+1))(hW:(W.all fun j=>(K.getD i 0).testBit j)=true)
  (h:∀fr,FA N M fr->∀K:nT->Prop,K ⟨v,[],[b]⟩->JG P (iG+i) fr ah op K) (hk:yJ P ops K iG (i+1) tp N (i::V) W (⟨i,[b],[]⟩::U) (iW M d v) ah Q):yJ P ops K iG i tp N V W U M ah Q:=
 Qz ho hg hd (fun c hc=>by rw [bZ.1 hc];exact hb) hW h hk
theorem Vf {op:Op}{v:AV}{k:pI}(ho:(ops.toList.take tp)[i]?=some ⟨d,op,ty,pos,lZ,g⟩)(hg:gB ops M g=true)(hd:mX N d=true)
  (h:∀fr,FA N M fr->∀K:nT->Prop,K ⟨v,[(iG+i,some k)],[]⟩->JG P (iG+i) fr ah op K) (hk:yJ P ops K iG (i+1) tp N (i::V) (i::W) (⟨i,[],[iG+i]⟩::U) (iW M d v) (upd ah (iG+i) (some k)) Q):yJ P ops K iG i tp N V W U M ah Q:=
 CY (i::V) (i::W) (⟨i,[],[iG+i]⟩::U) ho hg hd h (fun f h1 h1' h2' h3 h4=>.inr ⟨fun b hb=>⟨List.not_mem_nil,fun hm=>by have:=h4 b hb;simp at hm;omega⟩,fun b hb hm=>by have:=h3 b hb;simp at hm;omega⟩) (fun b hb=>by cases hb) (fun b hb=>by simp at hb;omega)
  (fun j hj=>aQ _ hj) (fun j hj=>aQ _ hj) (fun j hj=>aQ _ hj) (.inr ⟨bD,bD,.inr bD⟩) hk
theorem aaz {op:Op}{v:AV}{b:Nat}{k:Option pI}{rd:List Nat}(ho:(ops.toList.take tp)[i]?=some ⟨d,op,ty,pos,lZ,g⟩)(hg:gB ops M g=true)(hd:mX N d=true)(hb:b<iG+(i+1))(hrd:∀c∈rd,c<iG+(i+1))(hA:(V.all fun j=>(K.getD i 0).testBit j)=true)
  (h:∀fr,FA N M fr->∀K:nT->Prop,K ⟨v,[(b,k)],rd⟩->JG P (iG+i) fr ah op K) (hk:yJ P ops K iG (i+1) tp N (i::V) (i::W) (⟨i,rd,[b]⟩::U) (iW M d v) (upd ah b k) Q):yJ P ops K iG i tp N V W U M ah Q:=
 CY (i::V) (i::W) (⟨i,rd,[b]⟩::U) ho hg hd h (fun f h1 h1' h2' h3 h4=>.inl (aJ.1 hA _ h1')) hrd (fun c hc=>by simp at hc;omega) (fun j hj=>aQ _ hj) (fun j hj=>aQ _ hj) (fun j hj=>aQ _ hj) (.inr ⟨bD,bD,.inr bD⟩) hk
theorem XG {op:Op}{v:AV}{b:Nat}{k:Option pI}(ho:(ops.toList.take tp)[i]?=some ⟨d,op,ty,pos,lZ,g⟩)(hg:gB ops M g=true)(hd:mX N d=true)(hb:b<iG+(i+1))(hA:∀f∈U,(K.getD i 0).testBit f.i=true\/(b∉f.wr/\b∉f.rd))
  (h:∀fr,FA N M fr->∀K:nT->Prop,K ⟨v,[(b,k)],[b]⟩->JG P (iG+i) fr ah op K) (hk:yJ P ops K iG (i+1) tp N (i::V) (i::W) (⟨i,[b],[b]⟩::U) (iW M d v) (upd ah b k) Q):yJ P ops K iG i tp N V W U M ah Q:=
 CY (i::V) (i::W) (⟨i,[b],[b]⟩::U) ho hg hd h (fun f h1 h1' h2' h3 h4=>(hA f h1).imp id fun h2=>⟨fun c hc=>⟨fun hm=>h2.1 (by rw [<- bZ.1 hm];exact hc),fun hm=>h2.1 (by rw [<- (show c=b by simpa using hm)];exact hc)⟩,fun c hc hm=>h2.2 (by rw [<- (show c=b by simpa using hm)];exact hc)⟩)
  (fun c hc=>by rw [bZ.1 hc];exact hb) (fun c hc=>by simp at hc;omega) (fun j hj=>aQ _ hj) (fun j hj=>aQ _ hj) (fun j hj=>aQ _ hj) (.inr ⟨bD,bD,.inr bD⟩) hk
theorem uK {op:Op}(ho:(ops.toList.take tp)[i]?=some ⟨d,op,ty,pos,lZ,g⟩)(hg:gN ops M g=true)(hd:mX N d=true)(h:yJ P ops K iG (i+1) tp N V W U (iW M d (.p undef)) ah Q):yJ P ops K iG i tp N V W U M ah Q:=by
 intro fr fs hf hfs
 rw [acn ho]
 exact agb hf hg (h _ _ (hf.put hd) fun f hf=>by
  obtain ⟨q0,q1,q2,q3,q4⟩:=hfs f hf
  exact ⟨q0,q1,q2,fun b hb=>by have:=q3 b hb;omega,fun b hb=>by have:=q4 b hb;omega⟩)
theorem oP {x:Operand}{a:AV}(ho:(ops.toList.take tp)[i]?=some ⟨d,.move x,ty,pos,lZ,g⟩)(hg:gB ops M g=true)(hd:mX N d=true)(hx:lI M x=some a)(h:yJ P ops K iG (i+1) tp N V W U (iW M d a) ah Q):yJ P ops K iG i tp N V W U M ah Q:=
 wo ho hg hd (fun fr hf K hK=>dI.2 ⟨a,eP hf hx,hK⟩) h
theorem Aj {x:Operand}{a:AV}(ho:(ops.toList.take tp)[i]?=some ⟨d,.assign x,ty,pos,lZ,g⟩)(hg:gB ops M g=true)(hd:mX N d=true)(hx:lI M x=some a)(h:yJ P ops K iG (i+1) tp N V W U (iW M d a) ah Q):yJ P ops K iG i tp N V W U M ah Q:=
 wo ho hg hd (fun fr hf K hK=>dI.2 ⟨a,eP hf hx,hK⟩) h
theorem Vg {c x y:Operand}{t:Bool}{a:AV}(ho:(ops.toList.take tp)[i]?=some ⟨d,.pick c x y,ty,pos,lZ,g⟩)(hg:gB ops M g=true)(hd:mX N d=true)(hc:lI M c=some (.p (.bool t)))
  (hx:lI M (match t with|true=>x|false=>y)=some a) (h:yJ P ops K iG (i+1) tp N V W U (iW M d a) ah Q):yJ P ops K iG i tp N V W U M ah Q:=
 wo ho hg hd (fun fr hf K hK=>dI.2 ⟨_,eP hf hc,by
  show aIf t _ _
  cases t with
  |true=>exact dI.2 ⟨a,eP hf hx,hK⟩
  |false=>exact dI.2 ⟨a,eP hf hx,hK⟩⟩) h
theorem ag_ {o:UnOp}{t:TypeId}{x:Operand}{a v:AV}(ho:(ops.toList.take tp)[i]?=some ⟨d,.unOp o t x,ty,pos,lZ,g⟩)(hg:gB ops M g=true)(hd:mX N d=true)(hx:lI M x=some a)
  (hv:∀K:AV->Prop,K v->aUn o a K) (h:yJ P ops K iG (i+1) tp N V W U (iW M d v) ah Q):yJ P ops K iG i tp N V W U M ah Q:=
 wo ho hg hd (fun fr hf K hK=>dI.2 ⟨_,eP hf hx,hv _ hK⟩) h
theorem jv {s:TypeId}{x:Operand}{k b sz j off:Nat}{f:Nat×Bool×Nat}(ho:(ops.toList.take tp)[i]?=some ⟨d,.fieldAddr s x k,ty,pos,lZ,g⟩)(hg:gB ops M g=true)(hd:mX N d=true)(hx:lI M x=some (.op b sz j off))
  (hf:rP P s k=some f) (h0:Nat.beq f.2.2 0=false) (h:yJ P ops K iG (i+1) tp N V W U (iW M d (.op b sz j (off+f.1))) ah Q):yJ P ops K iG i tp N V W U M ah Q:=
 wo ho hg hd (fun fr hfr K hK=>dI.2 ⟨_,eP hfr hx,dI.2 ⟨f,hf,fun e=>by rw [e] at h0;simp at h0,hK⟩⟩) h
theorem jU {t:TypeId}{x:Operand}{b sz j off:Nat}{rs:List (List AV)}{row:List AV}{tt:Bool×Nat}{v:AV}(ho:(ops.toList.take tp)[i]?=some ⟨d,.load t x,ty,pos,lZ,g⟩)(hg:gB ops M g=true)(hd:mX N d=true)(hx:lI M x=some (.op b sz j off))
  (hlt:b<iG+(i+1)) (hW:(W.all fun j=>(K.getD i 0).testBit j)=true) (ht:qI P t=some tt) (hb:ah b=some (.rows sz rs)) (hr:rs[j]?=some row) (hp:apart tt row off fun x=>x=v) (h:yJ P ops K iG (i+1) tp N (i::V) W (⟨i,[b],[]⟩::U) (iW M d v) ah Q):yJ P ops K iG i tp N V W U M ah Q:=
 aco ho hg hd hlt hW (fun fr hf K hK=>dI.2 ⟨_,eP hf hx,dI.2 ⟨tt,ht,by dsimp only;rw [hb];exact ⟨rfl,dI.2 ⟨row,hr,ao4 hp hK⟩⟩⟩⟩) h
theorem lS {x:Operand}{b sz j off:Nat}(ho:(ops.toList.take tp)[i]?=some ⟨d,.nilCheck x,ty,pos,lZ,g⟩)(hg:gB ops M g=true)(hd:mX N d=true)(hx:lI M x=some (.op b sz j off))(h:yJ P ops K iG (i+1) tp N V W U (iW M d (.op b sz j off)) ah Q):yJ P ops K iG i tp N V W U M ah Q:=
 wo ho hg hd (fun fr hf K hK=>dI.2 ⟨_,eP hf hx,hK⟩) h
theorem pF {nx:Nat}{x:Operand}{b sz j off:Nat}(ho:ops[i]?=some ⟨d,.nilCheck x,ty,pos,lZ,g⟩)(hg:gB ops M g=true)(hd:mX N d=true)(hx:lI M x=some (.op b sz j off))(h:tJ P ops (i+1) N (iW M d (.op b sz j off)) ah (nx+1) Q):tJ P ops i N M ah nx Q:=
 nZ ho hg hd fun fr hf=>dI.2 ⟨_,eP hf hx,h⟩
theorem uz {x:Operand}{k:Nat}{vs:List AV}{v:AV}(ho:(ops.toList.take tp)[i]?=some ⟨d,.extract x k,ty,pos,lZ,g⟩)(hg:gB ops M g=true)(hd:mX N d=true)(hx:lI M x=some (.kS vs))(hv:vs[k]?=some v)(h:yJ P ops K iG (i+1) tp N V W U (iW M d v) ah Q):yJ P ops K iG i tp N V W U M ah Q:=
 wo ho hg hd (fun fr hf K hK=>dI.2 ⟨_,eP hf hx,by show xG (.kS vs) k K;unfold xG;exact dI.2 ⟨v,hv,hK⟩⟩) h
theorem aeV {t:TypeId}{x y:Operand}{b sz off len:Nat}{kk:IntKind}{n:Int}{e:Nat×Nat}(ho:(ops.toList.take tp)[i]?=some ⟨d,.indexAddr t x y,ty,pos,lZ,g⟩)(hg:gB ops M g=true)(hd:mX N d=true)
  (hx:lI M x=some (.os b sz off len)) (hy:lI M y=some (.p (.int kk n))) (he:kU P t=some e) (h0:0<=n) (h1:n.toNat<len) (hs:sz=e.1) (h:yJ P ops K iG (i+1) tp N V W U (iW M d (.op b sz (off+n.toNat) 0)) ah Q):yJ P ops K iG i tp N V W U M ah Q:=
 wo ho hg hd (fun fr hf K hK=>dI.2 ⟨_,eP hf hx,dI.2 ⟨_,eP hf hy,dI.2 ⟨e,he,h0,h1,hs,hK⟩⟩⟩) h
theorem aeW {t:TypeId}{parts:Array (Nat×Operand)}{ps:List (Nat×AV)}{z cs:List AV}{pl:Nat->Option (Nat×Nat)}(ho:(ops.toList.take tp)[i]?=some ⟨d,.build t parts,ty,pos,lZ,g⟩)(hg:gB ops M g=true)(hd:mX N d=true)(hx:XE M parts.toList=some ps)
  (hz:aoH P t=some z) (hp:aoJ P t=some pl) (hf:uV pl z ps=some cs) (h:yJ P ops K iG (i+1) tp N V W U (iW M d (.agg cs)) ah Q):yJ P ops K iG i tp N V W U M ah Q:=
 wo ho hg hd (fun fr hfr K hK=>dI.2 ⟨_,Iz hfr hx,dI.2 ⟨z,hz,dI.2 ⟨pl,hp,dI.2 ⟨cs,hf,hK⟩⟩⟩⟩) h
theorem aeX {t:TypeId}{x:Operand}{v:AV}(ho:(ops.toList.take tp)[i]?=some ⟨d,.box t x,ty,pos,lZ,g⟩)(hg:gB ops M g=true)(hd:mX N d=true)(hx:lI M x=some v)(hb:v.Eh=true)
  (h:yJ P ops K iG (i+1) tp N (i::V) (i::W) (⟨i,[],[iG+i]⟩::U) (iW M d (.op (iG+i) v.cells.length 0 0)) (upd ah (iG+i) (some (.rows v.cells.length [v.cells]))) Q):yJ P ops K iG i tp N V W U M ah Q:=
 Vf ho hg hd (fun fr hfr K hK=>dI.2 ⟨_,eP hfr hx,hb,hK⟩) h
theorem LK {t:TypeId}{z:List AV}(ho:(ops.toList.take tp)[i]?=some ⟨d,.alloc t,ty,pos,lZ,g⟩)(hg:gB ops M g=true)(hd:mX N d=true)(hz:aoH P t=some z)(ha:ao6 P t=false)
  (h:yJ P ops K iG (i+1) tp N (i::V) (i::W) (⟨i,[],[iG+i]⟩::U) (iW M d (.op (iG+i) z.length 0 0)) (upd ah (iG+i) (some (.rows z.length [z]))) Q):yJ P ops K iG i tp N V W U M ah Q:=
 Vf ho hg hd (fun fr hfr K hK=>.inl (dI.2 ⟨z,hz,by rw [ha];exact hK⟩)) h
theorem JY {t:TypeId}{x y:Operand}{b sz j off:Nat}{rs:List (List AV)}{row:List AV}{tt:Bool×Nat}{v:AV}(ho:(ops.toList.take tp)[i]?=some ⟨d,.store t x y,ty,pos,lZ,g⟩)(hg:gB ops M g=true)(hd:mX N d=true)(hlt:b<iG+(i+1))(hA:(V.all fun j=>(K.getD i 0).testBit j)=true)(hx:lI M x=some (.op b sz j off))(hy:lI M y=some v)
  (ht:qI P t=some tt) (hb:ah b=some (.rows sz rs)) (hbx:v.Eh=true) (hvl:v.cells.length=tt.2) (hr:rs[j]?=some row) (hl:off+tt.2<=row.length)
  (h:yJ P ops K iG (i+1) tp N (i::V) (i::W) (⟨i,[b],[b]⟩::U) (iW M d (.p undef)) (upd ah b (some (.rows sz (rs.set j (lay row off v.cells))))) Q):yJ P ops K iG i tp N V W U M ah Q:=
 aaz (rd:=[b]) ho hg hd hlt (fun c hc=>by rw [bZ.1 hc];exact hlt) hA (fun fr hf K hK=>dI.2 ⟨_,eP hf hx,dI.2 ⟨_,eP hf hy,dI.2 ⟨tt,ht,by dsimp only;rw [hb];exact ⟨rfl,hbx,hvl,dI.2 ⟨row,hr,hl,hK⟩⟩⟩⟩⟩) h
theorem JZ {f:FuncId}{args:Array Operand}{ts:Array TypeId}{az Vd as2:List AV}{r:AV}(ho:(ops.toList.take tp)[i]?=some ⟨d,.call ⟨.value (.func f),args,ts⟩,ty,pos,lZ,g⟩)(hg:gB ops M g=true)(hd:mX N d=true)
  (hlt:∀b∈rch ah aoK (jR az),b<iG+(i+1)) (hW:(W.all fun j=>(K.getD i 0).testBit j)=true)
  (hx:qw M args.toList=some az) (hf:kN (vP ah aoK) az=some Vd) (hw:∀w E vs,iT w E Vd vs->iT w E as2 vs) (hp:PC P f as2 r) (hc:jY az=true\/r.flat=true) (h:yJ P ops K iG (i+1) tp N (i::V) W (⟨i,rch ah aoK (jR az),[]⟩::U) (iW M d r) ah Q):yJ P ops K iG i tp N V W U M ah Q:=
 Qz ho hg hd hlt hW (fun fr hfr K hK=>dI.2 ⟨_,mG hfr hx,dI.2 ⟨Vd,hf,as2,r,hw,hp,.inl ⟨hc.imp id .inl,hK⟩⟩⟩) h
theorem aeY {t:TypeId}{x y:Operand}{b sz j off:Nat}{rs:List (List AV)}{row:List AV}{tt:Bool×Nat}{v:AV}(ho:(ops.toList.take tp)[i]?=some ⟨d,.store t x y,ty,pos,lZ,g⟩)(hg:gB ops M g=true)(hd:mX N d=true)(hlt:b<iG+(i+1))(hA:∀f∈U,(K.getD i 0).testBit f.i=true\/(b∉f.wr/\b∉f.rd))(hx:lI M x=some (.op b sz j off))(hy:lI M y=some v)
  (ht:qI P t=some tt) (hb:ah b=some (.rows sz rs)) (hbx:v.Eh=true) (hvl:v.cells.length=tt.2) (hr:rs[j]?=some row) (hl:off+tt.2<=row.length)
  (h:yJ P ops K iG (i+1) tp N (i::V) (i::W) (⟨i,[b],[b]⟩::U) (iW M d (.p undef)) (upd ah b (some (.rows sz (rs.set j (lay row off v.cells))))) Q):yJ P ops K iG i tp N V W U M ah Q:=
 XG ho hg hd hlt hA (fun fr hf K hK=>dI.2 ⟨_,eP hf hx,dI.2 ⟨_,eP hf hy,dI.2 ⟨tt,ht,by dsimp only;rw [hb];exact ⟨rfl,hbx,hvl,dI.2 ⟨row,hr,hl,hK⟩⟩⟩⟩⟩) h
end
end Go.Fw
end
section
namespace Go.Fw
variable [iZ]
section
variable {P : Program} {N:Nat} {M:MT} {ah:AH} {nx:Nat} {Q:MQ}
theorem Vh {base:Nat}{w:World}{E:Env}{fr:nP}{a:Act}{t:Nat}{x x':AV}(hf:FA N M fr)(ht:fD M t=some x)(hd:Nat.blt t N=true)(hz:ny (vP ah aoK) x=some x')(hc:x'.clean=true)(hs:Lj base w E fr ah nx a) :
  FA N ((t,x')::M) (pG fr t x')/\Lj base w (Ij E ah (rch ah aoK x.refs)) (pG fr t x') (lJ ah (DN (rch ah aoK x.refs))) nx a/\Step base w E w (Ij E ah (rch ah aoK x.refs)):=by
 have h1:=Qk hs.heap (rch ah aoK x.refs)
 have h2:=JM hs.heap (rch ah aoK x.refs)
 have hlt:t<N:=by simpa using hd
 obtain ⟨v,hv,hr⟩:=hs.fr.get t _ (hf.get t _ ht)
 have hr':Rep w (Ij E ah (rch ah aoK x.refs)) x' v:=CU (E:=iq (Ij E ah (rch ah aoK x.refs)).fix) (E':=Ij E ah (rch ah aoK x.refs)) (fun _ _ h=>h) (UH hs.heap aoK hr hz fun b hb=>hb) hc
 have O1:=hs.fr.mono h2.ext
 refine ⟨FA.put (d:=some t) hf hd,⟨h1,⟨by rw [gQ];exact O1.size,fun j y hj=>?_,O1.GY⟩,hs.defers⟩,h2⟩
 rw [oJ] at hj
 split at hj
 .rename_i hjt
  simp only [au] at hj;subst hj
  rw [hjt.1]
  exact ⟨v,hv,hr'⟩
 .exact O1.get j y hj
theorem Vj {c:Code}{t:Nat}{x x':AV}(ht:fD M t=some x)(hd:Nat.blt t N=true)(hz:ny (vP ah aoK) x=some x')(hc:x'.clean=true)
  (h:mJ P c N ((t,x')::M) (lJ ah (DN (rch ah aoK x.refs))) nx Q):mJ P c N M ah nx Q:=by
 intro fr hf base w E a hs
 obtain ⟨h1,h2,h3⟩:=Vh hf ht hd hz hc hs
 exact wp_mono (h _ h1 base w _ a h2) fun e a' w' hp=>hp.mono h3 fun _ _ _ h=>h
theorem acp {ops:Array Oper}{i t:Nat}{x x':AV}(ht:fD M t=some x)(hd:Nat.blt t N=true)(hz:ny (vP ah aoK) x=some x')(hc:x'.clean=true)
  (h:tJ P ops i N ((t,x')::M) (lJ ah (DN (rch ah aoK x.refs))) nx Q):tJ P ops i N M ah nx Q:=by
 intro fr hf base w E a hs QQ hQ
 obtain ⟨h1,h2,h3⟩:=Vh hf ht hd hz hc hs
 exact h _ h1 base w _ a h2 QQ fun a' w' hp=>hQ a' w' (hp.mono h3 fun _ _ _ h=>h)
theorem QA {ah:AH}{rd:List Nat}{b:Nat}(h:b∉rd):lJ ah (DN rd) b=ah b:=Bc (by simpa [DN] using h)
end
end Go.Fw
end
section
namespace Go.Fw
variable [iZ]
def tN {α:Type}(k:Nat):List (Nat×α)->Option α
 |[]=>none
 |(j,v)::r=>match Nat.beq j k with|true=>some v|false=>tN k r
def Vk {α:Type}:List α->Nat->Option α
 |[],_=>none
 |x::_,0=>some x
 |_::r,n+1=>Vk r n
theorem CZ {α:Type}:∀{l:List α} {n:Nat},Vk l n=l[n]?
 |[],_=>rfl
 |_::_,0=>rfl
 |_::r,n+1=>CZ (l:=r)
structure Gt where
 ty:List (Nat×Bool×Nat)
 fl:List (Nat×List (Nat×Nat×Bool×Nat))
 ze:List (Nat×List AV)
 se:List (Nat×Nat×Nat)
 pl:List (Nat×List (Nat×Nat))
 st:List (Nat×Unit)
 bo:List (Nat×Unit)
 eq:List (Nat×(List AV->List AV->Option Bool))
def nV {α:Type}(p:Nat->α->Prop):List (Nat×α)->Prop
 |[]=>True
 |x::r=>p x.1 x.2/\nV p r
theorem nV.get {α:Type}{p:Nat->α->Prop}:∀{l:List (Nat×α)} {k:Nat} {v:α},nV p l->tN k l=some v->p k v
 |x::r,k,v,⟨h1,h2⟩,h=>by
  simp only [tN] at h
  split at h
  .rename_i hb
   obtain rfl:=aA hb
   simp only [au] at h;subst h
   exact h1
  .exact nV.get h2 h
class zH (P:Program)(T:outParam Gt):Prop where
 ty:nV (fun t v=>qI P t=some v) T.ty
 fl:nV (fun s l=>nV (fun k v=>rP P s k=some v) l) T.fl
 ze:nV (fun t z=>aoH P t=some z/\ao6 P t=false) T.ze
 se:nV (fun t e=>P.underlying t=some (.slice e.1)/\∃b,kU P t=some (e.2,b)/\b<=4096) T.se
 pl:nV (fun t l=>aoJ P t=some fun k=>l[k]?) T.pl
 st:nV (fun t _=>P.underlying t=some .string) T.st
 bo:nV (fun t _=>P.underlying t=some .bool) T.bo
 eq:nV (fun t f=>P.eqGuardType P.depth t=false/\∀xs ys r,f xs ys=some r->aeq P 10000 t (.agg xs) (.agg ys)=some r) T.eq
 mx:P.follows .mixedOrders=true
def apF (tt:Bool×Nat)(row:List AV)(off:Nat):Option AV:=
 match tt.1 with
 |true=>(match Nat.ble (off+tt.2) row.length with|true=>some (.agg ((row.drop off).take tt.2))|false=>none)
 |false=>Vk row off
theorem J3 {tt:Bool×Nat}{row:List AV}{off:Nat}{v:AV}(h:apF tt row off=some v){k:AV->Prop}(hk:k v):apart tt row off k:=by
 unfold apF at h
 unfold apart
 split at h
 .rename_i ht
  rw [if_pos ht]
  split at h
  .rename_i hb
   simp only [au] at h;subst h
   exact ⟨aI hb,hk⟩
  .cases h
 .rename_i ht
  rw [if_neg (by rw [ht];decide)]
  rw [CZ] at h
  exact dI.2 ⟨v,h,hk⟩
def ldF (ah:AH)(tt:Bool×Nat):AV->Option nT
 | .vp row off=>(match apF tt row off with|some v=>some (.val v)|none=>none)
 | .op b sz i off=>(match ah b with
  |some (.rows sz' rs)=>(match Nat.beq sz sz' with
   |true=>(match Vk rs i with|some row=>(match apF tt row off with|some v=>some ⟨v,[],[b]⟩|none=>none)|none=>none)
   |false=>none)
  |_=>none)
 |_=>none
def stF (ah:AH)(tt:Bool×Nat)(v:AV):AV->Option nT
 | .op b sz i off=>(match ah b with
  |some (.rows sz' rs)=>(match Nat.beq sz sz' with
   |true=>(match v.Eh with
    |true=>(match Nat.beq v.cells.length tt.2 with
     |true=>(match Vk rs i with
      |some row=>(match Nat.ble (off+tt.2) row.length with|true=>some ⟨.p undef,[(b,some (.rows sz (rs.set i (lay row off v.cells))))],[b]⟩|false=>none)
      |none=>none)
     |false=>none)
    |false=>none)
   |false=>none)
  |_=>none)
 |_=>none
def biF (o:BinOp)(a b:Int)(k:IntKind):Option AV:=
 match o with
 | .add=>some (.p (.int k (eG k a b)))
 | .sub=>some (.p (.int k (jg k a b)))
 | .mul=>some (.p (.int k (D9 k a b)))
 | .and=>some (.p (.int k (jS k a b)))
 | .or=>some (.p (.int k (U1 k a b)))
 | .andNot=>some (.p (.int k (o_ k a b)))
 | .eql=>some (.p (.bool (dV a b)))
 | .neq=>some (.p (.bool (iO a b)))
 | .lss=>some (.p (.bool (decide (a<b))))
 | .leq=>some (.p (.bool (decide (a<=b))))
 | .gtr=>some (.p (.bool (decide (a > b))))
 | .geq=>some (.p (.bool (decide (a>=b))))
 |_=>none
def bfF (o:BinOp)(a b:Nat):Option AV:=
 match o with
 | .eql=>some (.p (.bool (fEq a b)))
 | .neq=>some (.p (.bool (Ll a b)))
 | .lss=>some (.p (.bool (fLt a b)))
 | .leq=>some (.p (.bool (OT a b)))
 | .gtr=>some (.p (.bool (fGt a b)))
 | .geq=>some (.p (.bool (Qq a b)))
 |_=>none
def aiS : IntKind->IntKind->Bool:=fun a b=>decide (a=b)
def aha (T:Gt)(o:BinOp)(t:Nat):AV->AV->Option AV
 | .p (.bool a),.p (.bool b)=>(match tN t T.bo with|some _=>(match o with | .eql=>some (.p (.bool (Nh a b))) | .neq=>some (.p (.bool (!(Nh a b))))|_=>none)|none=>none)
 | .p (.int k a),.p (.int k' b)=>(match aiS k k' with|true=>biF o a b k|false=>none)
 | .p (.float .f64 a),.p (.float .f64 b)=>bfF o a b
 | .str a,.str b=>(match o with | .eql=>some (.p (.bool (wJ a b))) | .neq=>some (.p (.bool (YZ a b)))|_=>none)
 | .agg xs,.agg ys=>(match tN t T.eq with|some f=>(match f xs ys with|some b=>(match o with | .eql=>some (.p (.bool b)) | .neq=>some (.p (.bool (!b)))|_=>none)|none=>none)|none=>none)
 |_,_=>none
theorem aeZ {P:Program}{T:Gt}[hT:zH P T]{o:BinOp}{t:TypeId}{c:Bool}{x y v:AV}(h:aha T o t x y=some v){K:AV->Prop}(hk:K v):Q7 P o t c x y K:=by
 unfold aha at h
 split at h
 .rename_i a b
  split at h
  .rename_i u hu
   have hb:=hT.bo.get hu
   have e:aeq P 10000 t (.p (.bool a)) (.p (.bool b))=some (a == b):=by
    show aeq P (9999+1) t (.p (.bool a)) (.p (.bool b))=_
    unfold aeq
    rw [hb]
   split at h<;>first|(cases h;done)|(simp only [au] at h;subst h;exact ⟨trivial,dI.2 ⟨_,e,hk⟩⟩)
  .cases h
 .rename_i k a k' b
  split at h
  .rename_i hb
   have hk':k=k':=of_decide_eq_true hb
   subst hk'
   unfold biF at h
   split at h<;>first|(cases h;done)|(simp only [au] at h;subst h;exact ⟨rfl,hk⟩)
  .cases h
 .unfold bfF at h
  split at h<;>first|(cases h;done)|(simp only [au] at h;subst h;exact ⟨rfl,hk⟩)
 .split at h<;>first|(cases h;done)|(simp only [au] at h;subst h;exact hk)
 .split at h
  .rename_i f hf
   obtain ⟨h1,h2⟩:=hT.eq.get hf
   split at h
   .rename_i r hr
    have h3:=h2 _ _ _ hr
    split at h<;>first|(cases h;done)|(simp only [au] at h;subst h;exact ⟨h1,dI.2 ⟨_,h3,hk⟩⟩)
   .cases h
  .cases h
 .cases h
def unF (o:UnOp):AV->Option AV
 | .p (.bool b)=>(match o with | .not=>some (.p (.bool (!b)))|_=>none)
 | .p (.int k n)=>(match o with | .neg=>some (.p (.int k (jg k 0 n))) | .xor=>some (.p (.int k (CP k n)))|_=>none)
 |_=>none
theorem ahf {o:UnOp}{x v:AV}(h:unF o x=some v){K:AV->Prop}(hk:K v):aUn o x K:=by
 unfold unF at h
 split at h
 .split at h
  .simp only [au] at h;subst h;exact hk
  .cases h
 .split at h<;>first|(cases h;done)|(simp only [au] at h;subst h;exact hk)
 .cases h
def fiF (pl:List (Nat×Nat))(cells:List AV):List (Nat×AV)->Option (List AV)
 |[]=>some cells
 |(i,v)::rest=>match Vk pl i with
  |some (off,size)=>(match v.Eh&&(Nat.beq v.cells.length size&&Nat.ble (off+v.cells.length) cells.length) with|true=>fiF pl (lay cells off v.cells) rest|false=>none)
  |none=>none
theorem acr {pl:List (Nat×Nat)}{f:Nat->Option (Nat×Nat)}(hf:∀k,f k=Vk pl k):∀{ps:List (Nat×AV)} {cells cs:List AV},fiF pl cells ps=some cs->uV f cells ps=some cs
 |[],_,_,h=>h
 |(i,v)::rest,cells,cs,h=>by
  simp only [fiF] at h
  simp only [uV,hf]
  split at h
  .rename_i off size he
   rw [he]
   dsimp only
   split at h
   .rename_i hb
    simp only [ay] at hb
    obtain ⟨h1,h2,h3⟩:=hb
    have h2:=aA h2
    have h3:=aI h3
    rw [if_neg (by simp [h1,h2];omega)]
    exact acr hf h
   .cases h
  .cases h
def gsl (ops:Array Oper):Option (Nat×Bool)->Option (Nat×Bool)
 |none=>none
 |some (j,w)=>match (ops[j]?).bind (·.dst) with|some t=>some (t,w)|none=>none
def gK (ops:Array Oper)(M:MT):Option (Nat×Bool)->Option Bool
 |none=>some true
 |some (j,w)=>match (ops[j]?).bind (·.dst) with
  |some t=>(match fD M t with
   |some (.p (.bool true))=>some w
   |some (.p (.bool false))=>some (!w)
   |some (.p (.tuple _))=>some false
   |_=>none)
  |none=>none
theorem RU {ops:Array Oper}{M:MT}{g:Option (Nat×Bool)}(h:gK ops M g=some true):gB ops M g=true:=by
 unfold gK at h
 unfold gB
 split at h
 .rfl
 .rename_i j w
  try dsimp only
  cases hd:(ops[j]?).bind (·.dst) with
  |none=>rw [hd] at h;cases h
  |some t=>
   rw [hd] at h
   try dsimp only at h ⊢
   split at h<;>rename_i he
   .rw [he];simp at h;simp [h]
   .rw [he];simp at h;simp [h]
   .first|(rw [he];done)|(rw [he];rfl)|cases h
   .cases h
theorem ak2 {ops:Array Oper}{M:MT}{g:Option (Nat×Bool)}(h:gK ops M g=some false):gN ops M g=true:=by
 unfold gK at h
 unfold gN
 split at h
 .cases h
 .rename_i j w
  try dsimp only
  cases hd:(ops[j]?).bind (·.dst) with
  |none=>rw [hd] at h;cases h
  |some t=>
   rw [hd] at h
   try dsimp only at h ⊢
   split at h<;>rename_i he
   .rw [he];simp at h;simp [h]
   .rw [he];simp at h;simp [h]
   .first|(rw [he];done)|(rw [he];rfl)|cases h
   .cases h
section
variable {P : Program} {T:Gt} {ops:Array Oper} {i N nx:Nat} {M:MT} {ah:AH} {Q:MQ}
def opF (T:Gt)(nx:Nat)(M:MT)(ah:AH):Op->Option nT
 | .move x | .assign x=>(match lI M x with|some a=>some (.val a)|none=>none)
 | .pick c x y=>(match lI M c with
  |some (.p (.bool true))=>(match lI M x with|some a=>some (.val a)|none=>none)
  |some (.p (.bool false))=>(match lI M y with|some a=>some (.val a)|none=>none)
  |_=>none)
 | .load t a=>(match lI M a with|some a=>(match tN t T.ty with|some tt=>ldF ah tt a|none=>none)|none=>none)
 | .store t a v=>(match lI M a with|some a=>(match lI M v with|some v=>(match tN t T.ty with|some tt=>stF ah tt v a|none=>none)|none=>none)|none=>none)
 | .fieldAddr s x k=>(match lI M x with
  |some a=>(match tN s T.fl with
   |some l=>(match tN k l with
    |some (off,_,sz)=>(match Nat.beq sz 0 with
     |false=>(match a with
      | .vp row o=>some (.val (.vp row (o+off)))
      | .op b sz j o=>some (.val (.op b sz j (o+off)))
      |_=>none)
     |true=>none)
    |none=>none)
   |none=>none)
  |none=>none)
 | .field s x k=>(match lI M x with
  |some (.agg cs)=>(match tN s T.fl with
   |some l=>(match tN k l with|some (off,tt)=>(match apF tt cs off with|some v=>some (.val v)|none=>none)|none=>none)
   |none=>none)
  |_=>none)
 | .extract x k=>(match lI M x with|some (.kS vs)=>(match Vk vs k with|some v=>some (.val v)|none=>none)|_=>none)
 | .binOp o t x y _=>(match lI M x with|some a=>(match lI M y with|some b=>(match aha T o t a b with|some v=>some (.val v)|none=>none)|none=>none)|none=>none)
 | .unOp o _ x=>(match lI M x with|some a=>(match unF o a with|some v=>some (.val v)|none=>none)|none=>none)
 | .nilCheck x=>(match lI M x with
  |some (.op b sz j o)=>some (.val (.op b sz j o))
  |some (.vp row o)=>some (.val (.vp row o))
  |_=>none)
 | .build t parts=>(match XE M parts.toList with
  |some ps=>(match tN t T.ze with|some z=>(match tN t T.pl with|some pl=>(match fiF pl z ps with|some cs=>some (.val (.agg cs))|none=>none)|none=>none)|none=>none)
  |none=>none)
 | .box _ v=>(match lI M v with|some v=>(match v.Eh with|true=>some ⟨.op nx v.cells.length 0 0,[(nx,some (.rows v.cells.length [v.cells]))],[]⟩|false=>none)|none=>none)
 | .alloc t=>(match tN t T.ze with|some z=>some ⟨.op nx z.length 0 0,[(nx,some (.rows z.length [z]))],[]⟩|none=>none)
 | .makeFunc fn first captured=>(match qw M first.toList with|some a=>(match qw M captured.toList with|some b=>some (.val (.fn fn a b))|none=>none)|none=>none)
 | .call ⟨.builtin .len,args,ts⟩=>(match qw M args.toList with
  |some [x]=>(match ts[0]? with
   |some t=>(match x with
    | .sl rows _=>(match tN t T.se with|some _=>some (.val (.p (.int .i64 (pW rows))))|none=>none)
    | .os _ _ _ n=>(match tN t T.se with|some _=>some (.val (.p (.int .i64 (n:Nat))))|none=>none)
    | .str s=>(match tN t T.st with|some _=>some (.val (.p (.int .i64 (sLen s))))|none=>none)
    |_=>none)
   |none=>none)
  |_=>none)
 |_=>none
theorem XH [hT:zH P T]{fr:nP}(hf:FA N M fr){op:Op}{r:nT}(h:opF T nx M ah op=some r){K:nT->Prop}(hK:K r):JG P nx fr ah op K:=by
 unfold opF at h
 split at h
 
 .split at h
  .rename_i a ha;simp only [au] at h;subst h;exact dI.2 ⟨a,eP hf ha,hK⟩
  .cases h
 .split at h
  .rename_i a ha;simp only [au] at h;subst h;exact dI.2 ⟨a,eP hf ha,hK⟩
  .cases h
 
 .split at h
  .rename_i hc
   split at h
   .rename_i a ha;simp only [au] at h;subst h
    exact dI.2 ⟨_,eP hf hc,dI.2 ⟨a,eP hf ha,hK⟩⟩
   .cases h
  .rename_i hc
   split at h
   .rename_i a ha;simp only [au] at h;subst h
    exact dI.2 ⟨_,eP hf hc,dI.2 ⟨a,eP hf ha,hK⟩⟩
   .cases h
  .cases h
 
 .split at h
  .rename_i a ha
   split at h
   .rename_i tt ht
    refine dI.2 ⟨a,eP hf ha,dI.2 ⟨tt,hT.ty.get ht,?_⟩⟩
    unfold ldF at h
    split at h
    .split at h
     .rename_i v hv;simp only [au] at h;subst h;exact J3 hv hK
     .cases h
    .rename_i b sz j off
     dsimp only
     split at h
     .rename_i sz' rs hb
      rw [hb]
      dsimp only
      split at h
      .rename_i hs
       split at h
       .rename_i row hr
        split at h
        .rename_i v hv
         simp only [au] at h;subst h
         rw [CZ] at hr
         exact ⟨aA hs,dI.2 ⟨row,hr,J3 hv hK⟩⟩
        .cases h
       .cases h
      .cases h
     .cases h
    .cases h
   .cases h
  .cases h
 
 .split at h
  .rename_i a ha
   split at h
   .rename_i v hv
    split at h
    .rename_i tt ht
     refine dI.2 ⟨a,eP hf ha,dI.2 ⟨v,eP hf hv,dI.2 ⟨tt,hT.ty.get ht,?_⟩⟩⟩
     unfold stF at h
     split at h
     .rename_i b sz j off
      dsimp only
      split at h
      .rename_i sz' rs hb
       rw [hb]
       dsimp only
       split at h
       .rename_i hs
        split at h
        .rename_i hbx
         split at h
         .rename_i hcl
          split at h
          .rename_i row hr
           split at h
           .rename_i hl
            simp only [au] at h;subst h
            rw [CZ] at hr
            exact ⟨aA hs,hbx,aA hcl,dI.2 ⟨row,hr,aI hl,hK⟩⟩
           .cases h
          .cases h
         .cases h
        .cases h
       .cases h
      .cases h
     .cases h
    .cases h
   .cases h
  .cases h
 
 .split at h
  .rename_i a ha
   split at h
   .rename_i l hl
    split at h
    .rename_i off ag sz hk
     split at h
     .rename_i hz
      refine dI.2 ⟨a,eP hf ha,dI.2 ⟨_,(hT.fl.get hl).get hk,fun e=>by rw [show sz=0 from e] at hz;simp at hz,?_⟩⟩
      split at h
      .simp only [au] at h;subst h;exact hK
      .simp only [au] at h;subst h;exact hK
      .cases h
     .cases h
    .cases h
   .cases h
  .cases h
 
 .split at h
  .rename_i cs ha
   split at h
   .rename_i l hl
    split at h
    .rename_i off tt hk
     split at h
     .rename_i v hv
      simp only [au] at h;subst h
      exact dI.2 ⟨_,eP hf ha,dI.2 ⟨_,(hT.fl.get hl).get hk,J3 hv hK⟩⟩
     .cases h
    .cases h
   .cases h
  .cases h
 
 .split at h
  .rename_i vs ha
   split at h
   .rename_i v hv
    simp only [au] at h;subst h
    rw [CZ] at hv
    exact dI.2 ⟨_,eP hf ha,dI.2 ⟨v,hv,hK⟩⟩
   .cases h
  .cases h
 
 .split at h
  .rename_i a ha
   split at h
   .rename_i b hb
    split at h
    .rename_i v hv
     simp only [au] at h;subst h
     exact dI.2 ⟨_,eP hf ha,dI.2 ⟨_,eP hf hb,.inl (aeZ hv hK)⟩⟩
    .cases h
   .cases h
  .cases h
 
 .split at h
  .rename_i a ha
   split at h
   .rename_i v hv
    simp only [au] at h;subst h
    exact dI.2 ⟨_,eP hf ha,ahf hv hK⟩
   .cases h
  .cases h
 
 .split at h
  .rename_i ha;simp only [au] at h;subst h;exact dI.2 ⟨_,eP hf ha,hK⟩
  .rename_i ha;simp only [au] at h;subst h;exact dI.2 ⟨_,eP hf ha,hK⟩
  .cases h
 
 .split at h
  .rename_i ps hp
   split at h
   .rename_i z hz
    split at h
    .rename_i pl hpl
     split at h
     .rename_i cs hc
      simp only [au] at h;subst h
      have h1:=hT.pl.get hpl
      exact dI.2 ⟨_,Iz hf hp,dI.2 ⟨z,(hT.ze.get hz).1,dI.2 ⟨_,h1,dI.2 ⟨cs,acr (fun k=>CZ.symm) hc,hK⟩⟩⟩⟩
     .cases h
    .cases h
   .cases h
  .cases h
 
 .split at h
  .rename_i v hv
   split at h
   .rename_i hb
    simp only [au] at h;subst h
    exact dI.2 ⟨v,eP hf hv,hb,hK⟩
   .cases h
  .cases h
 
 .split at h
  .rename_i z hz
   simp only [au] at h;subst h
   exact .inl (dI.2 ⟨z,(hT.ze.get hz).1,by rw [(hT.ze.get hz).2];exact hK⟩)
  .cases h
 
 .split at h
  .rename_i a ha
   split at h
   .rename_i b hb
    simp only [au] at h;subst h
    exact dI.2 ⟨_,mG hf ha,dI.2 ⟨_,mG hf hb,hK⟩⟩
   .cases h
  .cases h
 
 .split at h
  .rename_i x hx
   split at h
   .rename_i t ht
    refine dI.2 ⟨_,mG hf hx,dI.2 ⟨t,ht,?_⟩⟩
    split at h
    .split at h
     .rename_i e he;simp only [au] at h;subst h;exact acg (hT.se.get he).1 _ hK
     .cases h
    .split at h
     .rename_i e he;simp only [au] at h;subst h;exact RS (hT.se.get he).1 _ hK
     .cases h
    .split at h
     .rename_i e he;simp only [au] at h;subst h;exact aeN (hT.st.get he) _ hK
     .cases h
    .cases h
   .cases h
  .cases h
 .cases h
end
end Go.Fw
end
section
namespace Go.Fw
variable [iZ]
section
variable {P : Program} {T:Gt} {ops:Array Oper} {N nx:Nat} {M:MT} {ah:AH} {Q:MQ} {rest:List Oper} {d:Option Tmp} {op:Op} {ty:TypeId} {pos:String} {lZ:Array Edge} {g:Option (Nat×Bool)}
def WL (P:Program)(ops:Array Oper)(l:List Oper)(N:Nat)(M:MT)(ah:AH)(nx:Nat)(Q:MQ):Prop:=∀i,ops.toList.drop i=l->tJ P ops i N M ah nx Q
theorem aoG {o:Oper}{i:Nat}(h:ops.toList.drop i=o::rest):ops[i]?=some o/\ops.toList.drop (i+1)=rest:=by
 have h1:(ops.toList.drop i)[0]?=some o:=by rw [h];rfl
 rw [List.getElem?_drop] at h1
 refine ⟨by simpa using h1,?_⟩
 have h2:(ops.toList.drop i).drop 1=rest:=by rw [h];rfl
 rw [List.drop_drop] at h2
 exact h2
theorem krg {id:Nat}{y:Code}(h:WL P ops ops.toList N M ah nx (qp (fun M ah nx=>mJ P y N M ah nx Q) Q)):mJ P (.seq (.region id ops false) y) N M ah nx Q:=fA (dR (h 0 rfl))
theorem aiT {id:Nat}(h:WL P ops ops.toList N M ah nx Q):mJ P (.region id ops false) N M ah nx Q:=dR (h 0 rfl)
theorem ksq {x y:Code}(h:mJ P x N M ah nx (qp (fun M ah nx=>mJ P y N M ah nx Q) Q)):mJ P (.seq x y) N M ah nx Q:=fA h
theorem ken {y:Code}{Q':MQ}(h:mJ P y N M ah nx Q):WL P ops [] N M ah nx (qp (fun M ah nx=>mJ P y N M ah nx Q) Q'):=fun i hi=>dU (Nat.ble_eq_true_of_le (by have:=congrArg List.length hi;simp at this;omega)) h
theorem ak3 (h:Q .normal M ah nx):WL P ops [] N M ah nx Q:=fun i hi=>dU (Nat.ble_eq_true_of_le (by have:=congrArg List.length hi;simp at this;omega)) h
theorem ahg [zH P T]{v:AV}{wr:List (Nat×Option pI)}{rd:List Nat}(hr:opF T nx M ah op=some ⟨v,wr,rd⟩)(hg:gK ops M g=some true)(hd:mX N d=true)
  (h:WL P ops rest N (iW M d v) (lJ ah wr) (nx+1) Q):WL P ops (⟨d,op,ty,pos,lZ,g⟩::rest) N M ah nx Q:=fun i hi=>
 let ⟨h1,h2⟩:=aoG hi
 nZ h1 (RU hg) hd fun fr hf=>XH hf hr (h _ h2)
theorem kst [zH P T]{t:Nat}{v:AV}{rd:List Nat}(h:WL P ops rest N ((t,v)::M) ah (nx+1) Q)(hr:opF T nx M ah op=some ⟨v,[],rd⟩:=by exact rfl)(hg:gK ops M g=some true:=by exact rfl)(hd:Nat.blt t N=true:=by exact rfl):WL P ops (⟨some t,op,ty,pos,lZ,g⟩::rest) N M ah nx Q:=ahg hr hg hd h
theorem knb [zH P T]{t b:Nat}{v:AV}{k:Option pI}{rd:List Nat}(h:WL P ops rest N ((t,v)::M) (upd ah b k) (nx+1) Q)(hr:opF T nx M ah op=some ⟨v,[(b,k)],rd⟩:=by exact rfl)(hg:gK ops M g=some true:=by exact rfl)(hd:Nat.blt t N=true:=by exact rfl):WL P ops (⟨some t,op,ty,pos,lZ,g⟩::rest) N M ah nx Q:=ahg hr hg hd h
theorem kss [zH P T]{b:Nat}{v:AV}{k:Option pI}{rd:List Nat}(h:WL P ops rest N M (upd ah b k) (nx+1) Q)(hr:opF T nx M ah op=some ⟨v,[(b,k)],rd⟩:=by exact rfl)(hg:gK ops M g=some true:=by exact rfl):WL P ops (⟨none,op,ty,pos,lZ,g⟩::rest) N M ah nx Q:=ahg hr hg rfl h
theorem kno {t:Nat}(h:WL P ops rest N ((t,.p undef)::M) ah nx Q)(hg:gK ops M g=some false:=by exact rfl)(hd:Nat.blt t N=true:=by exact rfl):WL P ops (⟨some t,op,ty,pos,lZ,g⟩::rest) N M ah nx Q:=fun i hi=>
 let ⟨h1,h2⟩:=aoG hi
 RP h1 (ak2 hg) hd (h _ h2)
theorem FA.at {t:Nat}{b c:Bool}{fr:nP}(hf:FA N M fr)(hb:fD M t=some (.p (.bool b)))(h:b=c):FA N ((t,.p (.bool c))::M) fr:=by
 subst h
 refine ⟨hf.len,fun u a hu=>?_⟩
 simp only [fD] at hu
 split at hu
 .rename_i he
  obtain rfl:=aA he
  rw [<- hu];exact (hf.get _ _ hb).trans (by rw [hu])
 .exact hf.get u a hu
theorem WL.at {t:Nat}{b:Bool}{l:List Oper}(hb:fD M t=some (.p (.bool b)))(h1:b=true->WL P ops l N ((t,.p (.bool true))::M) ah nx Q)(h2:b=false->WL P ops l N ((t,.p (.bool false))::M) ah nx Q):WL P ops l N M ah nx Q:=fun i hi fr hf=>by
 cases e:b with
 |true=>exact h1 e i hi fr (hf.at hb e)
 |false=>exact h2 e i hi fr (hf.at hb e)
class BO (l:List AV):Prop where h:jZ l=true
 mutual
def nf : AV->AV
  | .agg cs=>.agg (Us cs)
  | .kS cs=>.kS (Us cs)
  | .sl rows _=>.sl rows false
  |a=>a
def Us : List AV->List AV
  |[]=>[]
  |a::r=>nf a::Us r
end
 mutual
theorem XI {ah:AH}:∀{a:AV},(nf a).fz=true->ny ah a=some (nf a)
  | .agg cs,h=>by simp only [ny,nf,FX (ah:=ah) (l:=cs) h];rfl
  | .kS cs,h=>by simp only [ny,nf,FX (ah:=ah) (l:=cs) h];rfl
  | .sl rows full,h=>by
   simp only [nf,AV.fz,bG,Bool.true_and] at h
   simp only [ny,nf,Nl (ah:=ah) h];rfl
  | .p _,h=>qg h
  | .str _,h=>qg h
  | .nan,h=>qg h
  | .vp row _,h=>qg h
  | .fn _ x y,h=>qg h
  | .wI _ v,h=>qg h
  | .os ..,h=>by simp [nf,AV.fz] at h
  | .op ..,h=>by simp [nf,AV.fz] at h
  | .mp _,h=>by simp [nf,AV.fz] at h
theorem FX {ah:AH}:∀{l:List AV},jZ (Us l)=true->kN ah l=some (Us l)
  |[],_=>rfl
  |a::r,h=>by simp only [Us,jZ,ay] at h;simp only [kN,Us,XI (ah:=ah) h.1,FX (ah:=ah) h.2];rfl
end
 mutual
theorem acs : ∀{a:AV},(nf a).fz=true->a.clean=true
  | .agg cs,h=>vH (l:=cs) h
  | .kS cs,h=>vH (l:=cs) h
  | .sl rows full,h=>by
   simp only [nf,AV.fz,bG,Bool.true_and] at h
   exact rZ h
  | .p _,h=>oL h
  | .str _,h=>oL h
  | .nan,h=>oL h
  | .vp row _,h=>oL h
  | .fn _ x y,h=>oL h
  | .wI _ v,h=>oL h
  | .os ..,h=>by simp [nf,AV.fz] at h
  | .op ..,h=>by simp [nf,AV.fz] at h
  | .mp _,h=>by simp [nf,AV.fz] at h
theorem vH : ∀{l:List AV},jZ (Us l)=true->jY l=true
  |[],_=>rfl
  |a::r,h=>by simp only [Us,jZ,ay] at h;simp only [jY,acs h.1,vH h.2,Bool.and_self]
end
theorem kD {α:Type}{f:α->List AV}{l:List α}:pW (List.map f l)=(l.length:Int):=by simp only [pW,dB]
theorem n_ {a b:Int}:(dV a b=true)=(a=b):=by simp [dV]
theorem og {a b:Int}:(dV a b=false)=¬a=b:=by simp [dV]
theorem oh {a b:Int}:(iO a b=true)=¬a=b:=by simp [iO]
theorem oq {a b:Int}:(iO a b=false)=(a=b):=by simp [iO]
theorem yK {b:Bool}:((!b)=true)=(b=false):=by cases b<;>simp
theorem yL {b:Bool}:((!b)=false)=(b=true):=by cases b<;>simp
theorem kt {b:Bool}(h:(!b)=false):b=true:=by simpa using h
theorem ksk {y:Code}{Q':MQ}(h:mJ P y N M ah nx Q):mJ P .skip N M ah nx (qp (fun M ah nx=>mJ P y N M ah nx Q) Q'):=nJ h
theorem ae0 {id:Nat}:MIn id Q (.exit id) M ah nx=Q .normal M ah nx:=by simp only [MIn,Nat.beq_refl]
theorem aiU {id:Nat}:MIn id Q .normal M ah nx=Q .normal M ah nx:=rfl
theorem aiV {id:Nat}:MIn id Q .ret M ah nx=Q .ret M ah nx:=rfl
theorem ae1 {K:MT->AH->Nat->Prop}:qp K Q .normal M ah nx=K M ah nx:=rfl
theorem ae2 {K:MT->AH->Nat->Prop}:qp K Q .ret M ah nx=Q .ret M ah nx:=rfl
theorem ae3 {K:MT->AH->Nat->Prop}{id:Nat}:qp K Q (.exit id) M ah nx=Q (.exit id) M ah nx:=rfl
variable {K V W:List Nat} {U:List qF} {iG i tp:Nat}
def WX (P:Program)(ops:Array Oper)(K:List Nat)(iG i tp:Nat)(l:List Oper)(N:Nat)(V W:List Nat)(U:List qF)(M:MT)(ah:AH)(Q:MQ):Prop:=(ops.toList.take tp).drop i=l->yJ P ops K iG i tp N V W U M ah Q
def apB (K:List Nat)(i:Nat)(rd wr:List Nat)(U:List qF):Bool:=U.all fun f=>(K.getD i 0).testBit f.i||(f.wr.all (fun b=>!rd.contains b&&!wr.contains b)&&f.rd.all fun b=>!wr.contains b)
theorem acu {rd wr:List Nat}(h:apB K i rd wr U=true):∀f∈U,EF K i rd wr f:=fun f hf=>by
 have h1:=aJ.1 h f hf
 simp only [bC,ay,aJ,Bool.not_eq_true',List.contains_eq_mem,decide_eq_false_iff_not] at h1
 exact h1.imp id fun ⟨h2,h3⟩=>⟨fun b hb=>h2 b hb,fun b hb=>h3 b hb⟩
def RV (n:Nat)(l:List Nat):Bool:=l.all fun b=>Nat.blt b n
theorem Hq {o:Oper}{l:List Oper}(h:l.drop i=o::rest):l[i]?=some o/\l.drop (i+1)=rest:=by
 have h1:(l.drop i)[0]?=some o:=by rw [h];rfl
 rw [List.getElem?_drop] at h1
 refine ⟨by simpa using h1,?_⟩
 have h2:(l.drop i).drop 1=rest:=by rw [h];rfl
 rw [List.drop_drop] at h2
 exact h2
theorem kdr [hT:zH P T]{id:Nat}{y:Code}(h:WX P ops (aoI ops.toList []) nx 0 ops.size ops.toList N [] [] [] M ah (qp (fun M ah nx=>mJ P y N M ah nx Q) Q))(he:uw ops=true:=by kernel_rfl)(hsl:zS ops (aoI ops.toList [])=true:=by kernel_rfl):mJ P (.seq (.region id ops true) y) N M ah nx Q:=
 fA (qA hT.mx _ rfl he hsl (h (by rw [List.drop_zero,List.take_of_length_le (by simp)])))
theorem ak4 [hT:zH P T]{id:Nat}(h:WX P ops (aoI ops.toList []) nx 0 ops.size ops.toList N [] [] [] M ah Q)(he:uw ops=true:=by kernel_rfl)(hsl:zS ops (aoI ops.toList [])=true:=by kernel_rfl):mJ P (.region id ops true) N M ah nx Q:=
 qA hT.mx _ rfl he hsl (h (by rw [List.drop_zero,List.take_of_length_le (by simp)]))
theorem xen {y:Code}{Q':MQ}(h:mJ P y N M ah (iG+tp) Q):WX P ops K iG i tp [] N V W U M ah (qp (fun M ah nx=>mJ P y N M ah nx Q) Q'):=fun hi=>by
 intro fr fs hf hfs
 rw [hi]
 exact ⟨M,hf,h⟩
theorem ak5 (h:Q .normal M ah (iG+tp)):WX P ops K iG i tp [] N V W U M ah Q:=fun hi=>by
 intro fr fs hf hfs
 rw [hi]
 exact ⟨M,hf,h⟩
theorem aiW [zH P T]{v:AV}{wr:List (Nat×Option pI)}{rd:List Nat}(hr:opF T (iG+i) M ah op=some ⟨v,wr,rd⟩)(hg:gK ops M g=some true)(hd:mX N d=true)(hap:apB K i rd (wr.map (·.1)) U=true)(hb:(RV (iG+(i+1)) rd&&RV (iG+(i+1)) (wr.map (·.1)))=true)
  (h:WX P ops K iG (i+1) tp rest N (i::V) (i::W) (⟨i,rd,wr.map (·.1)⟩::U) (iW M d v) (lJ ah wr) Q):WX P ops K iG i tp (⟨d,op,ty,pos,lZ,g⟩::rest) N V W U M ah Q:=fun hi=>by
 obtain ⟨h1,h2⟩:=Hq hi
 simp only [ay,RV,aJ] at hb
 exact CY (i::V) (i::W) (⟨i,rd,wr.map (·.1)⟩::U) h1 (RU hg) hd (fun fr hf K' hK=>XH hf hr hK) (fun f h0 _ _ _ _=>acu hap f h0) (fun b hm=>by simpa using hb.1 b hm) (fun b hm=>by simpa using hb.2 b hm)
  (fun j hj=>aQ _ hj) (fun j hj=>aQ _ hj) (fun j hj=>aQ _ hj) (.inr ⟨bD,bD,.inr bD⟩) (h h2)
theorem xnb [zH P T]{t b:Nat}{v:AV}{k:Option pI}{rd:List Nat}(h:WX P ops K iG (i+1) tp rest N (i::V) (i::W) (⟨i,rd,[b]⟩::U) ((t,v)::M) (upd ah b k) Q)(hr:opF T (iG+i) M ah op=some ⟨v,[(b,k)],rd⟩:=by exact rfl)(hg:gK ops M g=some true:=by exact rfl)(hd:Nat.blt t N=true:=by exact rfl)
 (hap:apB K i rd [b] U=true:=by kernel_rfl) (hb:(RV (iG+(i+1)) rd&&RV (iG+(i+1)) [b])=true:=by kernel_rfl):WX P ops K iG i tp (⟨some t,op,ty,pos,lZ,g⟩::rest) N V W U M ah Q:=aiW hr hg hd hap hb h
theorem xss [zH P T]{b:Nat}{v:AV}{k:Option pI}{rd:List Nat}(h:WX P ops K iG (i+1) tp rest N (i::V) (i::W) (⟨i,rd,[b]⟩::U) M (upd ah b k) Q)(hr:opF T (iG+i) M ah op=some ⟨v,[(b,k)],rd⟩:=by exact rfl)(hg:gK ops M g=some true:=by exact rfl)
 (hap:apB K i rd [b] U=true:=by kernel_rfl) (hb:(RV (iG+(i+1)) rd&&RV (iG+(i+1)) [b])=true:=by kernel_rfl):WX P ops K iG i tp (⟨none,op,ty,pos,lZ,g⟩::rest) N V W U M ah Q:=aiW hr hg rfl hap hb h
theorem WX.at {t:Nat}{b:Bool}{l:List Oper}(hb:fD M t=some (.p (.bool b)))(h1:b=true->WX P ops K iG i tp l N V W U ((t,.p (.bool true))::M) ah Q)(h2:b=false->WX P ops K iG i tp l N V W U ((t,.p (.bool false))::M) ah Q):WX P ops K iG i tp l N V W U M ah Q:=fun hi fr fs hf hfs=>by
 cases e:b with
 |true=>exact h1 e hi fr fs (hf.at hb e) hfs
 |false=>exact h2 e hi fr fs (hf.at hb e) hfs
theorem kcd {c:Operand}{x y:Code}{t:Bool}(h1:t=true->mJ P x N M ah nx Q)(h2:t=false->mJ P y N M ah nx Q)(hc:lI M c=some (.p (.bool t)):=by exact rfl):mJ P (.cond c x y) N M ah nx Q:=jT hc h1 h2
def rsF (T:Gt)(M:MT)(ah:AH):List ResultVar->Option (List AV)
 |[]=>some []
 | .tmp t::r=>(match fD M t with|some a=>(match rsF T M ah r with|some l=>some (a::l)|none=>none)|none=>none)
 | .cell t ty::r=>(match fD M t with
  |some a=>(match tN ty T.ty with
   |some tt=>(match ldF ah tt a with|some s=>(match rsF T M ah r with|some l=>some (s.v::l)|none=>none)|none=>none)
   |none=>none)
  |none=>none)
theorem ahh {tt:Bool×Nat}{a:AV}{s:nT}(h:ldF ah tt a=some s){K:nT->Prop}(hK:K s){t:TypeId}(ht:qI P t=some tt):Ia P ah t a K:=by
 refine dI.2 ⟨tt,ht,?_⟩
 unfold ldF at h
 split at h
 .split at h
  .rename_i v hv;simp only [au] at h;subst h;exact J3 hv hK
  .cases h
 .rename_i b sz j off
  dsimp only
  split at h
  .rename_i sz' rs hb
   rw [hb]
   dsimp only
   split at h
   .rename_i hs
    split at h
    .rename_i row hr
     split at h
     .rename_i v hv
      simp only [au] at h;subst h
      rw [CZ] at hr
      exact ⟨aA hs,dI.2 ⟨row,hr,J3 hv hK⟩⟩
     .cases h
    .cases h
   .cases h
  .cases h
 .cases h
theorem RX [hT:zH P T]{fr:nP}(hf:FA N M fr):∀{l:List ResultVar} {az:List AV},rsF T M ah l=some az->∀{K:List AV->Prop},K az->tX P fr ah l K
 |[],az,h,K,hK=>by
  simp only [rsF,au] at h
  subst h;exact hK
 | .tmp t::r,az,h,K,hK=>by
  simp only [rsF] at h
  split at h
  .rename_i a ha
   split at h
   .rename_i l hl
    simp only [au] at h;subst h
    exact dI.2 ⟨a,hf.get _ _ ha,RX hf hl hK⟩
   .cases h
  .cases h
 | .cell t ty::r,az,h,K,hK=>by
  simp only [rsF] at h
  split at h
  .rename_i a ha
   split at h
   .rename_i tt ht
    split at h
    .rename_i s hs
     split at h
     .rename_i l hl
      simp only [au] at h;subst h
      exact dI.2 ⟨a,hf.get _ _ ha,ahh hs (RX hf hl hK) (hT.ty.get ht)⟩
     .cases h
    .cases h
   .cases h
  .cases h
def KRQ (T:Gt)(res:List ResultVar)(r:AV):MQ:=fun e M ah nx=>(e=.normal\/e=.ret)/\∃az,rsF T M ah res=some az/\ny (vP ah aoK) (one az)=some r
theorem mF [zH P T]{f:FuncId}{fn:Func}{c:Code}{args:List AV}{r:AV}{M:MT}(hf:P.funcs[f]?=some fn)(h:mJ P c fn.ntmps M (fun _=>none) 0 (KRQ T fn.results.toList r))(hM:AL args M)(hb:fn.body=some c:=by exact rfl)(hname:fn.name≠ "runtime.NumGoroutine" :=by decide) (hn:Nat.ble args.length fn.ntmps=true:=by exact rfl):PC P f args r:=
 ach hf hb hname (aI hn) hM h fun e M fr ah nx hfa hq=>⟨hq.1,let ⟨az,h1,h2⟩:=hq.2;RX hfa h1 h2⟩
theorem kre {res:List ResultVar}{r:AV}{az:List AV}(hr:nf (one az)=r)(hz:r.fz=true)(hx:rsF T M ah res=some az:=by exact rfl):KRQ T res r .ret M ah nx:=⟨.inr rfl,az,hx,by rw [<- hr];exact XI (by rw [hr];exact hz)⟩
end
end Go.Fw
namespace Go.Fw
theorem ak7 {P:Program}{t sz:Nat}(h:(kU P t).map (fun e=>(e.1,Nat.ble e.2 4096))=some (sz,true)):∃b,kU P t=some (sz,b)/\b<=4096:=by
 simp only [aB,aO] at h
 obtain ⟨⟨a,b⟩,h1,rfl,h2⟩:=h
 exact ⟨b,h1,aI h2⟩
end Go.Fw
namespace Go.Fw
class BP (a:AV):Prop where h:a.fz=true
class KR {α:Type}(f:α->List AV):Prop where h:∀x,jZ (f x)=true
instance {v : Value}:BP (.p v):=⟨rfl⟩
instance {s : List UInt8}:BP (.str s):=⟨rfl⟩
instance {l : List AV} [h:BO l]:BP (.agg l):=⟨h.h⟩
instance {l : List AV} [h:BO l]:BP (.kS l):=⟨h.h⟩
instance {α : Type} {f:α->List AV} [h:KR f] {l:List α}:BP (.sl (List.map f l) false):=⟨WV h.h l⟩
instance : BO []:=⟨rfl⟩
instance {a : AV} {l:List AV} [h:BP a] [k:BO l]:BO (a::l):=⟨fM h.h k.h⟩
instance (priority :=low) {α:Type} {f:α->List AV} [h:KR f] {x:α}:BO (f x):=⟨h.h x⟩
end Go.Fw
namespace Go.Fw
theorem aC {α:Type}{p:Nat->α->Prop}{k:Nat}{v:α}{l:List (Nat×α)}(t:nV p l)(h:p k v:=by first|kernel_rfl|(dsimp only;kernel_rfl)):nV p ((k,v)::l):=⟨h,t⟩
theorem aF {P:Program}{s:Nat}{v:List (Nat×Nat×Bool×Nat)}{l:List (Nat×List (Nat×Nat×Bool×Nat))}(h:nV (fun k v=>rP P s k=some v) v)(t:nV (fun s l=>nV (fun k v=>rP P s k=some v) l) l):nV (fun s l=>nV (fun k v=>rP P s k=some v) l) ((s,v)::l):=⟨h,t⟩
theorem aZ {P:Program}{t:Nat}{z:List AV}{l:List (Nat×List AV)}(r:nV (fun t z=>aoH P t=some z/\ao6 P t=false) l)(h:aoH P t=some z:=by kernel_rfl)(h2:ao6 P t=false:=by kernel_rfl):nV (fun t z=>aoH P t=some z/\ao6 P t=false) ((t,z)::l):=⟨⟨h,h2⟩,r⟩
theorem aS {P:Program}{t el sz:Nat}{l:List (Nat×Nat×Nat)}(r:nV (fun t e=>P.underlying t=some (.slice e.1)/\∃b,kU P t=some (e.2,b)/\b<=4096) l)(h:P.underlying t=some (.slice el):=by kernel_rfl)(h2:(kU P t).map (fun e=>(e.1,Nat.ble e.2 4096))=some (sz,true):=by kernel_rfl) :
 nV (fun t e=>P.underlying t=some (.slice e.1)/\∃b,kU P t=some (e.2,b)/\b<=4096) ((t,el,sz)::l):=⟨⟨h,ak7 h2⟩,r⟩
end Go.Fw
end
section
namespace Go.Fw
variable [iZ]
section
variable {P : Program} {T:Gt} {N nx:Nat} {M:MT} {ah:AH} {Q:MQ}
def Gh (N:Nat)(M:MT):nP:=(List.range N).map (fD M)
theorem Vl : ∀{fr:nP} {t:Nat},ji fr t=(fr[t]?).bind id
 |[],t=>by cases t<;>rfl
 |x::r,0=>by cases x<;>rfl
 |x::r,t+1=>by
  have:=Vl (fr:=r) (t:=t)
  simpa [ji] using this
theorem IG {t:Nat}:ji (Gh N M) t=if t<N then fD M t else none:=by
 rw [Vl]
 unfold Gh
 rw [bV]
 by_cases h:t<N
 .rw [if_pos h,List.getElem?_range h];rfl
 .rw [if_neg h,bT (by simpa using h)];rfl
theorem FA.lt {fr:nP}(h:FA N M fr){t:Nat}{a:AV}(ht:fD M t=some a):t<N:=by
 have:=Ig (h.get t a ht)
 rwa [h.len] at this
theorem FA.of {fr:nP}(h:FA N M fr):FA N M (Gh N M):=⟨by simp [Gh],fun t a ht=>by rw [IG,if_pos (h.lt ht)];exact ht⟩
def II (l:List (Nat×pI)):AH:=fun k=>tN k l
def C9 (l:List (Nat×pI))(ah:AH):Prop:=nV (fun k b=>ah k=some b) l
def wS (nx:Nat)(M:MT):Prop:=nV (fun _ a=>∀b∈a.refs,b<nx) M
def Bg (nx:Nat)(l:List (Nat×pI)):Prop:=nV (fun k b=>k<nx/\∀x∈b.vW,x<nx) l
theorem NJ {p:Nat->AV->Prop}:∀{M:MT} {t:Nat} {a:AV},nV p M->fD M t=some a->p t a
 |(k,v)::r,t,a,⟨h1,h2⟩,h=>by
  simp only [fD] at h
  split at h
  .rename_i hb
   obtain rfl:=aA hb
   simp only [au] at h;subst h
   exact h1
  .exact NJ h2 h
class RfA (nx:Nat)(a:AV):Prop where h:∀b∈a.refs,b<nx
end
end Go.Fw
namespace Go.Fw
variable [iZ]
section
variable {P : Program} {T:Gt} {N nx:Nat} {M:MT} {ah:AH} {Q:MQ}
theorem EO : ∀{A B:MT},wS nx A->wS nx B->wS nx (A++B)
 |[],_,_,h=>h
 |_::_,_,⟨h1,h2⟩,h=>⟨h1,EO h2 h⟩
theorem Ea {b sz i o:Nat}(h:Nat.blt b nx=true):∀x∈(AV.op b sz i o).refs,x<nx:=fun x hx=>by
 simp only [AV.refs,bZ] at hx
 subst hx;simpa using h
theorem rfB {b:pI}{k:Nat}(h:Nat.blt k nx=true)(hb:∀x∈b.vW,x<nx):k<nx/\∀x∈b.vW,x<nx:=⟨by simpa using h,hb⟩
class ahi (rs:List (List AV)):Prop where h:Nk rs=true
instance : ahi []:=⟨rfl⟩
instance {r : List AV} {rs:List (List AV)} [h:BO r] [k:ahi rs]:ahi (r::rs):=⟨by simp only [Nk,h.h,k.h,Bool.and_self]⟩
theorem acv : ∀{a:AV},a.fz=true->jZ a.cells=true
 | .agg cs,h=>h
 | .p v,h=>rfl
 | .str s,h=>rfl
 | .nan,h=>rfl
 | .kS cs,h=>by simpa [AV.cells,jZ] using h
 | .sl ..,h=>by simpa [AV.cells,jZ] using h
 | .vp ..,h=>by simpa [AV.cells,jZ] using h
 | .fn ..,h=>by simpa [AV.cells,jZ] using h
 | .wI ..,h=>by simpa [AV.cells,jZ] using h
 | .os ..,h=>by simp [AV.fz] at h
 | .op ..,h=>by simp [AV.fz] at h
 | .mp _,h=>by simp [AV.fz] at h
instance {a : AV} [h:BP a]:BO a.cells:=⟨acv h.h⟩
end
end Go.Fw
end
