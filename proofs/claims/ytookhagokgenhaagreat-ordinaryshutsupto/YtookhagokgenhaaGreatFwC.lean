
import Derived.Test.YtookhagokgenhaaGreatFwB
set_option linter.unusedVariables false
set_option linter.unusedSimpArgs false
set_option linter.unusedSectionVars false
set_option linter.unnecessarySimpa false
section
namespace Go.Fw
variable [jK]
inductive D where
 |b (v:Bool)
 |i (v:Int)
 |f (v:Nat)
 |s (v:List UInt8)
 |r (v:List (List AV))
def D.B : D->Bool | .b v=>v|_=>false
def D.I : D->Int | .i v=>v|_=>0
def D.F : D->Nat | .f v=>v|_=>0
def D.S : D->List UInt8 | .s v=>v|_=>[]
def D.R : D->List (List AV) | .r v=>v|_=>[]
def AV.D : AV->D
 | .p (.bool v)=>.b v
 | .p (.int _ n)=>.i n
 | .p (.float _ n)=>.f n
 | .str l=>.s l
 | .sl rows _=>.r rows
 |_=>.b false
inductive Kd where
 |bool
 |int (k:IntKind)
 |kJ
 |str
 |sl
 deriving DecidableEq
def Kd.av : Kd->D->AV
 | .bool,d=>.p (.bool d.B)
 | .int k,d=>.p (.int k d.I)
 | .kJ,d=>.p (.float .f64 d.F)
 | .str,d=>.str d.S
 | .sl,d=>.sl d.R false
inductive Tm where
 |lb (v:Bool)
 |li (v:Int)
 |lf (v:Nat)
 |ls (v:List UInt8)
 |nl
 |var (i:Nat) (p:List Nat)
 |bin (o:BinOp) (k:Kd) (x y:Tm)
 |not (x:Tm)
 |and (x y:Tm)
 |or (x y:Tm)
 |ite (c x y:Tm)
 |neg (k:Kd) (x:Tm)
 |com (k:IntKind) (x:Tm)
 |conv (k:IntKind) (x:Tm)
 |toF (x:Tm)
 |YW (x:Tm)
 |slen (x:Tm)
 |rlen (x:Tm)
 |byte (x i:Tm)
 |GL (x lo hi:Tm)
 |bts (x:Tm)
 |sbs (x:Tm)
def Xj (row:List AV):UInt8:=(awU row).getD 0
def axq (b:UInt8):List AV:=[.p (.int .u8 b.toNat)]
def eu : AV:=.p undef
def awJ : AV->List Nat->AV
 |a,[]=>a
 | .agg l,j::p=>awJ (l.getD j eu) p
 | .eG l,j::p=>awJ (l.getD j eu) p
 |_,_=>eu
def pz (o:BinOp)(k:Kd)(x y:D):D:=
 match k with
 | .int k=>
  match o with
  | .add=>.i (dZ k x.I y.I)
  | .sub=>.i (jk k x.I y.I)
  | .mul=>.i (YT k x.I y.I)
  | .quo=>.i (LW k x.I y.I)
  | .rem=>.i (LX k x.I y.I)
  | .and=>.i (jw k x.I y.I)
  | .or=>.i (YU k x.I y.I)
  | .xor=>.i (arH k x.I y.I)
  | .andNot=>.i (mM k x.I y.I)
  | .shl=>.i (arI k x.I y.I)
  | .shr=>.i (iZ k x.I y.I)
  | .eql=>.b (dS x.I y.I)
  | .neq=>.b (iK x.I y.I)
  | .lss=>.b (decide (x.I<y.I))
  | .leq=>.b (decide (x.I<=y.I))
  | .gtr=>.b (decide (x.I > y.I))
  | .geq=>.b (decide (x.I>=y.I))
 | .kJ=>
  match o with
  | .add=>.f ((FloatKind.f64.format.add x.F y.F).getD 0)
  | .sub=>.f ((FloatKind.f64.format.sub x.F y.F).getD 0)
  | .mul=>.f ((FloatKind.f64.format.mul x.F y.F).getD 0)
  | .quo=>.f ((FloatKind.f64.format.div x.F y.F).getD 0)
  | .eql=>.b (fEq x.F y.F)
  | .neq=>.b (KH x.F y.F)
  | .lss=>.b (fLt x.F y.F)
  | .leq=>.b (Xi x.F y.F)
  | .gtr=>.b (fGt x.F y.F)
  | .geq=>.b (YV x.F y.F)
  |_=>.b false
 | .str=>
  match o with
  | .add=>.s (x.S++y.S)
  | .eql=>.b (DK x.S y.S)
  | .neq=>.b (sNe x.S y.S)
  | .lss=>.b (Op.bytesLess x.S y.S)
  | .leq=>.b (Op.bytesLess x.S y.S||decide (x.S=y.S))
  | .gtr=>.b (!(Op.bytesLess x.S y.S||decide (x.S=y.S)))
  | .geq=>.b (!Op.bytesLess x.S y.S)
  |_=>.b false
 | .bool=>
  match o with
  | .eql=>.b (NV x.B y.B)
  | .neq=>.b (bNe x.B y.B)
  |_=>.b false
 | .sl=>.b false
def Tm.den (ρ:List AV):Tm->D
 | .lb v=>.b v
 | .li v=>.i v
 | .lf v=>.f v
 | .ls v=>.s v
 | .nl=>.r []
 | .var i p=>(awJ (ρ.getD i eu) p).D
 | .bin o k x y=>pz o k (x.den ρ) (y.den ρ)
 | .not x=>.b (!(x.den ρ).B)
 | .and x y=>.b ((x.den ρ).B&&(y.den ρ).B)
 | .or x y=>.b ((x.den ρ).B||(y.den ρ).B)
 | .ite c x y=>match x.den ρ,y.den ρ with
  | .b x,.b y=>.b (bif (c.den ρ).B then x else y)
  | .i x,.i y=>.i (bif (c.den ρ).B then x else y)
  | .f x,.f y=>.f (bif (c.den ρ).B then x else y)
  | .s x,.s y=>.s (bif (c.den ρ).B then x else y)
  | .r x,.r y=>.r (bif (c.den ρ).B then x else y)
  |x,y=>bif (c.den ρ).B then x else y
 | .neg k x=>match k with | .int k=>.i (jk k 0 (x.den ρ).I)|_=>.f (Op.negFloat .f64 (x.den ρ).F)
 | .com k x=>.i (EX k (x.den ρ).I)
 | .conv k x=>.i (k.wrap (x.den ρ).I)
 | .toF x=>.f (FloatKind.f64.nearest (x.den ρ).I)
 | .YW x=>.i (((FloatKind.f64.decode (x.den ρ).F).toInt .zero).getD 0)
 | .slen x=>.i (sLen (x.den ρ).S)
 | .rlen x=>.i (mF (x.den ρ).R)
 | .byte x i=>.i (((x.den ρ).S.getD (i.den ρ).I.toNat 0).toNat:Int)
 | .GL x lo hi=>.s (((x.den ρ).S.drop (lo.den ρ).I.toNat).take ((hi.den ρ).I.toNat-(lo.den ρ).I.toNat))
 | .bts x=>.s ((x.den ρ).R.map Xj)
 | .sbs x=>.r ((x.den ρ).S.map axq)
theorem Tm.oP (ρ:List AV)(c x y:Tm):(Tm.ite c x y).den ρ=bif (c.den ρ).B then x.den ρ else y.den ρ:=by
 simp only [Tm.den]
 cases hc:(c.den ρ).B<;>cases hx:x.den ρ<;>cases hy:y.den ρ<;>rfl
def Tm.beq : Tm->Tm->Bool
 | .lb v,.lb w=>v == w
 | .li v,.li w=>decide (v=w)
 | .lf v,.lf w=>Nat.beq v w
 | .ls v,.ls w=>decide (v=w)
 | .nl,.nl=>true
 | .var i p,.var j q=>Nat.beq i j&&decide (p=q)
 | .bin o k x y,.bin o' k' x' y'=>decide (o=o')&&(decide (k=k')&&(x.beq x'&&y.beq y'))
 | .not x,.not x'=>x.beq x'
 | .and x y,.and x' y'=>x.beq x'&&y.beq y'
 | .or x y,.or x' y'=>x.beq x'&&y.beq y'
 | .ite c x y,.ite c' x' y'=>c.beq c'&&(x.beq x'&&y.beq y')
 | .neg k x,.neg k' x'=>decide (k=k')&&x.beq x'
 | .com k x,.com k' x'=>decide (k=k')&&x.beq x'
 | .conv k x,.conv k' x'=>decide (k=k')&&x.beq x'
 | .toF x,.toF x'=>x.beq x'
 | .YW x,.YW x'=>x.beq x'
 | .slen x,.slen x'=>x.beq x'
 | .rlen x,.rlen x'=>x.beq x'
 | .byte x i,.byte x' i'=>x.beq x'&&i.beq i'
 | .GL x l h,.GL x' l' h'=>x.beq x'&&(l.beq l'&&h.beq h')
 | .bts x,.bts x'=>x.beq x'
 | .sbs x,.sbs x'=>x.beq x'
 |_,_=>false
theorem Tm.beq_eq : ∀{x y:Tm},x.beq y=true->x=y:=by
 intro x
 induction x with
 |lb|li|lf|ls|nl|var=>intro y h;cases y<;>simp_all [Tm.beq]
 |bin o k x y ru ihy=>intro z h;cases z<;>simp [Tm.beq] at h;obtain ⟨rfl,rfl,h1,h2⟩:=h;rw [ru h1,ihy h2]
 |not x ih|toF x ih|YW x ih|slen x ih|rlen x ih|bts x ih|sbs x ih=>intro z h;cases z<;>simp [Tm.beq] at h;rw [ih h]
 |and x y ru ihy|or x y ru ihy|byte x y ru ihy=>intro z h;cases z<;>simp [Tm.beq] at h;rw [ru h.1,ihy h.2]
 |ite x y z i1 i2 i3|GL x y z i1 i2 i3=>intro u h;cases u<;>simp [Tm.beq] at h;rw [i1 h.1,i2 h.2.1,i3 h.2.2]
 |neg k x ih|com k x ih|conv k x ih=>intro z h;cases z<;>simp [Tm.beq] at h;obtain ⟨rfl,h1⟩:=h;rw [ih h1]
def NW {α:Type}(n:Nat)(k:Nat->α):α:=match n with|0=>k 0|m+1=>k (m+1)
theorem wE {α:Type}(n:Nat)(k:Nat->α):NW n k=k n:=by cases n<;>rfl
def YX {α:Type}(n:Int)(k:Int->α):α:=match n with | .ofNat m=>NW m fun m=>k (.ofNat m) | .negSucc m=>NW m fun m=>k (.negSucc m)
theorem Rk {α:Type}(n:Int)(k:Int->α):YX n k=k n:=by cases n<;>simp [YX,wE]
def Tm.JH : Tm->Option D
 | .lb v=>some (.b v)
 | .li v=>some (.i v)
 | .lf v=>some (.f v)
 | .ls v=>some (.s v)
 |_=>none
def Tm.ofD : D->Tm
 | .b v=>match v with|true=>.lb true|false=>.lb false
 | .i v=>YX v .li
 | .f v=>NW v .lf
 | .s v=>.ls v
 | .r _=>.nl
theorem Tm.DL {ρ:List AV}{t:Tm}{d:D}(h:t.JH=some d):t.den ρ=d:=by
 cases t<;>simp_all [Tm.JH,Tm.den]
theorem Tm.Jb {ρ:List AV}{d:D}(h:∀l,d≠.r l):(Tm.ofD d).den ρ=d:=by
 cases d with
 |b v=>cases v<;>rfl
 |i v=>simp [Tm.ofD,Rk,Tm.den]
 |f v=>simp [Tm.ofD,wE,Tm.den]
 |s v=>rfl
 |r l=>exact absurd rfl (h l)
theorem Xk (o:BinOp)(k:Kd)(x y:D)(l:List (List AV)):pz o k x y≠.r l:=by
 cases k<;>cases o<;>simp [pz]
def awQ (o:BinOp)(k:Kd)(x y:Tm):Tm:=
 match x.JH,y.JH with
 |some a,some b=>Tm.ofD (pz o k a b)
 |_,_=>.bin o k x y
theorem nS {ρ:List AV}{o k x y}:(awQ o k x y).den ρ=pz o k (x.den ρ) (y.den ρ):=by
 unfold awQ
 split
 .rename_i a b ha hb
  rw [Tm.Jb (Xk o k a b),Tm.DL ha,Tm.DL hb]
 .rfl
theorem D.BU (v:Bool):(D.b v).B=v:=rfl
def awY : Tm->Tm
 | .lb v=>.lb (!v)
 | .not x=>match x with
  | .bin o k a b=>.bin o k a b
  | .and a b=>.and a b
  | .or a b=>.or a b
  | .not a=>.not a
  |x=>.not (.not x)
 |x=>.not x
theorem nT {ρ:List AV}{x:Tm}:((awY x).den ρ).B=!(x.den ρ).B:=by
 unfold awY
 split
 .rfl
 .split<;>simp [Tm.den,D.BU]
 .simp [Tm.den,D.BU]
def anR (x y:Tm):Tm:=bif x.beq y then x else .and x y
def or2 (x y:Tm):Tm:=bif x.beq y then x else .or x y
theorem ahr {ρ:List AV}{x y:Tm}:((anR x y).den ρ).B=((x.den ρ).B&&(y.den ρ).B):=by
 unfold anR
 cases h:x.beq y
 .rfl
 .rw [Tm.beq_eq h];simp
theorem akF {ρ:List AV}{x y:Tm}:((or2 x y).den ρ).B=((x.den ρ).B||(y.den ρ).B):=by
 unfold or2
 cases h:x.beq y
 .rfl
 .rw [Tm.beq_eq h];simp
def aw7 (x y:Tm):Tm:=
 match x,y with
 | .lb true,y=>y
 | .lb false,_=>.lb false
 |x,.lb true=>x
 |x,.lb false=>.lb false
 |x,y=>anR x y
theorem vG {ρ:List AV}{x y:Tm}:((aw7 x y).den ρ).B=((x.den ρ).B&&(y.den ρ).B):=by
 unfold aw7
 split<;>simp [Tm.den,D.BU,ahr]
def axQ (x y:Tm):Tm:=
 match x,y with
 | .lb true,_=>.lb true
 | .lb false,y=>y
 |x,.lb true=>.lb true
 |x,.lb false=>x
 |x,y=>or2 x y
theorem HY {ρ:List AV}{x y:Tm}:((axQ x y).den ρ).B=((x.den ρ).B||(y.den ρ).B):=by
 unfold axQ
 split<;>simp [Tm.den,D.BU,akF]
def anS (c x y:Tm):Tm:=bif x.beq c then axQ c y else bif y.beq c then aw7 c x else .ite c x y
theorem ahs {ρ:List AV}{c x y:Tm}:((anS c x y).den ρ).B=bif (c.den ρ).B then (x.den ρ).B else (y.den ρ).B:=by
 unfold anS
 cases h1:x.beq c
 .simp only [cond_false]
  cases h2:y.beq c
  .simp only [cond_false,Tm.oP];cases (c.den ρ).B<;>rfl
  .simp only [cond_true];rw [Tm.beq_eq h2,vG];cases (c.den ρ).B<;>simp
 .simp only [cond_true];rw [Tm.beq_eq h1,HY];cases (c.den ρ).B<;>simp
def Rl (c x y:Tm):Tm:=
 match c with
 | .lb true=>x
 | .lb false=>y
 |c=>
 bif x.beq y then x else
 match x,y with
 | .lb true,.lb false=>c
 | .lb false,.lb true=>awY c
 |x,.lb false=>aw7 c x
 |x,.lb true=>axQ (awY c) x
 | .lb true,y=>axQ c y
 | .lb false,y=>aw7 (awY c) y
 |x,y=>anS c x y
theorem KI {ρ:List AV}{c x y:Tm}:((Rl c x y).den ρ).B=bif (c.den ρ).B then (x.den ρ).B else (y.den ρ).B:=by
 unfold Rl
 split
 .rfl
 .rfl
 .cases h:x.beq y
  .simp only [cond_false]
   split
   .simp [Tm.den,D.BU]
   .simp [nT,Tm.den,D.BU]
   .simp [vG,Tm.den,D.BU]
   .simp [HY,nT,Tm.den,D.BU]
   .simp [HY,nT,Tm.den,D.BU]
   .simp [vG,nT,Tm.den,D.BU]
   .exact ahs
  .simp only [cond_true];rw [Tm.beq_eq h];simp
def afq (c:Tm):Tm->Tm
 | .ite d x y=>bif d.beq c then x else .ite d x y
 |t=>t
def aht (c:Tm):Tm->Tm
 | .ite d x y=>bif d.beq c then y else .ite d x y
 |t=>t
theorem YZ {ρ:List AV}{c t:Tm}(h:(c.den ρ).B=true):(afq c t).den ρ=t.den ρ:=by
 unfold afq
 split
 .rename_i d x y
  cases hb:d.beq c
  .rfl
  .simp only [cond_true,Tm.oP];rw [Tm.beq_eq hb,h];rfl
 .rfl
theorem Y0 {ρ:List AV}{c t:Tm}(h:(c.den ρ).B=false):(aht c t).den ρ=t.den ρ:=by
 unfold aht
 split
 .rename_i d x y
  cases hb:d.beq c
  .rfl
  .simp only [cond_true,Tm.oP];rw [Tm.beq_eq hb,h];rfl
 .rfl
def akG (c x y:Tm):Tm:=bif (afq c x).beq (aht c y) then afq c x else .ite c (afq c x) (aht c y)
theorem Y1 {ρ:List AV}{c x y:Tm}:(akG c x y).den ρ=bif (c.den ρ).B then x.den ρ else y.den ρ:=by
 unfold akG
 cases h:(afq c x).beq (aht c y)
 .simp only [cond_false,Tm.oP]
  cases hc:(c.den ρ).B
  .simp only [cond_false,Y0 hc]
  .simp only [cond_true,YZ hc]
 .simp only [cond_true]
  have e:=Tm.beq_eq h
  cases hc:(c.den ρ).B
  .simp only [cond_false];rw [e,Y0 hc]
  .simp only [cond_true];rw [YZ hc]
def aw2 (c x y:Tm):Tm:=
 match c with
 | .lb true=>x
 | .lb false=>y
 | .not c=>akG c y x
 |c=>akG c x y
theorem x9 {ρ:List AV}{c x y:Tm}:(aw2 c x y).den ρ=bif (c.den ρ).B then x.den ρ else y.den ρ:=by
 unfold aw2
 split
 .rfl
 .rfl
 .rename_i c
  rw [Y1]
  simp only [Tm.den,D.BU]
  cases (c.den ρ).B<;>rfl
 .exact Y1
def abI (o:BinOp)(k:Kd)(a b:D):Tm:=Tm.ofD (pz o k a b)
def axP (o:BinOp)(k:Kd)(y:Tm)(b:D):Tm->Tm
 | .ite c u v=>Rl c (axP o k y b u) (axP o k y b v)
 |x=>match x.JH with
  |some a=>abI o k a b
  |none=>.bin o k x y
def afr (o:BinOp)(k:Kd)(x:Tm)(a:D):Tm->Tm
 | .ite c u v=>Rl c (afr o k x a u) (afr o k x a v)
 |y=>match y.JH with
  |some b=>abI o k a b
  |none=>.bin o k x y
theorem Rn {ρ:List AV}{o k a b}:(abI o k a b).den ρ=pz o k a b:=Tm.Jb (Xk o k a b)
theorem ahu {ρ:List AV}{o k y b}(hy:y.den ρ=b){x:Tm}:((axP o k y b x).den ρ).B=(pz o k (x.den ρ) b).B:=by
 induction x with
 |ite c u v _ ihu ihv=>
  simp only [axP,KI,Tm.oP,ihu,ihv]
  cases (c.den ρ).B<;>rfl
 |_=>
  simp only [axP,Tm.JH]
  first
  |(rw [Rn];rfl)
  |(simp only [Tm.den,hy])
theorem ahv {ρ:List AV}{o k x a}(hx:x.den ρ=a){y:Tm}:((afr o k x a y).den ρ).B=(pz o k a (y.den ρ)).B:=by
 induction y with
 |ite c u v _ ihu ihv=>
  simp only [afr,KI,Tm.oP,ihu,ihv]
  cases (c.den ρ).B<;>rfl
 |_=>
  simp only [afr,Tm.JH]
  first
  |(rw [Rn];rfl)
  |(simp only [Tm.den,hx])
def JR (o:BinOp)(k:Kd)(x y:Tm):Tm:=
 match y.JH with
 |some b=>match o,k,b with
  | .eql,.bool,.b true=>x
  | .eql,.bool,.b false=>awY x
  | .neq,.bool,.b true=>awY x
  | .neq,.bool,.b false=>x
  |o,k,b=>axP o k y b x
 |none=>match x.JH with
  |some a=>afr o k x a y
  |none=>.bin o k x y
theorem tN {ρ:List AV}{o k x y}:((JR o k x y).den ρ).B=(pz o k (x.den ρ) (y.den ρ)).B:=by
 unfold JR
 split
 .rename_i b hb
  have e:=Tm.DL (ρ:=ρ) hb
  split
  .rw [e];simp [pz,D.BU,NV]
  .rw [e,nT];simp [pz,D.BU,NV]
  .rw [e,nT];simp [pz,D.BU,bNe]
  .rw [e];simp [pz,D.BU,bNe]
  .rw [ahu e,e]
 .split
  .rename_i a ha
   have e:=Tm.DL (ρ:=ρ) ha
   rw [ahv e,e]
  .rfl
def Ro (k:Kd)(c x y:Tm):Tm:=match k with | .bool=>Rl c x y|_=>aw2 c x y
theorem Rq {ρ:List AV}{k:Kd}{c x y:Tm}:k.av ((Ro k c x y).den ρ)=bif (c.den ρ).B then k.av (x.den ρ) else k.av (y.den ρ):=by
 cases k with
 |bool=>simp only [Ro,Kd.av,KI];cases (c.den ρ).B<;>rfl
 |_=>simp only [Ro,x9];cases (c.den ρ).B<;>rfl
end Go.Fw
end
section
namespace Go.Fw
variable [jK]
inductive Cv where
 |ptr|fn|lT|mp|undef
 |at (c o:Nat)
 deriving DecidableEq
def Cv.val : Cv->Value
 | .ptr=>.pointer none
 | .fn=>.nilFunc
 | .lT=>.nilIface
 | .mp=>.map none
 | .undef=>Go.undef
 | .at c o=>.pointer (some ⟨c,o,none⟩)
inductive SV where
 |sc (k:Kd) (t:Tm)
 |c (v:Cv)
 |nil
 |sf (t:Tm)
 |agg (l:List SV)
 |eG (l:List SV)
 |slc (rows:List (List SV)) (full:Bool)
 |vp (row:List SV) (off:Nat)
 |os (b sz off:Nat) (len:Tm)
 |op (b sz:Nat) (row:Tm) (off:Nat)
 |fn (f:Nat) (first captured:List SV)
 |lT (t:TypeId) (v:SV)
 |mp (b:Nat)
 mutual
def SV.den (ρ:List AV):SV->AV
  | .sc k t=>k.av (t.den ρ)
  | .c v=>.p v.val
  | .nil=>.sl [] true
  | .sf t=>.sl (t.den ρ).R true
  | .agg l=>.agg (dN ρ l)
  | .eG l=>.eG (dN ρ l)
  | .slc rows full=>.sl (gY ρ rows) full
  | .vp row off=>.vp (dN ρ row) off
  | .os b sz off len=>.os b sz off (len.den ρ).I.toNat
  | .op b sz row off=>.op b sz (row.den ρ).I.toNat off
  | .fn f first captured=>.fn (.func f) (dN ρ first) (dN ρ captured)
  | .lT t v=>.lT t (v.den ρ)
  | .mp b=>.mp b
def dN (ρ:List AV):List SV->List AV
  |[]=>[]
  |x::r=>x.den ρ::dN ρ r
def gY (ρ:List AV):List (List SV)->List (List AV)
  |[]=>[]
  |x::r=>dN ρ x::gY ρ r
end
theorem mY {ρ:List AV}:∀{l:List SV},dN ρ l=l.map (SV.den ρ)
 |[]=>rfl
 |x::r=>by simp [dN,mY (l:=r)]
theorem lG {ρ:List AV}:∀{l:List (List SV)},gY ρ l=l.map (dN ρ)
 |[]=>rfl
 |x::r=>by simp [gY,lG (l:=r)]
 mutual
def SV.beq : SV->SV->Bool
  | .sc k t,.sc k' t'=>decide (k=k')&&t.beq t'
  | .c v,.c v'=>decide (v=v')
  | .nil,.nil=>true
  | .sf t,.sf t'=>t.beq t'
  | .agg l,.agg l'=>NY l l'
  | .eG l,.eG l'=>NY l l'
  | .slc r f,.slc r' f'=>Pm r r'&&f == f'
  | .vp r o,.vp r' o'=>NY r r'&&Nat.beq o o'
  | .os b s o l,.os b' s' o' l'=>Nat.beq b b'&&(Nat.beq s s'&&(Nat.beq o o'&&l.beq l'))
  | .op b s r o,.op b' s' r' o'=>Nat.beq b b'&&(Nat.beq s s'&&(r.beq r'&&Nat.beq o o'))
  | .fn f x y,.fn f' x' y'=>Nat.beq f f'&&(NY x x'&&NY y y')
  | .lT t v,.lT t' v'=>Nat.beq t t'&&v.beq v'
  | .mp b,.mp b'=>Nat.beq b b'
  |_,_=>false
def NY : List SV->List SV->Bool
  |[],[]=>true
  |x::r,y::s=>x.beq y&&NY r s
  |_,_=>false
def Pm : List (List SV)->List (List SV)->Bool
  |[],[]=>true
  |x::r,y::s=>NY x y&&Pm r s
  |_,_=>false
end
 mutual
theorem SV.beq_eq : ∀{x y:SV},x.beq y=true->x=y:=fun {x y} h=>by
  match x,y with
  | .sc k t,.sc k' t'=>simp [SV.beq] at h;rw [h.1,Tm.beq_eq h.2]
  | .c v,.c v'=>simp [SV.beq] at h;rw [h]
  | .nil,.nil=>rfl
  | .sf t,.sf t'=>simp [SV.beq] at h;rw [Tm.beq_eq h]
  | .agg l,.agg l'=>simp [SV.beq] at h;rw [zH h]
  | .eG l,.eG l'=>simp [SV.beq] at h;rw [zH h]
  | .slc r f,.slc r' f'=>simp [SV.beq] at h;rw [H6 h.1,h.2]
  | .vp r o,.vp r' o'=>simp [SV.beq] at h;rw [zH h.1,h.2]
  | .os b s o l,.os b' s' o' l'=>simp [SV.beq] at h;rw [h.1,h.2.1,h.2.2.1,Tm.beq_eq h.2.2.2]
  | .op b s r o,.op b' s' r' o'=>simp [SV.beq] at h;rw [h.1,h.2.1,Tm.beq_eq h.2.2.1,h.2.2.2]
  | .fn f x y,.fn f' x' y'=>simp [SV.beq] at h;rw [h.1,zH h.2.1,zH h.2.2]
  | .lT t v,.lT t' v'=>simp [SV.beq] at h;rw [h.1,SV.beq_eq h.2]
  | .mp b,.mp b'=>simp [SV.beq] at h;rw [h]
theorem zH : ∀{x y:List SV},NY x y=true->x=y:=fun {x y} h=>by
  match x,y with
  |[],[]=>rfl
  |x::r,y::s=>simp [NY] at h;rw [SV.beq_eq h.1,zH h.2]
theorem H6 : ∀{x y:List (List SV)},Pm x y=true->x=y:=fun {x y} h=>by
  match x,y with
  |[],[]=>rfl
  |x::r,y::s=>simp [Pm] at h;rw [zH h.1,H6 h.2]
end
def SV.cells : SV->List SV
 | .agg l=>l
 |a=>[a]
def SV.jy : SV->Bool
 | .agg _ | .eG _ | .c .undef=>false
 |_=>true
def SV.Dt : SV->Bool
 | .eG _ | .c .undef=>false
 |_=>true
structure MSh where
 ka:Bool
 kn:Nat
 va:Bool
 vn:Nat
 deriving DecidableEq
def mO (a:Bool)(l:List AV):AV:=bif a then .agg l else match l with|x::_=>x | []=>eu
def qC (m:MSh)(row:List AV):AV×AV:=(mO m.ka (row.take m.kn),mO m.va (row.drop m.kn))
inductive SB where
 |rows (sz:Nat) (rs:List (List SV))
 |fE (sz:Nat) (t:Tm)
 |zy (m:MSh) (t:Tm)
 |map (es:List (SV×SV))
 |it (m:Nat) (n:Tm) (k:Nat)
 |jZ (ty:TypeId) (sz:Nat) (rs:List (List SV))
def SB.den (ρ:List AV):SB->uz
 | .rows sz rs=>.rows sz (gY ρ rs)
 | .fE sz t=>.rows sz (t.den ρ).R
 | .zy m t=>.map ((t.den ρ).R.map (qC m))
 | .map es=>.map (es.map fun e=>(e.1.den ρ,e.2.den ρ))
 | .it m n k=>.it m (n.den ρ).I.toNat k
 | .jZ ty sz rs=>.jZ ty sz (gY ρ rs)
inductive Tr (α:Type) where
 |e
 |n (l:Tr α) (x:Option α) (r:Tr α)
def Tr.get {α:Type}:Tr α->Nat->Option α
 | .e,_=>none
 | .n l x r,k=>bif Nat.beq k 0 then x else bif Nat.beq (k % 2) 1 then l.get ((k-1) / 2) else r.get ((k-1) / 2)
def Tr.upd {α:Type}:Nat->Tr α->Nat->Option α->Tr α
 |0,_,_,_=>.e
 |m+1,.e,k,f=>bif Nat.beq k 0 then .n .e f .e else bif Nat.beq (k % 2) 1 then .n (Tr.upd m .e ((k-1) / 2) f) none .e else .n .e none (Tr.upd m .e ((k-1) / 2) f)
 |m+1,.n l x r,k,f=>bif Nat.beq k 0 then .n l f r else bif Nat.beq (k % 2) 1 then .n (Tr.upd m l ((k-1) / 2) f) x r else .n l x (Tr.upd m r ((k-1) / 2) f)
theorem Tr.oH {α:Type}:∀(m:Nat) (t:Tr α) (k:Nat) (f:Option α) (j:Nat) (y:α),(Tr.upd m t k f).get j=some y->(j=k/\f=some y)\/(j≠k/\t.get j=some y)
 |0,t,k,f,j,y,h=>by simp [Tr.upd,Tr.get] at h
 |m+1,.e,k,f,j,y,h=>by
  have ih:=Tr.oH m (.e:Tr α) ((k-1) / 2) f ((j-1) / 2) y
  simp only [Tr.get] at ih
  unfold Tr.upd at h
  cases h1:Nat.beq k 0
  .simp only [h1,cond_false] at h
   have hk:k≠0:=by intro e;subst e;simp at h1
   cases h2:Nat.beq (k % 2) 1
   .simp only [h2,cond_false,Tr.get] at h
    cases h3:Nat.beq j 0
    .simp only [h3,cond_false] at h
     cases h4:Nat.beq (j % 2) 1
     .simp only [h4,cond_false] at h
      rcases ih h with ⟨e,q⟩|⟨_,q⟩
      .left;refine ⟨?_,q⟩
       have hj:j≠0:=by intro e;subst e;simp at h3
       have a1:k % 2≠1:=by intro e;rw [e] at h2;simp at h2
       have a2:j % 2≠1:=by intro e;rw [e] at h4;simp at h4
       omega
      .cases q
     .simp [h4] at h
    .simp [h3] at h
   .simp only [h2,cond_true,Tr.get] at h
    cases h3:Nat.beq j 0
    .simp only [h3,cond_false] at h
     cases h4:Nat.beq (j % 2) 1
     .simp [h4] at h
     .simp only [h4,cond_true] at h
      rcases ih h with ⟨e,q⟩|⟨_,q⟩
      .left;refine ⟨?_,q⟩
       have hj:j≠0:=by intro e;subst e;simp at h3
       have a1:=Nat.eq_of_beq_eq_true h2
       have a2:=Nat.eq_of_beq_eq_true h4
       omega
      .cases q
    .simp [h3] at h
  .simp only [h1,cond_true,Tr.get] at h
   have hk:=Nat.eq_of_beq_eq_true h1
   cases h3:Nat.beq j 0
   .simp [h3] at h
   .simp only [h3,cond_true] at h
    exact .inl ⟨by rw [hk,Nat.eq_of_beq_eq_true h3],h⟩
 |m+1,.n l x r,k,f,j,y,h=>by
  have ihl:=Tr.oH m l ((k-1) / 2) f ((j-1) / 2) y
  have ihr:=Tr.oH m r ((k-1) / 2) f ((j-1) / 2) y
  unfold Tr.upd at h
  cases h1:Nat.beq k 0
  .simp only [h1,cond_false] at h
   have hk:k≠0:=by intro e;subst e;simp at h1
   cases h2:Nat.beq (k % 2) 1
   .simp only [h2,cond_false,Tr.get] at h
    have a1:k % 2≠1:=by intro e;rw [e] at h2;simp at h2
    cases h3:Nat.beq j 0
    .simp only [h3,cond_false] at h
     have hj:j≠0:=by intro e;subst e;simp at h3
     cases h4:Nat.beq (j % 2) 1
     .simp only [h4,cond_false] at h
      have a2:j % 2≠1:=by intro e;rw [e] at h4;simp at h4
      rcases ihr h with ⟨e,q⟩|⟨e,q⟩
      .exact .inl ⟨by omega,q⟩
      .exact .inr ⟨by intro e';exact e (by rw [e']),by simpa [Tr.get,h3,h4] using q⟩
     .simp only [h4,cond_true] at h
      have a2:=Nat.eq_of_beq_eq_true h4
      exact .inr ⟨by intro e;subst e;exact a1 a2,by simpa [Tr.get,h3,h4] using h⟩
    .simp only [h3,cond_true] at h
     exact .inr ⟨by intro e;subst e;exact hk (Nat.eq_of_beq_eq_true h3),by simpa [Tr.get,h3] using h⟩
   .simp only [h2,cond_true,Tr.get] at h
    have a1:=Nat.eq_of_beq_eq_true h2
    cases h3:Nat.beq j 0
    .simp only [h3,cond_false] at h
     have hj:j≠0:=by intro e;subst e;simp at h3
     cases h4:Nat.beq (j % 2) 1
     .simp only [h4,cond_false] at h
      have a2:j % 2≠1:=by intro e;rw [e] at h4;simp at h4
      exact .inr ⟨by intro e;subst e;exact a2 a1,by simpa [Tr.get,h3,h4] using h⟩
     .simp only [h4,cond_true] at h
      have a2:=Nat.eq_of_beq_eq_true h4
      rcases ihl h with ⟨e,q⟩|⟨e,q⟩
      .exact .inl ⟨by omega,q⟩
      .exact .inr ⟨by intro e';exact e (by rw [e']),by simpa [Tr.get,h3,h4] using q⟩
    .simp only [h3,cond_true] at h
     exact .inr ⟨by intro e;subst e;exact hk (Nat.eq_of_beq_eq_true h3),by simpa [Tr.get,h3] using h⟩
  .simp only [h1,cond_true,Tr.get] at h
   have hk:=Nat.eq_of_beq_eq_true h1
   cases h3:Nat.beq j 0
   .simp only [h3,cond_false] at h
    have hj:j≠0:=by intro e;subst e;simp at h3
    exact .inr ⟨by omega,by simpa [Tr.get,h3] using h⟩
   .simp only [h3,cond_true] at h
    exact .inl ⟨by rw [hk,Nat.eq_of_beq_eq_true h3],h⟩
abbrev Pc :=List (Tm×Bool)
def Pc.holds (ρ:List AV)(pc:Pc):Prop:=∀x∈pc,(x.1.den ρ).B=x.2
def Pc.has (pc:Pc)(x:Tm×Bool):Bool:=pc.any fun y=>y.2 == x.2&&y.1.beq x.1
theorem Pc.Vq {ρ:List AV}{pc:Pc}{x:Tm×Bool}(h:pc.has x=true)(hp:pc.holds ρ):(x.1.den ρ).B=x.2:=by
 unfold Pc.has at h
 rw [List.any_eq_true] at h
 obtain ⟨y,hy,h⟩:=h
 simp at h
 rw [<- Tm.beq_eq h.2,<- h.1]
 exact hp y hy
def Pc.P6 (pc:Pc)(t:Tm):Option Bool:=bif pc.has (t,true) then some true else bif pc.has (t,false) then some false else none
theorem Pc.nY {ρ:List AV}{pc:Pc}(hp:pc.holds ρ){t:Tm}{b:Bool}(h:pc.P6 t=some b):(t.den ρ).B=b:=by
 unfold Pc.P6 at h
 cases h1:pc.has (t,true)
 .simp only [h1,cond_false] at h
  cases h2:pc.has (t,false)
  .simp [h2] at h
  .simp [h2] at h;subst h;exact Pc.Vq h2 hp
 .simp [h1] at h;subst h;exact Pc.Vq h1 hp
def Pc.Vr (x:Tm):Pc->Option Int
 |[]=>none
 |(.bin .eql (.int _) y (.li a),true)::r=>bif y.beq x then some a else Pc.Vr x r
 |_::r=>Pc.Vr x r
theorem Pc.H7 {ρ:List AV}{x:Tm}{a:Int}:∀{pc:Pc},pc.holds ρ->Pc.Vr x pc=some a->(x.den ρ).I=a
 |[],_,h=>by simp [Pc.Vr] at h
 |e::r,hp,h=>by
  have hr:Pc.holds ρ r:=fun y hy=>hp y (List.mem_cons_of_mem _ hy)
  unfold Pc.Vr at h
  split at h
  .cases h
  .rename_i k y a' r' heq
   simp only [List.cons.injEq] at heq
   obtain ⟨rfl,rfl⟩:=heq
   cases hb:y.beq x
   .simp only [hb,cond_false] at h;exact Pc.H7 hr h
   .simp only [hb,cond_true,Option.some.injEq] at h;subst h
    have:=hp _ List.mem_cons_self
    rw [Tm.beq_eq hb] at this
    have h2:(x.den ρ).I=(D.i a').I:=by simpa [Tm.den,pz,D.BU,dS] using this
    exact h2
  .rename_i heq
   simp only [List.cons.injEq] at heq
   obtain ⟨rfl,rfl⟩:=heq
   exact Pc.H7 hr h
theorem ahx {o:BinOp}{k:IntKind}{d d' e:D}(h:d.I=d'.I):pz o (.int k) d e=pz o (.int k) d' e:=by
 cases o<;>simp only [pz,h]
def orE (a b:Option Bool):Option Bool:=match a with|some v=>some v|none=>b
theorem Xl {a b:Option Bool}{v:Bool}(h:orE a b=some v):a=some v\/b=some v:=by
 unfold orE at h
 cases a
 .exact .inr h
 .exact .inl h
def Pc.known (pc:Pc):Tm->Option Bool
 | .lb v=>some v
 | .not x=>match Pc.known pc x with
  |some b=>some (!b)
  |none=>pc.P6 (.not x)
 | .and x y=>match Pc.known pc x with
  |some false=>some false
  |some true=>orE (Pc.known pc y) (pc.P6 (.and x y))
  |none=>match Pc.known pc y with
   |some false=>some false
   |_=>pc.P6 (.and x y)
 | .or x y=>match Pc.known pc x with
  |some true=>some true
  |some false=>orE (Pc.known pc y) (pc.P6 (.or x y))
  |none=>match Pc.known pc y with
   |some true=>some true
   |_=>pc.P6 (.or x y)
 | .ite c x y=>match Pc.known pc c with
  |some true=>orE (Pc.known pc x) (pc.P6 (.ite c x y))
  |some false=>orE (Pc.known pc y) (pc.P6 (.ite c x y))
  |none=>pc.P6 (.ite c x y)
 | .bin o (.int k) x (.li b)=>match pc.P6 (.bin o (.int k) x (.li b)) with
  |some v=>some v
  |none=>match Pc.Vr x pc with
   |some a=>some (pz o (.int k) (.i a) (.i b)).B
   |none=>none
 |t=>pc.P6 t
theorem Pc.fZ {ρ:List AV}{pc:Pc}(hp:pc.holds ρ):∀{t:Tm} {b:Bool},pc.known t=some b->(t.den ρ).B=b:=by
 intro t
 induction t with
 |lb v=>intro b h;simp [Pc.known] at h;subst h;rfl
 |not x ih=>
  intro b h
  simp only [Pc.known] at h
  split at h
  .rename_i c hc
   simp only [Option.some.injEq] at h;subst h
   simp only [Tm.den,D.BU,ih hc]
  .exact Pc.nY hp h
 |and x y ru ihy=>
  intro b h
  simp only [Pc.known] at h
  split at h
  .rename_i hx
   simp only [Option.some.injEq] at h;subst h
   simp only [Tm.den,D.BU,ru hx];rfl
  .rename_i hx
   rcases Xl h with h|h
   .simp only [Tm.den,D.BU,ru hx,ihy h];rfl
   .exact Pc.nY hp h
  .split at h
   .rename_i hy
    simp only [Option.some.injEq] at h;subst h
    simp only [Tm.den,D.BU,ihy hy,Bool.and_false]
   .exact Pc.nY hp h
 |or x y ru ihy=>
  intro b h
  simp only [Pc.known] at h
  split at h
  .rename_i hx
   simp only [Option.some.injEq] at h;subst h
   simp only [Tm.den,D.BU,ru hx];rfl
  .rename_i hx
   rcases Xl h with h|h
   .simp only [Tm.den,D.BU,ru hx,ihy h];rfl
   .exact Pc.nY hp h
  .split at h
   .rename_i hy
    simp only [Option.some.injEq] at h;subst h
    simp only [Tm.den,D.BU,ihy hy,Bool.or_true]
   .exact Pc.nY hp h
 |ite c x y ihc ru ihy=>
  intro b h
  simp only [Pc.known] at h
  split at h
  .rename_i hc
   rcases Xl h with h|h
   .rw [Tm.oP,ihc hc];exact ru h
   .exact Pc.nY hp h
  .rename_i hc
   rcases Xl h with h|h
   .rw [Tm.oP,ihc hc];exact ihy h
   .exact Pc.nY hp h
  .exact Pc.nY hp h
 |bin o k x y _ _=>
  intro b h
  unfold Pc.known at h
  split at h
  all_goals first
   |(rename_i heq;cases heq;done)
   |skip
  .rename_i o' k' x' b' heq
   cases heq
   split at h
   .rename_i hv
    simp only [Option.some.injEq] at h;subst h
    exact Pc.nY hp hv
   .split at h
    .rename_i a ha
     simp only [Option.some.injEq] at h;subst h
     have:=Pc.H7 hp ha
     simp only [Tm.den]
     rw [ahx (d':=.i a) this]
    .cases h
  .exact Pc.nY hp h
 |_=>
  intro b h
  exact Pc.nY hp h
theorem Pc.iQ {ρ:List AV}{pc:Pc}{t:Tm}{b:Bool}(h:(t.den ρ).B=b)(hp:pc.holds ρ):Pc.holds ρ ((t,b)::pc):=by
 intro x hx
 cases hx with
 |head=>exact h
 |tail _ hx=>exact hp x hx
structure oQ where
 h:Pc
 v:SV
def oQ.den (ρ:List AV)(e:oQ):AV:=bif e.h.all (fun x=>(x.1.den ρ).B == x.2) then e.v.den ρ else eu
def oQ.sure (pc:Pc)(e:oQ):Bool:=e.h.all fun x=>match pc.known x.1 with|some b=>b == x.2|none=>false
theorem oQ.Y2 {ρ:List AV}{pc:Pc}{e:oQ}(hp:pc.holds ρ)(h:e.sure pc=true):e.den ρ=e.v.den ρ:=by
 unfold oQ.den
 have:e.h.all (fun x=>(x.1.den ρ).B == x.2)=true:=by
  unfold oQ.sure at h
  rw [List.all_eq_true] at h ⊢
  intro x hx
  have:=h x hx
  split at this
  .rename_i b hb;rw [Pc.fZ hp hb];exact this
  .cases this
 rw [this];rfl
structure St where
 fr:Tr oQ
 ah:Tr SB
 nx:Nat
 ds:List Nat
 db:List Nat
def xM : Nat:=40
def St.put (st:St)(d:Nat)(e:oQ):St:={st with fr:=st.fr.upd xM d (some e),ds:=d::st.ds}
def St.wr (st:St):List (Nat×Option SB)->St
 |[]=>st
 |(b,k)::r=>St.wr {st with ah:=st.ah.upd xM b k,db:=b::st.db} r
end Go.Fw
end
section
namespace Go.Fw
variable [jK]
def BA {α:Type}:List α->Nat->Option α
 |[],_=>none
 |x::_,0=>some x
 |_::r,n+1=>BA r n
theorem wF {α:Type}:∀(l:List α) (n:Nat),BA l n=l[n]?
 |[],n=>by simp [BA]
 |x::r,0=>by simp [BA]
 |x::r,n+1=>by simp [BA,wF r n]
def uX : List Nat->AV->AV->AV
 |[],_,y=>y
 |j::p,.agg l,y=>.agg (l.set j (uX p (l.getD j eu) y))
 |j::p,.eG l,y=>.eG (l.set j (uX p (l.getD j eu) y))
 |_::_,a,_=>a
def BX (p:List Nat)(r:AV):List (List AV):=(awJ r p).D.R
def ah1 (k:uz):AH:=fun b=>if b=0 then some k else none
def PCo (P:Program)(f:FuncId)(args:List AV)(r:AV)(p:List Nat)(sz:Nat):Prop:=
 ∀(w:World) (fix:Nat->Nat->Prop) (vs:List Value),(∀c o,fix c o->c<w.heap.size)->GOk w fix->gK w (eH fix) args vs->
  match P.funcs[f]? with
  |none=>False
  |some fn=>fn.body.isNone=false/\fn.name≠ "runtime.NumGoroutine" /\Calls P f vs.toArray w fun e w'=>∃v E',e=.returned v/\Step w.heap.size w (eH fix) w' E'/\
   dQ w.heap.size w' E' (ah1 (.rows sz (BX p r))) (fun b=>1<=b)/\Rep w' E' (uX p r (.os 0 sz 0 (BX p r).length)) v
def qB : List (Nat×uz)->AH
 |[],_=>none
 |x::r,b=>bif Nat.beq x.1 b then some x.2 else qB r b
def PWL (P:Program)(f:FuncId)(args:List AV)(bin:List (Nat×uz))(n0:Nat)(r:AV)(JI:List (Nat×uz)):Prop:=
 ∀(base:Nat) (w:World) (E:Env) (vs:List Value),dQ base w E (qB bin) (fun b=>n0<=b)->GOk w E.fix->gK w E args vs->
  match P.funcs[f]? with
  |none=>False
  |some fn=>fn.body.isNone=false/\fn.name≠ "runtime.NumGoroutine" /\Calls P f vs.toArray w fun e w'=>∃v E',e=.returned v/\Step base w E w' E'/\
   dQ base w' E' (qB JI) (fun b=>n0<=b)/\Rep w' E' r v
def kOf : AV->Nat
 | .p (.int _ n)=>n.toNat
 |_=>0
def TT : List AV:=[.p (.bool true)]
def EY (ρ:List AV)(bl:List (Nat×SB)):List (Nat×uz):=bl.map fun x=>(x.1,x.2.den ρ)
inductive Side where
 |oU (f:FuncId) (args:List SV) (bl:List (Nat×SB)) (n0:Nat) (r:SV) (GR:List (Nat×SB))
 |JU (f:FuncId) (args:List SV) (r:SV) (p:List Nat) (sz:Nat) (fl:Bool)
 |tm (t:Tm)
 |call (f:FuncId) (args:List SV) (r:SV)
 |fop (o:BinOp) (x y:Tm)
 |cat (x y:Tm)
 |num (k:IntKind) (x:Tm) (n:Tm)
 |row (t i:Tm) (cells:List SV)
 |rd (ty:Bool×Nat) (t i:Tm) (off:Nat) (v:SV)
 |st (t i:Tm) (off:Nat) (cells:List SV) (n:Tm)
 |sub (sz:Nat) (t:Tm) (lo hi:Option Tm) (n:Tm)
 |mk (len cap:Tm) (z:List SV) (n:Tm)
 |app (sz:Nat) (x:Tm) (y:List (List SV)) (n:Tm)
 |Y3 (sz:Nat) (x y n:Tm)
 |len2 (m:Nat) (y:Tm)
 |JJ (n:Nat) (t:Tm)
 |cpy (x len y n:Tm)
 |anU (t:Tm)
 |mark (m:MSh) (t d len n:Tm)
 |afs (sz:Nat) (x:List (List SV)) (y n:Tm)
 |look (kt:TypeId) (m:MSh) (t:Tm) (k z:SV) (f:Tm) (v:SV)
 |put (kt:TypeId) (m:MSh) (t:Tm) (k v:SV) (n:Tm)
 |under (pc:Pc) (s:Side)
def Vs (ρ:List AV)(d:Nat):Option Tm->Int
 |none=>d
 |some t=>(t.den ρ).I
def Side.holds (P:Program)(ρ:List AV):Side->Prop
 | .tm t=>(t.den ρ).B=true
 | .oU f args bl n0 r GR=>PWL P f (dN ρ args) (EY ρ bl) n0 (r.den ρ) (EY ρ GR)
 | .JU f args r p sz fl=>PCo P f (dN ρ args) (r.den ρ) p sz/\(fl=true->∀row∈BX p (r.den ρ),yY row=true)
 | .call f args r=>PC P f (dN ρ args) (r.den ρ)
 | .fop o x y=>match o with
  | .add=>(FloatKind.f64.format.add (x.den ρ).F (y.den ρ).F).isSome=true
  | .sub=>(FloatKind.f64.format.sub (x.den ρ).F (y.den ρ).F).isSome=true
  | .mul=>(FloatKind.f64.format.mul (x.den ρ).F (y.den ρ).F).isSome=true
  | .quo=>(FloatKind.f64.format.div (x.den ρ).F (y.den ρ).F).isSome=true
  |_=>False
 | .cat x y=>(x.den ρ).S.length+(y.den ρ).S.length<=4294967296
 | .num k x n=>(FloatKind.f64.decode (x.den ρ).F).toInt .zero=some (n.den ρ).I/\k.min<=(n.den ρ).I/\(n.den ρ).I<=k.max
 | .row t i cells=>0<=(i.den ρ).I/\(t.den ρ).R[(i.den ρ).I.toNat]?=some (dN ρ cells)
 | .rd ty t i off v=>∃row,(t.den ρ).R[(i.den ρ).I.toNat]?=some row/\apart ty row off (fun x=>x=v.den ρ)
 | .st t i off cells n=>∃row,(t.den ρ).R[(i.den ρ).I.toNat]?=some row/\off+cells.length<=row.length/\(n.den ρ).R=(t.den ρ).R.set (i.den ρ).I.toNat (lay row off (dN ρ cells))
 | .sub sz t lo hi n=>kW sz (t.den ρ).R/\0<=Vs ρ 0 lo/\Vs ρ 0 lo<=Vs ρ (t.den ρ).R.length hi/\Vs ρ (t.den ρ).R.length hi<=(t.den ρ).R.length/\
   (n.den ρ).R=((t.den ρ).R.drop (Vs ρ 0 lo).toNat).take ((Vs ρ (t.den ρ).R.length hi).toNat-(Vs ρ 0 lo).toNat)
 | .mk len cap z n=>0<=(len.den ρ).I/\(len.den ρ).I<=(cap.den ρ).I/\(cap.den ρ).I<=4294967296/\(n.den ρ).R=List.replicate (len.den ρ).I.toNat (dN ρ z)
 | .app sz x y n=>kW sz (x.den ρ).R/\(x.den ρ).R.length+y.length<=4294967296/\(n.den ρ).R=(x.den ρ).R++gY ρ y
 | .Y3 sz x y n=>kW sz (x.den ρ).R/\kW sz (y.den ρ).R/\(x.den ρ).R.length+(y.den ρ).R.length<=4294967296/\(n.den ρ).R=(x.den ρ).R++(y.den ρ).R
 | .len2 m y=>m+(y.den ρ).R.length<=4294967296
 | .JJ n t=>kW n (t.den ρ).R
 | .cpy x len y n=>(len.den ρ).I.toNat<=(x.den ρ).R.length/\(n.den ρ).R=(y.den ρ).R.take (len.den ρ).I.toNat++(x.den ρ).R.drop (min (y.den ρ).R.length (len.den ρ).I.toNat)
 | .anU t=>((t.den ρ).R.mapM awU).isSome=true
 | .mark m t d len n=>(len.den ρ).I.toNat<=(d.den ρ).R.length/\(∀e∈(t.den ρ).R.map (qC m),∃kk i,e.1=.p (.int kk i)/\0<=i/\i.toNat<(len.den ρ).I.toNat)/\(n.den ρ).R.length=(d.den ρ).R.length/\
   ∀i,i<(d.den ρ).R.length->(n.den ρ).R[i]?=if ((t.den ρ).R.map (qC m)).any (fun e=>Nat.beq (kOf e.1) i)=true then some TT else (d.den ρ).R[i]?
 | .afs sz x y n=>x.length+(y.den ρ).R.length<=4294967296/\(n.den ρ).R=gY ρ x++(y.den ρ).R
 | .look kt m t k z f v=>∃r,xI P kt (k.den ρ) ((t.den ρ).R.map (qC m))=some r/\(f.den ρ).B=r.isSome/\v.den ρ=(match r with|none=>z.den ρ|some q=>q.2)
 | .put kt m t k v n=>∃r,xI P kt (k.den ρ) ((t.den ρ).R.map (qC m))=some r/\(∀q,r=some q->(((t.den ρ).R.map (qC m))[q.1]?).map (·.1)=some (k.den ρ))/\
   (n.den ρ).R.map (qC m)=(match r with|none=>(t.den ρ).R.map (qC m)++[(k.den ρ,v.den ρ)]|some q=>((t.den ρ).R.map (qC m)).set q.1 (k.den ρ,v.den ρ))
 | .under pc s=>Pc.holds ρ pc->s.holds P ρ
def abJ (l t:Tm):List Side:=bif l.beq (.rlen t) then [] else [.tm (.bin .eql (.int .i64) l (.rlen t))]
theorem Ql {P:Program}{ρ:List AV}{l t:Tm}(h:∀s∈abJ l t,s.holds P ρ):(l.den ρ).I.toNat=(t.den ρ).R.length:=by
 unfold abJ at h
 cases hb:l.beq (.rlen t)
 .simp only [hb,cond_false] at h
  have:=h _ (bV.2 rfl)
  have h2:(l.den ρ).I=(Tm.den ρ (.rlen t)).I:=by simpa [Side.holds,Tm.den,pz,D.BU,dS] using this
  rw [h2];rfl
 .rw [Tm.beq_eq hb];rfl
def Vt (ρ:List AV)(tr:Tr oQ)(fr:lH):Prop:=∀t e,tr.get t=some e->iP fr t=some (e.den ρ)
def EJ (ρ:List AV)(tr:Tr SB)(ah:AH):Prop:=∀b k,tr.get b=some k->ah b=some (k.den ρ)
def akH : Value->Option SV
 | .string s=>some (.sc .str (.ls s.data.toList))
 | .slice none 0 0=>some .nil
 | .bool b=>some (.sc .bool (.lb b))
 | .int k n=>some (.sc (.int k) (.li n))
 | .float .f64 n=>some (.sc .kJ (.lf n))
 | .nilFunc=>some (.c .fn)
 | .nilIface=>some (.c .lT)
 | .pointer none=>some (.c .ptr)
 | .map none=>some (.c .mp)
 |_=>none
def Rt : List Value->Option (List SV)
 |[]=>some []
 |v::r=>match akH v with|none=>none|some x=>match Rt r with|none=>none|some l=>some (x::l)
def akI : Value->Option SV
 | .agg cs=>match Rt cs.toList with|none=>none|some l=>some (.agg l)
 | .tuple vs=>if vs.isEmpty=true then some (.c .undef) else none
 |v=>akH v
theorem Y4 {ρ:List AV}{v:Value}{s:SV}(h:akH v=some s):ofC v=some (s.den ρ):=by
 unfold akH at h
 split at h<;>first|(cases h;done)|(simp only [au] at h;subst h;rfl)
theorem Jc {ρ:List AV}:∀{l:List Value} {s:List SV},Rt l=some s->l.mapM ofC=some (dN ρ s)
 |[],s,h=>by simp [Rt] at h;subst h;rfl
 |v::r,s,h=>by
  simp only [Rt] at h
  split at h
  .cases h
  .rename_i x hx
   split at h
   .cases h
   .rename_i l hl
    simp only [au] at h
    subst h
    rw [List.mapM_cons,Y4 (ρ:=ρ) hx,Jc (ρ:=ρ) hl]
    rfl
theorem Y5 {ρ:List AV}{v:Value}{s:SV}(h:akI v=some s):ofV v=some (s.den ρ):=by
 unfold akI at h
 split at h
 .rename_i cs
  split at h
  .cases h
  .rename_i l hl
   simp only [au] at h;subst h
   simp only [ofV,Jc (ρ:=ρ) hl]
   rfl
 .rename_i vs
  split at h
  .rename_i hv
   simp only [au] at h;subst h
   simp only [ofV,hv,if_true]
   have:vs=#[]:=by simpa using hv
   subst this;rfl
  .cases h
 .rename_i h1 h2
  have:=Y4 (ρ:=ρ) h
  unfold ofV
  split
  .exact absurd rfl (h1 _)
  .exact absurd rfl (h2 _)
  .exact this
def zG (pc:Pc)(fr:Tr oQ):Operand->Option SV
 | .tmp t=>match fr.get t with
  |some e=>bif e.sure pc then some e.v else none
  |none=>none
 | .const v=>akI v
 | .func f=>some (.fn f [] [])
 | .global g=>match adx g jK.tab with
  |none=>none
  |some row=>match Rt row with
   |none=>none
   |some r=>some (.vp r 0)
section
variable {P : Program} {ρ:List AV} {pc:Pc} {tr:Tr oQ} {fr:lH}
theorem iq (hp:pc.holds ρ)(hf:Vt ρ tr fr){x:Operand}{v:SV}(h:zG pc tr x=some v):ev fr x=some (v.den ρ):=by
 cases x with
 |tmp t=>
  simp only [zG] at h
  split at h
  .rename_i e he
   cases hs:e.sure pc
   .simp [hs] at h
   .simp [hs] at h;subst h
    simp only [ev];rw [hf t e he,oQ.Y2 hp hs]
  .cases h
 |const v=>exact Y5 h
 |func f=>simp [zG] at h;subst h;rfl
 |global g=>
  simp only [zG] at h
  split at h
  .cases h
  .rename_i row hrow
   split at h
   .cases h
   .rename_i r hr
    simp only [au] at h;subst h
    simp only [ev,hrow,Option.bind_some,Jc (ρ:=ρ) hr];rfl
def KJ (pc:Pc)(fr:Tr oQ):List Operand->Option (List SV)
 |[]=>some []
 |x::r=>match zG pc fr x with|none=>none|some a=>match KJ pc fr r with|none=>none|some l=>some (a::l)
theorem uI (hp:pc.holds ρ)(hf:Vt ρ tr fr):∀{l:List Operand} {s:List SV},KJ pc tr l=some s->U6 fr l=some (dN ρ s)
 |[],s,h=>by simp [KJ] at h;subst h;rfl
 |x::r,s,h=>by
  simp only [KJ] at h
  split at h
  .cases h
  .rename_i a ha
   split at h
   .cases h
   .rename_i l hl
    simp only [au] at h;subst h
    simp only [U6,iq hp hf ha,uI hp hf hl];rfl
def aft {α:Type}(pc:Pc)(fr:Tr oQ):List (α×Operand)->Option (List (α×SV))
 |[]=>some []
 |(i,x)::r=>match zG pc fr x with|none=>none|some a=>match aft pc fr r with|none=>none|some l=>some ((i,a)::l)
theorem Xm {α:Type}(hp:pc.holds ρ)(hf:Vt ρ tr fr):∀{l:List (α×Operand)} {s:List (α×SV)},aft pc tr l=some s->U5 fr l=some (s.map fun q=>(q.1,q.2.den ρ))
 |[],s,h=>by simp [aft] at h;subst h;rfl
 |(i,x)::r,s,h=>by
  simp only [aft] at h
  split at h
  .cases h
  .rename_i a ha
   split at h
   .cases h
   .rename_i l hl
    simp only [au] at h;subst h
    simp only [U5,iq hp hf ha,Xm hp hf hl];rfl
end
structure SR where
 v:SV
 wr:List (Nat×Option SB)
 rd:List Nat
 sd:List Side
 nv:Nat
def SR.val (nv:Nat)(v:SV):SR:=⟨v,[],[],[],nv⟩
def SR.den (ρ:List AV)(r:SR):qY:=⟨r.v.den ρ,r.wr.map fun x=>(x.1,x.2.map (SB.den ρ)),r.rd⟩
def axg (pc:Pc)(t:Tm):Option (List Side):=
 match pc.known t with
 |some true=>some []
 |some false=>none
 |none=>some [.tm t]
theorem nZ {P:Program}{ρ:List AV}{pc:Pc}(hp:pc.holds ρ){t:Tm}{l:List Side}(h:axg pc t=some l)(hs:∀s∈l,s.holds P ρ):(t.den ρ).B=true:=by
 unfold axg at h
 split at h
 .rename_i hk;exact Pc.fZ hp hk
 .cases h
 .simp only [au] at h;subst h
  exact hs (.tm t) (by simp)
def Df (ty:Bool×Nat)(row:List SV)(off:Nat):Option SV:=
 bif ty.1 then (bif Nat.ble (off+ty.2) row.length then some (.agg ((row.drop off).take ty.2)) else none) else BA row off
theorem fM {ρ:List AV}{l:List SV}:(dN ρ l).length=l.length:=by rw [mY,dA]
theorem DN {ρ:List AV}{l:List SV}{n:Nat}{x:SV}(h:BA l n=some x):(dN ρ l)[n]?=some (x.den ρ):=by
 rw [mY,bT,<- wF,h];rfl
theorem NZ {ρ:List AV}{l:List SV}{n:Nat}:(dN ρ l).drop n=dN ρ (l.drop n):=by simp [mY,List.map_drop]
theorem N7 {ρ:List AV}{l:List SV}{n:Nat}:(dN ρ l).take n=dN ρ (l.take n):=by simp [mY,List.map_take]
theorem lJ {ρ:List AV}{l m:List SV}:dN ρ (l++m)=dN ρ l++dN ρ m:=by simp [mY]
theorem fO {ρ:List AV}{l:List (List SV)}:(gY ρ l).length=l.length:=by rw [lG,dA]
theorem Jd {ρ:List AV}{l:List (List SV)}{n:Nat}{x:List SV}(h:BA l n=some x):(gY ρ l)[n]?=some (dN ρ x):=by
 rw [lG,bT,<- wF,h];rfl
theorem wG {ρ:List AV}{l m:List (List SV)}:gY ρ (l++m)=gY ρ l++gY ρ m:=by simp [lG]
theorem afu {ρ:List AV}{l:List (List SV)}{n:Nat}{x:List SV}:(gY ρ l).set n (dN ρ x)=gY ρ (l.set n x):=by simp [lG,List.map_set]
theorem yc {ρ:List AV}{l:List (List SV)}{n:Nat}:(gY ρ l).drop n=gY ρ (l.drop n):=by simp [lG,List.map_drop]
theorem yg {ρ:List AV}{l:List (List SV)}{n:Nat}:(gY ρ l).take n=gY ρ (l.take n):=by simp [lG,List.map_take]
theorem wH {ρ:List AV}{ty:Bool×Nat}{row:List SV}{off:Nat}{v:SV}(h:Df ty row off=some v){k:AV->Prop}(hk:k (v.den ρ)):apart ty (dN ρ row) off k:=by
 unfold Df at h
 unfold apart
 cases h1:ty.1
 .simp only [h1,cond_false] at h
  rw [if_neg (by simp)]
  exact dG.2 ⟨_,DN h,hk⟩
 .simp only [h1,cond_true] at h
  rw [if_pos rfl]
  cases h2:Nat.ble (off+ty.2) row.length
  .simp [h2] at h
  .simp [h2] at h;subst h
   refine ⟨by rw [fM];exact aG h2,?_⟩
   rw [NZ,N7];exact hk
def xG (t:Tm):Option Nat:=match t with | .li (.ofNat n)=>some n|_=>none
theorem fJ {ρ:List AV}{t:Tm}{n:Nat}(h:xG t=some n):(t.den ρ).I=(n:Int)/\(t.den ρ).I.toNat=n:=by
 unfold xG at h
 split at h
 .simp only [au] at h;subst h;exact ⟨rfl,rfl⟩
 .cases h
def EZ (P:Program):Nat->TypeId->Option (List Kd)
  |0,_=>none
  |d+1,t=>match P.underlying t with
   |some .bool=>some [.bool]
   |some (.int k)=>some [.int k]
   |some (.float .f64)=>some [.kJ]
   |some .string=>some [.str]
   |some (.slice _)=>some [.sl]
   |some (.struct fs)=>ahy P (EZ P d) fs.toList
   |some (.array n e)=>(EZ P d e).map fun l=>(List.replicate n l).flatten
   |_=>none
 where ahy (P:Program) (kf:TypeId->Option (List Kd)):List Field->Option (List Kd)
  |[]=>some []
  |f::r=>match kf f.type with|none=>none|some l=>match ahy P kf r with|none=>none|some m=>some (l++m)
def gX (n:Nat)(p:List Nat):Nat->List Kd->List SV
 |_,[]=>[]
 |j,k::r=>.sc k (.var n (p++[j]))::gX n p (j+1) r
def aw8 (P:Program)(n:Nat)(p:List Nat)(t:TypeId):Option SV:=
 match EZ P 20 t,P.underlying t with
 |some l,some d=>bif G5 d then some (.agg (gX n p 0 l)) else match l with | [k]=>some (.sc k (.var n p))|_=>none
 |_,_=>none
def Y6 (P:Program)(n:Nat):Nat->List TypeId->Option (List SV)
 |_,[]=>some []
 |j,t::r=>match aw8 P n [j] t with|none=>none|some x=>match Y6 P n (j+1) r with|none=>none|some l=>some (x::l)
def ahz (P:Program)(n:Nat)(f:FuncId):Option SV:=
 match P.funcs[f]? with
 |none=>none
 |some fn=>match fn.resultTypes.toList with
  |[t]=>aw8 P n [] t
  |l=>(Y6 P n 0 l).map .eG
def ap0 (P:Program)(n off:Nat)(t:TypeId):Option SV:=
 match EZ P 20 t,P.underlying t with
 |some l,some d=>bif G5 d then some (.agg (gX n [] off l)) else match l with | [k]=>some (.sc k (.var n [off]))|_=>none
 |_,_=>none
end Go.Fw
end
section
namespace Go.Fw
variable [jK]
section
variable {P : Program} {ρ:List AV} {pc:Pc} {id nv:Nat} {fr:lH} {ah:AH} {tr:Tr oQ} {th:Tr SB} {K:qY->Prop}
theorem SR.rX {nv:Nat}{v:SV}:(SR.val nv v).den ρ=.val (v.den ρ):=rfl
def adP (P:Program)(pc:Pc)(th:Tr SB)(nv:Nat)(t:TypeId)(a:SV):Option SR:=
 match Ak P t with
 |none=>none
 |some ty=>
  match a with
  | .vp row off=>(Df ty row off).map (SR.val nv)
  | .op b sz i off=>
   match th.get b with
   |some (.rows sz' rs)=>bif Nat.beq sz sz' then
     match xG i with
     |none=>none
     |some n=>match BA rs n with
      |none=>none
      |some row=>(Df ty row off).map fun v=>⟨v,[],[b],[],nv⟩
    else none
   |some (.fE sz' t')=>bif Nat.beq sz sz' then
     (ap0 P nv off t).map fun v=>⟨v,[],[b],[.rd ty t' i off v],nv+1⟩
    else none
   |_=>none
  |_=>none
theorem Y7 {t:TypeId}{a:SV}{r:SR}(ha:EJ ρ th ah)(h:adP P pc th nv t a=some r)(hs:∀s∈r.sd,s.holds P ρ)(hK:K (r.den ρ)):Lu P ah t (a.den ρ) K:=by
 unfold adP at h
 split at h
 .cases h
 .rename_i ty hty
  refine dG.2 ⟨ty,hty,?_⟩
  split at h
  .rename_i row off
   simp only [aB] at h
   obtain ⟨v,hv,rfl⟩:=h
   exact wH hv hK
  .rename_i b sz i off
   split at h
   .rename_i sz' rs hb
    cases h1:Nat.beq sz sz'
    .simp [h1] at h
    .simp only [h1,cond_true] at h
     split at h
     .cases h
     .rename_i n hn
      split at h
      .cases h
      .rename_i row hrow
       simp only [aB] at h
       obtain ⟨v,hv,rfl⟩:=h
       show (match ah b with|some (.rows sz' rs)=>sz=sz'/\fQ rs[(i.den ρ).I.toNat]? fun row=>apart ty row off fun x=>K ⟨x,[],[b]⟩|_=>False)
       rw [ha _ _ hb]
       refine ⟨aA h1,dG.2 ⟨dN ρ row,?_,wH hv hK⟩⟩
       rw [(fJ hn).2];exact Jd hrow
   .rename_i sz' t' hb
    cases h1:Nat.beq sz sz'
    .simp [h1] at h
    .simp only [h1,cond_true,aB] at h
     obtain ⟨v,hv,rfl⟩:=h
     show (match ah b with|some (.rows sz' rs)=>sz=sz'/\fQ rs[(i.den ρ).I.toNat]? fun row=>apart ty row off fun x=>K ⟨x,[],[b]⟩|_=>False)
     rw [ha _ _ hb]
     obtain ⟨row,h2,h3⟩:=hs (.rd ty t' i off v) (by simp)
     refine ⟨aA h1,dG.2 ⟨row,h2,DI (fun x hx=>?_) h3⟩⟩
     subst hx;exact hK
   .cases h
  .cases h
def akJ (row:List SV)(off:Nat)(cs:List SV):List SV:=row.take off++cs++row.drop (off+cs.length)
theorem adQ {row cs:List SV}{off:Nat}:lay (dN ρ row) off (dN ρ cs)=dN ρ (akJ row off cs):=by
 simp [lay,akJ,lJ,N7,NZ,fM]
theorem Aa {v:SV}(h:v.Dt=true):(v.den ρ).cells=dN ρ v.cells:=by
 cases v with
 |sc k t=>cases k<;>rfl
 |_=>first|rfl|(simp [SV.Dt] at h)
theorem LY {v:SV}(h:v.Dt=true):(v.den ρ).Dt=true:=by
 cases v with
 |sc k t=>cases k<;>rfl
 |c v=>cases v<;>first|rfl|(simp [SV.Dt] at h)
 |_=>first|rfl|(simp [SV.Dt] at h)
def abK (P:Program)(pc:Pc)(th:Tr SB)(nv:Nat)(t:TypeId)(a v:SV):Option SR:=
 match Ak P t with
 |none=>none
 |some ty=>
  bif v.Dt&&Nat.beq v.cells.length ty.2 then
   match a with
   | .op b sz i off=>
    match th.get b with
    |some (.rows sz' rs)=>bif Nat.beq sz sz' then
      match xG i with
      |none=>none
      |some n=>match BA rs n with
       |none=>none
       |some row=>bif Nat.ble (off+ty.2) row.length then some ⟨.c .undef,[(b,some (.rows sz (rs.set n (akJ row off v.cells))))],[b],[],nv⟩ else none
     else none
    |some (.fE sz' t')=>bif Nat.beq sz sz' then
      some ⟨.c .undef,[(b,some (.fE sz (.var nv [])))],[b],[.st t' i off v.cells (.var nv [])],nv+1⟩
     else none
    |_=>none
   |_=>none
  else none
theorem afv {t:TypeId}{a v:SV}{r:SR}(ha:EJ ρ th ah)(h:abK P pc th nv t a v=some r)(hs:∀s∈r.sd,s.holds P ρ)(hK:K (r.den ρ)):EK P ah t (a.den ρ) (v.den ρ) K:=by
 unfold abK at h
 split at h
 .cases h
 .rename_i ty hty
  refine dG.2 ⟨ty,hty,?_⟩
  cases h0:v.Dt&&Nat.beq v.cells.length ty.2
  .simp [h0] at h
  .simp only [h0,cond_true] at h
   simp only [ay] at h0
   obtain ⟨hbx,hlen⟩:=h0
   have hlen:=aA hlen
   split at h
   .rename_i b sz i off
    show (match ah b with|some (.rows sz' rs)=>sz=sz'/\(v.den ρ).Dt=true/\(v.den ρ).cells.length=ty.2/\(fQ rs[(i.den ρ).I.toNat]? fun row=>off+ty.2<=row.length/\(K ⟨.p undef,[(b,some (.rows sz (rs.set (i.den ρ).I.toNat (lay row off (v.den ρ).cells))))],[b]⟩))|_=>False)
    split at h
    .rename_i sz' rs hb
     cases h1:Nat.beq sz sz'
     .simp [h1] at h
     .simp only [h1,cond_true] at h
      split at h
      .cases h
      .rename_i n hn
       split at h
       .cases h
       .rename_i row hrow
        cases h2:Nat.ble (off+ty.2) row.length
        .simp [h2] at h
        .simp only [h2,cond_true,au] at h
         subst h
         rw [ha _ _ hb]
         refine ⟨aA h1,LY hbx,by rw [Aa hbx,fM,hlen],dG.2 ⟨dN ρ row,by rw [(fJ hn).2];exact Jd hrow,?_,?_⟩⟩
         .rw [fM];exact aG h2
         .rw [(fJ hn).2,Aa hbx,adQ,afu];exact hK
    .rename_i sz' t' hb
     cases h1:Nat.beq sz sz'
     .simp [h1] at h
     .simp only [h1,cond_true,au] at h
      subst h
      rw [ha _ _ hb]
      obtain ⟨row,q1,q2,q3⟩:=hs (.st t' i off v.cells (.var nv [])) (by simp)
      refine ⟨aA h1,LY hbx,by rw [Aa hbx,fM,hlen],dG.2 ⟨row,q1,by rw [<- hlen];exact q2,?_⟩⟩
      rw [Aa hbx]
      have:K ⟨.p undef,[(b,some (.rows sz ((Tm.var nv []).den ρ).R))],[b]⟩:=hK
      rw [q3] at this
      exact this
    .cases h
   .cases h
def KL (P:Program)(nv:Nat)(s:TypeId)(a:SV)(k:Nat):Option SR:=
 match U4 P s k with
 |none=>none
 |some f=>bif Nat.beq f.2.2 0 then none else
  match a with
  | .vp row off=>some (.val nv (.vp row (off+f.1)))
  | .op b sz i off=>some (.val nv (.op b sz i (off+f.1)))
  |_=>none
theorem UJ {s:TypeId}{a:SV}{k:Nat}{r:SR}(h:KL P nv s a k=some r)(hK:K (r.den ρ)):Am P s (a.den ρ) k K:=by
 unfold KL at h
 split at h
 .cases h
 .rename_i f hf
  refine dG.2 ⟨f,hf,?_⟩
  cases h0:Nat.beq f.2.2 0
  .simp only [h0,cond_false] at h
   refine ⟨fun e=>by rw [e] at h0;simp at h0,?_⟩
   split at h
   .simp only [au] at h;subst h;exact hK
   .simp only [au] at h;subst h;exact hK
   .cases h
  .simp [h0] at h
def abL (P:Program)(nv:Nat)(s:TypeId)(a:SV)(k:Nat):Option SR:=
 match U4 P s k with
 |none=>none
 |some f=>match a with
  | .agg cs=>(Df f.2 cs f.1).map (.val nv)
  |_=>none
theorem afw {s:TypeId}{a:SV}{k:Nat}{r:SR}(h:abL P nv s a k=some r)(hK:K (r.den ρ)):QD P s (a.den ρ) k K:=by
 unfold abL at h
 split at h
 .cases h
 .rename_i f hf
  refine dG.2 ⟨f,hf,?_⟩
  split at h
  .simp only [aB] at h
   obtain ⟨v,hv,rfl⟩:=h
   exact wH hv hK
  .cases h
def Ru (nv:Nat)(x:SV)(k:Nat):Option SR:=
 match x with
 | .eG l=>(BA l k).map (.val nv)
 |_=>none
theorem Y8 {x:SV}{k:Nat}{r:SR}(h:Ru nv x k=some r)(hK:K (r.den ρ)):Ap (x.den ρ) k K:=by
 unfold Ru at h
 split at h
 .simp only [aB] at h
  obtain ⟨v,hv,rfl⟩:=h
  exact dG.2 ⟨_,DN hv,hK⟩
 .cases h
def axR (a b:Option (List Side)):Option (List Side):=match a,b with|some a,some b=>some (a++b)|_,_=>none
theorem DR {a b:Option (List Side)}{l:List Side}(h:axR a b=some l):∃x y,a=some x/\b=some y/\l=x++y:=by
 unfold axR at h
 split at h
 .simp only [au] at h;exact ⟨_,_,rfl,rfl,h.symm⟩
 .cases h
def adR (pc:Pc)(s t:Tm):Option (List Side):=axR (axg pc s) (axg pc t)
theorem H9 (hp:pc.holds ρ){s t:Tm}{l:List Side}(h:adR pc s t=some l)(hs:∀s∈l,s.holds P ρ):(s.den ρ).B=true/\(t.den ρ).B=true:=by
 obtain ⟨x,y,h1,h2,rfl⟩:=DR h
 exact ⟨nZ hp h1 fun s hm=>hs s (by simp [hm]),nZ hp h2 fun s hm=>hs s (by simp [hm])⟩
def leT (x y:Tm):Tm:=awQ .leq (.int .i64) x y
def ltT (x y:Tm):Tm:=awQ .lss (.int .i64) x y
theorem wI {x y:Tm}(h:((leT x y).den ρ).B=true):(x.den ρ).I<=(y.den ρ).I:=by
 simpa [leT,nS,pz,D.BU] using h
theorem Xn {x y:Tm}(h:((ltT x y).den ρ).B=true):(x.den ρ).I<(y.den ρ).I:=by
 simpa [ltT,nS,pz,D.BU] using h
def axE (P:Program)(t:TypeId):Option TypeId:=match P.underlying t with|some (.slice e)=>some e|_=>none
def KN (P:Program)(pc:Pc)(nv:Nat)(t:TypeId)(x i:SV):Option SR:=
 match i with
 | .sc (.int _) n=>
  match x with
  | .sc .sl tm | .sf tm=>
   match lU P t,axE P t with
   |some e,some el=>match EZ P 20 el with
    |none=>none
    |some ks=>bif Nat.beq ks.length e.1 then
      some ⟨.vp (gX nv [] 0 ks) 0,[],[],[.row tm n (gX nv [] 0 ks)],nv+1⟩
     else none
   |_,_=>none
  | .slc rows _=>
   match lU P t,xG n with
   |some e,some j=>match BA rows j with
    |none=>none
    |some row=>bif Nat.beq row.length e.1 then some (.val nv (.vp row 0)) else none
   |_,_=>none
  | .os b sz off len=>
   match lU P t,adR pc (leT (.li 0) n) (ltT n len) with
   |some e,some l=>bif Nat.beq sz e.1 then
     match off,xG n with
     |0,_=>some ⟨.op b sz n 0,[],[],l,nv⟩
     |off,some j=>some ⟨.op b sz (.li (.ofNat (off+j))) 0,[],[],l,nv⟩
     |_,_=>none
    else none
   |_,_=>none
  | .vp row off=>
   match yP P t,xG n with
   |some e,some j=>bif Nat.blt j e.1 then some (.val nv (.vp row (off+j*e.2.1))) else none
   |_,_=>none
  | .op b sz j off=>
   match yP P t with
   |some e=>bif Nat.beq sz e.2.1 then
     match xG n,xG j with
     |some m,some q=>bif Nat.blt m e.1 then some (.val nv (.op b sz (.li (.ofNat (q+m))) off)) else none
     |none,some 0=>match adR pc (leT (.li 0) n) (ltT n (.li (.ofNat e.1))) with
      |some l=>some ⟨.op b sz n off,[],[],l,nv⟩
      |none=>none
     |_,_=>none
    else match xG n with
     |some m=>bif Nat.blt m e.1 then some (.val nv (.op b sz j (off+m*e.2.1))) else none
     |none=>none
   |none=>none
  |_=>none
 |_=>none
theorem JV {n:Nat}{p:List Nat}:∀{ks:List Kd} {j:Nat},(gX n p j ks).length=ks.length
 |[],_=>rfl
 |k::r,j=>by simp [gX,JV (ks:=r)]
theorem KO {a b:Nat}(h:Nat.blt a b=true):a<b:=aG h
theorem UK {t:TypeId}{x i:SV}{r:SR}(hp:pc.holds ρ)(h:KN P pc nv t x i=some r)(hs:∀s∈r.sd,s.holds P ρ)(hK:K (r.den ρ)):sF P t (x.den ρ) (i.den ρ) K:=by
 have frozen:∀(k:IntKind) (tm n:Tm) (full:Bool) (r:SR),(match lU P t,axE P t with
   |some e,some el=>match EZ P 20 el with
    |none=>none
    |some ks=>bif Nat.beq ks.length e.1 then
      some ⟨.vp (gX nv [] 0 ks) 0,[],[],[.row tm n (gX nv [] 0 ks)],nv+1⟩
     else none
   |_,_=>none)=some r->(∀s∈r.sd,s.holds P ρ)->K (r.den ρ)->sF P t (.sl (tm.den ρ).R full) (.p (.int k (n.den ρ).I)) K:=by
  intro k tm n full r h hs hK
  split at h
  .rename_i e el he hel
   split at h
   .cases h
   .rename_i ks hks
    cases h1:Nat.beq ks.length e.1
    .simp [h1] at h
    .simp only [h1,cond_true,au] at h
     subst h
     obtain ⟨h2,h3⟩:=hs (.row tm n (gX nv [] 0 ks)) (by simp)
     refine dG.2 ⟨e,he,h2,dG.2 ⟨_,h3,?_,hK⟩⟩
     rw [fM,JV];exact aA h1
  .cases h
 unfold KN at h
 split at h
 .rename_i k n
  split at h
  .exact frozen k _ n false r h hs hK
  .exact frozen k _ n true r h hs hK
  .split at h
   .rename_i e j he hj
    split at h
    .cases h
    .rename_i row hrow
     cases h1:Nat.beq row.length e.1
     .simp [h1] at h
     .simp only [h1,cond_true,au] at h
      subst h
      refine dG.2 ⟨e,he,?_,dG.2 ⟨dN ρ row,?_,by rw [fM];exact aA h1,hK⟩⟩
      .rw [(fJ hj).1];omega
      .rw [(fJ hj).2];exact Jd hrow
   .cases h
  .rename_i b sz off len
   split at h
   .rename_i e l he hl
    cases h1:Nat.beq sz e.1
    .simp [h1] at h
    .simp only [h1,cond_true] at h
     have main:r.sd=l->(0<=(n.den ρ).I/\(n.den ρ).I.toNat<(len.den ρ).I.toNat):=by
      intro hsd
      have:=H9 (P:=P) hp hl (fun s hm=>hs s (by rw [hsd];exact hm))
      have q1:(0:Int)<=(n.den ρ).I:=wI this.1
      have q2:=Xn this.2
      omega
     split at h
     .simp only [au] at h
      obtain ⟨m1,m2⟩:=main (by rw [<- h])
      subst h
      refine dG.2 ⟨e,he,m1,m2,aA h1,?_⟩
      rw [Nat.zero_add];exact hK
     .rename_i off j hoff hj
      simp only [au] at h
      obtain ⟨m1,m2⟩:=main (by rw [<- h])
      subst h
      refine dG.2 ⟨e,he,m1,m2,aA h1,?_⟩
      rw [(fJ hj).2]
      exact hK
     .cases h
   .cases h
  .rename_i row off
   split at h
   .rename_i e j he hj
    cases h1:Nat.blt j e.1
    .simp [h1] at h
    .simp only [h1,cond_true,au] at h
     subst h
     refine dG.2 ⟨e,he,by rw [(fJ hj).1];omega,by rw [(fJ hj).2];exact KO h1,?_⟩
     rw [(fJ hj).2];exact hK
   .cases h
  .rename_i b sz j off
   split at h
   .rename_i e he
    cases hq:Nat.beq sz e.2.1
    .simp only [hq,cond_false] at h
     split at h
     .rename_i m hm
      cases h1:Nat.blt m e.1
      .simp [h1] at h
      .simp only [h1,cond_true,au] at h
       subst h
       refine dG.2 ⟨e,he,by rw [(fJ hm).1];omega,by rw [(fJ hm).2];exact KO h1,?_⟩
       rw [(fJ hm).2,hq];exact hK
     .cases h
    .simp only [hq,cond_true] at h
     split at h
     .rename_i m q hm hj
      cases h1:Nat.blt m e.1
      .simp [h1] at h
      .simp only [h1,cond_true,au] at h
       subst h
       refine dG.2 ⟨e,he,by rw [(fJ hm).1];omega,by rw [(fJ hm).2];exact KO h1,?_⟩
       rw [(fJ hm).2,hq,(fJ hj).2];exact hK
     .rename_i hm hj
      split at h
      .rename_i l hl
       simp only [au] at h
       subst h
       obtain ⟨m1,m2⟩:=H9 (P:=P) hp hl hs
       have m1:(0:Int)<=_:=wI m1
       have m2:=Xn m2
       have m2':(n.den ρ).I<(e.1:Int):=m2
       refine dG.2 ⟨e,he,m1,by omega,?_⟩
       rw [hq,(fJ hj).2,Nat.zero_add];exact hK
      .cases h
     .cases h
   .cases h
  .cases h
 .cases h
def Vu : Tm->Tm
 | .ls l=>.li l.length
 |s=>.slen s
theorem Je {s:Tm}:((Vu s).den ρ).I=((s.den ρ).S.length:Int):=by unfold Vu;split<;>rfl
def adS (s n:Tm):Tm:=
 match s,xG n with
 | .ls l,some j=>.li ((l.getD j 0).toNat:Nat)
 |s,_=>.byte s n
theorem afx {s n:Tm}:((adS s n).den ρ).I=(((s.den ρ).S.getD (n.den ρ).I.toNat 0).toNat:Int):=by
 unfold adS
 split
 .rename_i l j hj;rw [(fJ hj).2];rfl
 .rfl
def abN (P:Program)(pc:Pc)(nv:Nat)(t:TypeId)(x i:SV):Option SR:=
 match i with
 | .sc (.int _) n=>
  match x with
  | .sc .str s=>
   match P.underlying t,adR pc (leT (.li 0) n) (ltT n (Vu s)) with
   |some .string,some l=>some ⟨.sc (.int .u8) (adS s n),[],[],l,nv⟩
   |_,_=>none
  | .agg cs=>
   match yP P t,xG n with
   |some e,some j=>bif Nat.blt j e.1 then (Df (e.2.2,e.2.1) cs (j*e.2.1)).map (.val nv) else none
   |_,_=>none
  |_=>none
 |_=>none
theorem afy {t:TypeId}{x i:SV}{r:SR}(hp:pc.holds ρ)(h:abN P pc nv t x i=some r)(hs:∀s∈r.sd,s.holds P ρ)(hK:K (r.den ρ)):J_ P t (x.den ρ) (i.den ρ) K:=by
 unfold abN at h
 split at h
 .rename_i k n
  split at h
  .rename_i s
   split at h
   .rename_i l hu hl
    simp only [au] at h
    subst h
    obtain ⟨h1,h2⟩:=H9 (P:=P) hp hl (fun s hm=>hs s hm)
    have q1:(0:Int)<=(n.den ρ).I:=wI h1
    have q2:=Xn h2
    rw [Je] at q2
    have hlt:(n.den ρ).I.toNat<(s.den ρ).S.length:=by omega
    refine ⟨hu,q1,dG.2 ⟨(s.den ρ).S[(n.den ρ).I.toNat],by simp [hlt],?_⟩⟩
    have hv:((adS s n).den ρ).I=(((s.den ρ).S[(n.den ρ).I.toNat]).toNat:Int):=by rw [afx];simp [hlt]
    rw [<- hv];exact hK
   .cases h
  .rename_i cs
   split at h
   .rename_i e j he hj
    cases h1:Nat.blt j e.1
    .simp [h1] at h
    .simp only [h1,cond_true,aB] at h
     obtain ⟨v,hv,rfl⟩:=h
     refine dG.2 ⟨e,he,by rw [(fJ hj).1];omega,by rw [(fJ hj).2];exact KO h1,?_⟩
     rw [(fJ hj).2];exact wH hv hK
   .cases h
  .cases h
 .cases h
end
end Go.Fw
end
section
namespace Go.Fw
variable [jK]
section
variable {P : Program} {ρ:List AV} {pc:Pc} {id nv:Nat} {fr:lH} {ah:AH} {tr:Tr oQ} {th:Tr SB} {K:qY->Prop}
def afz (P:Program)(eqv:TypeId->SV->SV->Option Tm)(xs ys:List SV):List Field->Option Tm
 |[]=>some (.lb true)
 |f::fs=>bif decide (f.name≠ "_") then
   match Ak P f.type with
   |none=>none
   |some ty=>match Df ty xs f.offset,Df ty ys f.offset with
    |some a,some b=>match eqv f.type a b,afz P eqv xs ys fs with
     |some r,some s=>some (aw7 r s)
     |_,_=>none
    |_,_=>none
  else afz P eqv xs ys fs
def yEq (P:Program):Nat->TypeId->SV->SV->Option Tm
 |0,_,_,_=>none
 |d+1,t,x,y=>
  match P.underlying t with
  |none=>none
  |some u=>match u,x,y with
   | .bool,.sc .bool a,.sc .bool b=>some (JR .eql .bool a b)
   | .int _,.sc (.int k) a,.sc (.int k') b=>bif decide (k=k') then some (JR .eql (.int k) a b) else none
   | .float _,.sc .kJ a,.sc .kJ b=>some (JR .eql .kJ a b)
   | .string,.sc .str a,.sc .str b=>some (JR .eql .str a b)
   | .pointer _,.c .ptr,.c .ptr=>some (.lb true)
   | .pointer _,.c .ptr,.vp _ _=>some (.lb false)
   | .pointer _,.c .ptr,.op _ _ _ _=>some (.lb false)
   | .pointer _,.vp _ _,.c .ptr=>some (.lb false)
   | .pointer _,.op _ _ _ _,.c .ptr=>some (.lb false)
   | .interface _,.c .lT,.c .lT=>some (.lb true)
   | .interface _,.c .lT,.lT _ _=>some (.lb false)
   | .interface _,.lT _ _,.c .lT=>some (.lb false)
   | .struct fs,.agg xs,.agg ys=>bif P.stoodInHeld t then none else afz P (yEq P d) xs ys fs.toList
   |_,_,_=>none
theorem Rw {ty:Bool×Nat}{row:List SV}{off:Nat}{v:SV}(h:Df ty row off=some v):Ko ty (dN ρ row) off=some (v.den ρ):=by
 have:=wH (ρ:=ρ) h (k:=fun x=>x=v.den ρ) rfl
 unfold apart at this
 unfold Ko
 split at this
 .rename_i h1;rw [if_pos h1,if_pos this.1,this.2]
 .rename_i h1;rw [if_neg h1];obtain ⟨z,hz,rfl⟩:=dG.1 this;exact hz
theorem Xo {eqv:TypeId->SV->SV->Option Tm}{eqa:TypeId->AV->AV->Option Bool}(he:∀t x y tm,eqv t x y=some tm->eqa t (x.den ρ) (y.den ρ)=some (tm.den ρ).B){xs ys:List SV} :
  ∀{fs:List Field} {tm:Tm},afz P eqv xs ys fs=some tm->YA P eqa (dN ρ xs) (dN ρ ys) fs=some (tm.den ρ).B
 |[],tm,h=>by simp [afz] at h;subst h;rfl
 |f::fs,tm,h=>by
  unfold afz at h
  by_cases hn:f.name≠ "_"
  .rw [show decide (f.name≠ "_")=true by simpa using hn] at h
   simp only [cond_true] at h
   split at h
   .cases h
   .rename_i ty hty
    split at h
    .rename_i a b ha hb
     split at h
     .rename_i r s hr hs
      simp only [au] at h;subst h
      unfold YA
      rw [if_pos hn,hty,Option.bind_some,Rw ha,Option.bind_some,Rw hb,Option.bind_some,he _ _ _ _ hr,Option.bind_some,Xo he hs,vG]
      rfl
     .cases h
    .cases h
  .rw [show decide (f.name≠ "_")=false by simpa using hn] at h
   simp only [cond_false] at h
   unfold YA
   rw [if_neg hn]
   exact Xo he h
theorem N8 : ∀{d:Nat} {t:TypeId} {x y:SV} {tm:Tm},yEq P d t x y=some tm->aeq P d t (x.den ρ) (y.den ρ)=some (tm.den ρ).B
 |0,t,x,y,tm,h=>by simp [yEq] at h
 |d+1,t,x,y,tm,h=>by
  unfold yEq at h
  split at h
  .cases h
  .rename_i u hu
   split at h
   .simp only [au] at h;subst h;simp [aeq,hu,SV.den,Kd.av,tN,pz,D.BU,NV]
   .rename_i k a k' b
    by_cases hk:k=k'
    .subst hk;simp at h;subst h;simp [aeq,hu,SV.den,Kd.av,tN,pz,D.BU,dS]
    .simp [hk] at h
   .simp only [au] at h;subst h;simp [aeq,hu,SV.den,Kd.av,tN,pz,D.BU,fEq,Op.floatEq]
   .simp only [au] at h;subst h;simp [aeq,hu,SV.den,Kd.av,tN,pz,D.BU,DK]
   .simp only [au] at h;subst h;simp [aeq,hu,SV.den,Cv.val,Tm.den,D.BU]
   .simp only [au] at h;subst h;simp [aeq,hu,SV.den,Cv.val,Tm.den,D.BU]
   .simp only [au] at h;subst h;simp [aeq,hu,SV.den,Cv.val,Tm.den,D.BU]
   .simp only [au] at h;subst h;simp [aeq,hu,SV.den,Cv.val,Tm.den,D.BU]
   .simp only [au] at h;subst h;simp [aeq,hu,SV.den,Cv.val,Tm.den,D.BU]
   .simp only [au] at h;subst h;simp [aeq,hu,SV.den,Cv.val,Tm.den,D.BU]
   .simp only [au] at h;subst h;simp [aeq,hu,SV.den,Cv.val,Tm.den,D.BU]
   .simp only [au] at h;subst h;simp [aeq,hu,SV.den,Cv.val,Tm.den,D.BU]
   .rename_i fs xs ys
    cases h1:P.stoodInHeld t
    .simp only [h1,cond_false] at h
     simp only [SV.den,aeq,hu,h1]
     rw [if_neg (by simp)]
     exact Xo (fun _ _ _ _ he=>N8 he) h
    .simp [h1] at h
   .cases h
def Vw (P:Program)(t:TypeId)(x:SV)(c:Bool):Bool:=
 match x with
 | .agg _=>!(P.eqGuardType P.depth t)
 | .c .lT=>c
 |_=>true
theorem Y9 {t:TypeId}{x:SV}{c:Bool}(h:Vw P t x c=true):abo P t (x.den ρ) c:=by
 unfold Vw at h
 split at h
 .simpa [abo,SV.den] using h
 .exact h
 .rename_i h1 h2
  cases x with
  |agg l=>exact absurd rfl (h1 l)
  |sc k t=>cases k<;>trivial
  |c v=>cases v<;>first|trivial|exact absurd rfl h2
  |_=>trivial
theorem afA {t:TypeId}{c:Bool}{a b:AV}{KV:AV->Prop}{r:Bool}(ha:∀k n,a≠.p (.int k n))(hf:∀k n,a≠.p (.float k n))(hs:∀s,a≠.str s)(hok:abo P t a c)(he:aeq P 10000 t a b=some r)(h:KV (.p (.bool r))):Kq P .eql t c a b KV:=by
 unfold Kq
 split<;>first|exact absurd rfl (ha _ _)|exact absurd rfl (hf _ _)|exact absurd rfl (hs _)|skip
 all_goals first|exact ⟨hok,dG.2 ⟨r,he,h⟩⟩|simp_all
theorem afB {t:TypeId}{c:Bool}{a b:AV}{KV:AV->Prop}{r:Bool}(ha:∀k n,a≠.p (.int k n))(hf:∀k n,a≠.p (.float k n))(hs:∀s,a≠.str s)(hok:abo P t a c)(he:aeq P 10000 t a b=some r)(h:KV (.p (.bool (!r)))):Kq P .neq t c a b KV:=by
 unfold Kq
 split<;>first|exact absurd rfl (ha _ _)|exact absurd rfl (hf _ _)|exact absurd rfl (hs _)|skip
 all_goals first|exact ⟨hok,dG.2 ⟨r,he,h⟩⟩|simp_all
def anV (o:BinOp)(x y:Nat):Bool:=match o with
 | .add=>(FloatKind.f64.format.add x y).isSome
 | .sub=>(FloatKind.f64.format.sub x y).isSome
 | .mul=>(FloatKind.f64.format.mul x y).isSome
 | .quo=>(FloatKind.f64.format.div x y).isSome
 |_=>false
def afC (o:BinOp)(x y:Tm):List Side:=
 match x,y with
 | .lf a,.lf b=>bif anV o a b then [] else [.fop o x y]
 |x,y=>[.fop o x y]
theorem akL {o:BinOp}{x y:Tm}(h:∀s∈afC o x y,s.holds P ρ):(Side.fop o x y).holds P ρ:=by
 unfold afC at h
 split at h
 .rename_i a b
  cases h1:anV o a b
  .exact h (.fop o (.lf a) (.lf b)) (by simp [h1])
  .cases o<;>first|exact h1|(simp [anV] at h1)
 .exact h (.fop o x y) (by simp)
def anW (x y:Tm):List Side:=
 match x,y with
 | .ls a,.ls b=>bif Nat.ble (a.length+b.length) 4294967296 then [] else [.cat x y]
 |x,y=>[.cat x y]
theorem akM {x y:Tm}(h:∀s∈anW x y,s.holds P ρ):(Side.cat x y).holds P ρ:=by
 unfold anW at h
 split at h
 .rename_i a b
  cases h1:Nat.ble (a.length+b.length) 4294967296
  .exact h (.cat (.ls a) (.ls b)) (by simp [h1])
  .exact aG h1
 .exact h (.cat x y) (by simp)
def Gl : BinOp->Bool
 | .eql | .neq | .lss | .leq | .gtr | .geq=>true
 |_=>false
def amI (pc:Pc)(nv:Nat)(o:BinOp)(k:IntKind)(a:Tm)(k':IntKind)(b:Tm):Option SR:=
 match o with
 | .shl=>(axg pc (leT (.li 0) b)).map fun l=>⟨.sc (.int k) (awQ .shl (.int k) a b),[],[],l,nv⟩
 | .shr=>(axg pc (leT (.li 0) b)).map fun l=>⟨.sc (.int k) (awQ .shr (.int k) a b),[],[],l,nv⟩
 | .quo=>bif decide (k=k') then (axg pc (awQ .neq (.int k) b (.li 0))).map fun l=>⟨.sc (.int k) (awQ .quo (.int k) a b),[],[],l,nv⟩ else none
 | .rem=>bif decide (k=k') then (axg pc (awQ .neq (.int k) b (.li 0))).map fun l=>⟨.sc (.int k) (awQ .rem (.int k) a b),[],[],l,nv⟩ else none
 |o=>bif decide (k=k') then some (.val nv (bif Gl o then .sc .bool (JR o (.int k) a b) else .sc (.int k) (awQ o (.int k) a b))) else none
def Y_ (nv:Nat)(o:BinOp)(a b:Tm):Option SR:=
 bif Gl o then some (.val nv (.sc .bool (JR o .kJ a b)))
 else match o with
  | .add=>some ⟨.sc .kJ (awQ .add .kJ a b),[],[],afC .add a b,nv⟩
  | .sub=>some ⟨.sc .kJ (awQ .sub .kJ a b),[],[],afC .sub a b,nv⟩
  | .mul=>some ⟨.sc .kJ (awQ .mul .kJ a b),[],[],afC .mul a b,nv⟩
  | .quo=>some ⟨.sc .kJ (awQ .quo .kJ a b),[],[],afC .quo a b,nv⟩
  |_=>none
def Za (nv:Nat)(o:BinOp)(a b:Tm):Option SR:=
 bif Gl o then some (.val nv (.sc .bool (JR o .str a b)))
 else match o with
  | .add=>some ⟨.sc .str (awQ .add .str a b),[],[],anW a b,nv⟩
  |_=>none
def Zb (P:Program)(nv:Nat)(o:BinOp)(t:TypeId)(c:Bool)(x y:SV):Option SR:=
 match o with
 | .eql=>bif Vw P t x c then (yEq P 10000 t x y).map fun tm=>.val nv (.sc .bool tm) else none
 | .neq=>bif Vw P t x c then (yEq P 10000 t x y).map fun tm=>.val nv (.sc .bool (awY tm)) else none
 |_=>none
def SV.isNum : SV->Bool
 | .sc (.int _) _ | .sc .kJ _ | .sc .str _=>true
 |_=>false
def anX (P:Program)(pc:Pc)(nv:Nat)(o:BinOp)(t:TypeId)(c:Bool)(x y:SV):Option SR:=
 match x,y with
 | .sc (.int k) a,.sc (.int k') b=>amI pc nv o k a k' b
 | .sc .kJ a,.sc .kJ b=>Y_ nv o a b
 | .sc .str a,.sc .str b=>Za nv o a b
 |x,y=>bif x.isNum then none else Zb P nv o t c x y
theorem getD_some {o:Option Nat}(h:o.isSome=true):o=some (o.getD 0):=by cases o<;>simp_all
theorem ahA {o:BinOp}{t:TypeId}{c:Bool}{k k':IntKind}{a b:Tm}{r:SR}(hp:pc.holds ρ)(h:amI pc nv o k a k' b=some r)(hs:∀s∈r.sd,s.holds P ρ)(hK:K (r.den ρ)) :
  Kq P o t c (.p (.int k (a.den ρ).I)) (.p (.int k' (b.den ρ).I)) fun a=>K (.val a):=by
 have rest:(bif decide (k=k') then some (SR.val nv (bif Gl o then .sc .bool (JR o (.int k) a b) else .sc (.int k) (awQ o (.int k) a b))) else none)=some r->k=k'/\
   K (.val (bif Gl o then (.p (.bool (pz o (.int k) (a.den ρ) (b.den ρ)).B)) else (.p (.int k (pz o (.int k) (a.den ρ) (b.den ρ)).I)))):=by
  intro h
  by_cases hk:k=k'
  .subst hk
   simp only [decide_true,cond_true,au] at h
   subst h
   refine ⟨rfl,?_⟩
   cases hc:Gl o<;>simp only [hc,cond_true,cond_false,SR.rX,SV.den,Kd.av,nS,tN] at hK ⊢<;>exact hK
  .simp [hk] at h
 have div:∀o:BinOp,(bif decide (k=k') then (axg pc (awQ .neq (.int k) b (.li 0))).map fun l=>(⟨.sc (.int k) (awQ o (.int k) a b),[],[],l,nv⟩:SR) else none)=some r->k=k'/\(b.den ρ).I≠0/\
   K (.val (.p (.int k (pz o (.int k) (a.den ρ) (b.den ρ)).I))):=by
  intro o h
  by_cases hk:k=k'
  .subst hk
   simp only [decide_true,cond_true,aB] at h
   obtain ⟨l,hl,rfl⟩:=h
   have h0:=nZ (P:=P) hp hl hs
   rw [nS] at h0
   refine ⟨rfl,?_,?_⟩
   .simpa [pz,D.BU,iK,Tm.den,D.I] using h0
   .have:K (.val (.p (.int k ((awQ o (.int k) a b).den ρ).I))):=hK
    rwa [nS] at this
  .simp [hk] at h
 have sh:∀o:BinOp,(axg pc (leT (.li 0) b)).map (fun l=>(⟨.sc (.int k) (awQ o (.int k) a b),[],[],l,nv⟩:SR))=some r->0<=(b.den ρ).I/\
   K (.val (.p (.int k (pz o (.int k) (a.den ρ) (b.den ρ)).I))):=by
  intro o h
  simp only [aB] at h
  obtain ⟨l,hl,rfl⟩:=h
  have h0:(0:Int)<=(b.den ρ).I:=wI (nZ (P:=P) hp hl hs)
  refine ⟨h0,?_⟩
  have:K (.val (.p (.int k ((awQ o (.int k) a b).den ρ).I))):=hK
  rwa [nS] at this
 cases o
 case shl=>exact sh .shl h
 case shr=>exact sh .shr h
 case quo=>exact div .quo h
 case rem=>exact div .rem h
 all_goals exact rest h
theorem ahB {o:BinOp}{t:TypeId}{c:Bool}{a b:Tm}{r:SR}(h:Y_ nv o a b=some r)(hs:∀s∈r.sd,s.holds P ρ)(hK:K (r.den ρ)) :
  Kq P o t c (.p (.float .f64 (a.den ρ).F)) (.p (.float .f64 (b.den ρ).F)) fun a=>K (.val a):=by
 cases o
 case add|sub|mul|quo=>
  simp only [Y_,Gl,cond_false,au] at h
  subst h
  have:=akL (P:=P) (ρ:=ρ) hs
  refine ⟨rfl,dG.2 ⟨_,getD_some this,?_⟩⟩
  simp only [SR.den,SV.den,Kd.av,nS,tN,List.map_nil] at hK
  exact hK
 case eql|neq|lss|leq|gtr|geq=>
  simp only [Y_,Gl,cond_true,au] at h
  subst h
  simp only [SR.rX,SV.den,Kd.av,nS,tN] at hK
  exact ⟨rfl,hK⟩
 all_goals (simp [Y_,Gl] at h)
theorem ahC {o:BinOp}{t:TypeId}{c:Bool}{a b:Tm}{r:SR}(h:Za nv o a b=some r)(hs:∀s∈r.sd,s.holds P ρ)(hK:K (r.den ρ)) :
  Kq P o t c (.str (a.den ρ).S) (.str (b.den ρ).S) fun a=>K (.val a):=by
 cases o
 case add=>
  simp only [Za,Gl,cond_false,au] at h
  subst h
  have:=akM (P:=P) (ρ:=ρ) hs
  simp only [SR.den,SV.den,Kd.av,nS,tN,List.map_nil] at hK
  exact ⟨this,hK⟩
 case eql|neq|lss|leq|gtr|geq=>
  simp only [Za,Gl,cond_true,au] at h
  subst h
  simp only [SR.rX,SV.den,Kd.av,nS,tN] at hK
  exact hK
 all_goals (simp [Za,Gl] at h)
theorem afD {x:SV}(h:x.isNum=false):(∀k n,x.den ρ≠.p (.int k n))/\(∀k n,x.den ρ≠.p (.float k n))/\(∀s,x.den ρ≠.str s):=by
 cases x with
 |sc k' t=>cases k'<;>simp [SV.isNum] at h<;>simp [SV.den,Kd.av]
 |c v=>cases v<;>simp [SV.den,Cv.val,Go.undef]
 |_=>simp [SV.den]
theorem ahD {o:BinOp}{t:TypeId}{c:Bool}{x y:SV}{r:SR}(hn:x.isNum=false)(h:Zb P nv o t c x y=some r)(hK:K (r.den ρ)) :
  Kq P o t c (x.den ρ) (y.den ρ) fun a=>K (.val a):=by
 obtain ⟨h1,h2,h3⟩:=afD (ρ:=ρ) hn
 cases o
 case eql=>
  simp only [Zb] at h
  cases h4:Vw P t x c
  .simp [h4] at h
  .simp only [h4,cond_true,aB] at h
   obtain ⟨tm,htm,rfl⟩:=h
   exact afA h1 h2 h3 (Y9 h4) (N8 htm) hK
 case neq=>
  simp only [Zb] at h
  cases h4:Vw P t x c
  .simp [h4] at h
  .simp only [h4,cond_true,aB] at h
   obtain ⟨tm,htm,rfl⟩:=h
   refine afB h1 h2 h3 (Y9 h4) (N8 htm) ?_
   have:K (.val (.p (.bool ((awY tm).den ρ).B))):=hK
   rwa [nT] at this
 all_goals (simp [Zb] at h)
theorem akN {o:BinOp}{t:TypeId}{c:Bool}{x y:SV}{r:SR}(hp:pc.holds ρ)(h:anX P pc nv o t c x y=some r)(hs:∀s∈r.sd,s.holds P ρ)(hK:K (r.den ρ)) :
  Kq P o t c (x.den ρ) (y.den ρ) fun a=>K (.val a):=by
 unfold anX at h
 split at h
 .exact ahA hp h hs hK
 .exact ahB h hs hK
 .exact ahC h hs hK
 .cases hn:x.isNum
  .simp only [hn,cond_false] at h
   exact ahD hn h hK
  .simp [hn] at h
end
end Go.Fw
end
section
namespace Go.Fw
variable [jK]
section
variable {P : Program} {ρ:List AV} {pc:Pc} {id nv:Nat} {fr:lH} {ah:AH} {tr:Tr oQ} {th:Tr SB} {K:qY->Prop}
def akO (k:Kd)(x:Tm):Tm:=match x.JH with|some d=>Tm.ofD ((Tm.neg k x).den [])|none=>.neg k x
def anY (k:IntKind)(x:Tm):Tm:=match x.JH with|some d=>Tm.ofD ((Tm.com k x).den [])|none=>.com k x
def ahF (k:IntKind)(x:Tm):Tm:=match x.JH with|some d=>Tm.ofD ((Tm.conv k x).den [])|none=>.conv k x
def anZ (x:Tm):Tm:=match x.JH with|some d=>Tm.ofD ((Tm.toF x).den [])|none=>.toF x
def ap1 (x:Tm):Tm:=match x.JH with|some d=>Tm.ofD ((Tm.YW x).den [])|none=>.YW x
theorem Qm {x:Tm}{d:D}(h:x.JH=some d)(ρ ρ':List AV):x.den ρ=x.den ρ':=by rw [Tm.DL h,Tm.DL h]
theorem ahG {k:Kd}{x:Tm}:(akO k x).den ρ=(Tm.neg k x).den ρ:=by
 unfold akO
 split
 .rename_i d hd
  rw [Tm.Jb (by intro l;cases k<;>simp [Tm.den])]
  simp only [Tm.den,Qm hd ρ []]
 .rfl
theorem ahH {k:IntKind}{x:Tm}:(anY k x).den ρ=(Tm.com k x).den ρ:=by
 unfold anY
 split
 .rename_i d hd
  rw [Tm.Jb (by intro l;simp [Tm.den])]
  simp only [Tm.den,Qm hd ρ []]
 .rfl
theorem afE {k:IntKind}{x:Tm}:(ahF k x).den ρ=(Tm.conv k x).den ρ:=by
 unfold ahF
 split
 .rename_i d hd
  rw [Tm.Jb (by intro l;simp [Tm.den])]
  simp only [Tm.den,Qm hd ρ []]
 .rfl
theorem ahI {x:Tm}:(anZ x).den ρ=(Tm.toF x).den ρ:=by
 unfold anZ
 split
 .rename_i d hd
  rw [Tm.Jb (by intro l;simp [Tm.den])]
  simp only [Tm.den,Qm hd ρ []]
 .rfl
def sUn (nv:Nat)(o:UnOp)(x:SV):Option SR:=
 match o,x with
 | .neg,.sc (.int k) a=>some (.val nv (.sc (.int k) (akO (.int k) a)))
 | .xor,.sc (.int k) a=>some (.val nv (.sc (.int k) (anY k a)))
 | .neg,.sc .kJ a=>some (.val nv (.sc .kJ (akO .kJ a)))
 | .not,.sc .bool a=>some (.val nv (.sc .bool (awY a)))
 |_,_=>none
theorem an0 {o:UnOp}{x:SV}{r:SR}(h:sUn nv o x=some r)(hK:K (r.den ρ)):aUn o (x.den ρ) fun a=>K (.val a):=by
 unfold sUn at h
 split at h<;>first|(cases h;done)|(simp only [au] at h;subst h;simp only [SR.rX,SV.den,Kd.av,ahG,ahH,nT] at hK;exact hK)
def an1 (k:IntKind)(x n:Tm):List Side:=
 match x with
 | .lf a=>bif decide ((FloatKind.f64.decode a).toInt .zero=some (n.den []).I)&&(decide (k.min<=(n.den []).I)&&decide ((n.den []).I<=k.max)) then (match n with | .li _=>[]|_=>[.num k x n]) else [.num k x n]
 |x=>[.num k x n]
theorem akP {k:IntKind}{x n:Tm}(h:∀s∈an1 k x n,s.holds P ρ):(Side.num k x n).holds P ρ:=by
 unfold an1 at h
 split at h
 .rename_i a
  cases h1:decide ((FloatKind.f64.decode a).toInt .zero=some (n.den []).I)&&(decide (k.min<=(n.den []).I)&&decide ((n.den []).I<=k.max))
  .rw [h1] at h;exact h (.num k (.lf a) n) (by simp)
  .rw [h1] at h
   simp only [cond_true] at h
   simp only [ay,decide_eq_true_eq] at h1
   split at h
   .exact ⟨h1.1,h1.2.1,h1.2.2⟩
   .exact h _ (by simp)
 .exact h (.num k x n) (by simp)
def KP : List UInt8:=(List.range 128).map UInt8.ofNat
theorem ahJ (n:Nat)(h:n<128):(KP.drop n).take 1=[UInt8.ofNat n]:=by
 have h1:n<KP.length:=by simpa [KP] using h
 rw [List.drop_eq_getElem_cons h1]
 simp [KP]
theorem ahK {n:Int}(h0:0<=n)(h1:n<128):(KP.drop n.toNat).take ((dZ .i64 n 1).toNat-n.toNat)=[UInt8.ofNat n.toNat]:=by
 have e:dZ .i64 n 1=n+1:=by
  unfold dZ IntKind.wrap
  simp [IntKind.bits,IntKind.signed]
  omega
 rw [e,show (n+1).toNat-n.toNat=1 by omega]
 exact ahJ _ (by omega)
def Rx (P:Program)(nv:Nat)(s d:TypeId)(x:SV):Option SR:=
 match P.underlying s,P.underlying d with
 |some _,some u=>
  match u,x with
  | .int k,.sc (.int _) a=>some (.val nv (.sc (.int k) (ahF k a)))
  | .float .f64,.sc (.int _) a=>some (.val nv (.sc .kJ (anZ a)))
  | .int k,.sc .kJ a=>some ⟨.sc (.int k) (ap1 a),[],[],an1 k a (ap1 a),nv⟩
  | .string,.sc .str a=>some (.val nv (.sc .str a))
  | .string,.sc (.int _) a=>some ⟨.sc .str (.GL (.ls KP) a (.bin .add (.int .i64) a (.li 1))),[],[],[.tm (.bin .leq (.int .i64) (.li 0) a),.tm (.bin .lss (.int .i64) a (.li 128))],nv⟩
  |_,_=>none
 |_,_=>none
theorem Zc {s d:TypeId}{x:SV}{r:SR}(h:Rx P nv s d x=some r)(hs:∀s∈r.sd,s.holds P ρ)(hK:K (r.den ρ)):Dv P s d (x.den ρ) fun a=>K (.val a):=by
 unfold Rx at h
 split at h
 .rename_i u0 u hu0 hu
  refine ⟨by rw [hu0];rfl,?_⟩
  rw [hu]
  split at h
  .simp only [au] at h;subst h
   simp only [SR.rX,SV.den,Kd.av,afE] at hK;exact hK
  .simp only [au] at h;subst h
   simp only [SR.rX,SV.den,Kd.av,ahI] at hK;exact hK
  .simp only [au] at h;subst h
   obtain ⟨h1,h2,h3⟩:=akP (P:=P) (ρ:=ρ) hs
   exact dG.2 ⟨_,h1,h2,h3,hK⟩
  .simp only [au] at h;subst h;exact hK
  .rename_i a
   simp only [au] at h;subst h
   have h0:0<=(a.den ρ).I:=of_decide_eq_true (hs (.tm (.bin .leq (.int .i64) (.li 0) a)) (by simp))
   have h1:(a.den ρ).I<128:=of_decide_eq_true (hs (.tm (.bin .lss (.int .i64) a (.li 128))) (by simp))
   refine ⟨h0,h1,?_⟩
   have e:(Tm.GL (.ls KP) a (.bin .add (.int .i64) a (.li 1))).den ρ=.s [UInt8.ofNat (a.den ρ).I.toNat]:=congrArg D.s (ahK h0 h1)
   simp only [SR.den,SV.den,e,Kd.av] at hK
   exact hK
  .cases h
 .cases h
def adT (x lo hi:Tm):Tm:=
 match x,xG lo,xG hi with
 | .ls l,some a,some b=>.ls ((l.drop a).take (b-a))
 |x,_,_=>.GL x lo hi
theorem afF {x lo hi:Tm}:((adT x lo hi).den ρ).S=((x.den ρ).S.drop (lo.den ρ).I.toNat).take ((hi.den ρ).I.toNat-(lo.den ρ).I.toNat):=by
 unfold adT
 split
 .rename_i l a b ha hb
  rw [(fJ ha).2,(fJ hb).2];rfl
 .rfl
def Ry (d:Tm):Option SV->Option Tm
 |none=>some d
 |some (.sc (.int _) t)=>some t
 |_=>none
def P7 (d:Nat):Option SV->Option Nat
 |none=>some d
 |some (.sc (.int _) t)=>xG t
 |_=>none
theorem Jf {d:Tm}{x:Option SV}{t:Tm}{dn:Nat}{k:Nat->Prop}(h:Ry d x=some t)(hd:(d.den ρ).I=dn)(h0:0<=(t.den ρ).I)(hk:k (t.den ρ).I.toNat):EL (x.map (SV.den ρ)) dn k:=by
 unfold Ry at h
 split at h
 .simp only [au] at h;subst h
  rw [hd] at hk
  simpa [EL] using hk
 .simp only [au] at h;subst h
  exact ⟨h0,hk⟩
 .cases h
theorem rP {d:Nat}{x:Option SV}{n:Nat}{k:Nat->Prop}(h:P7 d x=some n)(hk:k n):EL (x.map (SV.den ρ)) d k:=by
 unfold P7 at h
 split at h
 .simp only [au] at h;subst h;exact hk
 .refine ⟨by rw [(fJ h).1];omega,?_⟩
  rw [(fJ h).2];exact hk
 .cases h
def ap2 (a b c:Option (List Side)):Option (List Side):=axR a (axR b c)
def awK {α:Type}:Option α->Bool|none=>true|some _=>false
theorem abO {α:Type}{o:Option α}:awK o=o.isNone:=by cases o<;>rfl
def Xp (P:Program)(pc:Pc)(nv:Nat)(t:TypeId)(s:Tm)(lo hi mx:Option SV):Option SR:=
 bif awK mx then
  match P.underlying t,Ry (.li 0) lo,Ry (Vu s) hi with
  |some .string,some l,some h=>(ap2 (axg pc (leT (.li 0) l)) (axg pc (leT l h)) (axg pc (leT h (Vu s)))).map fun sd=>⟨.sc .str (adT s l h),[],[],sd,nv⟩
  |_,_,_=>none
 else none
theorem abP {t:TypeId}{s:Tm}{lo hi mx:Option SV}{r:SR}(hp:pc.holds ρ)(h:Xp P pc nv t s lo hi mx=some r)(hs:∀s∈r.sd,s.holds P ρ)(hK:K (r.den ρ)) :
  Aq P t (.str (s.den ρ).S) (lo.map (SV.den ρ)) (hi.map (SV.den ρ)) (mx.map (SV.den ρ)) K:=by
 unfold Xp at h
 cases hm:awK mx
 .simp [hm] at h
 .simp only [hm,cond_true] at h
  split at h
  .rename_i l u hu hl hh
   simp only [aB] at h
   obtain ⟨sd,hsd,rfl⟩:=h
   obtain ⟨x,y,h1,h2,rfl⟩:=DR hsd
   obtain ⟨y,z,h2',h3,rfl⟩:=DR h2
   have a1:(0:Int)<=(l.den ρ).I:=wI (nZ (P:=P) hp h1 fun s hm=>hs s (by simp [hm]))
   have a2:=wI (nZ (P:=P) hp h2' fun s hm=>hs s (by simp [hm]))
   have a3:=wI (nZ (P:=P) hp h3 fun s hm=>hs s (by simp [hm]))
   rw [Je] at a3
   refine ⟨hu,by rw [abO] at hm;simpa using hm,Jf hl rfl a1 (Jf hh Je (by omega) ⟨by omega,by omega,?_⟩)⟩
   have:K (.val (.str ((adT s l u).den ρ).S)):=hK
   rwa [afF] at this
  .cases h
def Xq (P:Program)(pc:Pc)(nv:Nat)(t:TypeId)(s:Tm)(lo hi mx:Option SV):Option SR:=
 match lU P t with
 |none=>none
 |some e=>
  match mx with
  |none=>match Ry (.li 0) lo,Ry (.rlen s) hi with
   |some l,some h=>some ⟨.sc .sl (.var nv []),[],[],[.sub e.1 s (some l) (some h) (.var nv [])],nv+1⟩
   |_,_=>none
  |some (.sc (.int _) m)=>match hi with
   |some (.sc (.int _) h)=>
    bif h.beq m then
     match lo,h with
     |none,.li (.ofNat 0)=>some ⟨.nil,[],[],[.sub e.1 s none (some (.li 0)) .nl],nv⟩
     |none,h=>some ⟨.sf (.var nv []),[],[],[.sub e.1 s none (some h) (.var nv [])],nv+1⟩
     |_,_=>none
    else none
   |_=>none
  |_=>none
theorem abQ {t:TypeId}{s:Tm}{lo hi mx:Option SV}{r:SR}{full:Bool}(hf:full=false)(h:Xq P pc nv t s lo hi mx=some r)(hs:∀s∈r.sd,s.holds P ρ)(hK:K (r.den ρ)) :
  Aq P t (.sl (s.den ρ).R full) (lo.map (SV.den ρ)) (hi.map (SV.den ρ)) (mx.map (SV.den ρ)) K:=by
 subst hf
 unfold Xq at h
 split at h
 .cases h
 .rename_i e he
  split at h
  .split at h
   .rename_i l u hl hh
    simp only [au] at h;subst h
    obtain ⟨b0,b1,b2,b3,b4⟩:=hs (.sub e.1 s (some l) (some u) (.var nv [])) (by simp)
    simp only [Vs] at b1 b2 b3 b4
    refine dG.2 ⟨e,he,b0,by simp,Jf hl rfl b1 (Jf hh (by rfl) (by omega) ⟨by omega,by omega,by omega,?_⟩)⟩
    have:K (.val (.sl ((Tm.var nv []).den ρ).R false)):=hK
    rw [b4] at this
    simpa using this
   .cases h
  .split at h
   .rename_i k m _ k' u
    cases hb:u.beq m
    .simp [hb] at h
    .simp only [hb,cond_true] at h
     have:=Tm.beq_eq hb;subst this
     split at h
     .simp only [au] at h;subst h
      obtain ⟨b0,b1,b2,b3,b4⟩:=hs (.sub e.1 s none (some (.li 0)) .nl) (by simp)
      refine dG.2 ⟨e,he,b0,by simp,?_⟩
      refine ⟨Int.le_refl _,Int.le_refl _,dF _,dF _,dD _,?_⟩
      have:K (.val (.sl [] true)):=hK
      have e0:(Tm.den ρ (Tm.li (Int.ofNat 0))).I.toNat=0:=rfl
      simpa [Tm.den,D.I] using this
     .simp only [au] at h;subst h
      obtain ⟨b0,b1,b2,b3,b4⟩:=hs (.sub e.1 s none (some u) (.var nv [])) (by simp)
      simp only [Vs] at b1 b2 b3 b4
      refine dG.2 ⟨e,he,b0,by simp,?_⟩
      refine ⟨by omega,by omega,by omega,dF _,by omega,?_⟩
      have:K (.val (.sl ((Tm.var nv []).den ρ).R true)):=hK
      rw [b4] at this
      simpa using this
     .cases h
   .cases h
  .cases h
def Qn (P:Program)(nv:Nat)(t:TypeId)(rows:List (List SV))(full:Bool)(lo hi mx:Option SV):Option SR:=
 match lU P t,P7 0 lo,P7 rows.length hi,P7 rows.length mx with
 |some e,some l,some h,some m=>
  bif rows.all (fun r=>Nat.beq r.length e.1)&&((awK mx||!awK hi)&&(Nat.ble l h&&(Nat.ble h m&&Nat.ble m rows.length))) then
   some (.val nv (.slc ((rows.drop l).take (h-l)) (bif awK mx then full&&Nat.beq h rows.length else Nat.beq m h)))
  else none
 |_,_,_,_=>none
theorem E5 {n:Nat}{rows:List (List SV)}(h:rows.all (fun r=>Nat.beq r.length n)=true):kW n (gY ρ rows):=by
 intro row hr
 rw [lG] at hr
 obtain ⟨x,hx,rfl⟩:=aW.1 hr
 rw [aH] at h
 rw [fM]
 exact aA (h x hx)
theorem Rz {t:TypeId}{rows:List (List SV)}{full:Bool}{lo hi mx:Option SV}{r:SR}(h:Qn P nv t rows full lo hi mx=some r)(hK:K (r.den ρ)) :
  Aq P t (.sl (gY ρ rows) full) (lo.map (SV.den ρ)) (hi.map (SV.den ρ)) (mx.map (SV.den ρ)) K:=by
 unfold Qn at h
 split at h
 .rename_i e l u m he hl hh hm
  cases hc:rows.all (fun r=>Nat.beq r.length e.1)&&((awK mx||!awK hi)&&(Nat.ble l u&&(Nat.ble u m&&Nat.ble m rows.length)))
  .simp [hc] at h
  .simp only [hc,cond_true,au] at h
   subst h
   simp only [ay] at hc
   obtain ⟨c1,c2,c3,c4,c5⟩:=hc
   refine dG.2 ⟨e,he,E5 c1,?_,rP hl (rP (by rw [fO];exact hh) (rP (by rw [fO];exact hm) ⟨aG c3,aG c4,by rw [fO];exact aG c5,?_⟩))⟩
   .intro hs
    cases mx<;>cases hi<;>simp_all [awK]
   .rw [yc,yg]
    have:K (.val (.sl (gY ρ ((rows.drop l).take (u-l))) (bif awK mx then full&&Nat.beq u rows.length else Nat.beq m u))):=hK
    have e2:∀a b:Nat,Nat.beq a b=decide (a=b):=fun a b=>by
     cases hb:Nat.beq a b
     .symm;rw [decide_eq_false_iff_not];intro e;rw [e] at hb;simp at hb
     .symm;rw [decide_eq_true_iff];exact aA hb
    rw [e2,e2] at this
    cases mx<;>simpa [awK,fO] using this
 .cases h
def an2 (off:Nat)(h:Tm):Option Tm:=match off with
 |0=>some h
 |off=>(xG h).map fun n=>.li (.ofNat (n-off))
theorem ahM {off:Nat}{h t:Tm}(e:an2 off h=some t):(t.den ρ).I.toNat=(h.den ρ).I.toNat-off:=by
 unfold an2 at e
 split at e
 .simp only [au] at e;subst e;simp
 .simp only [aB] at e
  obtain ⟨n,hn,rfl⟩:=e
  rw [(fJ hn).2];rfl
def Xr (P:Program)(pc:Pc)(nv:Nat)(t:TypeId)(b sz off:Nat)(len:Tm)(lo hi mx:Option SV):Option SR:=
 bif awK mx then
  match lU P t,P7 0 lo,Ry len hi with
  |some e,some l,some h=>
   bif Nat.beq sz e.1 then
    match an2 l h,ap2 (axg pc (leT (.li 0) h)) (axg pc (leT (.li l) h)) (axg pc (leT h len)) with
    |some n,some sd=>some ⟨.os b sz (off+l) n,[],[],sd,nv⟩
    |_,_=>none
   else none
  |_,_,_=>none
 else match lU P t,xG len with
  |some e,some n=>match P7 0 lo,P7 n hi,P7 n mx with
   |some l,some h,some m=>bif Nat.beq sz e.1&&(!awK hi&&(Nat.ble l h&&(Nat.ble h m&&Nat.ble m n))) then some (.val nv (.os b sz (off+l) (.li (.ofNat (h-l))))) else none
   |_,_,_=>none
  |_,_=>none
theorem abR {t:TypeId}{b sz off:Nat}{len:Tm}{lo hi mx:Option SV}{r:SR}(hp:pc.holds ρ)(h:Xr P pc nv t b sz off len lo hi mx=some r)(hs:∀s∈r.sd,s.holds P ρ)(hK:K (r.den ρ)) :
  Aq P t (.os b sz off (len.den ρ).I.toNat) (lo.map (SV.den ρ)) (hi.map (SV.den ρ)) (mx.map (SV.den ρ)) K:=by
 unfold Xr at h
 cases hm:awK mx
 .simp only [hm,cond_false] at h
  split at h
  .rename_i e n he hn
   split at h
   .rename_i l u m hl hh hmx
    cases hc:(Nat.beq sz e.1&&(!awK hi&&(Nat.ble l u&&(Nat.ble u m&&Nat.ble m n))))
    .simp [hc] at h
    .simp only [hc,cond_true,au] at h;subst h
     simp only [ay,Bool.not_eq_true'] at hc
     obtain ⟨c1,c2,c3,c4,c5⟩:=hc
     have hlen:=(fJ (ρ:=ρ) hn).2
     refine dG.2 ⟨e,he,aA c1,?_,?_⟩
     .intro _;cases hi
      .simp [awK] at c2
      .rfl
     .rw [hlen]
      refine rP hl (rP hh (rP hmx ⟨aG c3,aG c4,aG c5,?_⟩))
      exact hK
   .cases h
  .cases h
 .simp only [hm,cond_true] at h
  cases mx with
  |some x=>simp [awK] at hm
  |none=>
   split at h
   .rename_i e l u he hl hh
    cases h1:Nat.beq sz e.1
    .simp [h1] at h
    .simp only [h1,cond_true] at h
     split at h
     .rename_i n sd hn hsd
      simp only [au] at h;subst h
      obtain ⟨x,y,q1,q2,rfl⟩:=DR hsd
      obtain ⟨y,z,q2',q3,rfl⟩:=DR q2
      have a1:(0:Int)<=(u.den ρ).I:=wI (nZ (P:=P) hp q1 fun s hm=>hs s (by simp [hm]))
      have a2:(l:Int)<=(u.den ρ).I:=wI (nZ (P:=P) hp q2' fun s hm=>hs s (by simp [hm]))
      have a3:=wI (nZ (P:=P) hp q3 fun s hm=>hs s (by simp [hm]))
      refine dG.2 ⟨e,he,aA h1,by simp,rP hl ?_⟩
      have key:∀hi':Nat,hi'=(u.den ρ).I.toNat->l<=hi'/\hi'<=(len.den ρ).I.toNat/\(len.den ρ).I.toNat<=(len.den ρ).I.toNat/\K (.val (.os b sz (off+l) (hi' - l))):=by
       intro hi' e'
       refine ⟨by omega,by omega,dF _,?_⟩
       rw [e',<- ahM hn];exact hK
      cases hi with
      |none=>
       simp only [Ry,au] at hh;subst hh
       exact key _ rfl
      |some x=>
       cases x with
       |sc k t=>
        cases k with
        |int k=>simp only [Ry,au] at hh;subst hh;exact ⟨a1,key _ rfl⟩
        |_=>simp [Ry] at hh
       |_=>simp [Ry] at hh
     .cases h
   .cases h
def abS (P:Program)(pc:Pc)(nv:Nat)(t:TypeId)(x:SV)(lo hi mx:Option SV):Option SR:=
 match x with
 | .sc .str s=>Xp P pc nv t s lo hi mx
 | .sc .sl s=>Xq P pc nv t s lo hi mx
 | .slc rows full=>Qn P nv t rows full lo hi mx
 | .nil=>Qn P nv t [] true lo hi mx
 | .os b sz off len=>Xr P pc nv t b sz off len lo hi mx
 |_=>none
theorem afG {t:TypeId}{x:SV}{lo hi mx:Option SV}{r:SR}(hp:pc.holds ρ)(h:abS P pc nv t x lo hi mx=some r)(hs:∀s∈r.sd,s.holds P ρ)(hK:K (r.den ρ)) :
  Aq P t (x.den ρ) (lo.map (SV.den ρ)) (hi.map (SV.den ρ)) (mx.map (SV.den ρ)) K:=by
 unfold abS at h
 split at h
 .exact abP hp h hs hK
 .exact abQ rfl h hs hK
 .exact Rz h hK
 .exact Rz h hK
 .exact abR hp h hs hK
 .cases h
def Xt (P:Program)(pc:Pc)(th:Tr SB)(nv:Nat)(t:TypeId)(x:SV)(lo hi mx:Option SV):Option SR:=
 match x with
 | .op b sz i off=>match ag3 P t,xG i with
  |some e,some q=>match th.get b with
   |some (.rows sz' rs)=>match P7 0 lo,P7 e.1 hi,P7 e.1 mx with
    |some l,some h,some m=>bif Nat.beq sz e.2.1&&(Nat.beq off 0&&(Nat.ble e.1 4294967296&&(Nat.beq sz sz'&&(Nat.ble (q+e.1) rs.length&&((awK mx||!awK hi)&&(Nat.ble l h&&(Nat.ble h m&&Nat.ble m e.1))))))) then
     some ⟨.os b sz (q+l) (.li (.ofNat (h-l))),[],[b],[],nv⟩ else none
    |_,_,_=>none
   |_=>none
  |_,_=>none
 |x=>abS P pc nv t x lo hi mx
theorem abT {th:Tr SB}{ah:AH}{t:TypeId}{x:SV}{lo hi mx:Option SV}{r:SR}(hp:pc.holds ρ)(ha:EJ ρ th ah)(h:Xt P pc th nv t x lo hi mx=some r)(hs:∀s∈r.sd,s.holds P ρ)(hK:K (r.den ρ)) :
  BI P ah t (x.den ρ) (lo.map (SV.den ρ)) (hi.map (SV.den ρ)) (mx.map (SV.den ρ)) K:=by
 unfold Xt at h
 split at h
 .rename_i b sz i off
  split at h
  .rename_i e q he hq
   split at h
   .rename_i sz' rs hb
    split at h
    .rename_i l u m hl hh hm
     generalize hc:(Nat.beq sz e.2.1&&(Nat.beq off 0&&(Nat.ble e.1 4294967296&&(Nat.beq sz sz'&&(Nat.ble (q+e.1) rs.length&&((awK mx||!awK hi)&&(Nat.ble l u&&(Nat.ble u m&&Nat.ble m e.1))))))))=g at h
     cases g
     .cases h
     .simp only [cond_true,au] at h;subst h
      simp only [ay] at hc
      obtain ⟨c1,c2,c3,c4,c5,c6,c7,c8,c9⟩:=hc
      have e4:=aA c4
      refine dG.2 ⟨e,he,aA c1,aA c2,aG c3,?_⟩
      rw [ha _ _ hb]
      refine ⟨e4,?_,?_,rP hl (rP hh (rP hm ⟨aG c7,aG c8,aG c9,?_⟩))⟩
      .rw [(fJ hq).2,fO];exact aG c5
      .intro hs0
       cases mx<;>cases hi<;>simp_all [awK]
      .rw [(fJ hq).2];exact hK
    .cases h
   .cases h
  .cases h
 .rename_i hne
  have:=afG hp h hs hK
  cases x with
  |op b sz i off=>exact absurd rfl (hne b sz i off)
  |sc k t=>cases k<;>exact this
  |_=>exact this
end
end Go.Fw
end
section
namespace Go.Fw
variable [jK]
section
variable {P : Program} {ρ:List AV} {pc:Pc} {id nv:Nat} {fr:lH} {ah:AH} {tr:Tr oQ} {th:Tr SB} {K:qY->Prop}
def axi (P:Program)(t:TypeId):Option (List SV):=((P.info? t).bind (·.zero)).bind fun z=>Rt z.cells.toList
theorem Ac {t:TypeId}{l:List SV}(h:axi P t=some l):awM P t=some (dN ρ l):=by
 unfold axi at h
 unfold awM
 simp only [aV] at h
 obtain ⟨z,hz,h⟩:=h
 obtain ⟨i,hi,hz⟩:=hz
 simp [hi,hz,Jc (ρ:=ρ) h]
def Vx (place:Nat->Option (Nat×Nat))(cells:List SV):List (Nat×SV)->Option (List SV)
 |[]=>some cells
 |(i,v)::rest=>
  match place i with
  |none=>none
  |some (off,size)=>bif v.Dt&&(Nat.beq v.cells.length size&&Nat.ble (off+v.cells.length) cells.length) then Vx place (akJ cells off v.cells) rest else none
theorem N9 {place:Nat->Option (Nat×Nat)}:∀{parts:List (Nat×SV)} {cells out:List SV},Vx place cells parts=some out->
  LC place (dN ρ cells) (parts.map fun q=>(q.1,q.2.den ρ))=some (dN ρ out)
 |[],cells,out,h=>by simp [Vx] at h;subst h;rfl
 |(i,v)::rest,cells,out,h=>by
  simp only [Vx] at h
  split at h
  .cases h
  .rename_i off size hpl
   cases hc:v.Dt&&(Nat.beq v.cells.length size&&Nat.ble (off+v.cells.length) cells.length)
   .simp [hc] at h
   .simp only [hc,cond_true] at h
    simp only [ay] at hc
    obtain ⟨c1,c2,c3⟩:=hc
    simp only [aZ,LC,hpl]
    rw [LY c1,Aa c1,fM,fM,aA c2]
    have c3:=aG c3
    rw [aA c2] at c3
    rw [if_neg (by simp;omega),adQ]
    exact N9 h
def abU (P:Program)(nv:Nat)(t:TypeId)(parts:List (Nat×SV)):Option SR:=
 match axi P t,axa P t with
 |some z,some pl=>(Vx pl z parts).map fun cs=>.val nv (.agg cs)
 |_,_=>none
theorem afH {t:TypeId}{parts:List (Nat×SV)}{r:SR}(h:abU P nv t parts=some r)(hK:K (r.den ρ)):QE P t (parts.map fun q=>(q.1,q.2.den ρ)) K:=by
 unfold abU at h
 split at h
 .rename_i z pl hz hpl
  simp only [aB] at h
  obtain ⟨cs,hcs,rfl⟩:=h
  exact dG.2 ⟨_,Ac hz,dG.2 ⟨pl,hpl,dG.2 ⟨_,N9 hcs,hK⟩⟩⟩
 .cases h
def Xu (n:Nat):Nat->List SV->List (List SV)
 |0,_=>[]
 |k+1,l=>l.take n::Xu n k (l.drop n)
theorem RF {n:Nat}:∀{k:Nat} {l:List SV},awR n k (dN ρ l)=gY ρ (Xu n k l)
 |0,l=>rfl
 |k+1,l=>by simp only [awR,Xu,gY,N7,NZ,RF (k:=k)]
theorem JW {z:List SV}:∀{n:Nat},(List.replicate n (dN ρ z)).flatten=dN ρ (List.replicate n z).flatten
 |0=>rfl
 |n+1=>by simp only [List.replicate_succ,List.flatten_cons,lJ,JW (n:=n)]
def H_ (P:Program)(nv:Nat)(t:TypeId)(id len:Nat)(parts:List (Nat×SV)):Option SR:=
 match P.underlying t with
 |some (.slice e)=>match P.info? e,axi P e with
  |some i,some z=>bif Nat.beq z.length i.size&&Nat.ble (len*i.size+len) 16777216 then
    (Vx (fun k=>some (k*i.size,i.size)) (List.replicate len z).flatten parts).map fun cs=>⟨.os id i.size 0 (.li (.ofNat len)),[(id,some (.rows i.size (Xu i.size len cs)))],[],[],nv⟩
   else none
  |_,_=>none
 |_=>none
theorem RG {t:TypeId}{len:Nat}{parts:List (Nat×SV)}{r:SR}(h:H_ P nv t id len parts=some r)(hK:K (r.den ρ)):lI P t id len (parts.map fun q=>(q.1,q.2.den ρ)) K:=by
 unfold H_ at h
 split at h
 .rename_i e hu
  split at h
  .rename_i i z hi hz
   cases hc:Nat.beq z.length i.size&&Nat.ble (len*i.size+len) 16777216
   .simp [hc] at h
   .simp only [hc,cond_true,aB] at h
    obtain ⟨cs,hcs,rfl⟩:=h
    simp only [ay] at hc
    unfold lI
    rw [hu]
    refine dG.2 ⟨i,hi,dG.2 ⟨_,Ac (ρ:=ρ) hz,by rw [fM];exact aA hc.1,aG hc.2,dG.2 ⟨dN ρ cs,?_,?_⟩⟩⟩
    .rw [JW];exact N9 hcs
    .rw [RF];exact hK
  .cases h
 .cases h
def an3 (nv id:Nat)(v:SV):Option SR:=
 bif v.Dt then some ⟨.op id v.cells.length (.li 0) 0,[(id,some (.rows v.cells.length [v.cells]))],[],[],nv⟩ else none
theorem akQ {v:SV}{r:SR}(h:an3 nv id v=some r)(hK:K (r.den ρ)):anJ id (v.den ρ) K:=by
 unfold an3 at h
 cases hb:v.Dt
 .simp [hb] at h
 .simp only [hb,cond_true,au] at h
  subst h
  refine ⟨LY hb,?_⟩
  rw [Aa hb,fM];exact hK
def abV (P:Program)(nv id:Nat)(t:TypeId):Option SR:=
 (axi P t).map fun z=>match axV P t with
  |true=>⟨.op id 1 (.li 0) 0,[(id,some (.rows 1 (z.map fun x=>[x])))],[],[],nv⟩
  |false=>⟨.op id z.length (.li 0) 0,[(id,some (.rows z.length [z]))],[],[],nv⟩
theorem afI {t:TypeId}{r:SR}(h:abV P nv id t=some r)(hK:K (r.den ρ)):NI P t id K:=by
 unfold abV at h
 simp only [aB] at h
 obtain ⟨z,hz,rfl⟩:=h
 refine dG.2 ⟨_,Ac (ρ:=ρ) hz,?_⟩
 cases ha:axV P t with
 |true=>
  rw [ha] at hK
  have:K ⟨.op id 1 0 0,[(id,some (.rows 1 (gY ρ (z.map fun x=>[x]))))],[]⟩:=hK
  have e:gY ρ (z.map fun x=>[x])=(dN ρ z).map fun x=>[x]:=by simp [lG,mY,dN,Function.comp_def]
  rw [e] at this
  exact this
 |false=>rw [ha] at hK;rw [fM];exact hK
def ahO : SV->Option SV
 | .nil=>some (.sc .sl .nl)
 | .sc .sl _=>none
 | .sc k t=>some (.sc k t)
 | .c v=>some (.c v)
 |_=>none
def Zd : List SV->Option (List SV)
 |[]=>some []
 |x::r=>match ahO x,Zd r with|some y,some l=>some (y::l)|_,_=>none
theorem afJ {x y:SV}(h:ahO x=some y):y.den ρ=Kr (x.den ρ):=by
 unfold ahO at h
 split at h
 .simp only [au] at h;subst h;rfl
 .cases h
 .rename_i k t hk
  simp only [au] at h;subst h
  cases k<;>first|rfl|exact absurd rfl hk
 .simp only [au] at h;subst h;rfl
 .cases h
theorem Vy : ∀{z y:List SV},Zd z=some y->dN ρ y=(dN ρ z).map Kr
 |[],y,h=>by simp only [Zd,au] at h;subst h;rfl
 |x::r,y,h=>by
  simp only [Zd] at h
  split at h
  .rename_i a l ha hl
   simp only [au] at h;subst h
   simp only [dN,aZ,afJ ha,Vy hl]
  .cases h
def KQ (P:Program)(nv id:Nat)(t:TypeId)(l c:SV):Option SR:=
 match P.underlying t,l,c with
 |some (.slice e),.sc (.int _) l,.sc (.int _) c=>match P.info? e,axi P e with
  |some i,some z0=>match Zd z0 with
   |none=>none
   |some z=>bif Nat.beq z0.length i.size&&Nat.ble i.bytes 4096 then
    match xG l,xG c with
    |some n,some m=>bif Nat.ble n m&&Nat.ble m 4294967296 then some ⟨.os id i.size 0 l,[(id,some (.rows i.size (List.replicate n z)))],[],[],nv⟩ else none
    |_,_=>some ⟨.os id i.size 0 l,[(id,some (.fE i.size (.var nv [])))],[],[.mk l c z (.var nv [])],nv+1⟩
   else none
  |_,_=>none
 |_,_,_=>none
theorem Gm {z:List SV}:∀{n:Nat},List.replicate n (dN ρ z)=gY ρ (List.replicate n z)
 |0=>rfl
 |n+1=>by simp only [List.replicate_succ,gY,Gm (n:=n)]
theorem UL {t:TypeId}{l c:SV}{r:SR}(h:KQ P nv id t l c=some r)(hs:∀s∈r.sd,s.holds P ρ)(hK:K (r.den ρ)):sG P t id (l.den ρ) (c.den ρ) K:=by
 unfold KQ at h
 split at h
 .rename_i e k l k' c hu
  split at h
  .rename_i i z0 hi hz
   split at h
   .cases h
   rename_i z hlo
   have ap3:=Vy (ρ:=ρ) hlo
   cases hc:Nat.beq z0.length i.size&&Nat.ble i.bytes 4096
   .simp [hc] at h
   .simp only [hc,cond_true] at h
    simp only [ay] at hc
    simp only [sG,hu,SV.den,Kd.av]
    split at h
    .rename_i n m hn hm
     cases hd:Nat.ble n m&&Nat.ble m 4294967296
     .simp [hd] at h
     .simp only [hd,cond_true,au] at h
      subst h
      simp only [ay] at hd
      have d1:=aG hd.1
      have d2:=aG hd.2
      refine dG.2 ⟨i,hi,dG.2 ⟨_,Ac (ρ:=ρ) hz,by rw [fM];exact aA hc.1,?_,?_,?_,aG hc.2,?_⟩⟩
      .rw [(fJ hn).1];omega
      .rw [(fJ hn).1,(fJ hm).1];omega
      .rw [(fJ hm).1];omega
      .have e:=(fJ (ρ:=ρ) hn).2
       rw [e,<- ap3,Gm]
       have:K ⟨.os id i.size 0 (l.den ρ).I.toNat,[(id,some (.rows i.size (gY ρ (List.replicate n z))))],[]⟩:=hK
       rwa [e] at this
    .simp only [au] at h
     subst h
     obtain ⟨b1,b2,b3,b4⟩:=hs (.mk l c z (.var nv [])) (by simp)
     refine dG.2 ⟨i,hi,dG.2 ⟨_,Ac (ρ:=ρ) hz,by rw [fM];exact aA hc.1,b1,b2,b3,aG hc.2,?_⟩⟩
     rw [<- ap3,<- b4];exact hK
  .cases h
 .cases h
def Vz (nv:Nat)(f:Fn)(first captured:List SV):Option SR:=
 match f with
 | .func f=>some (.val nv (.fn f first captured))
 |_=>none
def axk (pc:Pc)(t:Tm):Option (List Side):=
 match t with
 | .li (.ofNat _)=>some []
 | .slen _=>some []
 | .rlen _=>some []
 |t=>axg pc (leT (.li 0) t)
theorem VA {t:Tm}{l:List Side}(hp:pc.holds ρ)(h:axk pc t=some l)(hs:∀s∈l,s.holds P ρ):0<=(t.den ρ).I:=by
 unfold axk at h
 split at h
 .exact Int.natCast_nonneg _
 .exact Int.natCast_nonneg _
 .exact Int.natCast_nonneg _
 .exact wI (nZ (P:=P) hp h hs)
def sLn (P:Program)(pc:Pc)(th:Tr SB)(nv:Nat)(t:TypeId)(x:SV):Option SR:=
 match P.underlying t with
 |none=>none
 |some u=>match u,x with
  | .string,.sc .str s=>some (.val nv (.sc (.int .i64) (Vu s)))
  | .slice _,.sc .sl s=>some (.val nv (.sc (.int .i64) (.rlen s)))
  | .slice _,.sf s=>some (.val nv (.sc (.int .i64) (.rlen s)))
  | .slice _,.nil=>some (.val nv (.sc (.int .i64) (.li 0)))
  | .slice _,.slc rows _=>some (.val nv (.sc (.int .i64) (.li (.ofNat rows.length))))
  | .slice _,.os _ _ _ len=>(axk pc len).map fun l=>⟨.sc (.int .i64) len,[],[],l,nv⟩
  | .map _ _,.c .mp=>some (.val nv (.sc (.int .i64) (.li 0)))
  | .map _ _,.mp b=>match th.get b with
   |some (.map es)=>some ⟨.sc (.int .i64) (.li (.ofNat es.length)),[],[b],[],nv⟩
   |_=>none
  |_,_=>none
theorem an4 {t:TypeId}{x:SV}{r:SR}(hp:pc.holds ρ)(ha:EJ ρ th ah)(h:sLn P pc th nv t x=some r)(hs:∀s∈r.sd,s.holds P ρ)(hK:K (r.den ρ)):YD P ah t (x.den ρ) K:=by
 unfold sLn at h
 split at h
 .cases h
 .rename_i u hu
  unfold YD
  rw [hu]
  split at h
  .simp only [au] at h;subst h
   simp only [SR.rX,SV.den,Kd.av,Je] at hK;exact hK
  .simp only [au] at h;subst h;exact hK
  .simp only [au] at h;subst h;exact hK
  .simp only [au] at h;subst h;exact hK
  .simp only [au] at h;subst h
   rename_i rows f
   have:K (.val (.p (.int .i64 (rows.length:Nat)))):=hK
   rw [<- fO (ρ:=ρ)] at this
   exact this
  .simp only [aB] at h
   obtain ⟨l,hl,rfl⟩:=h
   rename_i b sz off len
   have h0:=VA (P:=P) hp hl hs
   have:K (.val (.p (.int .i64 (len.den ρ).I))):=hK
   show K (.val (.p (.int .i64 ((len.den ρ).I.toNat:Nat))))
   rwa [Int.toNat_of_nonneg h0]
  .simp only [au] at h;subst h;exact hK
  .split at h
   .rename_i es hb
    simp only [au] at h;subst h
    show (match ah _ with|some (.map es)=>K ⟨.p (.int .i64 es.length),[],[_]⟩|_=>False)
    rw [ha _ _ hb]
    simp only [SB.den,dA]
    exact hK
   .cases h
  .cases h
inductive Ys where
 |cs (rows:List (List SV))
 |ts (t:Tm)
def Ys.den (ρ:List AV):Ys->List (List AV)
 | .cs rows=>gY ρ rows
 | .ts t=>(t.den ρ).R
theorem KR {n:Nat}:kW n []:=fun _ h=>absurd h (by simp)
def LZ (pc:Pc)(th:Tr SB)(n:Nat)(x:SV):Option (Ys×List Nat×List Side):=
 match x with
 | .sc .sl t=>some (.ts t,[],[.JJ n t])
 | .sf t=>some (.ts t,[],[.JJ n t])
 | .sc .str (.ls l)=>bif Nat.beq n 1 then some (.cs (l.map fun b=>[.sc (.int .u8) (.li (.ofNat b.toNat))]),[],[]) else none
 | .sc .str t=>bif Nat.beq n 1 then some (.ts (.sbs t),[],[]) else none
 | .nil=>some (.cs [],[],[])
 | .slc rows _=>bif rows.all (fun r=>Nat.beq r.length n) then some (.cs rows,[],[]) else none
 | .os b sz off len=>bif Nat.beq sz n then
   match th.get b with
   |some (.rows sz' rs)=>match xG len with
    |some m=>bif Nat.beq sz sz'&&Nat.ble (off+m) rs.length then some (.cs ((rs.drop off).take m),[b],[]) else none
    |none=>none
   |some (.fE sz' t)=>bif Nat.beq sz sz'&&(Nat.beq off 0&&len.beq (.rlen t)) then some (.ts t,[b],[]) else none
   |_=>none
  else none
 |_=>none
theorem yh {n:Nat}{x:SV}{y:Ys}{rd:List Nat}{l:List Side}(ha:EJ ρ th ah)(h:LZ pc th n x=some (y,rd,l))(hs:∀s∈l,s.holds P ρ){k:List (List AV)->List Nat->Prop}(hk:k (y.den ρ) rd) :
  awS ah n (x.den ρ) k:=by
 unfold LZ at h
 split at h
 .simp only [au,aN] at h
  obtain ⟨rfl,rfl,rfl⟩:=h
  have b0:=hs (.JJ n _) (bV.2 rfl)
  exact ⟨b0,hk⟩
 .simp only [au,aN] at h
  obtain ⟨rfl,rfl,rfl⟩:=h
  have b0:=hs (.JJ n _) (bV.2 rfl)
  exact ⟨b0,hk⟩
 .rename_i l'
  cases h1:Nat.beq n 1
  .simp [h1] at h
  .simp only [h1,cond_true,au,aN] at h
   obtain ⟨rfl,rfl,rfl⟩:=h
   refine ⟨aA h1,?_⟩
   have e:∀l:List UInt8,gY ρ (l.map fun b=>[SV.sc (.int .u8) (.li (.ofNat b.toNat))])=l.map fun b=>[AV.p (.int .u8 b.toNat)]:=by
    intro l
    induction l with
    |nil=>rfl
    |cons b l ih=>simp only [aZ,gY,ih];rfl
   rw [<- e];exact hk
 .rename_i t _
  cases h1:Nat.beq n 1
  .simp [h1] at h
  .simp only [h1,cond_true,au,aN] at h
   obtain ⟨rfl,rfl,rfl⟩:=h
   exact ⟨aA h1,hk⟩
 .simp only [au,aN] at h
  obtain ⟨rfl,rfl,rfl⟩:=h
  exact ⟨KR,hk⟩
 .rename_i rows f
  cases hc:rows.all (fun r=>Nat.beq r.length n)
  .simp [hc] at h
  .simp only [hc,cond_true,au,aN] at h
   obtain ⟨rfl,rfl,rfl⟩:=h
   exact ⟨E5 hc,hk⟩
 .rename_i b sz off len
  cases h1:Nat.beq sz n
  .simp [h1] at h
  .simp only [h1,cond_true] at h
   refine ⟨aA h1,?_⟩
   split at h
   .rename_i sz' rs hb
    split at h
    .rename_i m hm
     cases h2:Nat.beq sz sz'&&Nat.ble (off+m) rs.length
     .simp [h2] at h
     .simp only [h2,cond_true,au,aN] at h
      obtain ⟨rfl,rfl,rfl⟩:=h
      simp only [ay] at h2
      rw [ha _ _ hb]
      refine ⟨aA h2.1,?_,?_⟩
      .rw [(fJ hm).2,fO];exact aG h2.2
      .rw [(fJ hm).2,yc,yg];exact hk
    .cases h
   .rename_i sz' t hb
    cases h2:Nat.beq sz sz'&&(Nat.beq off 0&&len.beq (.rlen t))
    .simp [h2] at h
    .simp only [h2,cond_true,au,aN] at h
     obtain ⟨rfl,rfl,rfl⟩:=h
     simp only [ay] at h2
     obtain ⟨c1,c2,c3⟩:=h2
     have c2:=aA c2
     subst c2
     have c3:=Tm.beq_eq c3
     subst c3
     rw [ha _ _ hb]
     have e:(Tm.den ρ t.rlen).I.toNat=(t.den ρ).R.length:=rfl
     refine ⟨aA c1,?_,?_⟩
     .rw [e];simp
     .rw [e];simpa [Ys.den] using hk
   .cases h
 .cases h
def Ze (th:Tr SB)(nv id sz b off:Nat)(len:Tm)(ys:Ys)(rd:List Nat)(l:List Side):Option SR:=
 match th.get b with
 |some (.rows sz' rs)=>match xG len with
  |none=>none
  |some m=>bif Nat.beq sz sz'&&Nat.ble (off+m) rs.length then
    match ys with
    | .cs rows=>bif Nat.ble (m+rows.length) 4294967296 then some ⟨.os id sz 0 (.li (.ofNat (m+rows.length))),[(b,none),(id,some (.rows sz ((rs.drop off).take m++rows)))],b::rd,l,nv⟩ else none
    | .ts t=>bif Nat.beq m 0 then some ⟨.os id sz 0 (.rlen t),[(b,none),(id,some (.fE sz t))],b::rd,l++[.len2 0 t],nv⟩
     else some ⟨.os id sz 0 (.rlen (.var nv [])),[(b,none),(id,some (.fE sz (.var nv [])))],b::rd,l++[.afs sz ((rs.drop off).take m) t (.var nv [])],nv+1⟩
   else none
 |some (.fE sz' xt)=>bif Nat.beq sz sz'&&Nat.beq off 0 then
   match ys with
   | .cs rows=>some ⟨.os id sz 0 (.rlen (.var nv [])),[(b,none),(id,some (.fE sz (.var nv [])))],b::rd,l++(abJ len xt++[.app sz xt rows (.var nv [])]),nv+1⟩
   | .ts yt=>some ⟨.os id sz 0 (.rlen (.var nv [])),[(b,none),(id,some (.fE sz (.var nv [])))],b::rd,l++(abJ len xt++[.Y3 sz xt yt (.var nv [])]),nv+1⟩
  else none
 |_=>none
theorem afK {sz b off:Nat}{len:Tm}{ys:Ys}{rd:List Nat}{l:List Side}{r:SR}(h:Ze th nv id sz b off len ys rd l=some r):∀s∈l,s∈r.sd:=by
 intro s hm
 unfold Ze at h
 split at h
 .split at h
  .cases h
  .rename_i m hn
   generalize (Nat.beq sz _&&Nat.ble (off+m) _)=g at h
   cases g
   .cases h
   .simp only [cond_true] at h
    split at h
    .rename_i rows
     cases h1:Nat.ble (m+rows.length) 4294967296
     .simp [h1] at h
     .simp only [h1,cond_true,au] at h;subst h;exact hm
    .cases h1:Nat.beq m 0
     .simp only [h1,cond_false,au] at h;subst h;simp [hm]
     .simp only [h1,cond_true,au] at h;subst h;simp [hm]
 .generalize (Nat.beq sz _&&Nat.beq off 0)=g at h
  cases g
  .cases h
  .simp only [cond_true] at h
   split at h<;>(simp only [au] at h;subst h;simp [hm])
 .cases h
theorem ahP {sz b off:Nat}{len:Tm}{ys:Ys}{rd:List Nat}{l:List Side}{r:SR}(ha:EJ ρ th ah)(h:Ze th nv id sz b off len ys rd l=some r)(hs:∀s∈r.sd,s.holds P ρ)(hK:K (r.den ρ)) :
  match ah b with
  |some (.rows sz' rs)=>sz=sz'/\off+(len.den ρ).I.toNat<=rs.length/\(len.den ρ).I.toNat+(ys.den ρ).length<=4294967296/\
    K ⟨.os id sz 0 ((len.den ρ).I.toNat+(ys.den ρ).length),[(b,none),(id,some (.rows sz ((rs.drop off).take (len.den ρ).I.toNat++ys.den ρ)))],b::rd⟩
  |_=>False:=by
 unfold Ze at h
 split at h
 .rename_i sz' rs hb
  rw [ha _ _ hb]
  split at h
  .cases h
  .rename_i m hn
   cases h0:(Nat.beq sz sz'&&Nat.ble (off+m) rs.length)
   .simp [h0] at h
   .simp only [h0,cond_true] at h
    simp only [ay] at h0
    have e0:=aA h0.1
    have e1:=aG h0.2
    subst e0
    show sz=sz/\off+(len.den ρ).I.toNat<=(gY ρ rs).length/\_
    rw [(fJ hn).2,fO,yc,yg]
    refine ⟨rfl,e1,?_⟩
    split at h
    .rename_i rows
     cases h1:Nat.ble (m+rows.length) 4294967296
     .simp [h1] at h
     .simp only [h1,cond_true,au] at h;subst h
      simp only [Ys.den,fO]
      refine ⟨aG h1,?_⟩
      rw [<- wG];exact hK
    .rename_i t
     cases h1:Nat.beq m 0
     .simp only [h1,cond_false,au] at h;subst h
      obtain ⟨b1,b2⟩:=hs (.afs sz ((rs.drop off).take m) t (.var nv [])) (by simp)
      have hlen:((rs.drop off).take m).length=m:=by simp;omega
      rw [hlen] at b1
      refine ⟨b1,?_⟩
      have:K ⟨.os id sz 0 ((Tm.var nv []).den ρ).R.length,[(b,none),(id,some (.rows sz ((Tm.var nv []).den ρ).R))],b::rd⟩:=hK
      rw [b2] at this
      simpa [Ys.den,fO,hlen] using this
     .simp only [h1,cond_true,au] at h;subst h
      have e2:=aA h1
      subst e2
      have hl:0+(t.den ρ).R.length<=4294967296:=hs (.len2 0 t) (by simp)
      refine ⟨hl,?_⟩
      have:K ⟨.os id sz 0 (t.den ρ).R.length,[(b,none),(id,some (.rows sz (t.den ρ).R))],b::rd⟩:=hK
      simpa [Ys.den,gY] using this
 .rename_i sz' xt hb
  rw [ha _ _ hb]
  cases h0:(Nat.beq sz sz'&&Nat.beq off 0)
  .simp [h0] at h
  .simp only [h0,cond_true] at h
   simp only [ay] at h0
   have e0:=aA h0.1
   have e1:=aA h0.2
   subst e0;subst e1
   split at h
   .rename_i rows
    simp only [au] at h;subst h
    have e3:=Ql (P:=P) (ρ:=ρ) (l:=len) (t:=xt) (fun s hm=>hs s (by simp [hm]))
    rw [e3]
    obtain ⟨b1,b2,b3⟩:=hs (.app sz xt rows (.var nv [])) (by simp)
    refine ⟨rfl,by simp [SB.den],by simpa [Ys.den,fO] using b2,?_⟩
    have:K ⟨.os id sz 0 ((Tm.var nv []).den ρ).R.length,[(b,none),(id,some (.rows sz ((Tm.var nv []).den ρ).R))],b::rd⟩:=hK
    rw [b3] at this
    simpa [Ys.den] using this
   .rename_i yt
    simp only [au] at h;subst h
    have e3:=Ql (P:=P) (ρ:=ρ) (l:=len) (t:=xt) (fun s hm=>hs s (by simp [hm]))
    rw [e3]
    obtain ⟨b1,b1',b2,b3⟩:=hs (.Y3 sz xt yt (.var nv [])) (by simp)
    refine ⟨rfl,by simp [SB.den],by simpa [Ys.den] using b2,?_⟩
    have:K ⟨.os id sz 0 ((Tm.var nv []).den ρ).R.length,[(b,none),(id,some (.rows sz ((Tm.var nv []).den ρ).R))],b::rd⟩:=hK
    rw [b3] at this
    simpa [Ys.den] using this
 .cases h
def VB : SV->SV
 | .slc [] true=>.nil
 |x=>x
theorem VD {x:SV}:(VB x).den ρ=x.den ρ:=by unfold VB;split<;>rfl
def L6 (P:Program)(pc:Pc)(th:Tr SB)(nv id:Nat)(t t2:TypeId)(x y:SV):Option SR:=
 match lU P t with
 |none=>none
 |some e=>
  bif Nat.ble e.2 4096&&(!Nat.beq e.1 0)&&(match P.underlying t2 with|some (.int _)|none=>false|_=>true)&&
    (match (((P.underlying t).bind fun d=>match d with | .slice el=>awM P el|_=>none).map List.length) with|some n=>Nat.beq n e.1|none=>false) then
   match LZ pc th e.1 y with
   |none=>none
   |some (ys,rd,l)=>
    match VB x with
    | .nil=>match ys with
     | .cs rows=>bif Nat.ble rows.length 4294967296 then some ⟨.os id e.1 0 (.li (.ofNat rows.length)),[(id,some (.rows e.1 rows))],rd,l,nv⟩ else none
     | .ts t=>some ⟨.os id e.1 0 (.rlen t),[(id,some (.fE e.1 t))],rd,l++[.len2 0 t],nv⟩
    | .sf xt=>match ys with
     | .cs rows=>bif Nat.beq rows.length 0 then none else some ⟨.os id e.1 0 (.rlen (.var nv [])),[(id,some (.fE e.1 (.var nv [])))],rd,l++[.app e.1 xt rows (.var nv [])],nv+1⟩
     |_=>none
    | .os b sz off len=>bif Nat.beq sz e.1 then Ze th nv id e.1 b off len ys rd l else none
    | .slc rs true=>match ys with
     | .cs rows=>bif (rs.all (fun r=>Nat.beq r.length e.1)&&!Nat.beq rows.length 0)&&Nat.ble (rs.length+rows.length) 4294967296 then some ⟨.os id e.1 0 (.li (.ofNat (rs.length+rows.length))),[(id,some (.rows e.1 (rs++rows)))],rd,l,nv⟩ else none
     |_=>none
    |_=>none
  else none
theorem KT {t t2:TypeId}{x y:SV}{r:SR}(ha:EJ ρ th ah)(h:L6 P pc th nv id t t2 x y=some r)(hs:∀s∈r.sd,s.holds P ρ)(hK:K (r.den ρ)):yQ P id ah t t2 (x.den ρ) (y.den ρ) K:=by
 unfold L6 at h
 split at h
 .cases h
 .rename_i e he
  refine dG.2 ⟨e,he,?_⟩
  generalize hg:(Nat.ble e.2 4096&&(!Nat.beq e.1 0)&&(match P.underlying t2 with|some (.int _)|none=>false|_=>true)&&
    (match (((P.underlying t).bind fun d=>match d with | .slice el=>awM P el|_=>none).map List.length) with|some n=>Nat.beq n e.1|none=>false))=g at h
  cases g
  .cases h
  .simp only [cond_true] at h
   simp only [ay,Bool.not_eq_true'] at hg
   obtain ⟨⟨⟨g1,g2⟩,g3⟩,g4⟩:=hg
   refine ⟨aG g1,fun e0=>by rw [e0] at g2;simp at g2,?_,?_,?_⟩
   .split at g3<;>first|(cases g3;done)|skip
    rename_i n1 n2
    split
    .exact n1 _ (by assumption)
    .exact n2 (by assumption)
    .trivial
   .generalize hq:((P.underlying t).bind fun d=>match d with | .slice el=>awM P el|_=>none).map List.length=q at g4 ⊢
    cases q with
    |none=>cases g4
    |some n=>rw [aA g4]
   split at h
   .cases h
   .rename_i ys rd l hys
    have inl:(∀s∈l,s∈r.sd)->∀{k:List (List AV)->List Nat->Prop},k (ys.den ρ) rd->awS ah e.1 (y.den ρ) k:=fun hsub k hk=>yh (P:=P) ha hys (fun s hm=>hs s (hsub s hm)) hk
    rw [<- VD (x:=x)]
    generalize VB x=x' at h ⊢
    split at h
    ·
     split at h
     .rename_i rows
      cases h1:Nat.ble rows.length 4294967296
      .simp [h1] at h
      .simp only [h1,cond_true,au] at h
       subst h
       refine inl (fun s hm=>hm) ⟨KR,rfl,.inl rfl,?_,?_⟩
       .simp only [Ys.den,fO,List.length_nil,Nat.zero_add];exact aG h1
       .have:K ⟨.os id e.1 0 rows.length,[(id,some (.rows e.1 (gY ρ rows)))],rd⟩:=hK
        simpa [Ys.den,fO] using this
     .rename_i t
      simp only [au] at h
      subst h
      have hl:0+(t.den ρ).R.length<=4294967296:=hs (.len2 0 t) (by simp)
      refine inl (fun s hm=>by simp [hm]) ⟨KR,rfl,.inl rfl,?_,?_⟩
      .simpa [Ys.den] using hl
      .have:K ⟨.os id e.1 0 (t.den ρ).R.length,[(id,some (.rows e.1 (t.den ρ).R))],rd⟩:=hK
       simpa [Ys.den] using this
    .rename_i xt
     split at h
     .rename_i rows
      cases h1:Nat.beq rows.length 0
      .simp only [h1,cond_false,au] at h
       subst h
       obtain ⟨b1,b2,b3⟩:=hs (.app e.1 xt rows (.var nv [])) (by simp)
       refine inl (fun s hm=>by simp [hm]) ⟨b1,rfl,.inr ?_,?_,?_⟩
       .intro e0
        have:rows.length=0:=by rw [<- fO (ρ:=ρ)];simp only [Ys.den] at e0;rw [e0];rfl
        rw [this] at h1;simp at h1
       .simpa [Ys.den,fO] using b2
       .have:K ⟨.os id e.1 0 ((Tm.var nv []).den ρ).R.length,[(id,some (.rows e.1 ((Tm.var nv []).den ρ).R))],rd⟩:=hK
        rw [b3] at this
        simpa [Ys.den] using this
      .simp [h1] at h
     .cases h
    .rename_i b sz off len
     cases h1:Nat.beq sz e.1
     .simp [h1] at h
     .simp only [h1,cond_true] at h
      have e1:=aA h1
      subst e1
      exact inl (afK h) ⟨rfl,ahP (P:=P) ha h hs hK⟩
    .rename_i rs
     split at h
     .rename_i rows
      cases h1:((rs.all (fun r=>Nat.beq r.length e.1)&&!Nat.beq rows.length 0)&&Nat.ble (rs.length+rows.length) 4294967296)
      .simp [h1] at h
      .simp only [h1,cond_true,au] at h
       subst h
       simp only [ay,Bool.not_eq_true',aH] at h1
       obtain ⟨⟨b1,b2⟩,b3⟩:=h1
       refine inl (fun s hm=>hm) ⟨fun row hrow=>?_,rfl,.inr ?_,?_,?_⟩
       .rw [lG,aW] at hrow
        obtain ⟨r,hr,rfl⟩:=hrow
        rw [fM];exact aA (b1 r hr)
       .intro e0
        have:rows.length=0:=by rw [<- fO (ρ:=ρ)];simp only [Ys.den] at e0;rw [e0];rfl
        rw [this] at b2;simp at b2
       .simp only [Ys.den,fO];exact aG b3
       .have:K ⟨.os id e.1 0 (rs.length+rows.length),[(id,some (.rows e.1 (gY ρ (rs++rows))))],rd⟩:=hK
        simpa [Ys.den,fO,wG] using this
     .cases h
    .cases h
end
end Go.Fw
end
section
namespace Go.Fw
variable [jK]
 mutual
def AV.fz : AV->Bool
  | .p _ | .str _=>true
  | .agg cs=>iC cs
  | .eG cs=>iC cs
  | .sl rows full=>!full&&P8 rows
  | .vp row _=>iC row
  | .fn _ x y=>iC x&&iC y
  | .lT _ v=>v.fz
  | .os .. | .op .. | .mp _=>false
def iC : List AV->Bool
  |[]=>true
  |a::r=>a.fz&&iC r
def P8 : List (List AV)->Bool
  |[]=>true
  |a::r=>iC a&&P8 r
end
 mutual
theorem Zf : ∀{a:AV},a.fz=true->a.clean=true
  | .p _,_=>rfl
  | .str _,_=>rfl
  | .agg cs,h=>yj (l:=cs) h
  | .eG cs,h=>yj (l:=cs) h
  | .sl rows full,h=>by simp only [AV.fz,ay] at h;exact jL h.2
  | .vp row _,h=>yj (l:=row) h
  | .fn _ x y,h=>by simp only [AV.fz,ay] at h;simp only [AV.clean,yj h.1,yj h.2,Bool.and_self]
  | .lT _ v,h=>Zf (a:=v) h
  | .os ..,h=>by simp [AV.fz] at h
  | .op ..,h=>by simp [AV.fz] at h
  | .mp _,h=>by simp [AV.fz] at h
theorem yj : ∀{l:List AV},iC l=true->kE l=true
  |[],_=>rfl
  |a::r,h=>by simp only [iC,ay] at h;simp only [kE,Zf h.1,yj h.2,Bool.and_self]
theorem jL : ∀{l:List (List AV)},P8 l=true->jr l=true
  |[],_=>rfl
  |a::r,h=>by simp only [P8,ay] at h;simp only [jr,yj h.1,jL h.2,Bool.and_self]
end
 mutual
theorem ahQ {ah:AH}:∀{a:AV},a.fz=true->lV ah a=some a
  | .p _,_=>rfl
  | .str _,_=>rfl
  | .agg cs,h=>by simp only [lV,E8 (ah:=ah) (l:=cs) h];rfl
  | .eG cs,h=>by simp only [lV,E8 (ah:=ah) (l:=cs) h];rfl
  | .sl rows full,h=>by
   simp only [AV.fz,ay,Bool.not_eq_true'] at h
   simp only [lV,Ia (ah:=ah) h.2,h.1];rfl
  | .vp row _,h=>by simp only [lV,E8 (ah:=ah) (l:=row) h];rfl
  | .fn _ x y,h=>by simp only [AV.fz,ay] at h;simp only [lV,E8 (ah:=ah) h.1,E8 (ah:=ah) h.2];rfl
  | .lT _ v,h=>by simp only [lV,ahQ (ah:=ah) (a:=v) h];rfl
  | .os ..,h=>by simp [AV.fz] at h
  | .op ..,h=>by simp [AV.fz] at h
  | .mp _,h=>by simp [AV.fz] at h
theorem E8 {ah:AH}:∀{l:List AV},iC l=true->wu ah l=some l
  |[],_=>rfl
  |a::r,h=>by simp only [iC,ay] at h;simp only [wu,ahQ (ah:=ah) h.1,E8 (ah:=ah) h.2];rfl
theorem Ia {ah:AH}:∀{l:List (List AV)},P8 l=true->xJ ah l=some l
  |[],_=>rfl
  |a::r,h=>by simp only [P8,ay] at h;simp only [xJ,E8 (ah:=ah) h.1,Ia (ah:=ah) h.2];rfl
end
theorem Qo : ∀{l:List AV} {j:Nat},iC l=true->(l.getD j eu).fz=true
 |[],j,_=>rfl
 |a::r,0,h=>by simp only [iC,ay] at h;exact h.1
 |a::r,j+1,h=>by simp only [iC,ay] at h;simpa using Qo (j:=j) h.2
theorem N_ : ∀{p:List Nat} {a:AV},a.fz=true->(awJ a p).fz=true
 |[],a,h=>by cases a<;>exact h
 |j::p,.agg l,h=>N_ (p:=p) (Qo (j:=j) h)
 |j::p,.eG l,h=>N_ (p:=p) (Qo (j:=j) h)
 |j::p,.p _,_|j::p,.str _,_|j::p,.sl ..,_|j::p,.vp ..,_|j::p,.fn ..,_|j::p,.lT ..,_|j::p,.os ..,_|j::p,.op ..,_|j::p,.mp _,_=>rfl
theorem arS {a:AV}(h:a.fz=true):P8 a.D.R=true:=by
 cases a with
 |sl rows full=>simp only [AV.fz,ay] at h;exact h.2
 |p v=>cases v<;>rfl
 |_=>rfl
theorem arT {d:D}(h:∀l,d≠.r l):d.R=[]:=by cases d<;>first|rfl|exact absurd rfl (h _)
theorem Tm.pF {ρ:List AV}(hρ:iC ρ=true):∀t:Tm,P8 (t.den ρ).R=true
 | .lb _ | .li _ | .lf _ | .ls _ | .nl=>rfl
 | .var i p=>arS (N_ (Qo hρ))
 | .bin o k x y=>by simp only [Tm.den,arT (Xk o k _ _)];rfl
 | .not _ | .and _ _ | .or _ _ | .com _ _ | .conv _ _ | .toF _ | .YW _ | .slen _ | .rlen _ | .byte _ _ | .GL _ _ _ | .bts _=>rfl
 | .sbs x=>by
  show P8 ((x.den ρ).S.map axq)=true
  induction (x.den ρ).S with
  |nil=>rfl
  |cons b l ih=>simp only [aZ,P8,ih,Bool.and_true];rfl
 | .neg k x=>by cases k<;>rfl
 | .ite c x y=>by
  rw [Tm.oP]
  cases (c.den ρ).B
  .exact Tm.pF hρ y
  .exact Tm.pF hρ x
def Weak (a b:AV):Prop:=∀w E v,Rep w E a v->Rep w E b v
theorem Weak.refl (a:AV):Weak a a:=fun _ _ _ h=>h
theorem gK.weak {w:World}{E:Env}:∀{az bs:List AV} {vs:List Value},az.length=bs.length->(∀(i:Nat) (a b:AV),az[i]?=some a->bs[i]?=some b->Weak a b)->gK w E az vs->gK w E bs vs
 |az,bs,vs,hl,hw,h=>by
  refine ⟨by rw [<- hl,h.1],fun i b v hb hv=>?_⟩
  have hi:i<az.length:=by rw [hl];exact (aC.1 hb).1
  have ha:az[i]?=some az[i]:=by simp [hi]
  exact hw i _ b ha hb _ _ _ (h.2 i _ v ha hv)
inductive xO : List AV->List AV->Prop
 |nil:xO [] []
 |cons {a b:AV} {r s:List AV} (h:Weak a b) (hs:b.jy=a.jy) (k:xO r s):xO (a::r) (b::s)
theorem xO.length {az bs:List AV}(h:xO az bs):az.length=bs.length:=by induction h<;>simp_all
theorem xO.get {az bs:List AV}(h:xO az bs):∀(i:Nat) (a b:AV),az[i]?=some a->bs[i]?=some b->Weak a b/\b.jy=a.jy:=by
 induction h with
 |nil=>intro i a b h;simp at h
 |cons h hs k ih=>
  intro i a b ha hb
  cases i with
  |zero=>simp at ha hb;subst ha;subst hb;exact ⟨h,hs⟩
  |succ i=>simp at ha hb;exact ih i a b ha hb
theorem xO.refl : ∀l:List AV,xO l l
 |[]=>.nil
 |a::r=>.cons (Weak.refl a) rfl (xO.refl r)
inductive sQ : List (List AV)->List (List AV)->Prop
 |nil:sQ [] []
 |cons {a b:List AV} {r s:List (List AV)} (h:xO a b) (k:sQ r s):sQ (a::r) (b::s)
theorem sQ.length {az bs:List (List AV)}(h:sQ az bs):az.length=bs.length:=by induction h<;>simp_all
theorem sQ.get {az bs:List (List AV)}(h:sQ az bs):∀(i:Nat) (b:List AV),bs[i]?=some b->∃a,az[i]?=some a/\xO a b:=by
 induction h with
 |nil=>intro i b h;simp at h
 |cons h k ih=>
  intro i b hb
  cases i with
  |zero=>simp at hb;subst hb;exact ⟨_,rfl,h⟩
  |succ i=>simp at hb;simpa using ih i b hb
theorem sQ.refl : ∀l:List (List AV),sQ l l
 |[]=>.nil
 |a::r=>.cons (xO.refl a) (sQ.refl r)
theorem Weak.agg {az bs:List AV}(h:xO az bs):Weak (.agg az) (.agg bs):=by
 intro w E v hr
 cases hr with
 |agg cs vs hl hs hc=>
  refine .agg bs vs (by rw [<- h.length,hl]) (fun c hm=>?_) (fun i c v hc' hv=>?_)
  .obtain ⟨i,hi⟩:=uH hm
   have hlt:i<az.length:=by rw [h.length];exact (aC.1 hi).1
   have ha:az[i]?=some az[i]:=by simp [hlt]
   rw [(h.get i _ c ha hi).2]
   exact hs _ (aJ ha)
  .have hlt:i<az.length:=by rw [h.length];exact (aC.1 hc').1
   have ha:az[i]?=some az[i]:=by simp [hlt]
   exact (h.get i _ c ha hc').1 _ _ _ (hc i _ v ha hv)
theorem Weak.eG {az bs:List AV}(h:xO az bs):Weak (.eG az) (.eG bs):=by
 intro w E v hr
 cases hr with
 |eG cs vs hl hc=>
  refine .eG bs vs (by rw [<- h.length,hl]) (fun i c v hc' hv=>?_)
  have hlt:i<az.length:=by rw [h.length];exact (aC.1 hc').1
  have ha:az[i]?=some az[i]:=by simp [hlt]
  exact (h.get i _ c ha hc').1 _ _ _ (hc i _ v ha hv)
theorem Weak.lT {t:TypeId}{a b:AV}(h:Weak a b):Weak (.lT t a) (.lT t b):=by
 intro w E v hr
 cases hr with
 |lT t a v hv=>exact .lT t b v (h _ _ _ hv)
theorem Weak.sl {az bs:List (List AV)}(h:sQ az bs)(full:Bool):Weak (.sl az full) (.sl bs false):=by
 intro w E v hr
 cases hr with
 |slnil=>
  have:=h.length
  have:bs=[]:=by cases bs with|nil=>rfl|cons=>simp at this
  subst this;exact .slnil false _
 |sl rows full sz c o cap g hcap hfull hsz hfix hcell jA hrep=>
  have key:∀{i j:Nat} {row:List AV} {x:AV},bs[i]?=some row->row[j]?=some x->∃row' x',az[i]?=some row'/\row'[j]?=some x'/\Weak x' x/\x.jy=x'.jy:=by
   intro i j row x hr hx
   obtain ⟨row',hr',hw⟩:=h.get i row hr
   have hlt:j<row'.length:=by rw [hw.length];exact (aC.1 hx).1
   have hx':row'[j]?=some row'[j]:=by simp [hlt]
   exact ⟨row',_,hr',hx',(hw.get j _ x hx' hx).1,(hw.get j _ x hx' hx).2⟩
  rw [h.length]
  refine .sl bs false sz c o cap g (by rw [<- h.length];exact hcap) (fun e=>by cases e) (fun i row hr=>?_) (fun i row j x hr hx=>?_) (fun i row j x hr hx=>?_) (fun row hm x hx=>?_) (fun i row j x hr hx=>?_)
  .obtain ⟨row',hr',hw⟩:=h.get i row hr
   rw [<- hw.length];exact hsz i row' hr'
  .obtain ⟨row',x',q1,q2,-,-⟩:=key hr hx;exact hfix i row' j x' q1 q2
  .obtain ⟨row',x',q1,q2,-,-⟩:=key hr hx;exact hcell i row' j x' q1 q2
  .obtain ⟨i,hi⟩:=uH hm
   obtain ⟨j,hj⟩:=uH hx
   obtain ⟨row',x',q1,q2,-,q3⟩:=key hi hj
   rw [q3];exact jA row' (aJ q1) x' (aJ q2)
  .obtain ⟨row',x',q1,q2,q3,-⟩:=key hr hx;exact q3 _ _ _ (hrep i row' j x' q1 q2)
theorem Weak.vp {az bs:List AV}(h:xO az bs)(off:Nat):Weak (.vp az off) (.vp bs off):=by
 intro w E v hr
 cases hr with
 |vp row off c o g hfix hcell jA hrep=>
  have key:∀{j:Nat} {x:AV},bs[j]?=some x->∃x',az[j]?=some x'/\Weak x' x/\x.jy=x'.jy:=by
   intro j x hx
   have hlt:j<az.length:=by rw [h.length];exact (aC.1 hx).1
   have hx':az[j]?=some az[j]:=by simp [hlt]
   exact ⟨_,hx',(h.get j _ x hx' hx).1,(h.get j _ x hx' hx).2⟩
  refine .vp bs off c o g (fun j x hx=>?_) (fun j x hx=>?_) (fun x hm=>?_) (fun j x hx=>?_)
  .obtain ⟨x',q1,-,-⟩:=key hx;exact hfix j x' q1
  .obtain ⟨x',q1,-,-⟩:=key hx;exact hcell j x' q1
  .obtain ⟨j,hj⟩:=uH hm
   obtain ⟨x',q1,-,q3⟩:=key hj
   rw [q3];exact jA x' (aJ q1)
  .obtain ⟨x',q1,q2,-⟩:=key hx;exact q2 _ _ _ (hrep j x' q1)
end Go.Fw
end
section
namespace Go.Fw
variable [jK]
 mutual
def SV.cln : SV->Bool
  | .agg l | .eG l=>Ib l
  | .slc r _=>BZ r
  | .vp row _=>Ib row
  | .fn _ x y=>Ib x&&Ib y
  | .lT _ v=>v.cln
  | .os .. | .op .. | .mp _=>false
  |_=>true
def Ib : List SV->Bool
  |[]=>true
  |x::r=>x.cln&&Ib r
def BZ : List (List SV)->Bool
  |[]=>true
  |x::r=>Ib x&&BZ r
end
 mutual
def SV.E_ : SV->List Nat
  | .agg l | .eG l=>DT l
  | .slc r _=>B_ r
  | .vp row _=>DT row
  | .fn _ x y=>DT x++DT y
  | .lT _ v=>v.E_
  | .os b _ _ _=>[b]
  | .op b _ _ _=>[b]
  | .mp b=>[b]
  |_=>[]
def DT : List SV->List Nat
  |[]=>[]
  |x::r=>x.E_++DT r
def B_ : List (List SV)->List Nat
  |[]=>[]
  |x::r=>DT x++B_ r
end
 mutual
def SV.kJ : SV->Bool
  | .sc .sl _=>false
  | .sc _ _=>true
  | .c _=>true
  | .nil=>true
  | .agg l | .eG l=>abW l
  | .lT _ v=>v.kJ
  | .slc [] _=>true
  | .sf .nl=>true
  |_=>false
def abW : List SV->Bool
  |[]=>true
  |x::r=>x.kJ&&abW r
end
section
variable {ρ : List AV} (hρ:iC ρ=true)
 include hρ
 mutual
theorem Xv : ∀{x:SV},x.cln=true->(x.den ρ).clean=true
  | .sc k t,_=>by cases k<;>first|rfl|exact jL (Tm.pF hρ t)
  | .c v,_=>rfl
  | .nil,_=>rfl
  | .sf t,_=>jL (Tm.pF hρ t)
  | .agg l,h=>wJ (l:=l) h
  | .eG l,h=>wJ (l:=l) h
  | .slc r _,h=>Ad (l:=r) h
  | .vp row _,h=>wJ (l:=row) h
  | .fn _ x y,h=>by simp only [SV.cln,ay] at h;simp only [SV.den,AV.clean,wJ h.1,wJ h.2,Bool.and_self]
  | .lT _ v,h=>Xv (x:=v) h
  | .os ..,h=>by simp [SV.cln] at h
  | .op ..,h=>by simp [SV.cln] at h
  | .mp _,h=>by simp [SV.cln] at h
theorem wJ : ∀{l:List SV},Ib l=true->kE (dN ρ l)=true
  |[],_=>rfl
  |x::r,h=>by simp only [Ib,ay] at h;simp only [dN,kE,Xv h.1,wJ h.2,Bool.and_self]
theorem Ad : ∀{l:List (List SV)},BZ l=true->jr (gY ρ l)=true
  |[],_=>rfl
  |x::r,h=>by simp only [BZ,ay] at h;simp only [gY,jr,wJ h.1,Ad h.2,Bool.and_self]
end
 mutual
theorem wK : ∀{x:SV},(x.den ρ).refs=x.E_
  | .sc k t=>by cases k<;>first|rfl|exact nX (jL (Tm.pF hρ t))
  | .c v=>rfl
  | .nil=>rfl
  | .sf t=>nX (jL (Tm.pF hρ t))
  | .agg l=>rE (l:=l)
  | .eG l=>rE (l:=l)
  | .slc r _=>yu (l:=r)
  | .vp row _=>rE (l:=row)
  | .fn _ x y=>by simp only [SV.den,AV.refs,rE,SV.E_]
  | .lT _ v=>wK (x:=v)
  | .os ..=>rfl
  | .op ..=>rfl
  | .mp _=>rfl
theorem rE : ∀{l:List SV},lS (dN ρ l)=DT l
  |[]=>rfl
  |x::r=>by simp only [dN,lS,wK,rE,DT]
theorem yu : ∀{l:List (List SV)},lW (gY ρ l)=B_ l
  |[]=>rfl
  |x::r=>by simp only [gY,lW,rE,yu,B_]
end
 omit hρ in
 mutual
theorem Jg : ∀{x:SV},x.kJ=true->(x.den ρ).flat=true
  | .sc k t,h=>by cases k<;>first|rfl|(simp [SV.kJ] at h)
  | .c v,_=>rfl
  | .nil,_=>rfl
  | .agg l,h=>Ic (l:=l) h
  | .eG l,h=>Ic (l:=l) h
  | .lT _ v,h=>Jg (x:=v) h
  | .sf t,h=>by cases t<;>first|rfl|(simp [SV.kJ] at h)
  | .slc [] _,h=>rfl
  | .slc (_::_) _,h=>by simp [SV.kJ] at h
  | .vp ..,h=>by simp [SV.kJ] at h
  | .fn ..,h=>by simp [SV.kJ] at h
  | .os ..,h=>by simp [SV.kJ] at h
  | .op ..,h=>by simp [SV.kJ] at h
  | .mp _,h=>by simp [SV.kJ] at h
theorem Ic : ∀{l:List SV},abW l=true->yY (dN ρ l)=true
  |[],_=>rfl
  |x::r,h=>by simp only [abW,ay] at h;simp only [dN,yY,Jg h.1,Ic h.2,Bool.and_self]
end
end
 mutual
def SV.nrm : SV->SV
  | .nil=>.slc [] false
  | .sf t=>.sc .sl t
  | .agg l=>.agg (xH l)
  | .eG l=>.eG (xH l)
  | .slc r _=>.slc (adU r) false
  | .vp row off=>.vp (xH row) off
  | .lT t v=>.lT t v.nrm
  |x=>x
def xH : List SV->List SV
  |[]=>[]
  |x::r=>x.nrm::xH r
def adU : List (List SV)->List (List SV)
  |[]=>[]
  |x::r=>xH x::adU r
end
section
variable {ρ : List AV}
 mutual
theorem ahS : ∀{x:SV},(x.nrm.den ρ).jy=(x.den ρ).jy
  | .sc .. | .c _ | .nil | .sf _ | .agg _ | .eG _ | .slc .. | .vp .. | .fn .. | .lT .. | .os .. | .op .. | .mp _=>rfl
theorem DU : ∀{x:SV},Weak (x.den ρ) (x.nrm.den ρ)
  | .sc k t=>Weak.refl _
  | .c v=>Weak.refl _
  | .nil=>Weak.sl .nil true
  | .sf t=>Weak.sl (sQ.refl _) true
  | .agg l=>Weak.agg (rQ (l:=l))
  | .eG l=>Weak.eG (rQ (l:=l))
  | .slc r f=>Weak.sl (Fa (l:=r)) f
  | .vp row off=>Weak.vp (rQ (l:=row)) off
  | .fn ..=>Weak.refl _
  | .lT t v=>Weak.lT (DU (x:=v))
  | .os ..=>Weak.refl _
  | .op ..=>Weak.refl _
  | .mp _=>Weak.refl _
theorem rQ : ∀{l:List SV},xO (dN ρ l) (dN ρ (xH l))
  |[]=>.nil
  |x::r=>.cons DU ahS rQ
theorem Fa : ∀{l:List (List SV)},sQ (gY ρ l) (gY ρ (adU l))
  |[]=>.nil
  |x::r=>.cons rQ Fa
end
end
def AhG (ρ:List AV)(g:Nat->Option SB)(ah:AH):Prop:=∀b k,g b=some k->ah b=some (k.den ρ)
def an5 (th:Nat->Option SB)(b sz off:Nat)(len:Tm):Option SV:=
 match th b with
 |some (.rows sz' rs)=>match xG len with
  |some m=>bif Nat.beq sz sz'&&(Nat.ble (off+m) rs.length&&BZ rs) then some (.slc ((rs.drop off).take m) false) else none
  |none=>none
 |some (.fE sz' t)=>bif Nat.beq sz sz'&&(Nat.beq off 0&&len.beq (.rlen t)) then some (.sc .sl t) else none
 |_=>none
def an6 (th:Nat->Option SB)(b sz:Nat)(i:Tm)(off:Nat):Option SV:=
 match th b with
 |some (.rows sz' rs)=>match xG i with
  |some m=>bif Nat.beq sz sz'&&BZ rs then (BA rs m).map fun row=>.vp row off else none
  |none=>none
 |_=>none
 mutual
def SV.lV (th:Nat->Option SB):SV->Option SV
  | .sc k t=>some (.sc k t)
  | .c v=>some (.c v)
  | .nil=>some (.slc [] false)
  | .sf t=>some (.sc .sl t)
  | .agg l=>match Gn th l with|some l=>some (.agg l)|none=>none
  | .eG l=>match Gn th l with|some l=>some (.eG l)|none=>none
  | .slc r _=>match KU th r with|some r=>some (.slc r false)|none=>none
  | .vp row off=>match Gn th row with|some l=>some (.vp l off)|none=>none
  | .fn f x y=>match Gn th x,Gn th y with|some x,some y=>some (.fn f x y)|_,_=>none
  | .lT t v=>match v.lV th with|some v=>some (.lT t v)|none=>none
  | .os b sz off len=>an5 th b sz off len
  | .op b sz i off=>an6 th b sz i off
  | .mp _=>none
def Gn (th:Nat->Option SB):List SV->Option (List SV)
  |[]=>some []
  |x::r=>match x.lV th,Gn th r with|some a,some l=>some (a::l)|_,_=>none
def KU (th:Nat->Option SB):List (List SV)->Option (List (List SV))
  |[]=>some []
  |x::r=>match Gn th x,KU th r with|some a,some l=>some (a::l)|_,_=>none
end
section
variable {ρ : List AV} (hρ:iC ρ=true) {th:Nat->Option SB} {ah:AH} (ha:AhG ρ th ah)
 include hρ ha
theorem ahT {b sz off:Nat}{len:Tm}{y:SV}(h:an5 th b sz off len=some y):Go.Fw.lV ah (.os b sz off (len.den ρ).I.toNat)=some (y.den ρ):=by
 unfold an5 at h
 split at h
 .rename_i sz' rs hb
  split at h
  .rename_i m hm
   cases h0:Nat.beq sz sz'&&(Nat.ble (off+m) rs.length&&BZ rs)
   .simp [h0] at h
   .simp only [h0,cond_true,au] at h;subst h
    simp only [ay] at h0
    simp only [Go.Fw.lV,ha _ _ hb,SB.den]
    rw [if_pos ⟨aA h0.1,by rw [(fJ hm).2,fO];exact aG h0.2.1,Ad hρ h0.2.2⟩,(fJ hm).2,yc,yg]
    rfl
  .cases h
 .rename_i sz' t hb
  cases h0:Nat.beq sz sz'&&(Nat.beq off 0&&len.beq (.rlen t))
  .simp [h0] at h
  .simp only [h0,cond_true,au] at h;subst h
   simp only [ay] at h0
   have e1:=aA h0.2.1
   have e2:=Tm.beq_eq h0.2.2
   subst e1;subst e2
   have e3:(Tm.den ρ t.rlen).I.toNat=(t.den ρ).R.length:=rfl
   simp only [Go.Fw.lV,ha _ _ hb,SB.den,e3]
   rw [if_pos ⟨aA h0.1,by simp,jL (Tm.pF hρ t)⟩]
   simp [SV.den,Kd.av]
 .cases h
theorem ahU {b sz off:Nat}{i:Tm}{y:SV}(h:an6 th b sz i off=some y):Go.Fw.lV ah (.op b sz (i.den ρ).I.toNat off)=some (y.den ρ):=by
 unfold an6 at h
 split at h
 .rename_i sz' rs hb
  split at h
  .rename_i m hm
   cases h0:Nat.beq sz sz'&&BZ rs
   .simp [h0] at h
   .simp only [h0,cond_true,aB] at h
    obtain ⟨row,hrow,rfl⟩:=h
    simp only [ay] at h0
    simp only [Go.Fw.lV,ha _ _ hb,SB.den]
    rw [if_pos ⟨aA h0.1,Ad hρ h0.2⟩,(fJ hm).2,Jd hrow]
    rfl
  .cases h
 .cases h
 mutual
theorem L8 : ∀{x y:SV},x.lV th=some y->Go.Fw.lV ah (x.den ρ)=some (y.den ρ)
  | .sc k t,y,h=>by
   simp only [SV.lV,au] at h;subst h
   cases k<;>first|rfl|(simp only [SV.den,Kd.av,Go.Fw.lV,Ia (ah:=ah) (Tm.pF hρ t)];rfl)
  | .c v,y,h=>by simp only [SV.lV,au] at h;subst h;rfl
  | .nil,y,h=>by simp only [SV.lV,au] at h;subst h;rfl
  | .sf t,y,h=>by
   simp only [SV.lV,au] at h;subst h
   simp only [SV.den,Kd.av,Go.Fw.lV,Ia (ah:=ah) (Tm.pF hρ t)];rfl
  | .agg l,y,h=>by
   simp only [SV.lV] at h
   split at h
   .rename_i m hm;simp only [au] at h;subst h;simp only [SV.den,Go.Fw.lV,wL hm];rfl
   .cases h
  | .eG l,y,h=>by
   simp only [SV.lV] at h
   split at h
   .rename_i m hm;simp only [au] at h;subst h;simp only [SV.den,Go.Fw.lV,wL hm];rfl
   .cases h
  | .slc r f,y,h=>by
   simp only [SV.lV] at h
   split at h
   .rename_i m hm;simp only [au] at h;subst h;simp only [SV.den,Go.Fw.lV,Jh hm];rfl
   .cases h
  | .vp row off,y,h=>by
   simp only [SV.lV] at h
   split at h
   .rename_i m hm;simp only [au] at h;subst h;simp only [SV.den,Go.Fw.lV,wL hm];rfl
   .cases h
  | .fn f x z,y,h=>by
   simp only [SV.lV] at h
   split at h
   .rename_i m n hm hn;simp only [au] at h;subst h;simp only [SV.den,Go.Fw.lV,wL hm,wL hn];rfl
   .cases h
  | .lT t v,y,h=>by
   simp only [SV.lV] at h
   split at h
   .rename_i m hm;simp only [au] at h;subst h;simp only [SV.den,Go.Fw.lV,L8 hm];rfl
   .cases h
  | .os b sz off len,y,h=>ahT hρ ha h
  | .op b sz i off,y,h=>ahU hρ ha h
  | .mp _,y,h=>by simp [SV.lV] at h
theorem wL : ∀{l m:List SV},Gn th l=some m->wu ah (dN ρ l)=some (dN ρ m)
  |[],m,h=>by simp only [Gn,au] at h;subst h;rfl
  |x::r,m,h=>by
   simp only [Gn] at h
   split at h
   .rename_i a l ha' hl;simp only [au] at h;subst h;simp only [dN,wu,L8 ha',wL hl];rfl
   .cases h
theorem Jh : ∀{l m:List (List SV)},KU th l=some m->xJ ah (gY ρ l)=some (gY ρ m)
  |[],m,h=>by simp only [KU,au] at h;subst h;rfl
  |x::r,m,h=>by
   simp only [KU] at h
   split at h
   .rename_i a l ha' hl;simp only [au] at h;subst h;simp only [gY,xJ,wL ha',Jh hl];rfl
   .cases h
end
end
def thN (th:Tr SB):Nat->Nat->Option SB
 |0=>th.get
 |n+1=>fun b=>match th.get b with
  |some (.rows sz rs)=>bif BZ rs then some (.rows sz rs) else match KU (thN th n) rs with
   |some r=>some (.rows sz r)
   |none=>none
  |k=>k
 mutual
theorem adV {ρ:List AV}(hρ:iC ρ=true):∀{x:SV},(x.den ρ).clean=x.cln
  | .sc k t=>by cases k<;>first|rfl|exact jL (Tm.pF hρ t)
  | .c v=>rfl
  | .nil=>rfl
  | .sf t=>jL (Tm.pF hρ t)
  | .agg l=>DV hρ (l:=l)
  | .eG l=>DV hρ (l:=l)
  | .slc r _=>Oa hρ (l:=r)
  | .vp row _=>DV hρ (l:=row)
  | .fn _ x y=>by simp only [SV.den,AV.clean,SV.cln,DV hρ]
  | .lT _ v=>adV hρ (x:=v)
  | .os ..=>rfl
  | .op ..=>rfl
  | .mp _=>rfl
theorem DV {ρ:List AV}(hρ:iC ρ=true):∀{l:List SV},kE (dN ρ l)=Ib l
  |[]=>rfl
  |x::r=>by simp only [dN,kE,Ib,adV hρ,DV hρ]
theorem Oa {ρ:List AV}(hρ:iC ρ=true):∀{l:List (List SV)},jr (gY ρ l)=BZ l
  |[]=>rfl
  |x::r=>by simp only [gY,jr,BZ,DV hρ,Oa hρ]
end
theorem Fe {ρ:List AV}(hρ:iC ρ=true){th:Tr SB}{ah:AH}(ha:EJ ρ th ah):∀n,AhG ρ (thN th n) (vZ ah n)
 |0=>ha
 |n+1=>fun b k h=>by
  have ih:=Fe hρ ha n
  simp only [thN] at h
  cases hb:th.get b with
  |none=>rw [hb] at h;cases h
  |some sb=>
   have hab:=ha b sb hb
   cases sb with
   |rows sz rs=>
    simp only [hb] at h
    simp only [vZ,hab,SB.den,Oa hρ]
    cases hc:BZ rs
    .simp only [hc,cond_false] at h
     split at h
     .rename_i r hr
      simp only [au] at h;subst h
      simp only [cond_false,Jh hρ ih hr];rfl
     .cases h
    .simp only [hc,cond_true,au] at h;subst h
     rfl
   |fE sz t=>
    simp only [hb,au] at h;subst h
    simp only [vZ,hab,SB.den,jL (Tm.pF hρ t),cond_true]
   |map es=>simp only [hb,au] at h;subst h;simp only [vZ,hab,SB.den]
   |zy m t=>simp only [hb,au] at h;subst h;simp only [vZ,hab,SB.den]
   |it m n k=>simp only [hb,au] at h;subst h;simp only [vZ,hab,SB.den]
   |jZ ty sz rs=>simp only [hb,au] at h;subst h;simp only [vZ,hab,SB.den]
def rfT (th:Tr SB):List Nat->Option (List Nat)
 |[]=>some []
 |b::r=>match th.get b with
  |none=>none
  |some k=>match rfT th r with
   |none=>none
   |some l=>some ((match k with | .rows _ rs=>B_ rs|_=>[])++l)
def ahV (th:Tr SB):Nat->List Nat->Option (List Nat)
 |0,l=>some l
 |n+1,l=>match l with
  |[]=>some []
  |_::_=>match rfT th l with
   |none=>none
   |some m=>match ahV th n m with
    |none=>none
    |some r=>some (l++r)
theorem adW {ρ:List AV}(hρ:iC ρ=true){th:Tr SB}{ah:AH}(ha:EJ ρ th ah):∀{l m:List Nat},rfT th l=some m->l.flatMap (BM ah)=m
 |[],m,h=>by simp only [rfT,au] at h;subst h;rfl
 |b::r,m,h=>by
  simp only [rfT] at h
  split at h
  .cases h
  .rename_i k hk
   split at h
   .cases h
   .rename_i q hq
    simp only [au] at h;subst h
    rw [List.flatMap_cons,adW hρ ha hq]
    simp only [BM,ha b k hk]
    cases k with
    |rows sz rs=>simp only [SB.den,yu hρ]
    |fE sz t=>simp only [SB.den,nX (jL (Tm.pF hρ t))]
    |map es=>rfl
    |zy m t=>rfl
    |it m n k=>rfl
    |jZ ty sz rs=>rfl
theorem adX {ah:AH}:∀n,rch ah n []=[]
 |0=>rfl
 |n+1=>by simp only [rch,List.flatMap_nil,adX n,cZ]
theorem Zg {ρ:List AV}(hρ:iC ρ=true){th:Tr SB}{ah:AH}(ha:EJ ρ th ah):∀(n:Nat) {l m:List Nat},ahV th n l=some m->rch ah n l=m
 |0,l,m,h=>by simp only [ahV,au] at h;exact h
 |n+1,l,m,h=>by
  simp only [ahV] at h
  split at h
  .simp only [au] at h;subst h;exact adX _
  .split at h
   .cases h
   .rename_i q hq
    split at h
    .cases h
    .rename_i r hr
     simp only [au] at h;subst h
     simp only [rch]
     rw [adW hρ ha hq,Zg hρ ha n hr]
end Go.Fw
end
section
namespace Go.Fw
variable [jK]
section
variable {P : Program} {ρ:List AV} {pc:Pc} {id nv:Nat} {fr:lH} {ah:AH} {tr:Tr oQ} {th:Tr SB} {K:qY->Prop}
def adY (P:Program)(kv:TypeId->SV->Bool)(cs:List SV):List Field->Bool
 |[]=>true
 |f::fs=>(bif decide (f.name≠ "_") then (match Ak P f.type with|some ty=>(match Df ty cs f.offset with|some a=>kv f.type a|none=>false)|none=>false) else true)&&adY P kv cs fs
def Fg (P:Program):Nat->TypeId->SV->Bool
 |0,_,_=>false
 |d+1,t,a=>match P.underlying t with
  |none=>false
  |some u=>match u,a with
   | .bool,.sc .bool _=>true
   | .int _,.sc (.int _) _=>true
   | .string,.sc .str _=>true
   | .struct fs,.agg cs=>adY P (Fg P d) cs fs.toList
   |_,_=>false
theorem Zh {kv:TypeId->SV->Bool}{ka:TypeId->AV->Bool}(hk:∀t x,kv t x=true->ka t (x.den ρ)=true){cs:List SV}:∀{fs:List Field},adY P kv cs fs=true->ag4 P ka (dN ρ cs) fs=true
 |[],_=>rfl
 |f::fs,h=>by
  simp only [adY,ay] at h
  simp only [ag4,ay]
  refine ⟨?_,Zh hk h.2⟩
  have h1:=h.1
  by_cases hn:f.name≠ "_"
  .rw [if_pos hn]
   simp only [hn,not_false_eq_true,ne_eq,decide_true,cond_true] at h1
   split at h1
   .rename_i ty hty
    rw [hty]
    split at h1
    .rename_i a ha
     dsimp only
     rw [Rw ha]
     exact hk _ _ h1
    .cases h1
   .cases h1
  .rw [if_neg hn]
theorem Ob : ∀{d:Nat} {t:TypeId} {x:SV},Fg P d t x=true->Ar P d t (x.den ρ)=true
 |0,t,x,h=>by simp [Fg] at h
 |d+1,t,x,h=>by
  unfold Fg at h
  unfold Ar
  split at h
  .cases h
  .rename_i u hu
   rw [hu]
   split at h
   .rfl
   .rfl
   .rfl
   .exact Zh (kv:=Fg P d) (ka:=Ar P d) (fun t x=>Ob) h
   .cases h
def adZ : SV->Bool
 | .sc .bool _ | .sc (.int _) _ | .sc .str _=>true
 |_=>false
def akS : SV->Bool
 | .agg cs=>cs.all adZ
 |a=>adZ a
theorem Zi {x:SV}(h:adZ x=true):abp (x.den ρ)=true:=by
 unfold adZ at h
 split at h
 .rfl
 .rfl
 .rfl
 .cases h
theorem akT {x:SV}(h:akS x=true):ag5 (x.den ρ)=true:=by
 unfold akS at h
 split at h
 .rename_i cs
  show (dN ρ cs).all abp=true
  rw [mY,List.all_map,aH]
  intro y hy
  exact Zi (aH.1 h y hy)
 .rename_i hx
  have h1:=Zi (ρ:=ρ) h
  unfold ag5
  split
  .rename_i cs e
   rw [e] at h1
   simp [abp] at h1
  .exact h1
def RH (P:Program)(t:TypeId):Option SV:=((P.info? t).bind (·.zero)).bind akI
theorem Oc {t:TypeId}{z:SV}(h:RH P t=some z):G6 P t=some (z.den ρ):=by
 unfold RH at h
 simp only [aV] at h
 obtain ⟨v,hv,hz⟩:=h
 unfold G6
 simp only [aV]
 exact ⟨v,hv,Y5 hz⟩
def VE (P:Program)(pc:Pc)(kt:TypeId)(k:SV):List (SV×SV)->Option (Option (Nat×SV))
 |[]=>some none
 |e::r=>match yEq P 10000 kt k e.1 with
  |none=>none
  |some t=>match pc.known t with
   |none=>none
   |some true=>some (some (0,e.2))
   |some false=>match VE P pc kt k r with
    |none=>none
    |some none=>some none
    |some (some q)=>some (some (q.1+1,q.2))
def Xw (ρ:List AV)(es:List (SV×SV)):List (AV×AV):=es.map fun e=>(e.1.den ρ,e.2.den ρ)
theorem L9 (hp:pc.holds ρ){kt:TypeId}{k:SV}:∀{es:List (SV×SV)} {r:Option (Nat×SV)},VE P pc kt k es=some r->xI P kt (k.den ρ) (Xw ρ es)=some (r.map fun q=>(q.1,q.2.den ρ))
 |[],r,h=>by simp only [VE,au] at h;subst h;rfl
 |e::es,r,h=>by
  simp only [VE] at h
  split at h
  .cases h
  .rename_i t ht
   have ht:=N8 (P:=P) (ρ:=ρ) ht
   simp only [Xw,aZ,xI,ht]
   split at h
   .cases h
   .rename_i hk
    simp only [au] at h;subst h
    rw [Pc.fZ hp hk];rfl
   .rename_i hk
    rw [Pc.fZ hp hk]
    dsimp only
    split at h
    .cases h
    .rename_i hf
     simp only [au] at h;subst h
     have:=L9 hp hf
     unfold Xw at this
     rw [this];rfl
    .rename_i q hf
     simp only [au] at h;subst h
     have:=L9 hp hf
     unfold Xw at this
     rw [this];rfl
def lkS (c:Bool)(v:SV)(ok:Bool):SV:=bif c then .eG [v,.sc .bool (.lb ok)] else v
theorem Fh {c ok:Bool}{v:SV}:(lkS c v ok).den ρ=G7 c (v.den ρ) ok:=by cases c<;>rfl
def L_ (P:Program)(t:TypeId)(id nv:Nat)(r:Option SV):Option SR:=
 match r with
 |none=>some ⟨.mp id,[(id,some (.map []))],[],[],nv⟩
 |some (.sc (.int _) _)=>match P.underlying t with
  |some (.map _ _)=>some ⟨.mp id,[(id,some (.map []))],[],[],nv⟩
  |_=>none
 |_=>none
theorem Pn {t:TypeId}{x:Option SV}{r:SR}(h:L_ P t id nv x=some r)(hK:K (r.den ρ)):Dw P t id (x.map (SV.den ρ)) K:=by
 unfold L_ at h
 split at h
 .simp only [au] at h;subst h;exact ⟨trivial,hK⟩
 .split at h
  .rename_i hu
   simp only [au] at h;subst h
   refine ⟨?_,hK⟩
   simp only [Option.map_some,SV.den,Kd.av,hu]
  .cases h
 .cases h
def lkT (c:Bool)(v:SV)(f:Tm):SV:=bif c then .eG [v,.sc .bool f] else v
theorem akU {c:Bool}{v:SV}{f:Tm}:(lkT c v f).den ρ=G7 c (v.den ρ) (f.den ρ).B:=by cases c<;>rfl
def ap5 (P:Program)(nv:Nat)(et:TypeId):Option SV:=
 match EZ P 20 et,P.underlying et with
 |some l,some d=>bif l.any (fun k=>decide (k=.sl)) then none else bif G5 d then some (.agg (gX nv [] 1 l)) else match l with | [k]=>some (.sc k (.var nv [1]))|_=>none
 |_,_=>none
def ap6 (P:Program)(pc:Pc)(th:Tr SB)(nv:Nat)(kt et:TypeId)(z m k:SV)(c:Bool):Option SR:=
 match m with
 | .c .mp=>some (.val nv (lkS c z false))
 | .mp b=>match th.get b with
  |some (.map es)=>match VE P pc kt k es with
   |none=>none
   |some none=>some ⟨lkS c z false,[],[b],[],nv⟩
   |some (some q)=>some ⟨lkS c q.2 true,[],[b],[],nv⟩
  |some (.zy sh t)=>match ap5 P nv et with
   |none=>none
   |some v=>some ⟨lkT c v (.var nv [0]),[],[b],[.look kt sh t k z (.var nv [0]) v],nv+1⟩
  |_=>none
 |_=>none
def Xx (P:Program)(pc:Pc)(th:Tr SB)(nv:Nat)(t:TypeId)(m k:SV)(c:Bool):Option SR:=
 match P.underlying t with
 |some (.map kt et)=>bif Fg P 10000 kt k then (match RH P et with|some z=>ap6 P pc th nv kt et z m k c|none=>none) else none
 |_=>none
theorem abX {t:TypeId}{m k:SV}{c:Bool}{r:SR}(hp:pc.holds ρ)(ha:EJ ρ th ah)(h:Xx P pc th nv t m k c=some r)(hs:∀s∈r.sd,s.holds P ρ)(hK:K (r.den ρ)):BK P ah t (m.den ρ) (k.den ρ) c K:=by
 unfold Xx at h
 unfold BK
 split at h
 .rename_i kt et hu
  rw [hu]
  cases hk:Fg P 10000 kt k
  .simp [hk] at h
  .simp only [hk,cond_true] at h
   refine ⟨Ob hk,?_⟩
   split at h
   .rename_i z hz
    refine dG.2 ⟨_,Oc (ρ:=ρ) hz,?_⟩
    unfold ap6 at h
    split at h
    .simp only [au] at h;subst h
     rw [SR.rX,Fh] at hK
     exact hK
    .rename_i b
     split at h
     .rename_i es hb
      show (match ah b with|some (.map es)=>_|_=>False)
      rw [ha _ _ hb]
      have hf:=fun r h=>L9 (ρ:=ρ) (P:=P) hp (r:=r) (kt:=kt) (k:=k) (es:=es) h
      split at h
      .cases h
      .rename_i hq
       simp only [au] at h;subst h
       refine dG.2 ⟨_,hf _ hq,?_⟩
       simp only [SR.den,Fh] at hK
       exact hK
      .rename_i q hq
       simp only [au] at h;subst h
       refine dG.2 ⟨_,hf _ hq,?_⟩
       simp only [SR.den,Fh] at hK
       exact hK
     .rename_i sh t hb
      show (match ah b with|some (.map es)=>_|_=>False)
      rw [ha _ _ hb]
      split at h
      .cases h
      .rename_i v hv
       simp only [au] at h;subst h
       obtain ⟨r,r1,r2,r3⟩:=hs _ bg
       refine dG.2 ⟨_,r1,?_⟩
       simp only [SR.den,akU,r2,r3] at hK
       cases r with
       |none=>exact hK
       |some q=>exact hK
     .cases h
    .cases h
   .cases h
 .cases h
def amK (P:Program)(pc:Pc)(th:Tr SB)(nv:Nat)(kt:TypeId)(m k v:SV):Option SR:=
 match m with
 | .mp b=>match th.get b with
  |some (.map es)=>match VE P pc kt k es with
   |none=>none
   |some none=>some ⟨.c .undef,[(b,some (.map (es++[(k,v)])))],[b],[],nv⟩
   |some (some q)=>match BA es q.1 with
    |some e=>bif e.1.beq k then some ⟨.c .undef,[(b,some (.map (es.set q.1 (k,v))))],[b],[],nv⟩ else none
    |none=>none
  |some (.zy sh t)=>some ⟨.c .undef,[(b,some (.zy sh (.var nv [])))],[b],[.put kt sh t k v (.var nv [])],nv+1⟩
  |_=>none
 |_=>none
def Xy (P:Program)(pc:Pc)(th:Tr SB)(nv:Nat)(t:TypeId)(m k v:SV):Option SR:=
 match P.underlying t with
 |some (.map kt _)=>bif Fg P 10000 kt k&&akS k then amK P pc th nv kt m k v else none
 |_=>none
theorem RI {t:TypeId}{m k v:SV}{r:SR}(hp:pc.holds ρ)(ha:EJ ρ th ah)(h:Xy P pc th nv t m k v=some r)(hs:∀s∈r.sd,s.holds P ρ)(hK:K (r.den ρ)):BL P ah t (m.den ρ) (k.den ρ) (v.den ρ) K:=by
 unfold Xy at h
 unfold BL
 split at h
 .rename_i kt et hu
  rw [hu]
  cases hk:Fg P 10000 kt k&&akS k
  .simp [hk] at h
  .simp only [hk,cond_true] at h
   simp only [ay] at hk
   refine ⟨Ob hk.1,akT hk.2,?_⟩
   unfold amK at h
   split at h
   .rename_i b
    split at h
    .rename_i es hb
     show (match ah b with|some (.map es)=>_|_=>False)
     rw [ha _ _ hb]
     have hf:=fun r h=>L9 (ρ:=ρ) (P:=P) hp (r:=r) (kt:=kt) (k:=k) (es:=es) h
     split at h
     .cases h
     .rename_i hq
      simp only [au] at h;subst h
      refine dG.2 ⟨_,hf _ hq,by simp,?_⟩
      simp only [SR.den,SB.den,SV.den,Cv.val,aZ,List.map_nil,Option.map_some,List.map_append] at hK
      exact hK
     .rename_i q hq
      split at h
      .rename_i e he
       cases hc:e.1.beq k
       .simp [hc] at h
       .simp only [hc,cond_true,au] at h;subst h
        have he':=SV.beq_eq hc
        rw [wF] at he
        refine dG.2 ⟨_,hf _ hq,?_,?_⟩
        .intro q' hq'
         simp only [Option.map_some,au] at hq'
         subst hq'
         simp [he,he']
        .simp only [SR.den,SB.den,SV.den,Cv.val,aZ,List.map_nil,Option.map_some,List.map_set] at hK
         exact hK
      .cases h
    .rename_i sh t hb
     show (match ah b with|some (.map es)=>_|_=>False)
     rw [ha _ _ hb]
     simp only [au] at h;subst h
     obtain ⟨r,r1,r2,r3⟩:=hs _ bg
     refine dG.2 ⟨_,r1,r2,?_⟩
     simp only [SR.den,SB.den,SV.den,Cv.val,aZ,List.map_nil,Option.map_some,r3] at hK
     exact hK
    .cases h
   .cases h
 .cases h
def ahW (P:Program)(pc:Pc)(th:Tr SB)(nv:Nat)(t:TypeId)(x y:SV):Option SR:=
 match lU P t with
 |none=>none
 |some e=>bif Nat.beq e.1 0 then none else
  match LZ pc th e.1 y with
  |none=>none
  |some (ys,rd,l)=>
   match x with
   | .nil=>some ⟨.sc (.int .i64) (.li 0),[],rd,l,nv⟩
   | .os b sz off len=>bif Nat.beq sz e.1 then
     match th.get b with
     |some (.rows sz' rs)=>match xG len,ys with
      |some m,.cs rows=>bif Nat.beq sz sz'&&Nat.ble (off+m) rs.length then
       some ⟨.sc (.int .i64) (.li (.ofNat (min rows.length m))),[(b,some (.rows e.1 (rs.take off++rows.take m++rs.drop (off+min rows.length m))))],b::rd,l,nv⟩ else none
      |_,_=>none
     |some (.fE sz' xt)=>match ys,axk pc len with
      | .ts yt,some l'=>bif Nat.beq sz sz'&&Nat.beq off 0 then
       some ⟨.sc (.int .i64) (aw2 (ltT (.rlen yt) len) (.rlen yt) len),[(b,some (.fE e.1 (.var nv [])))],b::rd,l++(l'++[.cpy xt len yt (.var nv [])]),nv+1⟩ else none
      |_,_=>none
     |_=>none
    else none
   |_=>none
theorem ahX {t:TypeId}{x y:SV}{r:SR}(hp:pc.holds ρ)(ha:EJ ρ th ah)(h:ahW P pc th nv t x y=some r)(hs:∀s∈r.sd,s.holds P ρ)(hK:K (r.den ρ)):U7 P ah t (x.den ρ) (y.den ρ) K:=by
 unfold ahW at h
 split at h
 .cases h
 .rename_i e he
  cases h0:Nat.beq e.1 0
  .simp only [h0,cond_false] at h
   refine dG.2 ⟨e,he,?_⟩
   refine And.intro (fun e0=>by rw [e0] at h0;exact absurd h0 (by decide)) ?_
   split at h
   .cases h
   .rename_i ys rd l hy
    split at h
    .simp only [au] at h;subst h
     exact yh ha hy hs hK
    .rename_i b sz off len
     cases h1:Nat.beq sz e.1
     .simp [h1] at h
     .simp only [h1,cond_true] at h
      have e1:=aA h1
      split at h
      .rename_i sz' rs hb
       split at h
       .rename_i m rows hm
        cases h2:Nat.beq sz sz'&&Nat.ble (off+m) rs.length
        .simp [h2] at h
        .simp only [h2,cond_true,au] at h;subst h
         simp only [ay] at h2
         refine yh ha hy hs ?_
         show sz=e.1/\_
         refine ⟨e1,?_⟩
         rw [ha _ _ hb]
         refine ⟨aA h2.1,?_,?_⟩
         .rw [(fJ hm).2,fO];exact aG h2.2
         .rw [(fJ hm).2]
          simp only [Ys.den,fO,yg,yc,<- wG]
          exact hK
       .cases h
      .rename_i sz' xt hb
       split at h
       .rename_i yt l' hn
        cases h2:Nat.beq sz sz'&&Nat.beq off 0
        .simp [h2] at h
        .simp only [h2,cond_true,au] at h;subst h
         simp only [ay] at h2
         have e2:=aA h2.2
         subst e2
         refine yh ha hy (fun s hm=>hs s (by simp [hm])) ?_
         have hl0:=VA hp hn (fun s hm=>hs s (by simp [hm]))
         obtain ⟨c1,c2⟩:=hs (.cpy xt len yt (.var nv [])) (by simp)
         show sz=e.1/\_
         refine ⟨e1,?_⟩
         rw [ha _ _ hb]
         refine ⟨aA h2.1,by simpa using c1,?_⟩
         have hv2:((aw2 (ltT (.rlen yt) len) (.rlen yt) len).den ρ).I=((min (yt.den ρ).R.length (len.den ρ).I.toNat:Nat):Int):=by
          rw [x9]
          have e3:((ltT (.rlen yt) len).den ρ).B=decide (((yt.den ρ).R.length:Int)<(len.den ρ).I):=by
           rw [ltT,nS];rfl
          rw [e3]
          by_cases hlt:((yt.den ρ).R.length:Int)<(len.den ρ).I
          .rw [decide_eq_true hlt]
           show ((yt.den ρ).R.length:Int)=_
           omega
          .rw [decide_eq_false hlt]
           show (len.den ρ).I=_
           omega
         have:K ⟨.p (.int .i64 ((aw2 (ltT (.rlen yt) len) (.rlen yt) len).den ρ).I),[(b,some (.rows e.1 ((Tm.var nv []).den ρ).R))],b::rd⟩:=hK
         rw [hv2,c2] at this
         simpa [Ys.den] using this
       .cases h
      .cases h
    .cases h
  .simp [h0] at h
def Zj : List SV->Option UInt8
 |[.sc (.int .u8) (.li (.ofNat n))]=>bif Nat.blt n 256 then some (UInt8.ofNat n) else none
 |_=>none
def Dh : List (List SV)->Option (List UInt8)
 |[]=>some []
 |x::r=>match Zj x with|none=>none|some b=>match Dh r with|none=>none|some l=>some (b::l)
theorem ahY {row:List SV}{b:UInt8}(h:Zj row=some b):awU (dN ρ row)=some b:=by
 unfold Zj at h
 split at h
 .rename_i n
  cases hn:Nat.blt n 256
  .simp [hn] at h
  .simp only [hn,cond_true,au] at h;subst h
   have:=KO hn
   show (bif decide (0<=(n:Int)/\(n:Int)<256) then some (UInt8.ofNat (n:Int).toNat) else none)=_
   have e:decide (0<=(n:Int)/\(n:Int)<256)=true:=by simp;omega
   rw [e];rfl
 .cases h
theorem VF : ∀{rows:List (List SV)} {l:List UInt8},Dh rows=some l->(gY ρ rows).mapM awU=some l
 |[],l,h=>by simp only [Dh,au] at h;subst h;rfl
 |x::r,l,h=>by
  simp only [Dh] at h
  split at h
  .cases h
  .rename_i b hb
   split at h
   .cases h
   .rename_i l' hl
    simp only [au] at h;subst h
    simp only [gY,List.mapM_cons,ahY hb,VF hl,Option.pure_def,Option.bind_eq_bind,Option.bind_some]
def axH : SV->Bool | .sc .str _=>true|_=>false
def abY (P:Program)(pc:Pc)(th:Tr SB)(nv:Nat)(s:TypeId)(x:SV):Option SR:=
 bif (match P.underlying s with|some (.slice e)=>(match P.underlying e with|some (.int k)=>decide (k=.u8)|_=>false)|_=>false)&&!axH x then
  match LZ pc th 1 x with
  |none=>none
  |some (.cs rows,rd,l)=>(Dh rows).map fun b=>⟨.sc .str (.ls b),[],rd,l,nv⟩
  |some (.ts t,rd,l)=>some ⟨.sc .str (.bts t),[],rd,l++[.anU t],nv⟩
 else none
theorem VG : ∀{ys:List (List AV)},(ys.mapM awU).isSome=true->ys.mapM awU=some (ys.map Xj)
 |[],_=>rfl
 |y::ys,h=>by
  cases hb:awU y with
  |none=>simp [hb] at h
  |some b=>
   cases hr:ys.mapM awU with
   |none=>simp [hb,hr] at h
   |some r=>
    have ih:=VG (ys:=ys) (by rw [hr];rfl)
    rw [hr] at ih
    simp only [au] at ih
    simp [hb,hr,ih,Xj]
theorem afL {s d:TypeId}{x:SV}{r:SR}(hd:P.underlying d=some .string)(ha:EJ ρ th ah)(h:abY P pc th nv s x=some r)(hs:∀s∈r.sd,s.holds P ρ)(hK:K (r.den ρ)):abq P ah s d (x.den ρ) K:=by
 unfold abY at h
 generalize hg:((match P.underlying s with|some (.slice e)=>(match P.underlying e with|some (.int k)=>decide (k=.u8)|_=>false)|_=>false)&&!axH x)=g at h
 cases g
 .cases h
 .simp only [cond_true] at h
  simp only [ay] at hg
  obtain ⟨h1,h2⟩:=hg
  refine ⟨hd,?_,?_,?_⟩
  .split at h1
   .rename_i e hu
    split at h1
    .rename_i k hk
     rw [hu]
     show P.underlying e=_
     rw [hk,of_decide_eq_true h1]
    .cases h1
   .cases h1
  .cases x with
   |sc k t=>cases k<;>first|trivial|(simp [axH] at h2)
   |_=>trivial
  .split at h
   .cases h
   .rename_i rows rd l hy
    cases hb:Dh rows with
    |none=>simp [hb] at h
    |some b=>
     simp only [hb,Option.map_some,au] at h;subst h
     exact yh ha hy hs (dG.2 ⟨_,VF hb,hK⟩)
   .rename_i t rd l hy
    simp only [au] at h;subst h
    refine yh ha hy (fun s hm=>hs s (by simp [hm])) ?_
    have hb:=hs (.anU t) (by simp)
    exact dG.2 ⟨_,VG hb,hK⟩
def ahZ (P:Program)(pc:Pc)(th:Tr SB)(nv:Nat)(s d:TypeId)(x:SV):Option SR:=
 match P.underlying s,P.underlying d with
 |some (.slice _),some .string=>abY P pc th nv s x
 |_,_=>Rx P nv s d x
theorem ah4 {s d:TypeId}{x:SV}{r:SR}(ha:EJ ρ th ah)(h:ahZ P pc th nv s d x=some r)(hs:∀s∈r.sd,s.holds P ρ)(hK:K (r.den ρ)):O0 P ah s d (x.den ρ) K:=by
 unfold ahZ at h
 unfold O0
 split at h
 .rename_i hu hd
  rw [hu,hd]
  exact afL hd ha h hs hK
 .rename_i hno
  have:=Zc (P:=P) h hs hK
  split
  .rename_i h1 h2;exact (hno _ h1 h2).elim
  .exact this
def RJ (P:Program)(nv:Nat)(t:TypeId)(x:SV):Option SR:=
 match P.underlying t with
 |none=>none
 |some (.interface _)=>none
 |some _=>some (.val nv (.lT t x))
theorem Zk {t:TypeId}{x:SV}{r:SR}(h:RJ P nv t x=some r)(hK:K (r.den ρ)):G_ P t (x.den ρ) K:=by
 unfold RJ at h
 split at h
 .cases h
 .cases h
 .rename_i d hn hu
  simp only [au] at h;subst h
  refine ⟨?_,hK⟩
  rw [hu]
  cases d with
  |interface l=>exact hn l rfl
  |_=>trivial
def sAs (P:Program)(nv:Nat)(w?:Option (Array (String×TypeId)))(x:SV)(a:TypeId)(c:Bool):Option SR:=
 match w?,x with
 |some want,.lT t v=>match P.info? t with
  |none=>none
  |some i=>match Instr.missingMethod want i.methods with|none=>some (.val nv (lkS c (.lT t v) true))|some _=>none
 |none,.lT t v=>bif Nat.beq t a then some (.val nv (lkS c v true)) else bif c then (RH P a).map fun z=>.val nv (lkS c z false) else none
 |_,.c .lT=>bif c then (RH P a).map fun z=>.val nv (lkS c z false) else none
 |_,_=>none
def Xz (P:Program)(nv:Nat)(x:SV)(a:TypeId)(c:Bool):Option SR:=
 match P.underlying a with
 |none=>none
 |some d=>sAs P nv (EN d) x a c
theorem abZ {x:SV}{a:TypeId}{c:Bool}{r:SR}(h:Xz P nv x a c=some r)(hK:K (r.den ρ)):EO P (x.den ρ) a c K:=by
 unfold Xz at h
 split at h
 .cases h
 .rename_i d hd
  refine dG.2 ⟨d,hd,?_⟩
  unfold sAs at h
  split at h
  .rename_i want t v hq
   split at h
   .cases h
   .rename_i i hi
    split at h
    .rename_i hm
     simp only [au] at h;subst h
     rw [hq]
     rw [SR.rX,Fh] at hK
     exact dG.2 ⟨i,hi,hm,hK⟩
    .cases h
  .rename_i t v hq
   rw [hq]
   cases h1:Nat.beq t a
   .simp only [h1,cond_false] at h
    cases c
    .cases h
    .simp only [cond_true,aB] at h
     obtain ⟨z,hz,rfl⟩:=h
     rw [SR.rX,Fh] at hK
     exact .inr ⟨fun e=>by subst e;simp at h1,rfl,dG.2 ⟨_,Oc hz,hK⟩⟩
   .simp only [h1,cond_true,au] at h;subst h
    rw [SR.rX,Fh] at hK
    exact .inl ⟨aA h1,hK⟩
  .cases c
   .cases h
   .simp only [cond_true,aB] at h
    obtain ⟨z,hz,rfl⟩:=h
    rw [SR.rX,Fh] at hK
    have:true=true/\fQ (G6 P a) fun z=>K (.val (G7 true z false)):=⟨rfl,dG.2 ⟨_,Oc hz,hK⟩⟩
    cases EN d<;>exact this
  .cases h
def Oe (nv:Nat)(x:SV):Option SR:=
 match x with
 | .vp _ _ | .op _ _ _ _ | .fn _ _ _=>some (.val nv x)
 |_=>none
theorem XA {x:SV}{r:SR}(h:Oe nv x=some r)(hK:K (r.den ρ)):xU (x.den ρ) K:=by
 unfold Oe at h
 split at h
 .simp only [au] at h;subst h;exact hK
 .simp only [au] at h;subst h;exact hK
 .simp only [au] at h;subst h;exact hK
 .cases h
def ab1 (P:Program)(th:Tr SB)(id nv:Nat)(t:TypeId)(m:SV):Option SR:=
 match P.underlying t with
 |some (.map _ _)=>(match m with
  | .mp b=>(match th.get b with
   |some (.map es)=>some ⟨.op id 1 (.li 0) 0,[(id,some (.it b (.li es.length) 0))],[b],[],nv⟩
   |some (.zy _ t)=>some ⟨.op id 1 (.li 0) 0,[(id,some (.it b (.rlen t) 0))],[b],[],nv⟩
   |_=>none)
  |_=>none)
 |_=>none
theorem afM {t:TypeId}{m:SV}{r:SR}(ha:EJ ρ th ah)(h:ab1 P th id nv t m=some r)(hK:K (r.den ρ)):G8 P ah id t (m.den ρ) K:=by
 unfold ab1 at h
 unfold G8
 split at h
 .rename_i kt et hu
  rw [hu]
  split at h
  .rename_i b
   split at h
   .rename_i es hb
    simp only [au] at h;subst h
    show (match ah b with|some (.map es)=>_|_=>False)
    rw [ha _ _ hb]
    simpa [SR.den,SB.den,SV.den,Tm.den,D.I] using hK
   .rename_i mk t hb
    simp only [au] at h;subst h
    show (match ah b with|some (.map es)=>_|_=>False)
    rw [ha _ _ hb]
    simpa [SR.den,SB.den,SV.den,Tm.den,D.I,mF] using hK
   .cases h
  .cases h
 .cases h
def ah5 (th:Tr SB)(nv:Nat)(x:SV)(str:Bool):Option SR:=
 bif str then none else
 match x with
 | .op q _ (.li 0) 0=>(match th.get q with
  |some (.it b n k)=>(match th.get b with
   |some (.map es)=>bif n.beq (.li es.length) then (match Nat.beq k es.length with
    |true=>some ⟨.eG [.sc .bool (.lb false)],[],[q,b],[],nv⟩
    |false=>bif Nat.beq (k+1) es.length then (match es[k]? with
     |some e=>some ⟨.eG [.sc .bool (.lb true),e.1,e.2],[(q,some (.it b n (k+1)))],[q,b],[],nv⟩
     |none=>none) else none) else none
   |_=>none)
  |_=>none)
 |_=>none
theorem ah6 {x:SV}{str:Bool}{r:SR}(ha:EJ ρ th ah)(h:ah5 th nv x str=some r)(hK:K (r.den ρ)):QF ah (x.den ρ) str K:=by
 unfold ah5 at h
 cases str with
 |true=>cases h
 |false=>
  simp only [cond_false] at h
  split at h
  .rename_i q sz
   split at h
   .rename_i b n k hq
    split at h
    .rename_i es hb
     cases hn:n.beq (.li es.length)
     .simp [hn] at h
     .simp only [hn,cond_true] at h
      have hn:=Tm.beq_eq hn
      subst hn
      show (match ah q with|some (.it b n k)=>G9 ah q b n k K|_=>False)
      rw [ha _ _ hq]
      show G9 ah q b es.length k K
      unfold G9
      rw [ha _ _ hb]
      refine ⟨by simp,?_⟩
      split at h
      .rename_i hk
       simp only [au] at h;subst h
       rw [hk]
       exact hK
      .rename_i hk
       rw [hk]
       cases hk1:Nat.beq (k+1) es.length
       .simp [hk1] at h
       .simp only [hk1,cond_true] at h
        split at h
        .rename_i e he
         simp only [au] at h;subst h
         exact ⟨aA hk1,dG.2 ⟨(e.1.den ρ,e.2.den ρ),by rw [bT,he];rfl,hK⟩⟩
        .cases h
    .cases h
   .cases h
  .cases h
def ab2 (th:Tr SB)(nv:Nat)(x:SV):Option SR:=
 match x with
 | .op q _ (.li 0) 0=>(match th.get q with
  |some (.it b n (k+1))=>(match th.get b with
   |some (.map es)=>bif n.beq (.li es.length) then (match es[k]? with
    |some e=>some ⟨.eG [e.1,e.2],[],[q,b],[],nv⟩
    |none=>none) else none
   |_=>none)
  |_=>none)
 |_=>none
theorem afN {x:SV}{r:SR}(ha:EJ ρ th ah)(h:ab2 th nv x=some r)(hK:K (r.den ρ)):Kt ah (x.den ρ) K:=by
 unfold ab2 at h
 split at h
 .rename_i q sz
  split at h
  .rename_i b n k hq
   split at h
   .rename_i es hb
    cases hn:n.beq (.li es.length)
    .simp [hn] at h
    .simp only [hn,cond_true] at h
     have hn:=Tm.beq_eq hn
     subst hn
     show (match ah q with|some (.it b n (k+1))=>EM ah q b n k K|_=>False)
     rw [ha _ _ hq]
     show EM ah q b es.length k K
     unfold EM
     rw [ha _ _ hb]
     refine ⟨by simp,?_⟩
     split at h
     .rename_i e he
      simp only [au] at h;subst h
      exact dG.2 ⟨(e.1.den ρ,e.2.den ρ),by rw [bT,he];rfl,hK⟩
     .cases h
   .cases h
  .cases h
 .cases h
def ab3 (P:Program)(th:Tr SB)(nv:Nat)(t:TypeId)(x:SV):Option SR:=
 match lU P t with
 |none=>none
 |some e=>match (match P.underlying t with|some (.slice el)=>axi P el|_=>none) with
  |none=>none
  |some z=>bif Nat.beq e.1 0||!Nat.beq z.length e.1 then none else
   match x with
   | .os b sz off len=>bif Nat.beq sz e.1 then
     match th.get b with
     |some (.rows sz' rs)=>match xG len with
      |some m=>bif Nat.beq sz sz'&&Nat.ble (off+m) rs.length then
       some ⟨.eG [],[(b,some (.rows e.1 (rs.take off++List.replicate m z++rs.drop (off+m))))],[b],[],nv⟩ else none
      |none=>none
     |_=>none
    else none
   |_=>none
theorem afO {t:TypeId}{x:SV}{r:SR}(ha:EJ ρ th ah)(h:ab3 P th nv t x=some r)(hK:K (r.den ρ)):QG P ah t (x.den ρ) K:=by
 unfold ab3 at h
 split at h
 .cases h
 .rename_i e he
  split at h
  .cases h
  .rename_i z hz
   cases h0:Nat.beq e.1 0||!Nat.beq z.length e.1
   .simp only [h0,cond_false] at h
    simp only [aQ,Bool.not_eq_false'] at h0
    have hz':((P.underlying t).bind fun d=>match d with | .slice el=>awM P el|_=>none)=some (dN ρ z):=by
     split at hz
     .rename_i el hu;rw [hu];exact Ac hz
     .cases hz
    refine dG.2 ⟨e,he,fun e0=>by rw [e0] at h0;exact absurd h0.1 (by decide),dG.2 ⟨_,hz',by rw [fM];exact aA h0.2,?_⟩⟩
    split at h
    .rename_i b sz off len
     cases h1:Nat.beq sz e.1
     .simp [h1] at h
     .simp only [h1,cond_true] at h
      split at h
      .rename_i sz' rs hb
       split at h
       .rename_i m hm
        cases h2:Nat.beq sz sz'&&Nat.ble (off+m) rs.length
        .simp [h2] at h
        .simp only [h2,cond_true,au] at h;subst h
         simp only [ay] at h2
         refine ⟨aA h1,?_⟩
         rw [ha _ _ hb]
         refine ⟨aA h2.1,by rw [(fJ hm).2,fO];exact aG h2.2,?_⟩
         rw [(fJ hm).2]
         have:K ⟨.eG [],[(b,some (.rows e.1 (gY ρ (rs.take off++List.replicate m z++rs.drop (off+m)))))],[b]⟩:=hK
         rw [wG,wG,<- yg,<- yc] at this
         have e2:gY ρ (List.replicate m z)=List.replicate m (dN ρ z):=by rw [lG,List.map_replicate]
         rw [e2] at this
         exact this
       .cases h
      .cases h
    .cases h
   .simp [h0] at h
end
end Go.Fw
end
section
namespace Go.Fw
variable [jK]
abbrev pG :=Pc->Nat->FuncId->List SV->Option (SV×Nat×List (Pc×Side)×Bool)
def iW (P:Program)(ρ:List AV)(l:List (Pc×Side)):Prop:=∀x∈l,Pc.holds ρ x.1->x.2.holds P ρ
def RN : List (Pc×Side)->List Side
 |[]=>[]
 |x::r=>.under x.1 x.2::RN r
theorem VH {P:Program}{ρ:List AV}:∀{l:List (Pc×Side)},(∀s∈RN l,s.holds P ρ)->iW P ρ l
 |[],_,x,hx=>by simp at hx
 |y::r,h,x,hx=>by
  rcases bF.1 hx with rfl|hx
  .exact h (.under x.1 x.2) (by simp [RN])
  .exact VH (l:=r) (fun s hs=>h s (by simp [RN,hs])) x hx
def n_ (P:Program)(ρ:List AV)(X:pG):Prop:=∀pc nv f args r,X pc nv f args=some r->Pc.holds ρ pc->iW P ρ r.2.2.1->PC P f (dN ρ args) (r.1.den ρ)/\(r.2.2.2=true->PCa P f (dN ρ args) (r.1.den ρ))
 mutual
def Fj (th:Tr SB):Nat->SV->SV×Nat×List Side
  |nv,.os b sz off len=>match th.get b with
   |some (.fE sz' t)=>bif Nat.beq sz sz'&&(Nat.beq off 0&&!(len.beq (.rlen t))) then (.sc .sl (.var nv []),nv+1,[.sub sz t none (some len) (.var nv [])]) else (.os b sz off len,nv,[])
   |_=>(.os b sz off len,nv,[])
  |nv,.agg l=>(.agg (Di th nv l).1,(Di th nv l).2.1,(Di th nv l).2.2)
  |nv,.eG l=>(.eG (Di th nv l).1,(Di th nv l).2.1,(Di th nv l).2.2)
  |nv,.sc k t=>(.sc k t,nv,[])
  |nv,.c v=>(.c v,nv,[])
  |nv,.nil=>(.nil,nv,[])
  |nv,.sf t=>(.sf t,nv,[])
  |nv,.slc r f=>(.slc r f,nv,[])
  |nv,.vp r o=>(.vp r o,nv,[])
  |nv,.fn f x y=>(.fn f x y,nv,[])
  |nv,.lT t v=>(.lT t v,nv,[])
  |nv,.op b sz i o=>(.op b sz i o,nv,[])
  |nv,.mp b=>(.mp b,nv,[])
def Di (th:Tr SB):Nat->List SV->List SV×Nat×List Side
  |nv,[]=>([],nv,[])
  |nv,x::r=>((Fj th nv x).1::(Di th (Fj th nv x).2.1 r).1,(Di th (Fj th nv x).2.1 r).2.1,(Fj th nv x).2.2++(Di th (Fj th nv x).2.1 r).2.2)
end
section
variable {P : Program} {ρ:List AV} {ah:AH} {th:Tr SB} (hρ:iC ρ=true) (ha:EJ ρ th ah)
 include hρ ha
theorem akV {nv b sz off n:Nat}{len:Tm}(hs:∀s∈(Fj th nv (.os b sz off len)).2.2,s.holds P ρ):Go.Fw.lV (vZ ah n) ((SV.os b sz off len).den ρ)=Go.Fw.lV (vZ ah n) ((Fj th nv (.os b sz off len)).1.den ρ):=by
 simp only [Fj] at hs ⊢
 split
 .rename_i sz' t hb
  rw [hb] at hs
  dsimp only at hs
  cases h0:Nat.beq sz sz'&&(Nat.beq off 0&&!(len.beq (.rlen t)))
  .rfl
  .simp only [h0,cond_true] at hs ⊢
   simp only [ay] at h0
   obtain ⟨h1,h2,-⟩:=h0
   have h1:=aA h1
   have h2:=aA h2
   subst h1;subst h2
   obtain ⟨-,q1,q2,q3,q4⟩:=hs (.sub sz t none (some len) (.var nv [])) (by simp)
   simp only [Vs] at q1 q2 q3 q4
   have hcl:=jL (Tm.pF hρ t)
   show (match vZ ah n b with|some (.rows sz' rs)=>if sz=sz'/\0+(len.den ρ).I.toNat<=rs.length/\jr rs=true then some (AV.sl ((rs.drop 0).take (len.den ρ).I.toNat) false) else none|_=>none)=(xJ (vZ ah n) ((Tm.var nv []).den ρ).R).map fun r=>AV.sl r false
   rw [NS (ha _ _ hb) hcl n,Ia (Tm.pF hρ _),q4]
   dsimp only
   rw [if_pos ⟨rfl,by omega,hcl⟩]
   simp
 .rfl
 mutual
theorem RP {n:Nat}:∀{x:SV} {nv:Nat},(∀s∈(Fj th nv x).2.2,s.holds P ρ)->Go.Fw.lV (vZ ah n) (x.den ρ)=Go.Fw.lV (vZ ah n) ((Fj th nv x).1.den ρ)
  | .os b sz off len,nv,hs=>akV hρ ha hs
  | .agg l,nv,hs=>by
   simp only [Fj] at hs ⊢
   simp only [SV.den,Go.Fw.lV,Ie (l:=l) hs]
  | .eG l,nv,hs=>by
   simp only [Fj] at hs ⊢
   simp only [SV.den,Go.Fw.lV,Ie (l:=l) hs]
  | .sc ..,nv,hs=>rfl
  | .c ..,nv,hs=>rfl
  | .nil,nv,hs=>rfl
  | .sf ..,nv,hs=>rfl
  | .slc ..,nv,hs=>rfl
  | .vp ..,nv,hs=>rfl
  | .fn ..,nv,hs=>rfl
  | .lT ..,nv,hs=>rfl
  | .op ..,nv,hs=>rfl
  | .mp ..,nv,hs=>rfl
theorem Ie {n:Nat}:∀{l:List SV} {nv:Nat},(∀s∈(Di th nv l).2.2,s.holds P ρ)->wu (vZ ah n) (dN ρ l)=wu (vZ ah n) (dN ρ (Di th nv l).1)
  |[],nv,hs=>rfl
  |x::r,nv,hs=>by
   simp only [Di] at hs ⊢
   simp only [dN,wu,RP (x:=x) (fun s h=>hs s (cO _ h)),Ie (l:=r) (fun s h=>hs s (dh _ h))]
end
end
def ad1 (P:Program)(X:pG)(pc:Pc)(nv:Nat)(f:FuncId)(args az:List SV)(rd:List Nat)(sd:List Side):Option SR:=
 match X pc nv f (xH az) with
 |some r=>bif Ib args||(r.1.kJ||r.2.2.2) then some ⟨r.1,[],rd,sd++RN r.2.2.1,r.2.1⟩ else none
 |none=>match ahz P nv f with
  |none=>none
  |some r=>bif Ib args||r.kJ then some ⟨r,[],rd,sd++[.call f (xH az) r],nv+1⟩ else none
def ab4 (P:Program)(X:pG)(pc:Pc)(th:Tr SB)(nv:Nat)(f:FuncId)(args:List SV):Option SR:=
 match Gn (thN th awT) (Di th nv args).1 with
 |none=>none
 |some az=>match ahV th awT (DT args) with
  |none=>none
  |some rd=>ad1 P X pc (Di th nv args).2.1 f args az rd (Di th nv args).2.2
section
variable {P : Program} {ρ:List AV} {pc:Pc} {id nv:Nat} {fr:lH} {ah:AH} {tr:Tr oQ} {th:Tr SB} {K:qY->Prop} {X:pG}
theorem afP {f:FuncId}{args:List SV}{r:SR}(hρ:iC ρ=true)(hX:n_ P ρ X)(hp:pc.holds ρ)(ha:EJ ρ th ah)(h:ab4 P X pc th nv f args=some r)(hs:∀s∈r.sd,s.holds P ρ)(hK:K (r.den ρ)):U8 P ah f (dN ρ args) K:=by
 unfold ab4 at h
 split at h
 .cases h
 .rename_i az has
  split at h
  .cases h
  rename_i rd hrd
  unfold ad1 at h
  have hw:∀w E vs,gK w E (dN ρ az) vs->gK w E (dN ρ (xH az)) vs:=fun w E vs hr=>
   gK.weak (rQ (ρ:=ρ)).length (fun i a b h1 h2=>((rQ (ρ:=ρ)).get i a b h1 h2).1) hr
  have fin:∀(v:SV) (b:Bool),(∀s∈(Di th nv args).2.2,s.holds P ρ)->(Ib args||(v.kJ||b))=true->PC P f (dN ρ (xH az)) (v.den ρ)->(b=true->PCa P f (dN ρ (xH az)) (v.den ρ))->K ⟨v.den ρ,[],rd⟩->U8 P ah f (dN ρ args) K:=by
   intro v b hpre hc hp hpa hk
   refine dG.2 ⟨_,(Ie hρ ha hpre).trans (wL hρ (Fe hρ ha awT) has),dN ρ (xH az),v.den ρ,hw,hp,?_,?_⟩
   .simp only [bf] at hc
    rcases hc with hc|hc|hc
    .exact .inl (wJ hρ hc)
    .exact .inr (.inl (Jg hc))
    .exact .inr (.inr (hpa hc))
   .rw [rE hρ,Zg hρ ha awT hrd];exact hk
  split at h
  .rename_i v hv
   cases hc:Ib args||(v.1.kJ||v.2.2.2)
   .simp [hc] at h
   .simp only [hc,cond_true,au] at h;subst h
    have hu:=VH (P:=P) (ρ:=ρ) (l:=v.2.2.1) fun s hm=>hs s (dh _ hm)
    exact fin v.1 v.2.2.2 (fun s hm=>hs s (cO _ hm)) hc (hX _ _ f _ v hv hp hu).1 (hX _ _ f _ v hv hp hu).2 hK
  .split at h
   .cases h
   .rename_i v hv
    cases hc:Ib args||v.kJ
    .simp [hc] at h
    .simp only [hc,cond_true,au] at h;subst h
     exact fin v false (fun s hm=>hs s (cO _ hm)) (by simpa using hc) (hs (.call f (xH az) v) (by simp)) (fun h=>by cases h) hK
def ab5 (b:UInt8):List SV:=[.sc (.int .u8) (.li (.ofNat b.toNat))]
theorem RS {l:List UInt8}:gY ρ (l.map ab5)=l.map Du:=by
 rw [lG,List.map_map];rfl
theorem afQ {row:List SV}{b:UInt8}(h:Zj row=some b):dN ρ row=Du b:=by
 unfold Zj at h
 split at h
 .rename_i n
  cases hn:Nat.blt n 256
  .simp [hn] at h
  .simp only [hn,cond_true,au] at h;subst h
   have:=KO hn
   have e:(UInt8.ofNat n).toNat=n:=by simp;omega
   simp only [Du,e]
   rfl
 .cases h
theorem Po : ∀{rows:List (List SV)} {l:List UInt8},Dh rows=some l->gY ρ rows=l.map Du
 |[],l,h=>by simp only [Dh,au] at h;subst h;rfl
 |x::r,l,h=>by
  simp only [Dh] at h
  split at h
  .cases h
  .rename_i b hb
   split at h
   .cases h
   .rename_i l' hl
    simp only [au] at h;subst h
    simp only [gY,aZ,afQ (ρ:=ρ) hb,Po hl]
def XB (id:Nat)(el:TypeId)(pre:List (Nat×Option SB))(r:SR):Option SR:=
 match r with
 |⟨.os i sz 0 (.li (.ofNat n)),wr,rd,sd,nv⟩=>match wr.getLast? with
  |some (i',some (.rows sz' rows))=>match Dh rows with
   |some l=>bif (Nat.beq i id&&Nat.beq i' id)&&(Nat.beq sz 1&&(Nat.beq sz' 1&&Nat.beq n l.length)) then some ⟨.os id 1 0 (.li (.ofNat l.length)),pre++[(id,some (.jZ el 1 (l.map ab5)))],rd,sd,nv⟩ else none
   |none=>none
  |_=>none
 |_=>none
def ah7 (P:Program)(pc:Pc)(th:Tr SB)(nv id:Nat)(t t2:TypeId)(x y:SV):Option SR:=
 match P.underlying t with
 |some (.slice el)=>match VB x with
  | .nil=>match L6 P pc th nv id t t2 .nil y with
   |some ⟨v,[(i',k)],rd,sd,uj⟩=>XB id el [] ⟨v,[(i',k)],rd,sd,uj⟩
   |_=>none
  | .os b sz off len=>match th.get b with
   |some (.jZ ty sz' rs)=>bif Nat.beq ty el then
     match L6 P pc (th.upd xM b (some (.rows sz' rs))) nv id t t2 (.os b sz off len) y with
     |some ⟨v,[(b',none),(i',k)],rd,sd,uj⟩=>bif Nat.beq b' b&&rd.any (Nat.beq b) then XB id el [(b,none)] ⟨v,[(b',none),(i',k)],rd,sd,uj⟩ else none
     |_=>none
    else none
   |_=>none
  |_=>none
 |_=>none
theorem VI {id:Nat}{el:TypeId}{pre:List (Nat×Option SB)}{r r':SR}(h:XB id el pre r=some r'):∃(l:List UInt8) (rows:List (List SV)),r.v=.os id 1 0 (.li (.ofNat l.length))/\r.wr.getLast?=some (id,some (.rows 1 rows))/\gY ρ rows=l.map Du/\
  r'=⟨.os id 1 0 (.li (.ofNat l.length)),pre++[(id,some (.jZ el 1 (l.map ab5)))],r.rd,r.sd,r.nv⟩:=by
 unfold XB at h
 split at h
 .rename_i i sz n wr rd sd nv
  split at h
  .rename_i i' sz' rows hw
   split at h
   .rename_i l hl
    cases h0:(Nat.beq i id&&Nat.beq i' id)&&(Nat.beq sz 1&&(Nat.beq sz' 1&&Nat.beq n l.length))
    .simp [h0] at h
    .simp only [h0,cond_true,au] at h
     simp only [ay] at h0
     obtain rfl:=aA h0.1.1
     obtain rfl:=aA h0.1.2
     obtain rfl:=aA h0.2.1
     obtain rfl:=aA h0.2.2.1
     obtain rfl:=aA h0.2.2.2
     exact ⟨l,rows,rfl,hw,Po hl,h.symm⟩
   .cases h
  .cases h
 .cases h
theorem ah8 {t t2:TypeId}{x y:SV}{r:SR}(ha:EJ ρ th ah)(h:ah7 P pc th nv id t t2 x y=some r)(hs:∀s∈r.sd,s.holds P ρ)(hK:K (r.den ρ)):YB P id ah t t2 (x.den ρ) (y.den ρ) K:=by
 unfold ah7 at h
 split at h
 .rename_i el hu
  rw [<- VD (x:=x)]
  generalize VB x=x' at h ⊢
  split at h
  .split at h
   .rename_i v i' k rd sd uj hq
    obtain ⟨l,rows,h1,h2,h3,rfl⟩:=VI (ρ:=ρ) h
    refine ⟨el,l,rd,hu,?_⟩
    refine ⟨KT (K:=fun r=>r=_) ha hq hs ?_,?_⟩
    .simp only at h1;subst h1
     simp only [List.getLast?_singleton,au,aN] at h2
     obtain ⟨rfl,rfl⟩:=h2
     simp only [SR.den,SV.den,aZ,List.map_nil,Option.map_some,SB.den,h3]
     rfl
    .simp only [SR.den,aZ,List.map_nil,List.nil_append,Option.map_some,SB.den,RS] at hK
     exact hK
   .cases h
  .rename_i b sz off len
   split at h
   .rename_i ty sz' rs hb
    cases h0:Nat.beq ty el
    .simp [h0] at h
    .simp only [h0,cond_true] at h
     obtain rfl:=aA h0
     split at h
     .rename_i v b' i' k rd sd uj hq
      cases h4:Nat.beq b' b&&rd.any (Nat.beq b)
      .simp [h4] at h
      .simp only [h4,cond_true] at h
       simp only [ay,List.any_eq_true] at h4
       obtain rfl:=aA h4.1
       obtain ⟨b2,hb2,hb3⟩:=h4.2
       obtain rfl:=aA hb3
       obtain ⟨l',rows,h1,h2,h3,rfl⟩:=VI (ρ:=ρ) h
       refine ⟨ty,l',rd,hu,?_⟩
       show (match ah b' with|some (.jZ ty' aus aut)=>_|_=>False)
       rw [ha _ _ hb]
       refine ⟨rfl,hb2,KT (K:=fun r=>r=_) (ah:=upd ah b' (some (.rows sz' (gY ρ rs)))) ?_ hq hs ?_,?_⟩
       .intro b3 k3 hk3
        rcases Tr.oH _ _ _ _ _ _ hk3 with ⟨rfl,e⟩|⟨hne,e⟩
        .simp only [au] at e;subst e
         rw [pX rfl];rfl
        .rw [awI hne];exact ha _ _ e
       .simp only at h1;subst h1
        simp only [List.getLast?_cons_cons,List.getLast?_singleton,au,aN] at h2
        obtain ⟨rfl,rfl⟩:=h2
        simp only [SR.den,SV.den,aZ,List.map_nil,Option.map_some,Option.map_none,SB.den,h3]
        rfl
       .simp only [SR.den,aZ,List.map_nil,bZ,List.nil_append,Option.map_some,Option.map_none,SB.den,RS] at hK
        exact hK
     .cases h
   .cases h
  .cases h
 .cases h
def ah9 (P:Program)(pc:Pc)(th:Tr SB)(nv id:Nat)(t t2:TypeId)(x y:SV):Option SR:=
 match ah7 P pc th nv id t t2 x y with
 |some r=>some r
 |none=>L6 P pc th nv id t t2 x y
theorem ah_ {t t2:TypeId}{x y:SV}{r:SR}(ha:EJ ρ th ah)(h:ah9 P pc th nv id t t2 x y=some r)(hs:∀s∈r.sd,s.holds P ρ)(hK:K (r.den ρ)):YC P id ah t t2 (x.den ρ) (y.den ρ) K:=by
 unfold ah9 at h
 split at h
 .rename_i r' hr
  simp only [au] at h;subst h
  exact .inr (ah8 ha hr hs hK)
 .exact .inl (KT ha h hs hK)
def XC (c:Tm):SV->SV->Option SV
 | .sc k x,.sc k' y=>bif decide (k=k') then some (.sc k (Ro k c x y)) else none
 |x,y=>bif x.beq y then some x else none
theorem RU {c:Tm}{x y z:SV}(h:XC c x y=some z):z.den ρ=bif (c.den ρ).B then x.den ρ else y.den ρ:=by
 unfold XC at h
 split at h
 .rename_i k x k' y
  by_cases hk:k=k'
  .subst hk
   simp only [decide_true,cond_true,au] at h;subst h
   exact Rq
  .simp [hk] at h
 .cases hb:x.beq y
  .simp [hb] at h
  .simp only [hb,cond_true,au] at h;subst h
   rw [SV.beq_eq hb];simp
def Pq (c:Tm):List SV->List SV->Option (List SV)
 |[],[]=>some []
 |x::r,y::s=>match XC c x y,Pq c r s with|some z,some l=>some (z::l)|_,_=>none
 |_,_=>none
theorem Og {c:Tm}:∀{x y z:List SV},Pq c x y=some z->dN ρ z=bif (c.den ρ).B then dN ρ x else dN ρ y
 |[],[],z,h=>by simp only [Pq,au] at h;subst h;simp [dN]
 |x::r,y::s,z,h=>by
  simp only [Pq] at h
  split at h
  .rename_i z l hz hl
   simp only [au] at h;subst h
   simp only [dN,RU hz,Og hl]
   cases (c.den ρ).B<;>rfl
  .cases h
 |[],_::_,z,h=>by simp [Pq] at h
 |_::_,[],z,h=>by simp [Pq] at h
def aia (c:Tm):SV->SV->Option SV
 | .agg x,.agg y=>match Pq c x y with|some z=>some (.agg z)|none=>none
 | .eG x,.eG y=>match Pq c x y with|some z=>some (.eG z)|none=>none
 |x,y=>XC c x y
theorem afR {c:Tm}{x y z:SV}(h:aia c x y=some z):z.den ρ=bif (c.den ρ).B then x.den ρ else y.den ρ:=by
 unfold aia at h
 split at h
 .split at h
  .rename_i z hz;simp only [au] at h;subst h;simp only [SV.den,Og hz];cases (c.den ρ).B<;>rfl
  .cases h
 .split at h
  .rename_i z hz;simp only [au] at h;subst h;simp only [SV.den,Og hz];cases (c.den ρ).B<;>rfl
  .cases h
 .exact RU h
def RX (pc:Pc)(tr:Tr oQ):Option Operand->Option (Option SV)
 |none=>some none
 |some x=>match zG pc tr x with|some v=>some (some v)|none=>none
theorem Oh {x:Option Operand}{v:Option SV}(hp:pc.holds ρ)(hf:Vt ρ tr fr)(h:RX pc tr x=some v) :
  ∃l,U5 fr (x.toList.map fun y=>((),y))=some l/\l.head?.map (·.2)=v.map (SV.den ρ):=by
 unfold RX at h
 split at h
 .simp only [au] at h;subst h;exact ⟨[],rfl,rfl⟩
 .rename_i x
  split at h
  .rename_i v hv
   simp only [au] at h;subst h
   exact ⟨[((),v.den ρ)],by simp [U5,iq hp hf hv],rfl⟩
  .cases h
def Qp (mx:Bool)(nv:Nat):List SV->Option SR
 |[.sc (.int k) a,.sc (.int k') b]=>bif decide (k=k') then some (.val nv (.sc (.int k) (bif mx then aw2 (awQ .lss (.int k) a b) b a else aw2 (awQ .lss (.int k) b a) b a))) else none
 |_=>none
theorem RY {mx:Bool}{l:List SV}{r:SR}(h:Qp mx nv l=some r)(hK:K (r.den ρ)):BJ mx (dN ρ l) fun a=>K (.val a):=by
 unfold Qp at h
 split at h
 .rename_i k a k' b
  by_cases hk:k=k'
  .subst hk
   simp only [decide_true,cond_true,au] at h;subst h
   refine ⟨rfl,?_⟩
   cases mx
   .simp only [cond_false,SR.rX,SV.den,Kd.av,x9,nS,pz,D.BU] at hK
    by_cases hlt:(b.den ρ).I<(a.den ρ).I
    .simp only [hlt,decide_true,cond_true] at hK;simpa [hlt] using hK
    .simp only [hlt,decide_false,cond_false] at hK;simpa [hlt] using hK
   .simp only [cond_true,SR.rX,SV.den,Kd.av,x9,nS,pz,D.BU] at hK
    by_cases hlt:(a.den ρ).I<(b.den ρ).I
    .simp only [hlt,decide_true,cond_true] at hK;simpa [hlt] using hK
    .simp only [hlt,decide_false,cond_false] at hK;simpa [hlt] using hK
  .simp [hk] at h
 .cases h
def sOp (P:Program)(X:pG)(pc:Pc)(tr:Tr oQ)(th:Tr SB)(id nv:Nat)(op:Op):Option SR:=
 match op with
 | .move x | .assign x=>match zG pc tr x with|some v=>some (.val nv v)|none=>none
 | .pick c a b=>match zG pc tr c with
  |some (.sc .bool t)=>match pc.known t with
   |some true=>match zG pc tr a with|some v=>some (.val nv v)|none=>none
   |some false=>match zG pc tr b with|some v=>some (.val nv v)|none=>none
   |none=>match zG ((t,true)::pc) tr a,zG ((t,false)::pc) tr b with
    |some x,some y=>match aia t x y with|some z=>some (.val nv z)|none=>none
    |_,_=>none
  |_=>none
 | .load t a=>match zG pc tr a with|some a=>adP P pc th nv t a|none=>none
 | .store t a v=>match zG pc tr a,zG pc tr v with|some a,some v=>abK P pc th nv t a v|_,_=>none
 | .fieldAddr s x k=>match zG pc tr x with|some a=>KL P nv s a k|none=>none
 | .field s x k=>match zG pc tr x with|some a=>abL P nv s a k|none=>none
 | .indexAddr t x i=>match zG pc tr x,zG pc tr i with|some x,some i=>KN P pc nv t x i|_,_=>none
 | .index t x i=>match zG pc tr x,zG pc tr i with|some x,some i=>abN P pc nv t x i|_,_=>none
 | .extract x k=>match zG pc tr x with|some x=>Ru nv x k|none=>none
 | .binOp o t x y _=>match zG pc tr x,zG pc tr y with|some x',some y'=>anX P pc nv o t (isC x||isC y) x' y' | _,_=>none
 | .unOp o _ x=>match zG pc tr x with|some x=>sUn nv o x|none=>none
 | .convert s d x=>match zG pc tr x with|some x=>ahZ P pc th nv s d x|none=>none
 | .makeMap t none=>L_ P t id nv none
 | .makeMap t (some r)=>match zG pc tr r with|some r=>L_ P t id nv (some r)|none=>none
 | .lookup t m k c=>match zG pc tr m,zG pc tr k with|some m,some k=>Xx P pc th nv t m k c|_,_=>none
 | .mapUpdate t m k v | .insert t m k v=>match zG pc tr m,zG pc tr k,zG pc tr v with|some m,some k,some v=>Xy P pc th nv t m k v|_,_,_=>none
 | .range t x=>match zG pc tr x with|some x=>ab1 P th id nv t x|none=>none
 | .next x str=>match zG pc tr x with|some x=>ah5 th nv x str|none=>none
 | .entry x=>match zG pc tr x with|some x=>ab2 th nv x|none=>none
 | .makeInterface t x=>match zG pc tr x with|some x=>RJ P nv t x|none=>none
 | .typeAssert x _ a c=>match zG pc tr x with|some x=>Xz P nv x a c|none=>none
 | .nilCheck x=>match zG pc tr x with|some x=>Oe nv x|none=>none
 | .slice t x lo hi mx=>match zG pc tr x,RX pc tr lo,RX pc tr hi,RX pc tr mx with
  |some x,some lo,some hi,some mx=>Xt P pc th nv t x lo hi mx
  |_,_,_,_=>none
 | .build t parts=>match aft pc tr parts.toList with|some ps=>abU P nv t ps|none=>none
 | .buildSlice t len parts=>match aft pc tr parts.toList with|some ps=>H_ P nv t id len ps|none=>none
 | .box _ v=>match zG pc tr v with|some v=>an3 nv id v|none=>none
 | .alloc t=>abV P nv id t
 | .makeSlice t l c=>match zG pc tr l,zG pc tr c with|some l,some c=>KQ P nv id t l c|_,_=>none
 | .makeFunc f first captured=>match KJ pc tr first.toList,KJ pc tr captured.toList with|some x,some y=>Vz nv f x y|_,_=>none
 | .call ⟨.builtin .len,args,ts⟩=>match KJ pc tr args.toList,ts[0]? with|some [x],some t=>sLn P pc th nv t x|_,_=>none
 | .call ⟨.builtin .append,args,ts⟩=>match KJ pc tr args.toList,ts[0]?,ts[1]? with|some [x,y],some t,some t2=>ah9 P pc th nv id t t2 x y|_,_,_=>none
 | .call ⟨.builtin .copy,args,ts⟩=>match KJ pc tr args.toList,ts[0]? with|some [x,y],some t=>ahW P pc th nv t x y|_,_=>none
 | .call ⟨.builtin .clear,args,ts⟩=>match KJ pc tr args.toList,ts[0]? with|some [x],some t=>ab3 P th nv t x|_,_=>none
 | .call ⟨.builtin .min,args,_⟩=>match KJ pc tr args.toList with|some l=>Qp false nv l|none=>none
 | .call ⟨.builtin .max,args,_⟩=>match KJ pc tr args.toList with|some l=>Qp true nv l|none=>none
 | .call ⟨.value (.func f),args,_⟩=>match KJ pc tr args.toList with|some l=>ab4 P X pc th nv f l|none=>none
 |_=>none
theorem XD {op:Op}{r:SR}(hρ:iC ρ=true)(hX:n_ P ρ X)(hp:pc.holds ρ)(hf:Vt ρ tr fr)(ha:EJ ρ th ah)(h:sOp P X pc tr th id nv op=some r)(hs:∀s∈r.sd,s.holds P ρ)(hK:K (r.den ρ)) :
  Yv P id fr ah op K:=by
 unfold sOp at h
 split at h
 .split at h
  .rename_i v hv;simp only [au] at h;subst h
   exact dG.2 ⟨_,iq hp hf hv,hK⟩
  .cases h
 .split at h
  .rename_i v hv;simp only [au] at h;subst h
   exact dG.2 ⟨_,iq hp hf hv,hK⟩
  .cases h
 .split at h
  .rename_i t ht
   refine dG.2 ⟨_,iq hp hf ht,?_⟩
   show aIf (t.den ρ).B _ _
   rw [BH]
   split at h
   .rename_i hk
    rw [if_pos (Pc.fZ hp hk)]
    split at h
    .rename_i v hv;simp only [au] at h;subst h;exact dG.2 ⟨_,iq hp hf hv,hK⟩
    .cases h
   .rename_i hk
    rw [if_neg (by rw [Pc.fZ hp hk];simp)]
    split at h
    .rename_i v hv;simp only [au] at h;subst h;exact dG.2 ⟨_,iq hp hf hv,hK⟩
    .cases h
   .split at h
    .rename_i x y hx hy
     split at h
     .rename_i z hz
      simp only [au] at h;subst h
      have hz':K (.val (z.den ρ)):=hK
      rw [afR hz] at hz'
      cases hb:(t.den ρ).B
      .rw [hb] at hz'
       rw [if_neg (by simp)]
       exact dG.2 ⟨_,iq (Pc.iQ hb hp) hf hy,hz'⟩
      .rw [hb] at hz'
       rw [if_pos rfl]
       exact dG.2 ⟨_,iq (Pc.iQ hb hp) hf hx,hz'⟩
     .cases h
    .cases h
  .cases h
 .split at h
  .rename_i a hv;exact dG.2 ⟨_,iq hp hf hv,Y7 ha h hs hK⟩
  .cases h
 .split at h
  .rename_i a v h1 h2;exact dG.2 ⟨_,iq hp hf h1,dG.2 ⟨_,iq hp hf h2,afv ha h hs hK⟩⟩
  .cases h
 .split at h
  .rename_i a hv;exact dG.2 ⟨_,iq hp hf hv,UJ h hK⟩
  .cases h
 .split at h
  .rename_i a hv;exact dG.2 ⟨_,iq hp hf hv,afw h hK⟩
  .cases h
 .split at h
  .rename_i a v h1 h2;exact dG.2 ⟨_,iq hp hf h1,dG.2 ⟨_,iq hp hf h2,UK hp h hs hK⟩⟩
  .cases h
 .split at h
  .rename_i a v h1 h2;exact dG.2 ⟨_,iq hp hf h1,dG.2 ⟨_,iq hp hf h2,afy hp h hs hK⟩⟩
  .cases h
 .split at h
  .rename_i a hv;exact dG.2 ⟨_,iq hp hf hv,Y8 h hK⟩
  .cases h
 .split at h
  .rename_i a v h1 h2;exact dG.2 ⟨_,iq hp hf h1,dG.2 ⟨_,iq hp hf h2,akN hp h hs hK⟩⟩
  .cases h
 .split at h
  .rename_i a hv;exact dG.2 ⟨_,iq hp hf hv,an0 h hK⟩
  .cases h
 .split at h
  .rename_i a hv;exact dG.2 ⟨_,iq hp hf hv,ah4 ha h hs hK⟩
  .cases h
 .exact Pn h hK
 .split at h
  .rename_i a hv;exact dG.2 ⟨_,iq hp hf hv,Pn h hK⟩
  .cases h
 .split at h
  .rename_i a v h1 h2;exact dG.2 ⟨_,iq hp hf h1,dG.2 ⟨_,iq hp hf h2,abX hp ha h hs hK⟩⟩
  .cases h
 .split at h
  .rename_i a v u h1 h2 h3;exact dG.2 ⟨_,iq hp hf h1,dG.2 ⟨_,iq hp hf h2,dG.2 ⟨_,iq hp hf h3,RI hp ha h hs hK⟩⟩⟩
  .cases h
 .split at h
  .rename_i a v u h1 h2 h3;exact dG.2 ⟨_,iq hp hf h1,dG.2 ⟨_,iq hp hf h2,dG.2 ⟨_,iq hp hf h3,RI hp ha h hs hK⟩⟩⟩
  .cases h
 .split at h
  .rename_i a hv;exact dG.2 ⟨_,iq hp hf hv,afM ha h hK⟩
  .cases h
 .split at h
  .rename_i a hv;exact dG.2 ⟨_,iq hp hf hv,ah6 ha h hK⟩
  .cases h
 .split at h
  .rename_i a hv;exact dG.2 ⟨_,iq hp hf hv,afN ha h hK⟩
  .cases h
 .split at h
  .rename_i a hv;exact dG.2 ⟨_,iq hp hf hv,Zk h hK⟩
  .cases h
 .split at h
  .rename_i a hv;exact dG.2 ⟨_,iq hp hf hv,abZ h hK⟩
  .cases h
 .split at h
  .rename_i a hv;exact dG.2 ⟨_,iq hp hf hv,XA h hK⟩
  .cases h
 .split at h
  .rename_i x lo hi mx h1 h2 h3 h4
   obtain ⟨l,l1,l2⟩:=Oh hp hf h2
   obtain ⟨j,j1,j2⟩:=Oh hp hf h3
   obtain ⟨m,m1,m2⟩:=Oh hp hf h4
   refine dG.2 ⟨_,iq hp hf h1,dG.2 ⟨l,l1,dG.2 ⟨j,j1,dG.2 ⟨m,m1,?_⟩⟩⟩⟩
   rw [l2,j2,m2]
   exact abT hp ha h hs hK
  .cases h
 .split at h
  .rename_i ps h1;exact dG.2 ⟨_,Xm hp hf h1,afH h hK⟩
  .cases h
 .split at h
  .rename_i ps h1;exact dG.2 ⟨_,Xm hp hf h1,RG h hK⟩
  .cases h
 .split at h
  .rename_i a hv;exact dG.2 ⟨_,iq hp hf hv,akQ h hK⟩
  .cases h
 .exact afI h hK
 .split at h
  .rename_i a v h1 h2;exact dG.2 ⟨_,iq hp hf h1,dG.2 ⟨_,iq hp hf h2,UL h hs hK⟩⟩
  .cases h
 .split at h
  .rename_i x y h1 h2
   refine dG.2 ⟨_,uI hp hf h1,dG.2 ⟨_,uI hp hf h2,?_⟩⟩
   unfold Vz at h
   split at h
   .simp only [au] at h;subst h;exact hK
   .cases h
  .cases h
 .split at h
  .rename_i x t h1 h2
   refine dG.2 ⟨_,uI hp hf h1,?_⟩
   exact dG.2 ⟨_,h2,an4 hp ha h hs hK⟩
  .cases h
 .split at h
  .rename_i x y t t2 h1 h2 h3
   refine dG.2 ⟨_,uI hp hf h1,?_⟩
   exact dG.2 ⟨_,h2,dG.2 ⟨_,h3,ah_ ha h hs hK⟩⟩
  .cases h
 .split at h
  .rename_i x y t h1 h2
   refine dG.2 ⟨_,uI hp hf h1,?_⟩
   exact dG.2 ⟨_,h2,ahX hp ha h hs hK⟩
  .cases h
 .split at h
  .rename_i x t h1 h2
   refine dG.2 ⟨_,uI hp hf h1,?_⟩
   exact dG.2 ⟨_,h2,afO ha h hK⟩
  .cases h
 .split at h
  .rename_i l h1;exact dG.2 ⟨_,uI hp hf h1,RY h hK⟩
  .cases h
 .split at h
  .rename_i l h1;exact dG.2 ⟨_,uI hp hf h1,RY h hK⟩
  .cases h
 .split at h
  .rename_i l h1;exact dG.2 ⟨_,uI hp hf h1,afP hρ hX hp ha h hs hK⟩
  .cases h
 .cases h
end
end Go.Fw
end
section
namespace Go.Fw
variable [jK]
def ab6 (b:Nat)(l:List Nat):Bool:=l.any (fun c=>Nat.beq c b)
theorem RZ {b:Nat}{l:List Nat}(h:ab6 b l=false):b∉l:=by
 intro hm
 unfold ab6 at h
 rw [List.any_eq_false] at h
 exact h b hm (by simp)
def aw6 (M:List Nat)(i:Nat)(rd wr:List Nat)(f:Hy):Bool:=
 (M.getD i 0).testBit f.i||(f.wr.all (fun b=>!ab6 b rd&&!ab6 b wr)&&f.rd.all fun b=>!ab6 b wr)
theorem VJ {M:List Nat}{i:Nat}{rd wr:List Nat}{f:Hy}(h1:aw6 M i rd wr f=true):Xc M i rd wr f:=by
 unfold aw6 at h1
 unfold Xc
 simp only [bf,ay,aH,Bool.not_eq_true'] at h1
 rcases h1 with h1|⟨h1,h2⟩
 .exact .inl h1
 .exact .inr ⟨fun b hb=>⟨RZ (h1 b hb).1,RZ (h1 b hb).2⟩,fun b hb=>RZ (h2 b hb)⟩
def wrT (th:Tr SB):List (Nat×Option SB)->Tr SB
 |[]=>th
 |(b,k)::r=>wrT (th.upd xM b k) r
theorem Oi {ρ:List AV}:∀{wr:List (Nat×Option SB)} {th:Tr SB} {ah:AH},EJ ρ th ah->EJ ρ (wrT th wr) (qx ah (wr.map fun x=>(x.1,x.2.map (SB.den ρ))))
 |[],th,ah,h=>h
 |(b,k)::r,th,ah,h=>by
  refine Oi (wr:=r) (th:=th.upd xM b k) fun j y hj=>?_
  rcases Tr.oH _ _ _ _ _ _ hj with ⟨rfl,e⟩|⟨hne,e⟩
  .subst e;rw [pX rfl];rfl
  .rw [awI hne];exact h j y e
def tag (pc:Pc)(l:List Side)(acc:List (Pc×Side)):List (Pc×Side):=l.map (fun s=>(pc,s))++acc
theorem Fp {P:Program}{ρ:List AV}{pc:Pc}{l:List Side}{acc:List (Pc×Side)}(h:iW P ρ (tag pc l acc)):(pc.holds ρ->∀s∈l,s.holds P ρ)/\iW P ρ acc:=
 ⟨fun hp s hs=>h (pc,s) (by simp [tag,hs]) hp,fun x hx=>h x (by simp [tag,hx])⟩
inductive When where
 |yes
 |no
 |maybe (l:Pc)
def ad2 (ops:Array Oper)(pc:Pc)(tr:Tr oQ)(o:Oper):Option When:=
 match o.guard with
 |none=>some .yes
 |some (j,want)=>match (ops[j]?).bind (·.dst) with
  |none=>none
  |some d=>match tr.get d with
   |none=>none
   |some e=>match e.v with
    | .sc .bool t=>match e.h with
     |[]=>match pc.known t with
      |some b=>some (bif b == want then .yes else .no)
      |none=>some (.maybe [(t,want)])
     |h=>match Pc.known (h++pc) t with
      |some b=>some (bif b == want then .maybe h else .no)
      |none=>some (.maybe ((t,want)::h))
    | .c .undef=>some .no
    |_=>none
def Mc (tr:Tr oQ)(d:Option Nat)(e:oQ):Tr oQ:=match d with|some d=>tr.upd xM d (some e)|none=>tr
def R_ (N:Nat):Option Nat->Bool|some d=>Nat.blt d N|none=>true
section
variable {P : Program} {ρ:List AV} {pc:Pc} {fr:lH} {ah:AH} {tr:Tr oQ} {th:Tr SB} {X:pG}
theorem wM {N:Nat}{d:Option Nat}{e:oQ}(hf:Vt ρ tr fr)(hd:R_ N d=true)(hN:fr.length=N):Vt ρ (Mc tr d e) (xC fr d (e.den ρ)):=by
 cases d with
 |none=>exact hf
 |some d=>
  intro t x hx
  have hlt:d<fr.length:=by rw [hN];exact KO hd
  simp only [xC,tH]
  rcases Tr.oH _ _ _ _ _ _ hx with ⟨rfl,e1⟩|⟨hne,e1⟩
  .simp only [au] at e1;subst e1;rw [if_pos ⟨rfl,hlt⟩]
  .rw [if_neg (fun h=>hne h.1)];exact hf t x e1
theorem lK {d:Option Nat}{a:AV}:(xC fr d a).length=fr.length:=by cases d<;>simp [xC,gG]
theorem Pc.Fq {l:Pc}(h:l.all (fun x=>(x.1.den ρ).B == x.2)=true)(hp:pc.holds ρ):Pc.holds ρ (l++pc):=by
 intro x hx
 rw [aK] at hx
 rcases hx with hx|hx
 .rw [aH] at h;simpa using h x hx
 .exact hp x hx
def When.sem (ρ:List AV):When->Bool->Prop
 | .yes,b=>b=true
 | .no,b=>b=false
 | .maybe l,b=>b=l.all (fun x=>(x.1.den ρ).B == x.2)
theorem AA {ops:Array Oper}{o:Oper}{wn:When}(hp:pc.holds ρ)(hf:Vt ρ tr fr)(h:ad2 ops pc tr o=some wn){k:Bool->Prop}(hk:∀b,wn.sem ρ b->k b):mJ ops fr o k:=by
 unfold ad2 at h
 unfold mJ
 split at h
 .rename_i hg
  simp only [au] at h;subst h
  rw [hg];exact hk _ rfl
 .rename_i j want hg
  rw [hg]
  split at h
  .cases h
  .rename_i d hd
   refine dG.2 ⟨d,hd,?_⟩
   split at h
   .cases h
   .rename_i e he
    refine dG.2 ⟨_,hf d e he,?_⟩
    obtain ⟨eh,ev⟩:=e
    dsimp only at h
    split at h
    .rename_i t
     split at h
     .split at h
      .rename_i b hb
       simp only [au] at h;subst h
       have hb':=Pc.fZ hp hb
       show k ((t.den ρ).B == want)
       rw [hb']
       refine hk _ ?_
       cases hbw:b == want<;>rfl
      .simp only [au] at h;subst h
       show k ((t.den ρ).B == want)
       exact hk _ (by simp [When.sem])
     .split at h
      .rename_i b hb
       simp only [au] at h;subst h
       simp only [oQ.den]
       cases ha:eh.all (fun x=>(x.1.den ρ).B == x.2)
       .refine hk false ?_
        cases hbw:b == want
        .simp [When.sem]
        .simp [When.sem,ha]
       .have hb':=Pc.fZ (Pc.Fq ha hp) hb
        refine hk ((t.den ρ).B == want) ?_
        rw [hb']
        cases hbw:b == want
        .simp [When.sem]
        .simp [When.sem,ha]
      .simp only [au] at h;subst h
       simp only [oQ.den]
       cases ha:eh.all (fun x=>(x.1.den ρ).B == x.2)
       .exact hk false (by simp [When.sem,ha])
       .exact hk _ (by simp [When.sem,ha])
    .simp only [au] at h;subst h
     simp only [oQ.den]
     cases ha:eh.all (fun x=>(x.1.den ρ).B == x.2)<;>exact hk false rfl
    .cases h
end
end Go.Fw
end
section
namespace Go.Fw
variable [jK]
theorem uJ {w:World}{E E':Env}(hf:∀c o,E.fix c o->E'.fix c o){a:AV}{v:Value}(h:Rep w E a v):(∀b∈a.refs,E'.own b=E.own b)->Rep w E' a v:=by
 induction h with
 |p h=>intro _;exact .p h
 |str s l h=>intro _;exact .str s l h
 |agg cs vs hl hs _ ih=>intro hr;exact .agg cs vs hl hs (fun i c v hc hv=>ih i c v hc hv (fun b hb=>hr b (iV i c hc hb)))
 |eG cs vs hl _ ih=>intro hr;exact .eG cs vs hl (fun i c v hc hv=>ih i c v hc hv (fun b hb=>hr b (iV i c hc hb)))
 |slnil full a=>intro _;exact .slnil full a
 |sl rows full sz c o cap g hcap hfull hsz hfix hcell jA _ ih=>
  intro hr
  exact .sl rows full sz c o cap g hcap hfull hsz (fun i row j x h1 h2=>hf _ _ (hfix i row j x h1 h2)) hcell jA (fun i row j x h1 h2=>ih i row j x h1 h2 (fun b hb=>hr b (uV i row h1 (iV j x h2 hb))))
 |vp row off c o g hfix hcell jA _ ih=>
  intro hr
  exact .vp row off c o g (fun j x h=>hf _ _ (hfix j x h)) hcell jA (fun j x h=>ih j x h (fun b hb=>hr b (iV j x h hb)))
 |lQ b sz off a hb=>intro hr;exact .lQ b sz off a (by rw [hr b (by simp [AV.refs])];exact hb)
 |os b sz off len c o cap hb hcap hsize=>intro hr;exact .os b sz off len c o cap (by rw [hr b (by simp [AV.refs])];exact hb) hcap hsize
 |op b sz row off c o hb=>intro hr;exact .op b sz row off c o (by rw [hr b (by simp [AV.refs])];exact hb)
 |fn f first captured vs us hl hl' _ _ ih ih'=>
  intro hr
  exact .fn f first captured vs us hl hl' (fun i c v hc hv=>ih i c v hc hv (fun b hb=>hr b (by simp only [AV.refs,aK];exact .inl (iV i c hc hb))))
   (fun i c v hc hv=>ih' i c v hc hv (fun b hb=>hr b (by simp only [AV.refs,aK];exact .inr (iV i c hc hb))))
 |lT t a v _ ih=>intro hr;exact .lT t a v (ih hr)
 |mp b c hb=>intro hr;exact .mp b c (by rw [hr b (by simp [AV.refs])];exact hb)
def SB.E_ : SB->List Nat
 | .rows _ rs=>B_ rs
 | .fE _ _=>[]
 | .zy _ _=>[]
 | .map es=>DT (es.map (·.1))++DT (es.map (·.2))
 | .it m _ _=>[m]
 | .jZ _ _ rs=>B_ rs
def uz.vH : uz->List Nat
 | .rows _ rs=>lW rs
 | .map es=>lS (es.map (·.1))++lS (es.map (·.2))
 | .it m _ _=>[m]
 | .jZ _ _ rs=>lW rs
theorem qA.env {base:Nat}{w:World}{E E':Env}{b:Nat}{k:uz}(h:qA base w E b k)(hf:∀c o,E.fix c o->E'.fix c o)(hn:∀c o off,E.own b=.at c o->E'.fix c off->E.fix c off)(hb:E'.own b=E.own b)
  (hr:∀x∈k.vH,E'.own x=E.own x):qA base w E' b k:=by
 cases k with
 |rows sz rs=>
  rcases h with ⟨q1,q2⟩|⟨c,o,arr,ty,q1,q2,q3,q4,q5,q6,q7,q8⟩
  .exact .inl ⟨by rw [hb];exact q1,q2⟩
  .refine .inr ⟨c,o,arr,ty,by rw [hb];exact q1,q2,fun off h0=>q3 off (hn c o off q1 h0),q4,q5,q6,q7,fun i row j x hi hj=>?_⟩
   obtain ⟨v,hv,hx⟩:=q8 i row j x hi hj
   exact ⟨v,hv,uJ hf hx fun y hy=>hr y (uV i row hi (iV j x hj hy))⟩
 |map es=>
  obtain ⟨c,kX,clock,q1,q2,q3,q4,q5,q6,q7⟩:=h
  refine ⟨c,kX,clock,by rw [hb];exact q1,q2,fun off h0=>q3 off (hn c 0 off q1 h0),q4,q5,fun i e ce hi hc=>?_,q7⟩
  obtain ⟨r1,r2,r3⟩:=q6 i e ce hi hc
  refine ⟨uJ hf r1 fun y hy=>hr y ?_,uJ hf r2 fun y hy=>hr y ?_,r3⟩
  .exact aK.2 (.inl (iV i e.1 (by simp [hi]) hy))
  .exact aK.2 (.inr (iV i e.2 (by simp [hi]) hy))
 |it m n k=>
  obtain ⟨c,cm,q1,q2,q3,q4,q5⟩:=h
  exact ⟨c,cm,by rw [hb];exact q1,q2,fun off h0=>q3 off (hn c 0 off q1 h0),q4,by rw [hr m (by simp [uz.vH])];exact q5⟩
 |jZ ty sz rs=>
  rcases h with ⟨q1,q2⟩|⟨c,o,arr,q1,q2,q3,q4,q5,q6,q7,q8⟩
  .exact .inl ⟨by rw [hb];exact q1,q2⟩
  .refine .inr ⟨c,o,arr,by rw [hb];exact q1,q2,fun off h0=>q3 off (hn c o off q1 h0),q4,q5,q6,q7,fun i row j x hi hj=>?_⟩
   obtain ⟨v,hv,hx⟩:=q8 i row j x hi hj
   exact ⟨v,hv,uJ hf hx fun y hy=>hr y (uV i row hi (iV j x hj hy))⟩
def Env.part (E:Env)(nR:AH):Env:=⟨E.fix,fun b=>if (nR b).isSome then E.own b else .free⟩
section
variable {base : Nat} {w:World} {E:Env} {qB nR:AH} {F:Nat->Prop} {nx:Nat}
theorem Oj (hh:dQ base w E qB F)(hsub:∀b k,nR b=some k->qB b=some k)(hlt:∀b k,nR b=some k->b<nx)(hrefs:∀b k,nR b=some k->∀x∈k.vH,(nR x).isSome=true) :
  dQ base w (E.part nR) nR (fun b=>nx<=b):=by
 have own:∀b,(nR b).isSome=true->(E.part nR).own b=E.own b:=fun b hb=>by simp [Env.part,hb]
 refine ⟨fun b k hb=>?_,fun b b' k k' c o c' o' hne h1 h2 h3 h4=>?_,fun b hb=>?_,hh.jT,hh.bs,fun b c o h=>?_⟩
 .exact (hh.blk b k (hsub b k hb)).env (fun _ _ h=>h) (fun _ _ _ _ h=>h) (own b (by simp [hb])) fun x hx=>own x (hrefs b k hb x hx)
 .rw [own b (by simp [h1])] at h3
  rw [own b' (by simp [h2])] at h4
  exact hh.sep b b' k k' c o c' o' hne (hsub _ _ h1) (hsub _ _ h2) h3 h4
 .have:¬(nR b).isSome=true:=fun h=>by
   obtain ⟨k,hk⟩:=Option.isSome_iff_exists.1 h
   have:=hlt b k hk;omega
  simp [Env.part,this]
 .by_cases hb:(nR b).isSome=true
  .rw [own b hb] at h;exact hh.jW b c o h
  .simp [Env.part,hb] at h
theorem Si {a:AV}{v:Value}(h:Rep w E a v)(hr:∀x∈a.refs,(nR x).isSome=true):Rep w (E.part nR) a v:=
 uJ (E:=E) (E':=E.part nR) (fun _ _ h=>h) h fun b hb=>by simp [Env.part,hr b hb]
def Env.back (E E1:Env)(nR:AH)(nx nx':Nat):Env:=⟨E1.fix,fun b=>if (nR b).isSome=true\/(nx<=b/\b<nx') then E1.own b else E.own b⟩
theorem afS (hh:dQ base w E qB F)(hsub:∀b k,nR b=some k->qB b=some k)(hlt:∀b k,nR b=some k->b<nx){nx':Nat}(hnx:nx<=nx')(hF:∀b,nx<=b->b<nx'->F b)
  {w':World} {E1:Env} {fK:AH} (hst:Step base w (E.part nR) w' E1) (hh':dQ base w' E1 fK (fun b=>nx'<=b))
  (hlt':∀b k,fK b=some k->b<nx'/\((nx<=b/\b<nx')\/(nR b).isSome=true)/\∀x∈k.vH,(nx<=x/\x<nx')\/(nR x).isSome=true) {vZ:AH} (hN:∀b,vZ b=if nx'<=b then qB b else fK b) :
  Step base w E w' (E.back E1 nR nx nx')/\dQ base w' (E.back E1 nR nx nx') vZ (fun b=>F b/\¬(nx<=b/\b<nx'))/\
   ∀a v,Rep w' E1 a v->(∀x∈a.refs,(nx<=x/\x<nx')\/(nR x).isSome=true)->Rep w' (E.back E1 nR nx nx') a v:=by
 have ab7:∀b,(nR b).isSome=true->(E.part nR).own b=E.own b:=fun b hb=>by simp [Env.part,hb]
 have Me:∀b c o,(E.part nR).own b=.at c o->(nR b).isSome=true/\E.own b=.at c o:=fun b c o h=>by
  by_cases hb:(nR b).isSome=true
  .rw [ab7 b hb] at h;exact ⟨hb,h⟩
  .simp [Env.part,hb] at h
 have in1:∀b,((nx<=b/\b<nx')\/(nR b).isSome=true)->(E.back E1 nR nx nx').own b=E1.own b:=fun b hb=>by
  simp only [Env.back];rw [if_pos (hb.symm)]
 have out1:∀b,¬((nx<=b/\b<nx')\/(nR b).isSome=true)->(E.back E1 nR nx nx').own b=E.own b:=fun b hb=>by
  simp only [Env.back];rw [if_neg (fun h=>hb h.symm)]
 have hfree:∀b,nx<=b->b<nx'->E.own b=.free:=fun b h1 h2=>hh.fresh b (hF b h1 h2)
 
 have extra:∀b k c o,nx'<=b->qB b=some k->E.own b=.at c o->∀b' o',(E.part nR).own b'≠.at c o':=fun b k c o hb hk ho b' o' h=>by
  obtain ⟨h1,h2⟩:=Me b' c o' h
  obtain ⟨k',hk'⟩:=Option.isSome_iff_exists.1 h1
  have hb':=hlt b' k' hk'
  exact hh.sep b' b k' k c o' c o (by omega) (hsub _ _ hk') hk h2 ho rfl
 have hx:Ext w E w' (E.back E1 nR nx nx'):=by
  refine ⟨hst.ext.fix,hst.ext.cell,fun b hb=>?_,hst.ext.arr⟩
  by_cases hin:(nx<=b/\b<nx')\/(nR b).isSome=true
  .rw [in1 b hin]
   rcases hin with ⟨h1,h2⟩|h1
   .exact absurd (hfree b h1 h2) hb
   .have:=hst.ext.own b (by rw [ab7 b h1];exact hb)
    rw [this,ab7 b h1]
  .exact out1 b hin
 refine ⟨⟨hx,hst.below,hst.xQ,fun c hc hno=>hst.keep c hc fun b o h=>hno b o (Me b c o h).2,fun b c o h hc=>?_,fun c o h hc=>?_⟩,⟨fun b k hb=>?_,fun b b' k k' c o c' o' hne h1 h2 h3 h4=>?_,fun b hb=>?_,hh'.jT,hh'.bs,fun b c o h=>?_⟩,fun a v hr hrf=>?_⟩
 .by_cases hin:(nx<=b/\b<nx')\/(nR b).isSome=true
  .rw [in1 b hin] at h
   obtain ⟨b',o',h'⟩:=hst.CZ b c o h hc
   exact ⟨b',o',(Me b' c o' h').2⟩
  .rw [out1 b hin] at h;exact ⟨b,o,h⟩
 .exact (hst.xR c o h hc).imp id fun ⟨b',o',h'⟩=>⟨b',o',(Me b' c o' h').2⟩
 .rw [hN b] at hb
  split at hb
  .rename_i hle
   have hb0:=hh.blk b k hb
   refine hb0.keep hx (fun c o ho=>hst.keep c (hb0.lt ho).1 (extra b k c o hle hb ho)) (fun c o off ho h=>?_)
   rcases hst.xR c off h (hb0.lt ho).1 with h|⟨b',o',h⟩
   .exact h
   .exact absurd h (extra b k c o hle hb ho b' o')
  .obtain ⟨g1,g2,g3⟩:=hlt' b k hb
   exact (hh'.blk b k hb).env (fun _ _ h=>h) (fun _ _ _ _ h=>h) (in1 b g2) fun x hx=>in1 x (g3 x hx)
 .have mix:∀b b' k k' c o c' o',nx'<=b->qB b=some k->E.own b=.at c o->b' < nx'->fK b'=some k'->E1.own b'=.at c' o'->c≠c':=by
   intro b b' k k' c o c' o' h1 h2 h3 h4 h5 h6 e
   subst e
   obtain ⟨x,y,hxy⟩:=hst.CZ b' c o' h6 ((hh.blk b k h2).lt h3).1
   exact extra b k c o h1 h2 h3 x y hxy
  rw [hN b] at h1
  rw [hN b'] at h2
  have bo:∀b k,nx'<=b->qB b=some k->(E.back E1 nR nx nx').own b=E.own b:=fun b k hle hk=>out1 b fun h=>by
   rcases h with h|h
   .omega
   .obtain ⟨k0,hk0⟩:=Option.isSome_iff_exists.1 h
    have:=hlt b k0 hk0;omega
  split at h1
  .rename_i g1
   rw [bo b k g1 h1] at h3
   split at h2
   .rename_i g2
    rw [bo b' k' g2 h2] at h4
    exact hh.sep b b' k k' c o c' o' hne h1 h2 h3 h4
   .rename_i g2
    rw [in1 b' (hlt' b' k' h2).2.1] at h4
    exact mix b b' k k' c o c' o' g1 h1 h3 (by omega) h2 h4
  .rename_i g1
   rw [in1 b (hlt' b k h1).2.1] at h3
   split at h2
   .rename_i g2
    rw [bo b' k' g2 h2] at h4
    exact (mix b' b k' k c' o' c o g2 h2 h4 (by omega) h1 h3).symm
   .rename_i g2
    rw [in1 b' (hlt' b' k' h2).2.1] at h4
    exact hh'.sep b b' k k' c o c' o' hne h1 h2 h3 h4
 .have h0:=hh.fresh b hb.1
  rw [out1 b fun h=>?_]
  .exact h0
  .rcases h with h|h
   .exact hb.2 h
   .obtain ⟨k0,hk0⟩:=Option.isSome_iff_exists.1 h
    exact (hh.blk b k0 (hsub _ _ hk0)).own h0
 .by_cases hin:(nx<=b/\b<nx')\/(nR b).isSome=true
  .rw [in1 b hin] at h;exact hh'.jW b c o h
  .rw [out1 b hin] at h
   have:=hh.jW b c o h
   exact ⟨this.1,cu this.2 hst.below.size⟩
 .exact uJ (E:=E1) (E':=E.back E1 nR nx nx') (fun _ _ h=>h) hr fun x hx=>in1 x (hrf x hx)
end
def Tr.all {α:Type}:Tr α->(Nat->α->Bool)->Bool
 | .e,_=>true
 | .n l x r,f=>(match x with|none=>true|some a=>f 0 a)&&(Tr.all l (fun j=>f (2*j+1))&&Tr.all r (fun j=>f (2*j+2)))
theorem Tr.Ji {α:Type}:∀{t:Tr α} {f:Nat->α->Bool},t.all f=true->∀{k:Nat} {a:α},t.get k=some a->f k a=true
 | .e,f,_,k,a,h=>by simp [Tr.get] at h
 | .n l x r,f,hf,k,a,h=>by
  simp only [Tr.all,ay] at hf
  simp only [Tr.get] at h
  cases h1:Nat.beq k 0
  .simp only [h1,cond_false] at h
   have hk:k≠0:=by intro e;subst e;simp at h1
   cases h2:Nat.beq (k % 2) 1
   .simp only [h2,cond_false] at h
    have:=Tr.Ji hf.2.2 h
    have a1:k % 2≠1:=by intro e;rw [e] at h2;simp at h2
    have e:2*((k-1) / 2)+2=k:=by omega
    rwa [e] at this
   .simp only [h2,cond_true] at h
    have:=Tr.Ji hf.2.1 h
    have a1:=aA h2
    have e:2*((k-1) / 2)+1=k:=by omega
    rwa [e] at this
  .simp only [h1,cond_true] at h
   have:=aA h1
   subst this;subst h
   exact hf.1
def h_ (ρ:List AV)(th:Tr SB):AH:=fun b=>(th.get b).map (SB.den ρ)
theorem yw {ρ:List AV}{th:Tr SB}{b:Nat}{k:uz}(h:h_ ρ th b=some k):∃z,th.get b=some z/\z.den ρ=k:=by
 unfold h_ at h
 simpa only [aB] using h
def axp (th:Tr SB)(b:Nat):Bool:=match th.get b with|some _=>true|none=>false
def btw (nx nx' b:Nat):Bool:=Nat.ble nx b&&Nat.ble (b+1) nx'
theorem akW {nx nx' b:Nat}(h:btw nx nx' b=true):nx<=b/\b<nx':=by
 simp only [btw,ay] at h
 exact ⟨aG h.1,aG h.2⟩
def XE (th:Tr SB)(nx:Nat)(args:List SV):Bool:=th.all (fun b k=>Nat.ble (b+1) nx&&k.E_.all (axp th))&&(DT args).all (axp th)
def XF (th:Tr SB)(nx nx':Nat)(th':Tr SB)(v:SV):Bool:=
 Nat.ble nx nx'&&(th'.all (fun b k=>Nat.ble (b+1) nx'&&((btw nx nx' b||axp th b)&&k.E_.all (fun x=>btw nx nx' x||axp th x)))&&v.E_.all (fun x=>btw nx nx' x||axp th x))
theorem AB : ∀{l:List AV},(∀x∈l,x.clean=true)->kE l=true
 |[],_=>rfl
 |x::r,h=>by simp only [kE,ay];exact ⟨h x (by simp),AB fun y hy=>h y (by simp [hy])⟩
theorem Fv {l:List AV}(h:kE l=true){x:AV}(hx:x∈l):x.clean=true:=by
 obtain ⟨i,hi⟩:=List.getElem?_of_mem hx
 exact kQ h i x hi
theorem Zl {a:Bool}{l:List AV}(h:kE l=true):(mO a l).clean=true:=by
 cases a with
 |true=>exact h
 |false=>cases l with
  |nil=>rfl
  |cons x r=>exact Fv (x:=x) h (by simp)
theorem Pv {a:Bool}{f:List AV->List AV}(hf:∀row,∀x∈f row,x∈row){l:List (List AV)}(h:jr l=true):kE (l.map fun row=>mO a (f row))=true:=by
 refine AB fun x hx=>?_
 obtain ⟨row,hr,rfl⟩:=aW.1 hx
 obtain ⟨i,hi⟩:=List.getElem?_of_mem hr
 have hrow:=vC h i row hi
 exact Zl (AB fun y hy=>Fv hrow (hf row y hy))
theorem DW {ρ:List AV}(hρ:iC ρ=true){k:SB}:(k.den ρ).vH=k.E_:=by
 cases k with
 |rows sz rs=>simp only [SB.den,uz.vH,SB.E_,yu hρ]
 |fE sz t=>simp only [SB.den,uz.vH,SB.E_,nX (jL (Tm.pF hρ t))]
 |zy m t=>
  have hc:=jL (Tm.pF hρ t)
  simp only [SB.den,uz.vH,SB.E_,List.map_map]
  rw [show ((fun x:AV×AV=>x.1)∘qC m)=fun row=>mO m.ka (row.take m.kn) from rfl,show ((fun x:AV×AV=>x.2)∘qC m)=fun row=>mO m.va (row.drop m.kn) from rfl]
  rw [jE (Pv (f:=fun row=>row.take m.kn) (fun row x hx=>bM hx) hc),jE (Pv (f:=fun row=>row.drop m.kn) (fun row x hx=>List.mem_of_mem_drop hx) hc)]
  rfl
 |map es=>
  simp only [SB.den,uz.vH,SB.E_,List.map_map]
  have e1:(es.map ((fun x=>x.1)∘fun e=>(SV.den ρ e.1,SV.den ρ e.2)))=dN ρ (es.map (·.1)):=by simp [mY,Function.comp_def]
  have e2:(es.map ((fun x=>x.2)∘fun e=>(SV.den ρ e.1,SV.den ρ e.2)))=dN ρ (es.map (·.2)):=by simp [mY,Function.comp_def]
  rw [e1,e2,rE hρ,rE hρ]
 |it m n k=>rfl
 |jZ ty sz rs=>simp only [SB.den,uz.vH,SB.E_,yu hρ]
section
variable {ρ : List AV} (hρ:iC ρ=true) {th th':Tr SB} {nx nx':Nat}
 include hρ
theorem MB {b:Nat}(h:axp th b=true):(h_ ρ th b).isSome=true:=by
 unfold axp at h
 unfold h_
 split at h
 .rename_i k hk;rw [hk];rfl
 .cases h
theorem aib {b:Nat}(h:(btw nx nx' b||axp th b)=true):(nx<=b/\b<nx')\/(h_ ρ th b).isSome=true:=by
 rw [bf] at h
 exact h.imp akW (MB hρ)
theorem ab8 {args:List SV}(h:XE th nx args=true):(∀b k,h_ ρ th b=some k->b<nx)/\(∀b k,h_ ρ th b=some k->∀x∈k.vH,(h_ ρ th x).isSome=true)/\∀x∈lS (dN ρ args),(h_ ρ th x).isSome=true:=by
 unfold XE at h
 simp only [ay] at h
 refine ⟨fun b k hk=>?_,fun b k hk x hx=>?_,fun x hx=>?_⟩
 .obtain ⟨z,hz,rfl⟩:=yw hk
  have:=Tr.Ji h.1 hz
  simp only [ay] at this
  exact aG this.1
 .obtain ⟨z,hz,rfl⟩:=yw hk
  have:=Tr.Ji h.1 hz
  simp only [ay,aH] at this
  rw [DW hρ] at hx
  exact MB hρ (this.2 x hx)
 .rw [rE hρ] at hx
  exact MB hρ (aH.1 h.2 x hx)
theorem ab9 {v:SV}(h:XF th nx nx' th' v=true):nx<=nx'/\(∀b k,h_ ρ th' b=some k->b<nx'/\((nx<=b/\b<nx')\/(h_ ρ th b).isSome=true)/\∀x∈k.vH,(nx<=x/\x<nx')\/(h_ ρ th x).isSome=true)/\
  ∀x∈(v.den ρ).refs,(nx<=x/\x<nx')\/(h_ ρ th x).isSome=true:=by
 unfold XF at h
 simp only [ay] at h
 refine ⟨aG h.1,fun b k hk=>?_,fun x hx=>?_⟩
 .obtain ⟨z,hz,rfl⟩:=yw hk
  have:=Tr.Ji h.2.1 hz
  simp only [ay,aH] at this
  refine ⟨aG this.1,aib hρ this.2.1,fun x hx=>?_⟩
  rw [DW hρ] at hx
  exact aib hρ (this.2.2 x hx)
 .rw [wK hρ] at hx
  exact aib hρ (aH.1 h.2.2 x hx)
end
end Go.Fw
end
