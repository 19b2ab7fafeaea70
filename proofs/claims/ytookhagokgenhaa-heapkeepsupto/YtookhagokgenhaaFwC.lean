
import Derived.Test.YtookhagokgenhaaFwB
set_option linter.unusedVariables false
set_option linter.unusedSimpArgs false
set_option linter.unusedSectionVars false
set_option linter.unnecessarySimpa false
section
namespace Go.Fw
variable [jY]
inductive D where
 |b (v:Bool)
 |i (v:Int)
 |f (v:Nat)
 |s (v:List UInt8)
 |r (v:List (List AV))
def D.B : D->Bool | .b v=>v|_=>false
def D.I : D->Int | .i v=>v|_=>0
def D.F : D->Nat | .f v=>v|_=>0
def D.S : D->List UInt8 | .s v=>v|_=>[]
def D.R : D->List (List AV) | .r v=>v|_=>[]
def AV.D : AV->D
 | .p (.bool v)=>.b v
 | .p (.int _ n)=>.i n
 | .p (.float _ n)=>.f n
 | .str l=>.s l
 | .sl rows _=>.r rows
 |_=>.b false
inductive Kd where
 |bool
 |int (k:IntKind)
 |kC
 |str
 |sl
 deriving DecidableEq
def Kd.av : Kd->D->AV
 | .bool,d=>.p (.bool d.B)
 | .int k,d=>.p (.int k d.I)
 | .kC,d=>.p (.float .f64 d.F)
 | .str,d=>.str d.S
 | .sl,d=>.sl d.R false
inductive Tm where
 |lb (v:Bool)
 |li (v:Int)
 |lf (v:Nat)
 |ls (v:List UInt8)
 |nl
 |var (i:Nat) (p:List Nat)
 |bin (o:BinOp) (k:Kd) (x y:Tm)
 |not (x:Tm)
 |and (x y:Tm)
 |or (x y:Tm)
 |ite (c x y:Tm)
 |neg (k:Kd) (x:Tm)
 |com (k:IntKind) (x:Tm)
 |conv (k:IntKind) (x:Tm)
 |toF (x:Tm)
 |UJ (x:Tm)
 |slen (x:Tm)
 |rlen (x:Tm)
 |byte (x i:Tm)
 |Ef (x lo hi:Tm)
 |bts (x:Tm)
 |sbs (x:Tm)
 |alb (n:Nat) (x:Tm)
def aaK (row:List AV):UInt8:=(aDG row).getD 0
def aEf (b:UInt8):List AV:=[.p (.int .u8 b.toNat)]
def eP : AV:=.p undef
def aDt : AV->List Nat->AV
 |a,[]=>a
 | .agg l,j::p=>aDt (l.getD j eP) p
 | .fD l,j::p=>aDt (l.getD j eP) p
 |_,_=>eP
def qJ (o:BinOp)(k:Kd)(x y:D):D:=
 match k with
 | .int k=>
  match o with
  | .add=>.i (dY k x.I y.I)
  | .sub=>.i (iq k x.I y.I)
  | .mul=>.i (Rf k x.I y.I)
  | .quo=>.i (Ov k x.I y.I)
  | .rem=>.i (Ox k x.I y.I)
  | .and=>.i (jZ k x.I y.I)
  | .or=>.i (iOr k x.I y.I)
  | .xor=>.i (ax7 k x.I y.I)
  | .andNot=>.i (pV k x.I y.I)
  | .shl=>.i (ax8 k x.I y.I)
  | .shr=>.i (jm k x.I y.I)
  | .eql=>.b (dZ x.I y.I)
  | .neq=>.b (jC x.I y.I)
  | .lss=>.b (decide (x.I<y.I))
  | .leq=>.b (decide (x.I<=y.I))
  | .gtr=>.b (decide (x.I > y.I))
  | .geq=>.b (decide (x.I>=y.I))
 | .kC=>
  match o with
  | .add=>.f ((FloatKind.f64.format.add x.F y.F).getD 0)
  | .sub=>.f ((FloatKind.f64.format.sub x.F y.F).getD 0)
  | .mul=>.f ((FloatKind.f64.format.mul x.F y.F).getD 0)
  | .quo=>.f ((FloatKind.f64.format.div x.F y.F).getD 0)
  | .eql=>.b (fEq x.F y.F)
  | .neq=>.b (Ns x.F y.F)
  | .lss=>.b (fLt x.F y.F)
  | .leq=>.b (UH x.F y.F)
  | .gtr=>.b (fGt x.F y.F)
  | .geq=>.b (Yd x.F y.F)
  |_=>.b false
 | .str=>
  match o with
  | .add=>.s (x.S++y.S)
  | .eql=>.b (zW x.S y.S)
  | .neq=>.b (sNe x.S y.S)
  | .lss=>.b (Op.bytesLess x.S y.S)
  | .leq=>.b (Op.bytesLess x.S y.S||decide (x.S=y.S))
  | .gtr=>.b (!(Op.bytesLess x.S y.S||decide (x.S=y.S)))
  | .geq=>.b (!Op.bytesLess x.S y.S)
  |_=>.b false
 | .bool=>
  match o with
  | .eql=>.b (Nr x.B y.B)
  | .neq=>.b (bNe x.B y.B)
  |_=>.b false
 | .sl=>.b false
def Tm.den (ρ:List AV):Tm->D
 | .lb v=>.b v
 | .li v=>.i v
 | .lf v=>.f v
 | .ls v=>.s v
 | .nl=>.r []
 | .var i p=>(aDt (ρ.getD i eP) p).D
 | .bin o k x y=>qJ o k (x.den ρ) (y.den ρ)
 | .not x=>.b (!(x.den ρ).B)
 | .and x y=>.b ((x.den ρ).B&&(y.den ρ).B)
 | .or x y=>.b ((x.den ρ).B||(y.den ρ).B)
 | .ite c x y=>match x.den ρ,y.den ρ with
  | .b x,.b y=>.b (bif (c.den ρ).B then x else y)
  | .i x,.i y=>.i (bif (c.den ρ).B then x else y)
  | .f x,.f y=>.f (bif (c.den ρ).B then x else y)
  | .s x,.s y=>.s (bif (c.den ρ).B then x else y)
  | .r x,.r y=>.r (bif (c.den ρ).B then x else y)
  |x,y=>bif (c.den ρ).B then x else y
 | .neg k x=>match k with | .int k=>.i (iq k 0 (x.den ρ).I)|_=>.f (Op.negFloat .f64 (x.den ρ).F)
 | .com k x=>.i (Iy k (x.den ρ).I)
 | .conv k x=>.i (k.wrap (x.den ρ).I)
 | .toF x=>.f (FloatKind.f64.nearest (x.den ρ).I)
 | .UJ x=>.i (((FloatKind.f64.decode (x.den ρ).F).toInt .zero).getD 0)
 | .slen x=>.i (sLen (x.den ρ).S)
 | .rlen x=>.i (mZ (x.den ρ).R)
 | .byte x i=>.i (((x.den ρ).S.getD (i.den ρ).I.toNat 0).toNat:Int)
 | .Ef x lo hi=>.s (((x.den ρ).S.drop (lo.den ρ).I.toNat).take ((hi.den ρ).I.toNat-(lo.den ρ).I.toNat))
 | .bts x=>.s ((x.den ρ).R.map aaK)
 | .sbs x=>.r ((x.den ρ).S.map aEf)
 | .alb n x=>.r ((x.den ρ).R.drop n)
theorem Tm.qm (ρ:List AV)(c x y:Tm):(Tm.ite c x y).den ρ=bif (c.den ρ).B then x.den ρ else y.den ρ:=by
 simp only [Tm.den]
 cases hc:(c.den ρ).B<;>cases hx:x.den ρ<;>cases hy:y.den ρ<;>rfl
def Tm.beq : Tm->Tm->Bool
 | .lb v,.lb w=>v == w
 | .li v,.li w=>decide (v=w)
 | .lf v,.lf w=>Nat.beq v w
 | .ls v,.ls w=>decide (v=w)
 | .nl,.nl=>true
 | .var i p,.var j q=>Nat.beq i j&&decide (p=q)
 | .bin o k x y,.bin o' k' x' y'=>decide (o=o')&&(decide (k=k')&&(x.beq x'&&y.beq y'))
 | .not x,.not x'=>x.beq x'
 | .and x y,.and x' y'=>x.beq x'&&y.beq y'
 | .or x y,.or x' y'=>x.beq x'&&y.beq y'
 | .ite c x y,.ite c' x' y'=>c.beq c'&&(x.beq x'&&y.beq y')
 | .neg k x,.neg k' x'=>decide (k=k')&&x.beq x'
 | .com k x,.com k' x'=>decide (k=k')&&x.beq x'
 | .conv k x,.conv k' x'=>decide (k=k')&&x.beq x'
 | .toF x,.toF x'=>x.beq x'
 | .UJ x,.UJ x'=>x.beq x'
 | .slen x,.slen x'=>x.beq x'
 | .rlen x,.rlen x'=>x.beq x'
 | .byte x i,.byte x' i'=>x.beq x'&&i.beq i'
 | .Ef x l h,.Ef x' l' h'=>x.beq x'&&(l.beq l'&&h.beq h')
 | .bts x,.bts x'=>x.beq x'
 | .sbs x,.sbs x'=>x.beq x'
 | .alb n x,.alb m x'=>Nat.beq n m&&x.beq x'
 |_,_=>false
theorem Tm.beq_eq : ∀{x y:Tm},x.beq y=true->x=y:=by
 intro x
 induction x with
 |lb|li|lf|ls|nl|var=>intro y h;cases y<;>simp_all [Tm.beq]
 |bin o k x y sU ihy=>intro z h;cases z<;>simp [Tm.beq] at h;obtain ⟨rfl,rfl,h1,h2⟩:=h;rw [sU h1,ihy h2]
 |not x ih|toF x ih|UJ x ih|slen x ih|rlen x ih|bts x ih|sbs x ih=>intro z h;cases z<;>simp [Tm.beq] at h;rw [ih h]
 |and x y sU ihy|or x y sU ihy|byte x y sU ihy=>intro z h;cases z<;>simp [Tm.beq] at h;rw [sU h.1,ihy h.2]
 |ite x y z i1 i2 i3|Ef x y z i1 i2 i3=>intro u h;cases u<;>simp [Tm.beq] at h;rw [i1 h.1,i2 h.2.1,i3 h.2.2]
 |neg k x ih|com k x ih|conv k x ih=>intro z h;cases z<;>simp [Tm.beq] at h;obtain ⟨rfl,h1⟩:=h;rw [ih h1]
 |alb n x ih=>intro z h;cases z<;>simp [Tm.beq] at h;obtain ⟨rfl,h1⟩:=h;rw [ih h1]
theorem nG {a b:Int}(h0 : -9223372036854775808<=a+b)(h1:a+b<9223372036854775808):dY .i64 a b=a+b:=by
 have e:IntKind.wrap .i64 (a+b)=if (a+b) % 18446744073709551616>=9223372036854775808 then (a+b) % 18446744073709551616-18446744073709551616 else (a+b) % 18446744073709551616:=by
  show (if (true&&decide ((a+b) % 2 ^ 64>=2 ^ (64-1)))=true then (a+b) % 2 ^ 64-2 ^ 64 else (a+b) % 2 ^ 64)=_
  simp
 unfold dY
 rw [e]
 split<;>omega
theorem uV {a b:Int}(h0 : -9223372036854775808<=a-b)(h1:a-b<9223372036854775808):iq .i64 a b=a-b:=by
 have e:IntKind.wrap .i64 (a-b)=if (a-b) % 18446744073709551616>=9223372036854775808 then (a-b) % 18446744073709551616-18446744073709551616 else (a-b) % 18446744073709551616:=by
  show (if (true&&decide ((a-b) % 2 ^ 64>=2 ^ (64-1)))=true then (a-b) % 2 ^ 64-2 ^ 64 else (a-b) % 2 ^ 64)=_
  simp
 unfold iq
 rw [e]
 split<;>omega
def Rh {α:Type}(n:Nat)(k:Nat->α):α:=match n with|0=>k 0|m+1=>k (m+1)
theorem yG {α:Type}(n:Nat)(k:Nat->α):Rh n k=k n:=by cases n<;>rfl
def acv {α:Type}(n:Int)(k:Int->α):α:=match n with | .ofNat m=>Rh m fun m=>k (.ofNat m) | .negSucc m=>Rh m fun m=>k (.negSucc m)
theorem VF {α:Type}(n:Int)(k:Int->α):acv n k=k n:=by cases n<;>simp [acv,yG]
def Tm.Nu : Tm->Option D
 | .lb v=>some (.b v)
 | .li v=>some (.i v)
 | .lf v=>some (.f v)
 | .ls v=>some (.s v)
 |_=>none
def Tm.ofD : D->Tm
 | .b v=>match v with|true=>.lb true|false=>.lb false
 | .i v=>acv v .li
 | .f v=>Rh v .lf
 | .s v=>.ls v
 | .r _=>.nl
theorem Tm.Gm {ρ:List AV}{t:Tm}{d:D}(h:t.Nu=some d):t.den ρ=d:=by
 cases t<;>simp_all [Tm.Nu,Tm.den]
theorem Tm.L_ {ρ:List AV}{d:D}(h:∀l,d≠.r l):(Tm.ofD d).den ρ=d:=by
 cases d with
 |b v=>cases v<;>rfl
 |i v=>simp [Tm.ofD,VF,Tm.den]
 |f v=>simp [Tm.ofD,yG,Tm.den]
 |s v=>rfl
 |r l=>exact absurd rfl (h l)
theorem aaL (o:BinOp)(k:Kd)(x y:D)(l:List (List AV)):qJ o k x y≠.r l:=by
 cases k<;>cases o<;>simp [qJ]
def aDz (o:BinOp)(k:Kd)(x y:Tm):Tm:=
 match x.Nu,y.Nu with
 |some a,some b=>Tm.ofD (qJ o k a b)
 |_,_=>.bin o k x y
theorem oK {ρ:List AV}{o k x y}:(aDz o k x y).den ρ=qJ o k (x.den ρ) (y.den ρ):=by
 unfold aDz
 split
 .rename_i a b ha hb
  rw [Tm.L_ (aaL o k a b),Tm.Gm ha,Tm.Gm hb]
 .rfl
theorem D.EH (v:Bool):(D.b v).B=v:=rfl
def aDL : Tm->Tm
 | .lb v=>.lb (!v)
 | .not x=>match x with
  | .bin o k a b=>.bin o k a b
  | .and a b=>.and a b
  | .or a b=>.or a b
  | .not a=>.not a
  |x=>.not (.not x)
 |x=>.not x
theorem oL {ρ:List AV}{x:Tm}:((aDL x).den ρ).B=!(x.den ρ).B:=by
 unfold aDL
 split
 .rfl
 .split<;>simp [Tm.den,D.EH]
 .simp [Tm.den,D.EH]
def atF (x y:Tm):Tm:=bif x.beq y then x else .and x y
def or2 (x y:Tm):Tm:=bif x.beq y then x else .or x y
theorem alJ {ρ:List AV}{x y:Tm}:((atF x y).den ρ).B=((x.den ρ).B&&(y.den ρ).B):=by
 unfold atF
 cases h:x.beq y
 .rfl
 .rw [Tm.beq_eq h];simp
theorem apw {ρ:List AV}{x y:Tm}:((or2 x y).den ρ).B=((x.den ρ).B||(y.den ρ).B):=by
 unfold or2
 cases h:x.beq y
 .rfl
 .rw [Tm.beq_eq h];simp
def aDU (x y:Tm):Tm:=
 match x,y with
 | .lb true,y=>y
 | .lb false,_=>.lb false
 |x,.lb true=>x
 |x,.lb false=>.lb false
 |x,y=>atF x y
theorem xP {ρ:List AV}{x y:Tm}:((aDU x y).den ρ).B=((x.den ρ).B&&(y.den ρ).B):=by
 unfold aDU
 split<;>simp [Tm.den,D.EH,alJ]
def aEH (x y:Tm):Tm:=
 match x,y with
 | .lb true,_=>.lb true
 | .lb false,y=>y
 |x,.lb true=>.lb true
 |x,.lb false=>x
 |x,y=>or2 x y
theorem KD {ρ:List AV}{x y:Tm}:((aEH x y).den ρ).B=((x.den ρ).B||(y.den ρ).B):=by
 unfold aEH
 split<;>simp [Tm.den,D.EH,apw]
def atG (c x y:Tm):Tm:=bif x.beq c then aEH c y else bif y.beq c then aDU c x else .ite c x y
theorem alK {ρ:List AV}{c x y:Tm}:((atG c x y).den ρ).B=bif (c.den ρ).B then (x.den ρ).B else (y.den ρ).B:=by
 unfold atG
 cases h1:x.beq c
 .simp only [cond_false]
  cases h2:y.beq c
  .simp only [cond_false,Tm.qm];cases (c.den ρ).B<;>rfl
  .simp only [cond_true];rw [Tm.beq_eq h2,xP];cases (c.den ρ).B<;>simp
 .simp only [cond_true];rw [Tm.beq_eq h1,KD];cases (c.den ρ).B<;>simp
def VG (c x y:Tm):Tm:=
 match c with
 | .lb true=>x
 | .lb false=>y
 |c=>
 bif x.beq y then x else
 match x,y with
 | .lb true,.lb false=>c
 | .lb false,.lb true=>aDL c
 |x,.lb false=>aDU c x
 |x,.lb true=>aEH (aDL c) x
 | .lb true,y=>aEH c y
 | .lb false,y=>aDU (aDL c) y
 |x,y=>atG c x y
theorem Oy {ρ:List AV}{c x y:Tm}:((VG c x y).den ρ).B=bif (c.den ρ).B then (x.den ρ).B else (y.den ρ).B:=by
 unfold VG
 split
 .rfl
 .rfl
 .cases h:x.beq y
  .simp only [cond_false]
   split
   .simp [Tm.den,D.EH]
   .simp [oL,Tm.den,D.EH]
   .simp [xP,Tm.den,D.EH]
   .simp [KD,oL,Tm.den,D.EH]
   .simp [KD,oL,Tm.den,D.EH]
   .simp [xP,oL,Tm.den,D.EH]
   .exact alK
  .simp only [cond_true];rw [Tm.beq_eq h];simp
def ajp (c:Tm):Tm->Tm
 | .ite d x y=>bif d.beq c then x else .ite d x y
 |t=>t
def alL (c:Tm):Tm->Tm
 | .ite d x y=>bif d.beq c then y else .ite d x y
 |t=>t
theorem acw {ρ:List AV}{c t:Tm}(h:(c.den ρ).B=true):(ajp c t).den ρ=t.den ρ:=by
 unfold ajp
 split
 .rename_i d x y
  cases hb:d.beq c
  .rfl
  .simp only [cond_true,Tm.qm];rw [Tm.beq_eq hb,h];rfl
 .rfl
theorem acy {ρ:List AV}{c t:Tm}(h:(c.den ρ).B=false):(alL c t).den ρ=t.den ρ:=by
 unfold alL
 split
 .rename_i d x y
  cases hb:d.beq c
  .rfl
  .simp only [cond_true,Tm.qm];rw [Tm.beq_eq hb,h];rfl
 .rfl
def apx (c x y:Tm):Tm:=bif (ajp c x).beq (alL c y) then ajp c x else .ite c (ajp c x) (alL c y)
theorem acz {ρ:List AV}{c x y:Tm}:(apx c x y).den ρ=bif (c.den ρ).B then x.den ρ else y.den ρ:=by
 unfold apx
 cases h:(ajp c x).beq (alL c y)
 .simp only [cond_false,Tm.qm]
  cases hc:(c.den ρ).B
  .simp only [cond_false,acy hc]
  .simp only [cond_true,acw hc]
 .simp only [cond_true]
  have e:=Tm.beq_eq h
  cases hc:(c.den ρ).B
  .simp only [cond_false];rw [e,acy hc]
  .simp only [cond_true];rw [acw hc]
def aDP (c x y:Tm):Tm:=
 match c with
 | .lb true=>x
 | .lb false=>y
 | .not c=>apx c y x
 |c=>apx c x y
theorem Ah {ρ:List AV}{c x y:Tm}:(aDP c x y).den ρ=bif (c.den ρ).B then x.den ρ else y.den ρ:=by
 unfold aDP
 split
 .rfl
 .rfl
 .rename_i c
  rw [acz]
  simp only [Tm.den,D.EH]
  cases (c.den ρ).B<;>rfl
 .exact acz
def afv (o:BinOp)(k:Kd)(a b:D):Tm:=Tm.ofD (qJ o k a b)
def aEG (o:BinOp)(k:Kd)(y:Tm)(b:D):Tm->Tm
 | .ite c u v=>VG c (aEG o k y b u) (aEG o k y b v)
 |x=>match x.Nu with
  |some a=>afv o k a b
  |none=>.bin o k x y
def ajq (o:BinOp)(k:Kd)(x:Tm)(a:D):Tm->Tm
 | .ite c u v=>VG c (ajq o k x a u) (ajq o k x a v)
 |y=>match y.Nu with
  |some b=>afv o k a b
  |none=>.bin o k x y
theorem VH {ρ:List AV}{o k a b}:(afv o k a b).den ρ=qJ o k a b:=Tm.L_ (aaL o k a b)
theorem alM {ρ:List AV}{o k y b}(hy:y.den ρ=b){x:Tm}:((aEG o k y b x).den ρ).B=(qJ o k (x.den ρ) b).B:=by
 induction x with
 |ite c u v _ ihu ihv=>
  simp only [aEG,Oy,Tm.qm,ihu,ihv]
  cases (c.den ρ).B<;>rfl
 |_=>
  simp only [aEG,Tm.Nu]
  first
  |(rw [VH];rfl)
  |(simp only [Tm.den,hy])
theorem alN {ρ:List AV}{o k x a}(hx:x.den ρ=a){y:Tm}:((ajq o k x a y).den ρ).B=(qJ o k a (y.den ρ)).B:=by
 induction y with
 |ite c u v _ ihu ihv=>
  simp only [ajq,Oy,Tm.qm,ihu,ihv]
  cases (c.den ρ).B<;>rfl
 |_=>
  simp only [ajq,Tm.Nu]
  first
  |(rw [VH];rfl)
  |(simp only [Tm.den,hx])
def NI (o:BinOp)(k:Kd)(x y:Tm):Tm:=
 match y.Nu with
 |some b=>match o,k,b with
  | .eql,.bool,.b true=>x
  | .eql,.bool,.b false=>aDL x
  | .neq,.bool,.b true=>aDL x
  | .neq,.bool,.b false=>x
  |o,k,b=>aEG o k y b x
 |none=>match x.Nu with
  |some a=>ajq o k x a y
  |none=>.bin o k x y
theorem vJ {ρ:List AV}{o k x y}:((NI o k x y).den ρ).B=(qJ o k (x.den ρ) (y.den ρ)).B:=by
 unfold NI
 split
 .rename_i b hb
  have e:=Tm.Gm (ρ:=ρ) hb
  split
  .rw [e];simp [qJ,D.EH,Nr]
  .rw [e,oL];simp [qJ,D.EH,Nr]
  .rw [e,oL];simp [qJ,D.EH,bNe]
  .rw [e];simp [qJ,D.EH,bNe]
  .rw [alM e,e]
 .split
  .rename_i a ha
   have e:=Tm.Gm (ρ:=ρ) ha
   rw [alN e,e]
  .rfl
def VI (k:Kd)(c x y:Tm):Tm:=match k with | .bool=>VG c x y|_=>aDP c x y
theorem VJ {ρ:List AV}{k:Kd}{c x y:Tm}:k.av ((VI k c x y).den ρ)=bif (c.den ρ).B then k.av (x.den ρ) else k.av (y.den ρ):=by
 cases k with
 |bool=>simp only [VI,Kd.av,Oy];cases (c.den ρ).B<;>rfl
 |_=>simp only [VI,Ah];cases (c.den ρ).B<;>rfl
end Go.Fw
end
section
namespace Go.Fw
variable [jY]
inductive Cv where
 |ptr|fn|mV|mp|undef
 |at (c o:Nat)
 deriving DecidableEq
def Cv.val : Cv->Value
 | .ptr=>.pointer none
 | .fn=>.nilFunc
 | .mV=>.nilIface
 | .mp=>.map none
 | .undef=>Go.undef
 | .at c o=>.pointer (some ⟨c,o,none⟩)
inductive SV where
 |sc (k:Kd) (t:Tm)
 |c (v:Cv)
 |nil
 |sf (t:Tm)
 |agg (l:List SV)
 |fD (l:List SV)
 |slc (rows:List (List SV)) (full:Bool)
 |vp (row:List SV) (off:Nat)
 |os (b sz off:Nat) (len:Tm)
 |op (b sz:Nat) (row:Tm) (off:Nat)
 |fn (f:Nat) (first captured:List SV)
 |mV (t:TypeId) (v:SV)
 |mp (b:Nat)
 mutual
def SV.den (ρ:List AV):SV->AV
  | .sc k t=>k.av (t.den ρ)
  | .c v=>.p v.val
  | .nil=>.sl [] true
  | .sf t=>.sl (t.den ρ).R true
  | .agg l=>.agg (dU ρ l)
  | .fD l=>.fD (dU ρ l)
  | .slc rows full=>.sl (iM ρ rows) full
  | .vp row off=>.vp (dU ρ row) off
  | .os b sz off len=>.os b sz off (len.den ρ).I.toNat
  | .op b sz row off=>.op b sz (row.den ρ).I.toNat off
  | .fn f first captured=>.fn (.func f) (dU ρ first) (dU ρ captured)
  | .mV t v=>.mV t (v.den ρ)
  | .mp b=>.mp b
def dU (ρ:List AV):List SV->List AV
  |[]=>[]
  |x::r=>x.den ρ::dU ρ r
def iM (ρ:List AV):List (List SV)->List (List AV)
  |[]=>[]
  |x::r=>dU ρ x::iM ρ r
end
theorem nX {ρ:List AV}:∀{l:List SV},dU ρ l=l.map (SV.den ρ)
 |[]=>rfl
 |x::r=>by simp [dU,nX (l:=r)]
theorem l7 {ρ:List AV}:∀{l:List (List SV)},iM ρ l=l.map (dU ρ)
 |[]=>rfl
 |x::r=>by simp [iM,l7 (l:=r)]
 mutual
def SV.beq : SV->SV->Bool
  | .sc k t,.sc k' t'=>decide (k=k')&&t.beq t'
  | .c v,.c v'=>decide (v=v')
  | .nil,.nil=>true
  | .sf t,.sf t'=>t.beq t'
  | .agg l,.agg l'=>Ri l l'
  | .fD l,.fD l'=>Ri l l'
  | .slc r f,.slc r' f'=>TG r r'&&f == f'
  | .vp r o,.vp r' o'=>Ri r r'&&Nat.beq o o'
  | .os b s o l,.os b' s' o' l'=>Nat.beq b b'&&(Nat.beq s s'&&(Nat.beq o o'&&l.beq l'))
  | .op b s r o,.op b' s' r' o'=>Nat.beq b b'&&(Nat.beq s s'&&(r.beq r'&&Nat.beq o o'))
  | .fn f x y,.fn f' x' y'=>Nat.beq f f'&&(Ri x x'&&Ri y y')
  | .mV t v,.mV t' v'=>Nat.beq t t'&&v.beq v'
  | .mp b,.mp b'=>Nat.beq b b'
  |_,_=>false
def Ri : List SV->List SV->Bool
  |[],[]=>true
  |x::r,y::s=>x.beq y&&Ri r s
  |_,_=>false
def TG : List (List SV)->List (List SV)->Bool
  |[],[]=>true
  |x::r,y::s=>Ri x y&&TG r s
  |_,_=>false
end
 mutual
theorem SV.beq_eq : ∀{x y:SV},x.beq y=true->x=y:=fun {x y} h=>by
  match x,y with
  | .sc k t,.sc k' t'=>simp [SV.beq] at h;rw [h.1,Tm.beq_eq h.2]
  | .c v,.c v'=>simp [SV.beq] at h;rw [h]
  | .nil,.nil=>rfl
  | .sf t,.sf t'=>simp [SV.beq] at h;rw [Tm.beq_eq h]
  | .agg l,.agg l'=>simp [SV.beq] at h;rw [CP h]
  | .fD l,.fD l'=>simp [SV.beq] at h;rw [CP h]
  | .slc r f,.slc r' f'=>simp [SV.beq] at h;rw [KE h.1,h.2]
  | .vp r o,.vp r' o'=>simp [SV.beq] at h;rw [CP h.1,h.2]
  | .os b s o l,.os b' s' o' l'=>simp [SV.beq] at h;rw [h.1,h.2.1,h.2.2.1,Tm.beq_eq h.2.2.2]
  | .op b s r o,.op b' s' r' o'=>simp [SV.beq] at h;rw [h.1,h.2.1,Tm.beq_eq h.2.2.1,h.2.2.2]
  | .fn f x y,.fn f' x' y'=>simp [SV.beq] at h;rw [h.1,CP h.2.1,CP h.2.2]
  | .mV t v,.mV t' v'=>simp [SV.beq] at h;rw [h.1,SV.beq_eq h.2]
  | .mp b,.mp b'=>simp [SV.beq] at h;rw [h]
theorem CP : ∀{x y:List SV},Ri x y=true->x=y:=fun {x y} h=>by
  match x,y with
  |[],[]=>rfl
  |x::r,y::s=>simp [Ri] at h;rw [SV.beq_eq h.1,CP h.2]
theorem KE : ∀{x y:List (List SV)},TG x y=true->x=y:=fun {x y} h=>by
  match x,y with
  |[],[]=>rfl
  |x::r,y::s=>simp [TG] at h;rw [CP h.1,KE h.2]
end
def SV.cells : SV->List SV
 | .agg l=>l
 |a=>[a]
def SV.jR : SV->Bool
 | .agg _ | .fD _ | .c .undef=>false
 |_=>true
def SV.F5 : SV->Bool
 | .fD _ | .c .undef=>false
 |_=>true
structure MSh where
 ka:Bool
 kn:Nat
 va:Bool
 vn:Nat
 deriving DecidableEq
def nO (a:Bool)(l:List AV):AV:=bif a then .agg l else match l with|x::_=>x | []=>eP
def rW (m:MSh)(row:List AV):AV×AV:=(nO m.ka (row.take m.kn),nO m.va (row.drop m.kn))
inductive SB where
 |rows (sz:Nat) (rs:List (List SV))
 |fK (sz:Nat) (t:Tm)
 |BZ (m:MSh) (t:Tm)
 |map (es:List (SV×SV))
 |it (m:Nat) (n:Tm) (k:Nat)
 |kN (ty:TypeId) (sz:Nat) (rs:List (List SV))
def SB.den (ρ:List AV):SB->wB
 | .rows sz rs=>.rows sz (iM ρ rs)
 | .fK sz t=>.rows sz (t.den ρ).R
 | .BZ m t=>.map ((t.den ρ).R.map (rW m))
 | .map es=>.map (es.map fun e=>(e.1.den ρ,e.2.den ρ))
 | .it m n k=>.it m (n.den ρ).I.toNat k
 | .kN ty sz rs=>.kN ty sz (iM ρ rs)
inductive Tr (α:Type) where
 |e
 |n (l:Tr α) (x:Option α) (r:Tr α)
def Tr.get {α:Type}:Tr α->Nat->Option α
 | .e,_=>none
 | .n l x r,k=>bif Nat.beq k 0 then x else bif Nat.beq (k % 2) 1 then l.get ((k-1) / 2) else r.get ((k-1) / 2)
def Tr.upd {α:Type}:Nat->Tr α->Nat->Option α->Tr α
 |0,_,_,_=>.e
 |m+1,.e,k,f=>bif Nat.beq k 0 then .n .e f .e else bif Nat.beq (k % 2) 1 then .n (Tr.upd m .e ((k-1) / 2) f) none .e else .n .e none (Tr.upd m .e ((k-1) / 2) f)
 |m+1,.n l x r,k,f=>bif Nat.beq k 0 then .n l f r else bif Nat.beq (k % 2) 1 then .n (Tr.upd m l ((k-1) / 2) f) x r else .n l x (Tr.upd m r ((k-1) / 2) f)
theorem Tr.pW {α:Type}:∀(m:Nat) (t:Tr α) (k:Nat) (f:Option α) (j:Nat) (y:α),(Tr.upd m t k f).get j=some y->(j=k/\f=some y)\/(j≠k/\t.get j=some y)
 |0,t,k,f,j,y,h=>by simp [Tr.upd,Tr.get] at h
 |m+1,.e,k,f,j,y,h=>by
  have ih:=Tr.pW m (.e:Tr α) ((k-1) / 2) f ((j-1) / 2) y
  simp only [Tr.get] at ih
  unfold Tr.upd at h
  cases h1:Nat.beq k 0
  .simp only [h1,cond_false] at h
   have hk:k≠0:=by intro e;subst e;simp at h1
   cases h2:Nat.beq (k % 2) 1
   .simp only [h2,cond_false,Tr.get] at h
    cases h3:Nat.beq j 0
    .simp only [h3,cond_false] at h
     cases h4:Nat.beq (j % 2) 1
     .simp only [h4,cond_false] at h
      rcases ih h with ⟨e,q⟩|⟨_,q⟩
      .left;refine ⟨?_,q⟩
       have hj:j≠0:=by intro e;subst e;simp at h3
       have a1:k % 2≠1:=by intro e;rw [e] at h2;simp at h2
       have a2:j % 2≠1:=by intro e;rw [e] at h4;simp at h4
       omega
      .cases q
     .simp [h4] at h
    .simp [h3] at h
   .simp only [h2,cond_true,Tr.get] at h
    cases h3:Nat.beq j 0
    .simp only [h3,cond_false] at h
     cases h4:Nat.beq (j % 2) 1
     .simp [h4] at h
     .simp only [h4,cond_true] at h
      rcases ih h with ⟨e,q⟩|⟨_,q⟩
      .left;refine ⟨?_,q⟩
       have hj:j≠0:=by intro e;subst e;simp at h3
       have a1:=Nat.eq_of_beq_eq_true h2
       have a2:=Nat.eq_of_beq_eq_true h4
       omega
      .cases q
    .simp [h3] at h
  .simp only [h1,cond_true,Tr.get] at h
   have hk:=Nat.eq_of_beq_eq_true h1
   cases h3:Nat.beq j 0
   .simp [h3] at h
   .simp only [h3,cond_true] at h
    exact .inl ⟨by rw [hk,Nat.eq_of_beq_eq_true h3],h⟩
 |m+1,.n l x r,k,f,j,y,h=>by
  have ihl:=Tr.pW m l ((k-1) / 2) f ((j-1) / 2) y
  have ihr:=Tr.pW m r ((k-1) / 2) f ((j-1) / 2) y
  unfold Tr.upd at h
  cases h1:Nat.beq k 0
  .simp only [h1,cond_false] at h
   have hk:k≠0:=by intro e;subst e;simp at h1
   cases h2:Nat.beq (k % 2) 1
   .simp only [h2,cond_false,Tr.get] at h
    have a1:k % 2≠1:=by intro e;rw [e] at h2;simp at h2
    cases h3:Nat.beq j 0
    .simp only [h3,cond_false] at h
     have hj:j≠0:=by intro e;subst e;simp at h3
     cases h4:Nat.beq (j % 2) 1
     .simp only [h4,cond_false] at h
      have a2:j % 2≠1:=by intro e;rw [e] at h4;simp at h4
      rcases ihr h with ⟨e,q⟩|⟨e,q⟩
      .exact .inl ⟨by omega,q⟩
      .exact .inr ⟨by intro e';exact e (by rw [e']),by simpa [Tr.get,h3,h4] using q⟩
     .simp only [h4,cond_true] at h
      have a2:=Nat.eq_of_beq_eq_true h4
      exact .inr ⟨by intro e;subst e;exact a1 a2,by simpa [Tr.get,h3,h4] using h⟩
    .simp only [h3,cond_true] at h
     exact .inr ⟨by intro e;subst e;exact hk (Nat.eq_of_beq_eq_true h3),by simpa [Tr.get,h3] using h⟩
   .simp only [h2,cond_true,Tr.get] at h
    have a1:=Nat.eq_of_beq_eq_true h2
    cases h3:Nat.beq j 0
    .simp only [h3,cond_false] at h
     have hj:j≠0:=by intro e;subst e;simp at h3
     cases h4:Nat.beq (j % 2) 1
     .simp only [h4,cond_false] at h
      have a2:j % 2≠1:=by intro e;rw [e] at h4;simp at h4
      exact .inr ⟨by intro e;subst e;exact a2 a1,by simpa [Tr.get,h3,h4] using h⟩
     .simp only [h4,cond_true] at h
      have a2:=Nat.eq_of_beq_eq_true h4
      rcases ihl h with ⟨e,q⟩|⟨e,q⟩
      .exact .inl ⟨by omega,q⟩
      .exact .inr ⟨by intro e';exact e (by rw [e']),by simpa [Tr.get,h3,h4] using q⟩
    .simp only [h3,cond_true] at h
     exact .inr ⟨by intro e;subst e;exact hk (Nat.eq_of_beq_eq_true h3),by simpa [Tr.get,h3] using h⟩
  .simp only [h1,cond_true,Tr.get] at h
   have hk:=Nat.eq_of_beq_eq_true h1
   cases h3:Nat.beq j 0
   .simp only [h3,cond_false] at h
    have hj:j≠0:=by intro e;subst e;simp at h3
    exact .inr ⟨by omega,by simpa [Tr.get,h3] using h⟩
   .simp only [h3,cond_true] at h
    exact .inl ⟨by rw [hk,Nat.eq_of_beq_eq_true h3],h⟩
abbrev Pc :=List (Tm×Bool)
def Pc.holds (ρ:List AV)(pc:Pc):Prop:=∀x∈pc,(x.1.den ρ).B=x.2
def Pc.has (pc:Pc)(x:Tm×Bool):Bool:=pc.any fun y=>y.2 == x.2&&y.1.beq x.1
theorem Pc.Zd {ρ:List AV}{pc:Pc}{x:Tm×Bool}(h:pc.has x=true)(hp:pc.holds ρ):(x.1.den ρ).B=x.2:=by
 unfold Pc.has at h
 rw [List.any_eq_true] at h
 obtain ⟨y,hy,h⟩:=h
 simp at h
 rw [<- Tm.beq_eq h.2,<- h.1]
 exact hp y hy
def Pc.Ug (pc:Pc)(t:Tm):Option Bool:=bif pc.has (t,true) then some true else bif pc.has (t,false) then some false else none
theorem Pc.oW {ρ:List AV}{pc:Pc}(hp:pc.holds ρ){t:Tm}{b:Bool}(h:pc.Ug t=some b):(t.den ρ).B=b:=by
 unfold Pc.Ug at h
 cases h1:pc.has (t,true)
 .simp only [h1,cond_false] at h
  cases h2:pc.has (t,false)
  .simp [h2] at h
  .simp [h2] at h;subst h;exact Pc.Zd h2 hp
 .simp [h1] at h;subst h;exact Pc.Zd h1 hp
def Pc.Ze (x:Tm):Pc->Option Int
 |[]=>none
 |(.bin .eql (.int _) y (.li a),true)::r=>bif y.beq x then some a else Pc.Ze x r
 |_::r=>Pc.Ze x r
theorem Pc.KF {ρ:List AV}{x:Tm}{a:Int}:∀{pc:Pc},pc.holds ρ->Pc.Ze x pc=some a->(x.den ρ).I=a
 |[],_,h=>by simp [Pc.Ze] at h
 |e::r,hp,h=>by
  have hr:Pc.holds ρ r:=fun y hy=>hp y (List.mem_cons_of_mem _ hy)
  unfold Pc.Ze at h
  split at h
  .cases h
  .rename_i k y a' r' heq
   simp only [List.cons.injEq] at heq
   obtain ⟨rfl,rfl⟩:=heq
   cases hb:y.beq x
   .simp only [hb,cond_false] at h;exact Pc.KF hr h
   .simp only [hb,cond_true,Option.some.injEq] at h;subst h
    have:=hp _ List.mem_cons_self
    rw [Tm.beq_eq hb] at this
    have h2:(x.den ρ).I=(D.i a').I:=by simpa [Tm.den,qJ,D.EH,dZ] using this
    exact h2
  .rename_i heq
   simp only [List.cons.injEq] at heq
   obtain ⟨rfl,rfl⟩:=heq
   exact Pc.KF hr h
theorem alP {o:BinOp}{k:IntKind}{d d' e:D}(h:d.I=d'.I):qJ o (.int k) d e=qJ o (.int k) d' e:=by
 cases o<;>simp only [qJ,h]
def orE (a b:Option Bool):Option Bool:=match a with|some v=>some v|none=>b
theorem aaM {a b:Option Bool}{v:Bool}(h:orE a b=some v):a=some v\/b=some v:=by
 unfold orE at h
 cases a
 .exact .inr h
 .exact .inl h
def Pc.known (pc:Pc):Tm->Option Bool
 | .lb v=>some v
 | .not x=>match Pc.known pc x with
  |some b=>some (!b)
  |none=>pc.Ug (.not x)
 | .and x y=>match Pc.known pc x with
  |some false=>some false
  |some true=>orE (Pc.known pc y) (pc.Ug (.and x y))
  |none=>match Pc.known pc y with
   |some false=>some false
   |_=>pc.Ug (.and x y)
 | .or x y=>match Pc.known pc x with
  |some true=>some true
  |some false=>orE (Pc.known pc y) (pc.Ug (.or x y))
  |none=>match Pc.known pc y with
   |some true=>some true
   |_=>pc.Ug (.or x y)
 | .ite c x y=>match Pc.known pc c with
  |some true=>orE (Pc.known pc x) (pc.Ug (.ite c x y))
  |some false=>orE (Pc.known pc y) (pc.Ug (.ite c x y))
  |none=>pc.Ug (.ite c x y)
 | .bin o (.int k) x (.li b)=>match pc.Ug (.bin o (.int k) x (.li b)) with
  |some v=>some v
  |none=>match Pc.Ze x pc with
   |some a=>some (qJ o (.int k) (.i a) (.i b)).B
   |none=>none
 |t=>pc.Ug t
theorem Pc.gQ {ρ:List AV}{pc:Pc}(hp:pc.holds ρ):∀{t:Tm} {b:Bool},pc.known t=some b->(t.den ρ).B=b:=by
 intro t
 induction t with
 |lb v=>intro b h;simp [Pc.known] at h;subst h;rfl
 |not x ih=>
  intro b h
  simp only [Pc.known] at h
  split at h
  .rename_i c hc
   simp only [Option.some.injEq] at h;subst h
   simp only [Tm.den,D.EH,ih hc]
  .exact Pc.oW hp h
 |and x y sU ihy=>
  intro b h
  simp only [Pc.known] at h
  split at h
  .rename_i hx
   simp only [Option.some.injEq] at h;subst h
   simp only [Tm.den,D.EH,sU hx];rfl
  .rename_i hx
   rcases aaM h with h|h
   .simp only [Tm.den,D.EH,sU hx,ihy h];rfl
   .exact Pc.oW hp h
  .split at h
   .rename_i hy
    simp only [Option.some.injEq] at h;subst h
    simp only [Tm.den,D.EH,ihy hy,Bool.and_false]
   .exact Pc.oW hp h
 |or x y sU ihy=>
  intro b h
  simp only [Pc.known] at h
  split at h
  .rename_i hx
   simp only [Option.some.injEq] at h;subst h
   simp only [Tm.den,D.EH,sU hx];rfl
  .rename_i hx
   rcases aaM h with h|h
   .simp only [Tm.den,D.EH,sU hx,ihy h];rfl
   .exact Pc.oW hp h
  .split at h
   .rename_i hy
    simp only [Option.some.injEq] at h;subst h
    simp only [Tm.den,D.EH,ihy hy,Bool.or_true]
   .exact Pc.oW hp h
 |ite c x y ihc sU ihy=>
  intro b h
  simp only [Pc.known] at h
  split at h
  .rename_i hc
   rcases aaM h with h|h
   .rw [Tm.qm,ihc hc];exact sU h
   .exact Pc.oW hp h
  .rename_i hc
   rcases aaM h with h|h
   .rw [Tm.qm,ihc hc];exact ihy h
   .exact Pc.oW hp h
  .exact Pc.oW hp h
 |bin o k x y _ _=>
  intro b h
  unfold Pc.known at h
  split at h
  all_goals first
   |(rename_i heq;cases heq;done)
   |skip
  .rename_i o' k' x' b' heq
   cases heq
   split at h
   .rename_i hv
    simp only [Option.some.injEq] at h;subst h
    exact Pc.oW hp hv
   .split at h
    .rename_i a ha
     simp only [Option.some.injEq] at h;subst h
     have:=Pc.KF hp ha
     simp only [Tm.den]
     rw [alP (d':=.i a) this]
    .cases h
  .exact Pc.oW hp h
 |_=>
  intro b h
  exact Pc.oW hp h
theorem Pc.jy {ρ:List AV}{pc:Pc}{t:Tm}{b:Bool}(h:(t.den ρ).B=b)(hp:pc.holds ρ):Pc.holds ρ ((t,b)::pc):=by
 intro x hx
 cases hx with
 |head=>exact h
 |tail _ hx=>exact hp x hx
structure qo where
 h:Pc
 v:SV
def qo.den (ρ:List AV)(e:qo):AV:=bif e.h.all (fun x=>(x.1.den ρ).B == x.2) then e.v.den ρ else eP
def qo.sure (pc:Pc)(e:qo):Bool:=e.h.all fun x=>match pc.known x.1 with|some b=>b == x.2|none=>false
theorem qo.acA {ρ:List AV}{pc:Pc}{e:qo}(hp:pc.holds ρ)(h:e.sure pc=true):e.den ρ=e.v.den ρ:=by
 unfold qo.den
 have:e.h.all (fun x=>(x.1.den ρ).B == x.2)=true:=by
  unfold qo.sure at h
  rw [List.all_eq_true] at h ⊢
  intro x hx
  have:=h x hx
  split at this
  .rename_i b hb;rw [Pc.gQ hp hb];exact this
  .cases this
 rw [this];rfl
structure St where
 fr:Tr qo
 ah:Tr SB
 nx:Nat
 ds:List Nat
 db:List Nat
def zX : Nat:=40
def St.put (st:St)(d:Nat)(e:qo):St:={st with fr:=st.fr.upd zX d (some e),ds:=d::st.ds}
def St.wr (st:St):List (Nat×Option SB)->St
 |[]=>st
 |(b,k)::r=>St.wr {st with ah:=st.ah.upd zX b k,db:=b::st.db} r
end Go.Fw
end
section
namespace Go.Fw
variable [jY]
def Eh {α:Type}:List α->Nat->Option α
 |[],_=>none
 |x::_,0=>some x
 |_::r,n+1=>Eh r n
theorem yH {α:Type}:∀(l:List α) (n:Nat),Eh l n=l[n]?
 |[],n=>by simp [Eh]
 |x::r,0=>by simp [Eh]
 |x::r,n+1=>by simp [Eh,yH r n]
def xu : List Nat->AV->AV->AV
 |[],_,y=>y
 |j::p,.agg l,y=>.agg (l.set j (xu p (l.getD j eP) y))
 |j::p,.fD l,y=>.fD (l.set j (xu p (l.getD j eP) y))
 |_::_,a,_=>a
def EI (p:List Nat)(r:AV):List (List AV):=(aDt r p).D.R
def ah1 (k:wB):AH:=fun b=>if b=0 then some k else none
def PCo (P:Program)(f:FuncId)(args:List AV)(r:AV)(p:List Nat)(sz:Nat):Prop:=
 ∀(w:World) (fix:Nat->Nat->Prop) (vs:List Value),(∀c o,fix c o->c<w.heap.size)->GOk w fix->iy w (eY fix) args vs->
  match P.funcs[f]? with
  |none=>False
  |some fn=>fn.body.isNone=false/\fn.name≠ "runtime.NumGoroutine" /\Calls P f vs.toArray w fun e w'=>∃v E',e=.returned v/\Step w.heap.size w (eY fix) w' E'/\
   dX w.heap.size w' E' (ah1 (.rows sz (EI p r))) (fun b=>1<=b)/\Rep w' E' (xu p r (.os 0 sz 0 (EI p r).length)) v
def rV : List (Nat×wB)->AH
 |[],_=>none
 |x::r,b=>bif Nat.beq x.1 b then some x.2 else rV r b
def PWL (P:Program)(f:FuncId)(args:List AV)(bin:List (Nat×wB))(n0:Nat)(r:AV)(Nv:List (Nat×wB)):Prop:=
 ∀(base:Nat) (w:World) (E:Env) (vs:List Value),dX base w E (rV bin) (fun b=>n0<=b)->GOk w E.fix->iy w E args vs->
  match P.funcs[f]? with
  |none=>False
  |some fn=>fn.body.isNone=false/\fn.name≠ "runtime.NumGoroutine" /\Calls P f vs.toArray w fun e w'=>∃v E',e=.returned v/\Step base w E w' E'/\
   dX base w' E' (rV Nv) (fun b=>n0<=b)/\Rep w' E' r v
def kOf : AV->Nat
 | .p (.int _ n)=>n.toNat
 |_=>0
def TT : List AV:=[.p (.bool true)]
def Iz (ρ:List AV)(bl:List (Nat×SB)):List (Nat×wB):=bl.map fun x=>(x.1,x.2.den ρ)
inductive Side where
 |qp (f:FuncId) (args:List SV) (bl:List (Nat×SB)) (n0:Nat) (r:SV) (JW:List (Nat×SB))
 |Px (f:FuncId) (args:List SV) (r:SV) (p:List Nat) (sz:Nat) (fl:Bool)
 |tm (t:Tm)
 |call (f:FuncId) (args:List SV) (r:SV)
 |fop (o:BinOp) (x y:Tm)
 |cat (x y:Tm)
 |num (k:IntKind) (x:Tm) (n:Tm)
 |row (t i:Tm) (cells:List SV)
 |rd (ty:Bool×Nat) (t i:Tm) (off:Nat) (v:SV)
 |st (t i:Tm) (off:Nat) (cells:List SV) (n:Tm)
 |sub (sz:Nat) (t:Tm) (lo hi:Option Tm) (n:Tm)
 |mk (len cap:Tm) (z:List SV) (n:Tm)
 |app (sz:Nat) (x:Tm) (y:List (List SV)) (n:Tm)
 |ajr (sz:Nat) (x y n:Tm)
 |len2 (m:Nat) (y:Tm)
 |TI (n:Nat) (t:Tm)
 |cpy (x len y n:Tm)
 |atJ (t:Tm)
 |mark (m:MSh) (t d len n:Tm)
 |ajs (sz:Nat) (x:List (List SV)) (y n:Tm)
 |look (kt:TypeId) (m:MSh) (t:Tm) (k z:SV) (f:Tm) (v:SV)
 |put (kt:TypeId) (m:MSh) (t:Tm) (k v:SV) (n:Tm)
 |under (pc:Pc) (s:Side)
def Zf (ρ:List AV)(d:Nat):Option Tm->Int
 |none=>d
 |some t=>(t.den ρ).I
def Side.holds (P:Program)(ρ:List AV):Side->Prop
 | .tm t=>(t.den ρ).B=true
 | .qp f args bl n0 r JW=>PWL P f (dU ρ args) (Iz ρ bl) n0 (r.den ρ) (Iz ρ JW)
 | .Px f args r p sz fl=>PCo P f (dU ρ args) (r.den ρ) p sz/\(fl=true->∀row∈EI p (r.den ρ),Bv row=true)
 | .call f args r=>PC P f (dU ρ args) (r.den ρ)
 | .fop o x y=>match o with
  | .add=>(FloatKind.f64.format.add (x.den ρ).F (y.den ρ).F).isSome=true
  | .sub=>(FloatKind.f64.format.sub (x.den ρ).F (y.den ρ).F).isSome=true
  | .mul=>(FloatKind.f64.format.mul (x.den ρ).F (y.den ρ).F).isSome=true
  | .quo=>(FloatKind.f64.format.div (x.den ρ).F (y.den ρ).F).isSome=true
  |_=>False
 | .cat x y=>(x.den ρ).S.length+(y.den ρ).S.length<=4294967296
 | .num k x n=>(FloatKind.f64.decode (x.den ρ).F).toInt .zero=some (n.den ρ).I/\k.min<=(n.den ρ).I/\(n.den ρ).I<=k.max
 | .row t i cells=>0<=(i.den ρ).I/\(t.den ρ).R[(i.den ρ).I.toNat]?=some (dU ρ cells)
 | .rd ty t i off v=>∃row,(t.den ρ).R[(i.den ρ).I.toNat]?=some row/\apart ty row off (fun x=>x=v.den ρ)
 | .st t i off cells n=>∃row,(t.den ρ).R[(i.den ρ).I.toNat]?=some row/\off+cells.length<=row.length/\(n.den ρ).R=(t.den ρ).R.set (i.den ρ).I.toNat (lay row off (dU ρ cells))
 | .sub sz t lo hi n=>lJ sz (t.den ρ).R/\0<=Zf ρ 0 lo/\Zf ρ 0 lo<=Zf ρ (t.den ρ).R.length hi/\Zf ρ (t.den ρ).R.length hi<=(t.den ρ).R.length/\
   (n.den ρ).R=((t.den ρ).R.drop (Zf ρ 0 lo).toNat).take ((Zf ρ (t.den ρ).R.length hi).toNat-(Zf ρ 0 lo).toNat)
 | .mk len cap z n=>0<=(len.den ρ).I/\(len.den ρ).I<=(cap.den ρ).I/\(cap.den ρ).I<=4294967296/\(n.den ρ).R=List.replicate (len.den ρ).I.toNat (dU ρ z)
 | .app sz x y n=>lJ sz (x.den ρ).R/\(x.den ρ).R.length+y.length<=4294967296/\(n.den ρ).R=(x.den ρ).R++iM ρ y
 | .ajr sz x y n=>lJ sz (x.den ρ).R/\lJ sz (y.den ρ).R/\(x.den ρ).R.length+(y.den ρ).R.length<=4294967296/\(n.den ρ).R=(x.den ρ).R++(y.den ρ).R
 | .len2 m y=>m+(y.den ρ).R.length<=4294967296
 | .TI n t=>lJ n (t.den ρ).R
 | .cpy x len y n=>(len.den ρ).I.toNat<=(x.den ρ).R.length/\(n.den ρ).R=(y.den ρ).R.take (len.den ρ).I.toNat++(x.den ρ).R.drop (min (y.den ρ).R.length (len.den ρ).I.toNat)
 | .atJ t=>((t.den ρ).R.mapM aDG).isSome=true
 | .mark m t d len n=>(len.den ρ).I.toNat<=(d.den ρ).R.length/\(∀e∈(t.den ρ).R.map (rW m),∃kk i,e.1=.p (.int kk i)/\0<=i/\i.toNat<(len.den ρ).I.toNat)/\(n.den ρ).R.length=(d.den ρ).R.length/\
   ∀i,i<(d.den ρ).R.length->(n.den ρ).R[i]?=if ((t.den ρ).R.map (rW m)).any (fun e=>Nat.beq (kOf e.1) i)=true then some TT else (d.den ρ).R[i]?
 | .ajs sz x y n=>x.length+(y.den ρ).R.length<=4294967296/\(n.den ρ).R=iM ρ x++(y.den ρ).R
 | .look kt m t k z f v=>∃r,zQ P kt (k.den ρ) ((t.den ρ).R.map (rW m))=some r/\(f.den ρ).B=r.isSome/\v.den ρ=(match r with|none=>z.den ρ|some q=>q.2)
 | .put kt m t k v n=>∃r,zQ P kt (k.den ρ) ((t.den ρ).R.map (rW m))=some r/\(∀q,r=some q->(((t.den ρ).R.map (rW m))[q.1]?).map (·.1)=some (k.den ρ))/\
   (n.den ρ).R.map (rW m)=(match r with|none=>(t.den ρ).R.map (rW m)++[(k.den ρ,v.den ρ)]|some q=>((t.den ρ).R.map (rW m)).set q.1 (k.den ρ,v.den ρ))
 | .under pc s=>Pc.holds ρ pc->s.holds P ρ
def afw (l t:Tm):List Side:=bif l.beq (.rlen t) then [] else [.tm (.bin .eql (.int .i64) l (.rlen t))]
theorem UK {P:Program}{ρ:List AV}{l t:Tm}(h:∀s∈afw l t,s.holds P ρ):(l.den ρ).I.toNat=(t.den ρ).R.length:=by
 unfold afw at h
 cases hb:l.beq (.rlen t)
 .simp only [hb,cond_false] at h
  have:=h _ (bT.2 rfl)
  have h2:(l.den ρ).I=(Tm.den ρ (.rlen t)).I:=by simpa [Side.holds,Tm.den,qJ,D.EH,dZ] using this
  rw [h2];rfl
 .rw [Tm.beq_eq hb];rfl
def Zg (ρ:List AV)(tr:Tr qo)(fr:mg):Prop:=∀t e,tr.get t=some e->jw fr t=some (e.den ρ)
def Ig (ρ:List AV)(tr:Tr SB)(ah:AH):Prop:=∀b k,tr.get b=some k->ah b=some (k.den ρ)
def apy : Value->Option SV
 | .string s=>some (.sc .str (.ls s.data.toList))
 | .slice none 0 0=>some .nil
 | .bool b=>some (.sc .bool (.lb b))
 | .int k n=>some (.sc (.int k) (.li n))
 | .float .f64 n=>some (.sc .kC (.lf n))
 | .nilFunc=>some (.c .fn)
 | .nilIface=>some (.c .mV)
 | .pointer none=>some (.c .ptr)
 | .map none=>some (.c .mp)
 |_=>none
def VK : List Value->Option (List SV)
 |[]=>some []
 |v::r=>match apy v with|none=>none|some x=>match VK r with|none=>none|some l=>some (x::l)
def apz : Value->Option SV
 | .agg cs=>match VK cs.toList with|none=>none|some l=>some (.agg l)
 | .tuple vs=>if vs.isEmpty=true then some (.c .undef) else none
 |v=>apy v
theorem acB {ρ:List AV}{v:Value}{s:SV}(h:apy v=some s):ofC v=some (s.den ρ):=by
 unfold apy at h
 split at h<;>first|(cases h;done)|(simp only [aj] at h;subst h;rfl)
theorem Mc {ρ:List AV}:∀{l:List Value} {s:List SV},VK l=some s->l.mapM ofC=some (dU ρ s)
 |[],s,h=>by simp [VK] at h;subst h;rfl
 |v::r,s,h=>by
  simp only [VK] at h
  split at h
  .cases h
  .rename_i x hx
   split at h
   .cases h
   .rename_i l hl
    simp only [aj] at h
    subst h
    rw [List.mapM_cons,acB (ρ:=ρ) hx,Mc (ρ:=ρ) hl]
    rfl
theorem acC {ρ:List AV}{v:Value}{s:SV}(h:apz v=some s):ofV v=some (s.den ρ):=by
 unfold apz at h
 split at h
 .rename_i cs
  split at h
  .cases h
  .rename_i l hl
   simp only [aj] at h;subst h
   simp only [ofV,Mc (ρ:=ρ) hl]
   rfl
 .rename_i vs
  split at h
  .rename_i hv
   simp only [aj] at h;subst h
   simp only [ofV,hv,if_true]
   have:vs=#[]:=by simpa using hv
   subst this;rfl
  .cases h
 .rename_i h1 h2
  have:=acB (ρ:=ρ) h
  unfold ofV
  split
  .exact absurd rfl (h1 _)
  .exact absurd rfl (h2 _)
  .exact this
def CJ (pc:Pc)(fr:Tr qo):Operand->Option SV
 | .tmp t=>match fr.get t with
  |some e=>bif e.sure pc then some e.v else none
  |none=>none
 | .const v=>apz v
 | .func f=>some (.fn f [] [])
 | .global g=>match ahg g jY.tab with
  |none=>none
  |some row=>match VK row with
   |none=>none
   |some r=>some (.vp r 0)
section
variable {P : Program} {ρ:List AV} {pc:Pc} {tr:Tr qo} {fr:mg}
theorem iV (hp:pc.holds ρ)(hf:Zg ρ tr fr){x:Operand}{v:SV}(h:CJ pc tr x=some v):ev fr x=some (v.den ρ):=by
 cases x with
 |tmp t=>
  simp only [CJ] at h
  split at h
  .rename_i e he
   cases hs:e.sure pc
   .simp [hs] at h
   .simp [hs] at h;subst h
    simp only [ev];rw [hf t e he,qo.acA hp hs]
  .cases h
 |const v=>exact acC h
 |func f=>simp [CJ] at h;subst h;rfl
 |global g=>
  simp only [CJ] at h
  split at h
  .cases h
  .rename_i row hrow
   split at h
   .cases h
   .rename_i r hr
    simp only [aj] at h;subst h
    simp only [ev,hrow,Option.bind_some,Mc (ρ:=ρ) hr];rfl
def Oz (pc:Pc)(fr:Tr qo):List Operand->Option (List SV)
 |[]=>some []
 |x::r=>match CJ pc fr x with|none=>none|some a=>match Oz pc fr r with|none=>none|some l=>some (a::l)
theorem wL (hp:pc.holds ρ)(hf:Zg ρ tr fr):∀{l:List Operand} {s:List SV},Oz pc tr l=some s->YT fr l=some (dU ρ s)
 |[],s,h=>by simp [Oz] at h;subst h;rfl
 |x::r,s,h=>by
  simp only [Oz] at h
  split at h
  .cases h
  .rename_i a ha
   split at h
   .cases h
   .rename_i l hl
    simp only [aj] at h;subst h
    simp only [YT,iV hp hf ha,wL hp hf hl];rfl
def ajt {α:Type}(pc:Pc)(fr:Tr qo):List (α×Operand)->Option (List (α×SV))
 |[]=>some []
 |(i,x)::r=>match CJ pc fr x with|none=>none|some a=>match ajt pc fr r with|none=>none|some l=>some ((i,a)::l)
theorem aaN {α:Type}(hp:pc.holds ρ)(hf:Zg ρ tr fr):∀{l:List (α×Operand)} {s:List (α×SV)},ajt pc tr l=some s->YS fr l=some (s.map fun q=>(q.1,q.2.den ρ))
 |[],s,h=>by simp [ajt] at h;subst h;rfl
 |(i,x)::r,s,h=>by
  simp only [ajt] at h
  split at h
  .cases h
  .rename_i a ha
   split at h
   .cases h
   .rename_i l hl
    simp only [aj] at h;subst h
    simp only [YS,iV hp hf ha,aaN hp hf hl];rfl
end
structure SR where
 v:SV
 wr:List (Nat×Option SB)
 rd:List Nat
 sd:List Side
 nv:Nat
def SR.val (nv:Nat)(v:SV):SR:=⟨v,[],[],[],nv⟩
def SR.den (ρ:List AV)(r:SR):sQ:=⟨r.v.den ρ,r.wr.map fun x=>(x.1,x.2.map (SB.den ρ)),r.rd⟩
def aDZ (pc:Pc)(t:Tm):Option (List Side):=
 match pc.known t with
 |some true=>some []
 |some false=>none
 |none=>some [.tm t]
theorem oZ {P:Program}{ρ:List AV}{pc:Pc}(hp:pc.holds ρ){t:Tm}{l:List Side}(h:aDZ pc t=some l)(hs:∀s∈l,s.holds P ρ):(t.den ρ).B=true:=by
 unfold aDZ at h
 split at h
 .rename_i hk;exact Pc.gQ hp hk
 .cases h
 .simp only [aj] at h;subst h
  exact hs (.tm t) (by simp)
def FP (ty:Bool×Nat)(row:List SV)(off:Nat):Option SV:=
 bif ty.1 then (bif Nat.ble (off+ty.2) row.length then some (.agg ((row.drop off).take ty.2)) else none) else Eh row off
theorem fZ {ρ:List AV}{l:List SV}:(dU ρ l).length=l.length:=by rw [nX,dh]
theorem Gn {ρ:List AV}{l:List SV}{n:Nat}{x:SV}(h:Eh l n=some x):(dU ρ l)[n]?=some (x.den ρ):=by
 rw [nX,bP,<- yH,h];rfl
theorem Rj {ρ:List AV}{l:List SV}{n:Nat}:(dU ρ l).drop n=dU ρ (l.drop n):=by simp [nX,List.map_drop]
theorem Rk {ρ:List AV}{l:List SV}{n:Nat}:(dU ρ l).take n=dU ρ (l.take n):=by simp [nX,List.map_take]
theorem mF {ρ:List AV}{l m:List SV}:dU ρ (l++m)=dU ρ l++dU ρ m:=by simp [nX]
theorem f_ {ρ:List AV}{l:List (List SV)}:(iM ρ l).length=l.length:=by rw [l7,dh]
theorem Me {ρ:List AV}{l:List (List SV)}{n:Nat}{x:List SV}(h:Eh l n=some x):(iM ρ l)[n]?=some (dU ρ x):=by
 rw [l7,bP,<- yH,h];rfl
theorem yI {ρ:List AV}{l m:List (List SV)}:iM ρ (l++m)=iM ρ l++iM ρ m:=by simp [l7]
theorem aju {ρ:List AV}{l:List (List SV)}{n:Nat}{x:List SV}:(iM ρ l).set n (dU ρ x)=iM ρ (l.set n x):=by simp [l7,List.map_set]
theorem Ai {ρ:List AV}{l:List (List SV)}{n:Nat}:(iM ρ l).drop n=iM ρ (l.drop n):=by simp [l7,List.map_drop]
theorem Aj {ρ:List AV}{l:List (List SV)}{n:Nat}:(iM ρ l).take n=iM ρ (l.take n):=by simp [l7,List.map_take]
theorem yJ {ρ:List AV}{ty:Bool×Nat}{row:List SV}{off:Nat}{v:SV}(h:FP ty row off=some v){k:AV->Prop}(hk:k (v.den ρ)):apart ty (dU ρ row) off k:=by
 unfold FP at h
 unfold apart
 cases h1:ty.1
 .simp only [h1,cond_false] at h
  rw [if_neg (by simp)]
  exact dH.2 ⟨_,Gn h,hk⟩
 .simp only [h1,cond_true] at h
  rw [if_pos rfl]
  cases h2:Nat.ble (off+ty.2) row.length
  .simp [h2] at h
  .simp [h2] at h;subst h
   refine ⟨by rw [fZ];exact aC h2,?_⟩
   rw [Rj,Rk];exact hk
def zN (t:Tm):Option Nat:=match t with | .li (.ofNat n)=>some n|_=>none
theorem fQ {ρ:List AV}{t:Tm}{n:Nat}(h:zN t=some n):(t.den ρ).I=(n:Int)/\(t.den ρ).I.toNat=n:=by
 unfold zN at h
 split at h
 .simp only [aj] at h;subst h;exact ⟨rfl,rfl⟩
 .cases h
def IB (P:Program):Nat->TypeId->Option (List Kd)
  |0,_=>none
  |d+1,t=>match P.underlying t with
   |some .bool=>some [.bool]
   |some (.int k)=>some [.int k]
   |some (.float .f64)=>some [.kC]
   |some .string=>some [.str]
   |some (.slice _)=>some [.sl]
   |some (.struct fs)=>alR P (IB P d) fs.toList
   |some (.array n e)=>(IB P d e).map fun l=>(List.replicate n l).flatten
   |_=>none
 where alR (P:Program) (kf:TypeId->Option (List Kd)):List Field->Option (List Kd)
  |[]=>some []
  |f::r=>match kf f.type with|none=>none|some l=>match alR P kf r with|none=>none|some m=>some (l++m)
def kQ (n:Nat)(p:List Nat):Nat->List Kd->List SV
 |_,[]=>[]
 |j,k::r=>.sc k (.var n (p++[j]))::kQ n p (j+1) r
def aDW (P:Program)(n:Nat)(p:List Nat)(t:TypeId):Option SV:=
 match IB P 20 t,P.underlying t with
 |some l,some d=>bif J4 d then some (.agg (kQ n p 0 l)) else match l with | [k]=>some (.sc k (.var n p))|_=>none
 |_,_=>none
def acD (P:Program)(n:Nat):Nat->List TypeId->Option (List SV)
 |_,[]=>some []
 |j,t::r=>match aDW P n [j] t with|none=>none|some x=>match acD P n (j+1) r with|none=>none|some l=>some (x::l)
def alS (P:Program)(n:Nat)(f:FuncId):Option SV:=
 match P.funcs[f]? with
 |none=>none
 |some fn=>match fn.resultTypes.toList with
  |[t]=>aDW P n [] t
  |l=>(acD P n 0 l).map .fD
def awm (P:Program)(n off:Nat)(t:TypeId):Option SV:=
 match IB P 20 t,P.underlying t with
 |some l,some d=>bif J4 d then some (.agg (kQ n [] off l)) else match l with | [k]=>some (.sc k (.var n [off]))|_=>none
 |_,_=>none
end Go.Fw
end
section
namespace Go.Fw
variable [jY]
section
variable {P : Program} {ρ:List AV} {pc:Pc} {id nv:Nat} {fr:mg} {ah:AH} {tr:Tr qo} {th:Tr SB} {K:sQ->Prop}
theorem SR.uo {nv:Nat}{v:SV}:(SR.val nv v).den ρ=.val (v.den ρ):=rfl
def ahz (P:Program)(pc:Pc)(th:Tr SB)(nv:Nat)(t:TypeId)(a:SV):Option SR:=
 match Dy P t with
 |none=>none
 |some ty=>
  match a with
  | .vp row off=>(FP ty row off).map (SR.val nv)
  | .op b sz i off=>
   match th.get b with
   |some (.rows sz' rs)=>bif Nat.beq sz sz' then
     match zN i with
     |none=>none
     |some n=>match Eh rs n with
      |none=>none
      |some row=>(FP ty row off).map fun v=>⟨v,[],[b],[],nv⟩
    else none
   |some (.fK sz' t')=>bif Nat.beq sz sz' then
     (awm P nv off t).map fun v=>⟨v,[],[b],[.rd ty t' i off v],nv+1⟩
    else none
   |_=>none
  |_=>none
theorem acE {t:TypeId}{a:SV}{r:SR}(ha:Ig ρ th ah)(h:ahz P pc th nv t a=some r)(hs:∀s∈r.sd,s.holds P ρ)(hK:K (r.den ρ)):O8 P ah t (a.den ρ) K:=by
 unfold ahz at h
 split at h
 .cases h
 .rename_i ty hty
  refine dH.2 ⟨ty,hty,?_⟩
  split at h
  .rename_i row off
   simp only [ay] at h
   obtain ⟨v,hv,rfl⟩:=h
   exact yJ hv hK
  .rename_i b sz i off
   split at h
   .rename_i sz' rs hb
    cases h1:Nat.beq sz sz'
    .simp [h1] at h
    .simp only [h1,cond_true] at h
     split at h
     .cases h
     .rename_i n hn
      split at h
      .cases h
      .rename_i row hrow
       simp only [ay] at h
       obtain ⟨v,hv,rfl⟩:=h
       show (match ah b with|some (.rows sz' rs)=>sz=sz'/\gB rs[(i.den ρ).I.toNat]? fun row=>apart ty row off fun x=>K ⟨x,[],[b]⟩|_=>False)
       rw [ha _ _ hb]
       refine ⟨au h1,dH.2 ⟨dU ρ row,?_,yJ hv hK⟩⟩
       rw [(fQ hn).2];exact Me hrow
   .rename_i sz' t' hb
    cases h1:Nat.beq sz sz'
    .simp [h1] at h
    .simp only [h1,cond_true,ay] at h
     obtain ⟨v,hv,rfl⟩:=h
     show (match ah b with|some (.rows sz' rs)=>sz=sz'/\gB rs[(i.den ρ).I.toNat]? fun row=>apart ty row off fun x=>K ⟨x,[],[b]⟩|_=>False)
     rw [ha _ _ hb]
     obtain ⟨row,h2,h3⟩:=hs (.rd ty t' i off v) (by simp)
     refine ⟨au h1,dH.2 ⟨row,h2,Gj (fun x hx=>?_) h3⟩⟩
     subst hx;exact hK
   .cases h
  .cases h
def apA (row:List SV)(off:Nat)(cs:List SV):List SV:=row.take off++cs++row.drop (off+cs.length)
theorem ahA {row cs:List SV}{off:Nat}:lay (dU ρ row) off (dU ρ cs)=dU ρ (apA row off cs):=by
 simp [lay,apA,mF,Rk,Rj,fZ]
theorem Dl {v:SV}(h:v.F5=true):(v.den ρ).cells=dU ρ v.cells:=by
 cases v with
 |sc k t=>cases k<;>rfl
 |_=>first|rfl|(simp [SV.F5] at h)
theorem Py {v:SV}(h:v.F5=true):(v.den ρ).F5=true:=by
 cases v with
 |sc k t=>cases k<;>rfl
 |c v=>cases v<;>first|rfl|(simp [SV.F5] at h)
 |_=>first|rfl|(simp [SV.F5] at h)
def afx (P:Program)(pc:Pc)(th:Tr SB)(nv:Nat)(t:TypeId)(a v:SV):Option SR:=
 match Dy P t with
 |none=>none
 |some ty=>
  bif v.F5&&Nat.beq v.cells.length ty.2 then
   match a with
   | .op b sz i off=>
    match th.get b with
    |some (.rows sz' rs)=>bif Nat.beq sz sz' then
      match zN i with
      |none=>none
      |some n=>match Eh rs n with
       |none=>none
       |some row=>bif Nat.ble (off+ty.2) row.length then some ⟨.c .undef,[(b,some (.rows sz (rs.set n (apA row off v.cells))))],[b],[],nv⟩ else none
     else none
    |some (.fK sz' t')=>bif Nat.beq sz sz' then
      some ⟨.c .undef,[(b,some (.fK sz (.var nv [])))],[b],[.st t' i off v.cells (.var nv [])],nv+1⟩
     else none
    |_=>none
   |_=>none
  else none
theorem ajv {t:TypeId}{a v:SV}{r:SR}(ha:Ig ρ th ah)(h:afx P pc th nv t a v=some r)(hs:∀s∈r.sd,s.holds P ρ)(hK:K (r.den ρ)):Ih P ah t (a.den ρ) (v.den ρ) K:=by
 unfold afx at h
 split at h
 .cases h
 .rename_i ty hty
  refine dH.2 ⟨ty,hty,?_⟩
  cases h0:v.F5&&Nat.beq v.cells.length ty.2
  .simp [h0] at h
  .simp only [h0,cond_true] at h
   simp only [ak] at h0
   obtain ⟨hbx,hlen⟩:=h0
   have hlen:=au hlen
   split at h
   .rename_i b sz i off
    show (match ah b with|some (.rows sz' rs)=>sz=sz'/\(v.den ρ).F5=true/\(v.den ρ).cells.length=ty.2/\(gB rs[(i.den ρ).I.toNat]? fun row=>off+ty.2<=row.length/\(K ⟨.p undef,[(b,some (.rows sz (rs.set (i.den ρ).I.toNat (lay row off (v.den ρ).cells))))],[b]⟩))|_=>False)
    split at h
    .rename_i sz' rs hb
     cases h1:Nat.beq sz sz'
     .simp [h1] at h
     .simp only [h1,cond_true] at h
      split at h
      .cases h
      .rename_i n hn
       split at h
       .cases h
       .rename_i row hrow
        cases h2:Nat.ble (off+ty.2) row.length
        .simp [h2] at h
        .simp only [h2,cond_true,aj] at h
         subst h
         rw [ha _ _ hb]
         refine ⟨au h1,Py hbx,by rw [Dl hbx,fZ,hlen],dH.2 ⟨dU ρ row,by rw [(fQ hn).2];exact Me hrow,?_,?_⟩⟩
         .rw [fZ];exact aC h2
         .rw [(fQ hn).2,Dl hbx,ahA,aju];exact hK
    .rename_i sz' t' hb
     cases h1:Nat.beq sz sz'
     .simp [h1] at h
     .simp only [h1,cond_true,aj] at h
      subst h
      rw [ha _ _ hb]
      obtain ⟨row,q1,q2,q3⟩:=hs (.st t' i off v.cells (.var nv [])) (by simp)
      refine ⟨au h1,Py hbx,by rw [Dl hbx,fZ,hlen],dH.2 ⟨row,q1,by rw [<- hlen];exact q2,?_⟩⟩
      rw [Dl hbx]
      have:K ⟨.p undef,[(b,some (.rows sz ((Tm.var nv []).den ρ).R))],[b]⟩:=hK
      rw [q3] at this
      exact this
    .cases h
   .cases h
def OA (P:Program)(nv:Nat)(s:TypeId)(a:SV)(k:Nat):Option SR:=
 match YR P s k with
 |none=>none
 |some f=>bif Nat.beq f.2.2 0 then none else
  match a with
  | .vp row off=>some (.val nv (.vp row (off+f.1)))
  | .op b sz i off=>some (.val nv (.op b sz i (off+f.1)))
  |_=>none
theorem Yi {s:TypeId}{a:SV}{k:Nat}{r:SR}(h:OA P nv s a k=some r)(hK:K (r.den ρ)):Dz P s (a.den ρ) k K:=by
 unfold OA at h
 split at h
 .cases h
 .rename_i f hf
  refine dH.2 ⟨f,hf,?_⟩
  cases h0:Nat.beq f.2.2 0
  .simp only [h0,cond_false] at h
   refine ⟨fun e=>by rw [e] at h0;simp at h0,?_⟩
   split at h
   .simp only [aj] at h;subst h;exact hK
   .simp only [aj] at h;subst h;exact hK
   .cases h
  .simp [h0] at h
def afy (P:Program)(nv:Nat)(s:TypeId)(a:SV)(k:Nat):Option SR:=
 match YR P s k with
 |none=>none
 |some f=>match a with
  | .agg cs=>(FP f.2 cs f.1).map (.val nv)
  |_=>none
theorem ajw {s:TypeId}{a:SV}{k:Nat}{r:SR}(h:afy P nv s a k=some r)(hK:K (r.den ρ)):U8 P s (a.den ρ) k K:=by
 unfold afy at h
 split at h
 .cases h
 .rename_i f hf
  refine dH.2 ⟨f,hf,?_⟩
  split at h
  .simp only [ay] at h
   obtain ⟨v,hv,rfl⟩:=h
   exact yJ hv hK
  .cases h
def VL (nv:Nat)(x:SV)(k:Nat):Option SR:=
 match x with
 | .fD l=>(Eh l k).map (.val nv)
 |_=>none
theorem acF {x:SV}{k:Nat}{r:SR}(h:VL nv x k=some r)(hK:K (r.den ρ)):DC (x.den ρ) k K:=by
 unfold VL at h
 split at h
 .simp only [ay] at h
  obtain ⟨v,hv,rfl⟩:=h
  exact dH.2 ⟨_,Gn hv,hK⟩
 .cases h
def aEL (a b:Option (List Side)):Option (List Side):=match a,b with|some a,some b=>some (a++b)|_,_=>none
theorem Gp {a b:Option (List Side)}{l:List Side}(h:aEL a b=some l):∃x y,a=some x/\b=some y/\l=x++y:=by
 unfold aEL at h
 split at h
 .simp only [aj] at h;exact ⟨_,_,rfl,rfl,h.symm⟩
 .cases h
def ahB (pc:Pc)(s t:Tm):Option (List Side):=aEL (aDZ pc s) (aDZ pc t)
theorem KG (hp:pc.holds ρ){s t:Tm}{l:List Side}(h:ahB pc s t=some l)(hs:∀s∈l,s.holds P ρ):(s.den ρ).B=true/\(t.den ρ).B=true:=by
 obtain ⟨x,y,h1,h2,rfl⟩:=Gp h
 exact ⟨oZ hp h1 fun s hm=>hs s (by simp [hm]),oZ hp h2 fun s hm=>hs s (by simp [hm])⟩
def leT (x y:Tm):Tm:=aDz .leq (.int .i64) x y
def ltT (x y:Tm):Tm:=aDz .lss (.int .i64) x y
theorem yK {x y:Tm}(h:((leT x y).den ρ).B=true):(x.den ρ).I<=(y.den ρ).I:=by
 simpa [leT,oK,qJ,D.EH] using h
theorem aaO {x y:Tm}(h:((ltT x y).den ρ).B=true):(x.den ρ).I<(y.den ρ).I:=by
 simpa [ltT,oK,qJ,D.EH] using h
def aEx (P:Program)(t:TypeId):Option TypeId:=match P.underlying t with|some (.slice e)=>some e|_=>none
def OB (P:Program)(pc:Pc)(nv:Nat)(t:TypeId)(x i:SV):Option SR:=
 match i with
 | .sc (.int _) n=>
  match x with
  | .sc .sl tm | .sf tm=>
   match mW P t,aEx P t with
   |some e,some el=>match IB P 20 el with
    |none=>none
    |some ks=>bif Nat.beq ks.length e.1 then
      some ⟨.vp (kQ nv [] 0 ks) 0,[],[],[.row tm n (kQ nv [] 0 ks)],nv+1⟩
     else none
   |_,_=>none
  | .slc rows _=>
   match mW P t,zN n with
   |some e,some j=>match Eh rows j with
    |none=>none
    |some row=>bif Nat.beq row.length e.1 then some (.val nv (.vp row 0)) else none
   |_,_=>none
  | .os b sz off len=>
   match mW P t,ahB pc (leT (.li 0) n) (ltT n len) with
   |some e,some l=>bif Nat.beq sz e.1 then
     match off,zN n with
     |0,_=>some ⟨.op b sz n 0,[],[],l,nv⟩
     |off,some j=>some ⟨.op b sz (.li (.ofNat (off+j))) 0,[],[],l,nv⟩
     |_,_=>none
    else none
   |_,_=>none
  | .vp row off=>
   match Bg P t,zN n with
   |some e,some j=>bif Nat.blt j e.1 then some (.val nv (.vp row (off+j*e.2.1))) else none
   |_,_=>none
  | .op b sz j off=>
   match Bg P t with
   |some e=>bif Nat.beq sz e.2.1 then
     match zN n,zN j with
     |some m,some q=>bif Nat.blt m e.1 then some (.val nv (.op b sz (.li (.ofNat (q+m))) off)) else none
     |none,some 0=>match ahB pc (leT (.li 0) n) (ltT n (.li (.ofNat e.1))) with
      |some l=>some ⟨.op b sz n off,[],[],l,nv⟩
      |none=>none
     |_,_=>none
    else match zN n with
     |some m=>bif Nat.blt m e.1 then some (.val nv (.op b sz j (off+m*e.2.1))) else none
     |none=>none
   |none=>none
  |_=>none
 |_=>none
theorem NJ {n:Nat}{p:List Nat}:∀{ks:List Kd} {j:Nat},(kQ n p j ks).length=ks.length
 |[],_=>rfl
 |k::r,j=>by simp [kQ,NJ (ks:=r)]
theorem OC {a b:Nat}(h:Nat.blt a b=true):a<b:=aC h
theorem Yj {t:TypeId}{x i:SV}{r:SR}(hp:pc.holds ρ)(h:OB P pc nv t x i=some r)(hs:∀s∈r.sd,s.holds P ρ)(hK:K (r.den ρ)):uG P t (x.den ρ) (i.den ρ) K:=by
 have frozen:∀(k:IntKind) (tm n:Tm) (full:Bool) (r:SR),(match mW P t,aEx P t with
   |some e,some el=>match IB P 20 el with
    |none=>none
    |some ks=>bif Nat.beq ks.length e.1 then
      some ⟨.vp (kQ nv [] 0 ks) 0,[],[],[.row tm n (kQ nv [] 0 ks)],nv+1⟩
     else none
   |_,_=>none)=some r->(∀s∈r.sd,s.holds P ρ)->K (r.den ρ)->uG P t (.sl (tm.den ρ).R full) (.p (.int k (n.den ρ).I)) K:=by
  intro k tm n full r h hs hK
  split at h
  .rename_i e el he hel
   split at h
   .cases h
   .rename_i ks hks
    cases h1:Nat.beq ks.length e.1
    .simp [h1] at h
    .simp only [h1,cond_true,aj] at h
     subst h
     obtain ⟨h2,h3⟩:=hs (.row tm n (kQ nv [] 0 ks)) (by simp)
     refine dH.2 ⟨e,he,h2,dH.2 ⟨_,h3,?_,hK⟩⟩
     rw [fZ,NJ];exact au h1
  .cases h
 unfold OB at h
 split at h
 .rename_i k n
  split at h
  .exact frozen k _ n false r h hs hK
  .exact frozen k _ n true r h hs hK
  .split at h
   .rename_i e j he hj
    split at h
    .cases h
    .rename_i row hrow
     cases h1:Nat.beq row.length e.1
     .simp [h1] at h
     .simp only [h1,cond_true,aj] at h
      subst h
      refine dH.2 ⟨e,he,?_,dH.2 ⟨dU ρ row,?_,by rw [fZ];exact au h1,hK⟩⟩
      .rw [(fQ hj).1];omega
      .rw [(fQ hj).2];exact Me hrow
   .cases h
  .rename_i b sz off len
   split at h
   .rename_i e l he hl
    cases h1:Nat.beq sz e.1
    .simp [h1] at h
    .simp only [h1,cond_true] at h
     have main:r.sd=l->(0<=(n.den ρ).I/\(n.den ρ).I.toNat<(len.den ρ).I.toNat):=by
      intro hsd
      have:=KG (P:=P) hp hl (fun s hm=>hs s (by rw [hsd];exact hm))
      have q1:(0:Int)<=(n.den ρ).I:=yK this.1
      have q2:=aaO this.2
      omega
     split at h
     .simp only [aj] at h
      obtain ⟨m1,m2⟩:=main (by rw [<- h])
      subst h
      refine dH.2 ⟨e,he,m1,m2,au h1,?_⟩
      rw [Nat.zero_add];exact hK
     .rename_i off j hoff hj
      simp only [aj] at h
      obtain ⟨m1,m2⟩:=main (by rw [<- h])
      subst h
      refine dH.2 ⟨e,he,m1,m2,au h1,?_⟩
      rw [(fQ hj).2]
      exact hK
     .cases h
   .cases h
  .rename_i row off
   split at h
   .rename_i e j he hj
    cases h1:Nat.blt j e.1
    .simp [h1] at h
    .simp only [h1,cond_true,aj] at h
     subst h
     refine dH.2 ⟨e,he,by rw [(fQ hj).1];omega,by rw [(fQ hj).2];exact OC h1,?_⟩
     rw [(fQ hj).2];exact hK
   .cases h
  .rename_i b sz j off
   split at h
   .rename_i e he
    cases hq:Nat.beq sz e.2.1
    .simp only [hq,cond_false] at h
     split at h
     .rename_i m hm
      cases h1:Nat.blt m e.1
      .simp [h1] at h
      .simp only [h1,cond_true,aj] at h
       subst h
       refine dH.2 ⟨e,he,by rw [(fQ hm).1];omega,by rw [(fQ hm).2];exact OC h1,?_⟩
       rw [(fQ hm).2,hq];exact hK
     .cases h
    .simp only [hq,cond_true] at h
     split at h
     .rename_i m q hm hj
      cases h1:Nat.blt m e.1
      .simp [h1] at h
      .simp only [h1,cond_true,aj] at h
       subst h
       refine dH.2 ⟨e,he,by rw [(fQ hm).1];omega,by rw [(fQ hm).2];exact OC h1,?_⟩
       rw [(fQ hm).2,hq,(fQ hj).2];exact hK
     .rename_i hm hj
      split at h
      .rename_i l hl
       simp only [aj] at h
       subst h
       obtain ⟨m1,m2⟩:=KG (P:=P) hp hl hs
       have m1:(0:Int)<=_:=yK m1
       have m2:=aaO m2
       have m2':(n.den ρ).I<(e.1:Int):=m2
       refine dH.2 ⟨e,he,m1,by omega,?_⟩
       rw [hq,(fQ hj).2,Nat.zero_add];exact hK
      .cases h
     .cases h
   .cases h
  .cases h
 .cases h
def Zh : Tm->Tm
 | .ls l=>.li l.length
 |s=>.slen s
theorem MB {s:Tm}:((Zh s).den ρ).I=((s.den ρ).S.length:Int):=by unfold Zh;split<;>rfl
def ahC (s n:Tm):Tm:=
 match s,zN n with
 | .ls l,some j=>.li ((l.getD j 0).toNat:Nat)
 |s,_=>.byte s n
theorem ajx {s n:Tm}:((ahC s n).den ρ).I=(((s.den ρ).S.getD (n.den ρ).I.toNat 0).toNat:Int):=by
 unfold ahC
 split
 .rename_i l j hj;rw [(fQ hj).2];rfl
 .rfl
def afA (P:Program)(pc:Pc)(nv:Nat)(t:TypeId)(x i:SV):Option SR:=
 match i with
 | .sc (.int _) n=>
  match x with
  | .sc .str s=>
   match P.underlying t,ahB pc (leT (.li 0) n) (ltT n (Zh s)) with
   |some .string,some l=>some ⟨.sc (.int .u8) (ahC s n),[],[],l,nv⟩
   |_,_=>none
  | .agg cs=>
   match Bg P t,zN n with
   |some e,some j=>bif Nat.blt j e.1 then (FP (e.2.2,e.2.1) cs (j*e.2.1)).map (.val nv) else none
   |_,_=>none
  |_=>none
 |_=>none
theorem ajy {t:TypeId}{x i:SV}{r:SR}(hp:pc.holds ρ)(h:afA P pc nv t x i=some r)(hs:∀s∈r.sd,s.holds P ρ)(hK:K (r.den ρ)):N9 P t (x.den ρ) (i.den ρ) K:=by
 unfold afA at h
 split at h
 .rename_i k n
  split at h
  .rename_i s
   split at h
   .rename_i l hu hl
    simp only [aj] at h
    subst h
    obtain ⟨h1,h2⟩:=KG (P:=P) hp hl (fun s hm=>hs s hm)
    have q1:(0:Int)<=(n.den ρ).I:=yK h1
    have q2:=aaO h2
    rw [MB] at q2
    have hlt:(n.den ρ).I.toNat<(s.den ρ).S.length:=by omega
    refine ⟨hu,q1,dH.2 ⟨(s.den ρ).S[(n.den ρ).I.toNat],by simp [hlt],?_⟩⟩
    have hv:((ahC s n).den ρ).I=(((s.den ρ).S[(n.den ρ).I.toNat]).toNat:Int):=by rw [ajx];simp [hlt]
    rw [<- hv];exact hK
   .cases h
  .rename_i cs
   split at h
   .rename_i e j he hj
    cases h1:Nat.blt j e.1
    .simp [h1] at h
    .simp only [h1,cond_true,ay] at h
     obtain ⟨v,hv,rfl⟩:=h
     refine dH.2 ⟨e,he,by rw [(fQ hj).1];omega,by rw [(fQ hj).2];exact OC h1,?_⟩
     rw [(fQ hj).2];exact yJ hv hK
   .cases h
  .cases h
 .cases h
end
end Go.Fw
end
section
namespace Go.Fw
variable [jY]
section
variable {P : Program} {ρ:List AV} {pc:Pc} {id nv:Nat} {fr:mg} {ah:AH} {tr:Tr qo} {th:Tr SB} {K:sQ->Prop}
def ajz (P:Program)(eqv:TypeId->SV->SV->Option Tm)(xs ys:List SV):List Field->Option Tm
 |[]=>some (.lb true)
 |f::fs=>bif decide (f.name≠ "_") then
   match Dy P f.type with
   |none=>none
   |some ty=>match FP ty xs f.offset,FP ty ys f.offset with
    |some a,some b=>match eqv f.type a b,ajz P eqv xs ys fs with
     |some r,some s=>some (aDU r s)
     |_,_=>none
    |_,_=>none
  else ajz P eqv xs ys fs
def yEq (P:Program):Nat->TypeId->SV->SV->Option Tm
 |0,_,_,_=>none
 |d+1,t,x,y=>
  match P.underlying t with
  |none=>none
  |some u=>match u,x,y with
   | .bool,.sc .bool a,.sc .bool b=>some (NI .eql .bool a b)
   | .int _,.sc (.int k) a,.sc (.int k') b=>bif decide (k=k') then some (NI .eql (.int k) a b) else none
   | .float _,.sc .kC a,.sc .kC b=>some (NI .eql .kC a b)
   | .string,.sc .str a,.sc .str b=>some (NI .eql .str a b)
   | .pointer _,.c .ptr,.c .ptr=>some (.lb true)
   | .pointer _,.c .ptr,.vp _ _=>some (.lb false)
   | .pointer _,.c .ptr,.op _ _ _ _=>some (.lb false)
   | .pointer _,.vp _ _,.c .ptr=>some (.lb false)
   | .pointer _,.op _ _ _ _,.c .ptr=>some (.lb false)
   | .interface _,.c .mV,.c .mV=>some (.lb true)
   | .interface _,.c .mV,.mV _ _=>some (.lb false)
   | .interface _,.mV _ _,.c .mV=>some (.lb false)
   | .struct fs,.agg xs,.agg ys=>bif P.stoodInHeld t then none else ajz P (yEq P d) xs ys fs.toList
   |_,_,_=>none
theorem VN {ty:Bool×Nat}{row:List SV}{off:Nat}{v:SV}(h:FP ty row off=some v):N_ ty (dU ρ row) off=some (v.den ρ):=by
 have:=yJ (ρ:=ρ) h (k:=fun x=>x=v.den ρ) rfl
 unfold apart at this
 unfold N_
 split at this
 .rename_i h1;rw [if_pos h1,if_pos this.1,this.2]
 .rename_i h1;rw [if_neg h1];obtain ⟨z,hz,rfl⟩:=dH.1 this;exact hz
theorem aaP {eqv:TypeId->SV->SV->Option Tm}{eqa:TypeId->AV->AV->Option Bool}(he:∀t x y tm,eqv t x y=some tm->eqa t (x.den ρ) (y.den ρ)=some (tm.den ρ).B){xs ys:List SV} :
  ∀{fs:List Field} {tm:Tm},ajz P eqv xs ys fs=some tm->ab4 P eqa (dU ρ xs) (dU ρ ys) fs=some (tm.den ρ).B
 |[],tm,h=>by simp [ajz] at h;subst h;rfl
 |f::fs,tm,h=>by
  unfold ajz at h
  by_cases hn:f.name≠ "_"
  .rw [show decide (f.name≠ "_")=true by simpa using hn] at h
   simp only [cond_true] at h
   split at h
   .cases h
   .rename_i ty hty
    split at h
    .rename_i a b ha hb
     split at h
     .rename_i r s hr hs
      simp only [aj] at h;subst h
      unfold ab4
      rw [if_pos hn,hty,Option.bind_some,VN ha,Option.bind_some,VN hb,Option.bind_some,he _ _ _ _ hr,Option.bind_some,aaP he hs,xP]
      rfl
     .cases h
    .cases h
  .rw [show decide (f.name≠ "_")=false by simpa using hn] at h
   simp only [cond_false] at h
   unfold ab4
   rw [if_neg hn]
   exact aaP he h
theorem Rl : ∀{d:Nat} {t:TypeId} {x y:SV} {tm:Tm},yEq P d t x y=some tm->aeq P d t (x.den ρ) (y.den ρ)=some (tm.den ρ).B
 |0,t,x,y,tm,h=>by simp [yEq] at h
 |d+1,t,x,y,tm,h=>by
  unfold yEq at h
  split at h
  .cases h
  .rename_i u hu
   split at h
   .simp only [aj] at h;subst h;simp [aeq,hu,SV.den,Kd.av,vJ,qJ,D.EH,Nr]
   .rename_i k a k' b
    by_cases hk:k=k'
    .subst hk;simp at h;subst h;simp [aeq,hu,SV.den,Kd.av,vJ,qJ,D.EH,dZ]
    .simp [hk] at h
   .simp only [aj] at h;subst h;simp [aeq,hu,SV.den,Kd.av,vJ,qJ,D.EH,fEq,Op.floatEq]
   .simp only [aj] at h;subst h;simp [aeq,hu,SV.den,Kd.av,vJ,qJ,D.EH,zW]
   .simp only [aj] at h;subst h;simp [aeq,hu,SV.den,Cv.val,Tm.den,D.EH]
   .simp only [aj] at h;subst h;simp [aeq,hu,SV.den,Cv.val,Tm.den,D.EH]
   .simp only [aj] at h;subst h;simp [aeq,hu,SV.den,Cv.val,Tm.den,D.EH]
   .simp only [aj] at h;subst h;simp [aeq,hu,SV.den,Cv.val,Tm.den,D.EH]
   .simp only [aj] at h;subst h;simp [aeq,hu,SV.den,Cv.val,Tm.den,D.EH]
   .simp only [aj] at h;subst h;simp [aeq,hu,SV.den,Cv.val,Tm.den,D.EH]
   .simp only [aj] at h;subst h;simp [aeq,hu,SV.den,Cv.val,Tm.den,D.EH]
   .simp only [aj] at h;subst h;simp [aeq,hu,SV.den,Cv.val,Tm.den,D.EH]
   .rename_i fs xs ys
    cases h1:P.stoodInHeld t
    .simp only [h1,cond_false] at h
     simp only [SV.den,aeq,hu,h1]
     rw [if_neg (by simp)]
     exact aaP (fun _ _ _ _ he=>Rl he) h
    .simp [h1] at h
   .cases h
def Zi (P:Program)(t:TypeId)(x:SV)(c:Bool):Bool:=
 match x with
 | .agg _=>!(P.eqGuardType P.depth t)
 | .c .mV=>c
 |_=>true
theorem acG {t:TypeId}{x:SV}{c:Bool}(h:Zi P t x c=true):afc P t (x.den ρ) c:=by
 unfold Zi at h
 split at h
 .simpa [afc,SV.den] using h
 .exact h
 .rename_i h1 h2
  cases x with
  |agg l=>exact absurd rfl (h1 l)
  |sc k t=>cases k<;>trivial
  |c v=>cases v<;>first|trivial|exact absurd rfl h2
  |_=>trivial
theorem ajA {t:TypeId}{c:Bool}{a b:AV}{KV:AV->Prop}{r:Bool}(ha:∀k n,a≠.p (.int k n))(hf:∀k n,a≠.p (.float k n))(hs:∀s,a≠.str s)(hok:afc P t a c)(he:aeq P 10000 t a b=some r)(h:KV (.p (.bool r))):Oa P .eql t c a b KV:=by
 unfold Oa
 split<;>first|exact absurd rfl (ha _ _)|exact absurd rfl (hf _ _)|exact absurd rfl (hs _)|skip
 all_goals first|exact ⟨hok,dH.2 ⟨r,he,h⟩⟩|simp_all
theorem ajB {t:TypeId}{c:Bool}{a b:AV}{KV:AV->Prop}{r:Bool}(ha:∀k n,a≠.p (.int k n))(hf:∀k n,a≠.p (.float k n))(hs:∀s,a≠.str s)(hok:afc P t a c)(he:aeq P 10000 t a b=some r)(h:KV (.p (.bool (!r)))):Oa P .neq t c a b KV:=by
 unfold Oa
 split<;>first|exact absurd rfl (ha _ _)|exact absurd rfl (hf _ _)|exact absurd rfl (hs _)|skip
 all_goals first|exact ⟨hok,dH.2 ⟨r,he,h⟩⟩|simp_all
def atK (o:BinOp)(x y:Nat):Bool:=match o with
 | .add=>(FloatKind.f64.format.add x y).isSome
 | .sub=>(FloatKind.f64.format.sub x y).isSome
 | .mul=>(FloatKind.f64.format.mul x y).isSome
 | .quo=>(FloatKind.f64.format.div x y).isSome
 |_=>false
def ajC (o:BinOp)(x y:Tm):List Side:=
 match x,y with
 | .lf a,.lf b=>bif atK o a b then [] else [.fop o x y]
 |x,y=>[.fop o x y]
theorem apC {o:BinOp}{x y:Tm}(h:∀s∈ajC o x y,s.holds P ρ):(Side.fop o x y).holds P ρ:=by
 unfold ajC at h
 split at h
 .rename_i a b
  cases h1:atK o a b
  .exact h (.fop o (.lf a) (.lf b)) (by simp [h1])
  .cases o<;>first|exact h1|(simp [atK] at h1)
 .exact h (.fop o x y) (by simp)
def atL (x y:Tm):List Side:=
 match x,y with
 | .ls a,.ls b=>bif Nat.ble (a.length+b.length) 4294967296 then [] else [.cat x y]
 |x,y=>[.cat x y]
theorem apD {x y:Tm}(h:∀s∈atL x y,s.holds P ρ):(Side.cat x y).holds P ρ:=by
 unfold atL at h
 split at h
 .rename_i a b
  cases h1:Nat.ble (a.length+b.length) 4294967296
  .exact h (.cat (.ls a) (.ls b)) (by simp [h1])
  .exact aC h1
 .exact h (.cat x y) (by simp)
def Jv : BinOp->Bool
 | .eql | .neq | .lss | .leq | .gtr | .geq=>true
 |_=>false
def arS (pc:Pc)(nv:Nat)(o:BinOp)(k:IntKind)(a:Tm)(k':IntKind)(b:Tm):Option SR:=
 match o with
 | .shl=>(aDZ pc (leT (.li 0) b)).map fun l=>⟨.sc (.int k) (aDz .shl (.int k) a b),[],[],l,nv⟩
 | .shr=>(aDZ pc (leT (.li 0) b)).map fun l=>⟨.sc (.int k) (aDz .shr (.int k) a b),[],[],l,nv⟩
 | .quo=>bif decide (k=k') then (aDZ pc (aDz .neq (.int k) b (.li 0))).map fun l=>⟨.sc (.int k) (aDz .quo (.int k) a b),[],[],l,nv⟩ else none
 | .rem=>bif decide (k=k') then (aDZ pc (aDz .neq (.int k) b (.li 0))).map fun l=>⟨.sc (.int k) (aDz .rem (.int k) a b),[],[],l,nv⟩ else none
 |o=>bif decide (k=k') then some (.val nv (bif Jv o then .sc .bool (NI o (.int k) a b) else .sc (.int k) (aDz o (.int k) a b))) else none
def acH (nv:Nat)(o:BinOp)(a b:Tm):Option SR:=
 bif Jv o then some (.val nv (.sc .bool (NI o .kC a b)))
 else match o with
  | .add=>some ⟨.sc .kC (aDz .add .kC a b),[],[],ajC .add a b,nv⟩
  | .sub=>some ⟨.sc .kC (aDz .sub .kC a b),[],[],ajC .sub a b,nv⟩
  | .mul=>some ⟨.sc .kC (aDz .mul .kC a b),[],[],ajC .mul a b,nv⟩
  | .quo=>some ⟨.sc .kC (aDz .quo .kC a b),[],[],ajC .quo a b,nv⟩
  |_=>none
def acI (nv:Nat)(o:BinOp)(a b:Tm):Option SR:=
 bif Jv o then some (.val nv (.sc .bool (NI o .str a b)))
 else match o with
  | .add=>some ⟨.sc .str (aDz .add .str a b),[],[],atL a b,nv⟩
  |_=>none
def acJ (P:Program)(nv:Nat)(o:BinOp)(t:TypeId)(c:Bool)(x y:SV):Option SR:=
 match o with
 | .eql=>bif Zi P t x c then (yEq P 10000 t x y).map fun tm=>.val nv (.sc .bool tm) else none
 | .neq=>bif Zi P t x c then (yEq P 10000 t x y).map fun tm=>.val nv (.sc .bool (aDL tm)) else none
 |_=>none
def SV.isNum : SV->Bool
 | .sc (.int _) _ | .sc .kC _ | .sc .str _=>true
 |_=>false
def atM (P:Program)(pc:Pc)(nv:Nat)(o:BinOp)(t:TypeId)(c:Bool)(x y:SV):Option SR:=
 match x,y with
 | .sc (.int k) a,.sc (.int k') b=>arS pc nv o k a k' b
 | .sc .kC a,.sc .kC b=>acH nv o a b
 | .sc .str a,.sc .str b=>acI nv o a b
 |x,y=>bif x.isNum then none else acJ P nv o t c x y
theorem getD_some {o:Option Nat}(h:o.isSome=true):o=some (o.getD 0):=by cases o<;>simp_all
theorem alT {o:BinOp}{t:TypeId}{c:Bool}{k k':IntKind}{a b:Tm}{r:SR}(hp:pc.holds ρ)(h:arS pc nv o k a k' b=some r)(hs:∀s∈r.sd,s.holds P ρ)(hK:K (r.den ρ)) :
  Oa P o t c (.p (.int k (a.den ρ).I)) (.p (.int k' (b.den ρ).I)) fun a=>K (.val a):=by
 have rest:(bif decide (k=k') then some (SR.val nv (bif Jv o then .sc .bool (NI o (.int k) a b) else .sc (.int k) (aDz o (.int k) a b))) else none)=some r->k=k'/\
   K (.val (bif Jv o then (.p (.bool (qJ o (.int k) (a.den ρ) (b.den ρ)).B)) else (.p (.int k (qJ o (.int k) (a.den ρ) (b.den ρ)).I)))):=by
  intro h
  by_cases hk:k=k'
  .subst hk
   simp only [decide_true,cond_true,aj] at h
   subst h
   refine ⟨rfl,?_⟩
   cases hc:Jv o<;>simp only [hc,cond_true,cond_false,SR.uo,SV.den,Kd.av,oK,vJ] at hK ⊢<;>exact hK
  .simp [hk] at h
 have div:∀o:BinOp,(bif decide (k=k') then (aDZ pc (aDz .neq (.int k) b (.li 0))).map fun l=>(⟨.sc (.int k) (aDz o (.int k) a b),[],[],l,nv⟩:SR) else none)=some r->k=k'/\(b.den ρ).I≠0/\
   K (.val (.p (.int k (qJ o (.int k) (a.den ρ) (b.den ρ)).I))):=by
  intro o h
  by_cases hk:k=k'
  .subst hk
   simp only [decide_true,cond_true,ay] at h
   obtain ⟨l,hl,rfl⟩:=h
   have h0:=oZ (P:=P) hp hl hs
   rw [oK] at h0
   refine ⟨rfl,?_,?_⟩
   .simpa [qJ,D.EH,jC,Tm.den,D.I] using h0
   .have:K (.val (.p (.int k ((aDz o (.int k) a b).den ρ).I))):=hK
    rwa [oK] at this
  .simp [hk] at h
 have sh:∀o:BinOp,(aDZ pc (leT (.li 0) b)).map (fun l=>(⟨.sc (.int k) (aDz o (.int k) a b),[],[],l,nv⟩:SR))=some r->0<=(b.den ρ).I/\
   K (.val (.p (.int k (qJ o (.int k) (a.den ρ) (b.den ρ)).I))):=by
  intro o h
  simp only [ay] at h
  obtain ⟨l,hl,rfl⟩:=h
  have h0:(0:Int)<=(b.den ρ).I:=yK (oZ (P:=P) hp hl hs)
  refine ⟨h0,?_⟩
  have:K (.val (.p (.int k ((aDz o (.int k) a b).den ρ).I))):=hK
  rwa [oK] at this
 cases o
 case shl=>exact sh .shl h
 case shr=>exact sh .shr h
 case quo=>exact div .quo h
 case rem=>exact div .rem h
 all_goals exact rest h
theorem alU {o:BinOp}{t:TypeId}{c:Bool}{a b:Tm}{r:SR}(h:acH nv o a b=some r)(hs:∀s∈r.sd,s.holds P ρ)(hK:K (r.den ρ)) :
  Oa P o t c (.p (.float .f64 (a.den ρ).F)) (.p (.float .f64 (b.den ρ).F)) fun a=>K (.val a):=by
 cases o
 case add|sub|mul|quo=>
  simp only [acH,Jv,cond_false,aj] at h
  subst h
  have:=apC (P:=P) (ρ:=ρ) hs
  refine ⟨rfl,dH.2 ⟨_,getD_some this,?_⟩⟩
  simp only [SR.den,SV.den,Kd.av,oK,vJ,List.map_nil] at hK
  exact hK
 case eql|neq|lss|leq|gtr|geq=>
  simp only [acH,Jv,cond_true,aj] at h
  subst h
  simp only [SR.uo,SV.den,Kd.av,oK,vJ] at hK
  exact ⟨rfl,hK⟩
 all_goals (simp [acH,Jv] at h)
theorem alV {o:BinOp}{t:TypeId}{c:Bool}{a b:Tm}{r:SR}(h:acI nv o a b=some r)(hs:∀s∈r.sd,s.holds P ρ)(hK:K (r.den ρ)) :
  Oa P o t c (.str (a.den ρ).S) (.str (b.den ρ).S) fun a=>K (.val a):=by
 cases o
 case add=>
  simp only [acI,Jv,cond_false,aj] at h
  subst h
  have:=apD (P:=P) (ρ:=ρ) hs
  simp only [SR.den,SV.den,Kd.av,oK,vJ,List.map_nil] at hK
  exact ⟨this,hK⟩
 case eql|neq|lss|leq|gtr|geq=>
  simp only [acI,Jv,cond_true,aj] at h
  subst h
  simp only [SR.uo,SV.den,Kd.av,oK,vJ] at hK
  exact hK
 all_goals (simp [acI,Jv] at h)
theorem ajD {x:SV}(h:x.isNum=false):(∀k n,x.den ρ≠.p (.int k n))/\(∀k n,x.den ρ≠.p (.float k n))/\(∀s,x.den ρ≠.str s):=by
 cases x with
 |sc k' t=>cases k'<;>simp [SV.isNum] at h<;>simp [SV.den,Kd.av]
 |c v=>cases v<;>simp [SV.den,Cv.val,Go.undef]
 |_=>simp [SV.den]
theorem alW {o:BinOp}{t:TypeId}{c:Bool}{x y:SV}{r:SR}(hn:x.isNum=false)(h:acJ P nv o t c x y=some r)(hK:K (r.den ρ)) :
  Oa P o t c (x.den ρ) (y.den ρ) fun a=>K (.val a):=by
 obtain ⟨h1,h2,h3⟩:=ajD (ρ:=ρ) hn
 cases o
 case eql=>
  simp only [acJ] at h
  cases h4:Zi P t x c
  .simp [h4] at h
  .simp only [h4,cond_true,ay] at h
   obtain ⟨tm,htm,rfl⟩:=h
   exact ajA h1 h2 h3 (acG h4) (Rl htm) hK
 case neq=>
  simp only [acJ] at h
  cases h4:Zi P t x c
  .simp [h4] at h
  .simp only [h4,cond_true,ay] at h
   obtain ⟨tm,htm,rfl⟩:=h
   refine ajB h1 h2 h3 (acG h4) (Rl htm) ?_
   have:K (.val (.p (.bool ((aDL tm).den ρ).B))):=hK
   rwa [oL] at this
 all_goals (simp [acJ] at h)
theorem apE {o:BinOp}{t:TypeId}{c:Bool}{x y:SV}{r:SR}(hp:pc.holds ρ)(h:atM P pc nv o t c x y=some r)(hs:∀s∈r.sd,s.holds P ρ)(hK:K (r.den ρ)) :
  Oa P o t c (x.den ρ) (y.den ρ) fun a=>K (.val a):=by
 unfold atM at h
 split at h
 .exact alT hp h hs hK
 .exact alU h hs hK
 .exact alV h hs hK
 .cases hn:x.isNum
  .simp only [hn,cond_false] at h
   exact alW hn h hK
  .simp [hn] at h
end
end Go.Fw
end
section
namespace Go.Fw
variable [jY]
section
variable {P : Program} {ρ:List AV} {pc:Pc} {id nv:Nat} {fr:mg} {ah:AH} {tr:Tr qo} {th:Tr SB} {K:sQ->Prop}
def apF (k:Kd)(x:Tm):Tm:=match x.Nu with|some d=>Tm.ofD ((Tm.neg k x).den [])|none=>.neg k x
def atN (k:IntKind)(x:Tm):Tm:=match x.Nu with|some d=>Tm.ofD ((Tm.com k x).den [])|none=>.com k x
def alX (k:IntKind)(x:Tm):Tm:=match x.Nu with|some d=>Tm.ofD ((Tm.conv k x).den [])|none=>.conv k x
def atP (x:Tm):Tm:=match x.Nu with|some d=>Tm.ofD ((Tm.toF x).den [])|none=>.toF x
def awn (x:Tm):Tm:=match x.Nu with|some d=>Tm.ofD ((Tm.UJ x).den [])|none=>.UJ x
theorem UL {x:Tm}{d:D}(h:x.Nu=some d)(ρ ρ':List AV):x.den ρ=x.den ρ':=by rw [Tm.Gm h,Tm.Gm h]
theorem alY {k:Kd}{x:Tm}:(apF k x).den ρ=(Tm.neg k x).den ρ:=by
 unfold apF
 split
 .rename_i d hd
  rw [Tm.L_ (by intro l;cases k<;>simp [Tm.den])]
  simp only [Tm.den,UL hd ρ []]
 .rfl
theorem alZ {k:IntKind}{x:Tm}:(atN k x).den ρ=(Tm.com k x).den ρ:=by
 unfold atN
 split
 .rename_i d hd
  rw [Tm.L_ (by intro l;simp [Tm.den])]
  simp only [Tm.den,UL hd ρ []]
 .rfl
theorem ajE {k:IntKind}{x:Tm}:(alX k x).den ρ=(Tm.conv k x).den ρ:=by
 unfold alX
 split
 .rename_i d hd
  rw [Tm.L_ (by intro l;simp [Tm.den])]
  simp only [Tm.den,UL hd ρ []]
 .rfl
theorem al0 {x:Tm}:(atP x).den ρ=(Tm.toF x).den ρ:=by
 unfold atP
 split
 .rename_i d hd
  rw [Tm.L_ (by intro l;simp [Tm.den])]
  simp only [Tm.den,UL hd ρ []]
 .rfl
def sUn (nv:Nat)(o:UnOp)(x:SV):Option SR:=
 match o,x with
 | .neg,.sc (.int k) a=>some (.val nv (.sc (.int k) (apF (.int k) a)))
 | .xor,.sc (.int k) a=>some (.val nv (.sc (.int k) (atN k a)))
 | .neg,.sc .kC a=>some (.val nv (.sc .kC (apF .kC a)))
 | .not,.sc .bool a=>some (.val nv (.sc .bool (aDL a)))
 |_,_=>none
theorem atQ {o:UnOp}{x:SV}{r:SR}(h:sUn nv o x=some r)(hK:K (r.den ρ)):aUn o (x.den ρ) fun a=>K (.val a):=by
 unfold sUn at h
 split at h<;>first|(cases h;done)|(simp only [aj] at h;subst h;simp only [SR.uo,SV.den,Kd.av,alY,alZ,oL] at hK;exact hK)
def atT (k:IntKind)(x n:Tm):List Side:=
 match x with
 | .lf a=>bif decide ((FloatKind.f64.decode a).toInt .zero=some (n.den []).I)&&(decide (k.min<=(n.den []).I)&&decide ((n.den []).I<=k.max)) then (match n with | .li _=>[]|_=>[.num k x n]) else [.num k x n]
 |x=>[.num k x n]
theorem apG {k:IntKind}{x n:Tm}(h:∀s∈atT k x n,s.holds P ρ):(Side.num k x n).holds P ρ:=by
 unfold atT at h
 split at h
 .rename_i a
  cases h1:decide ((FloatKind.f64.decode a).toInt .zero=some (n.den []).I)&&(decide (k.min<=(n.den []).I)&&decide ((n.den []).I<=k.max))
  .rw [h1] at h;exact h (.num k (.lf a) n) (by simp)
  .rw [h1] at h
   simp only [cond_true] at h
   simp only [ak,decide_eq_true_eq] at h1
   split at h
   .exact ⟨h1.1,h1.2.1,h1.2.2⟩
   .exact h _ (by simp)
 .exact h (.num k x n) (by simp)
def DN : List UInt8:=(List.range 128).map UInt8.ofNat
theorem al1 (n:Nat)(h:n<128):(DN.drop n).take 1=[UInt8.ofNat n]:=by
 have h1:n<DN.length:=by simpa [DN] using h
 rw [List.drop_eq_getElem_cons h1]
 simp [DN]
theorem al2 {n:Int}(h0:0<=n)(h1:n<128):(DN.drop n.toNat).take ((dY .i64 n 1).toNat-n.toNat)=[UInt8.ofNat n.toNat]:=by
 have e:dY .i64 n 1=n+1:=by
  unfold dY IntKind.wrap
  simp [IntKind.bits,IntKind.signed]
  omega
 rw [e,show (n+1).toNat-n.toNat=1 by omega]
 exact al1 _ (by omega)
def VO (P:Program)(nv:Nat)(s d:TypeId)(x:SV):Option SR:=
 match P.underlying s,P.underlying d with
 |some _,some u=>
  match u,x with
  | .int k,.sc (.int _) a=>some (.val nv (.sc (.int k) (alX k a)))
  | .float .f64,.sc (.int _) a=>some (.val nv (.sc .kC (atP a)))
  | .int k,.sc .kC a=>some ⟨.sc (.int k) (awn a),[],[],atT k a (awn a),nv⟩
  | .string,.sc .str a=>some (.val nv (.sc .str a))
  | .string,.sc (.int _) a=>some ⟨.sc .str (.Ef (.ls DN) a (.bin .add (.int .i64) a (.li 1))),[],[],[.tm (.bin .leq (.int .i64) (.li 0) a),.tm (.bin .lss (.int .i64) a (.li 128))],nv⟩
  |_,_=>none
 |_,_=>none
theorem acK {s d:TypeId}{x:SV}{r:SR}(h:VO P nv s d x=some r)(hs:∀s∈r.sd,s.holds P ρ)(hK:K (r.den ρ)):F7 P s d (x.den ρ) fun a=>K (.val a):=by
 unfold VO at h
 split at h
 .rename_i u0 u hu0 hu
  refine ⟨by rw [hu0];rfl,?_⟩
  rw [hu]
  split at h
  .simp only [aj] at h;subst h
   simp only [SR.uo,SV.den,Kd.av,ajE] at hK;exact hK
  .simp only [aj] at h;subst h
   simp only [SR.uo,SV.den,Kd.av,al0] at hK;exact hK
  .simp only [aj] at h;subst h
   obtain ⟨h1,h2,h3⟩:=apG (P:=P) (ρ:=ρ) hs
   exact dH.2 ⟨_,h1,h2,h3,hK⟩
  .simp only [aj] at h;subst h;exact hK
  .rename_i a
   simp only [aj] at h;subst h
   have h0:0<=(a.den ρ).I:=of_decide_eq_true (hs (.tm (.bin .leq (.int .i64) (.li 0) a)) (by simp))
   have h1:(a.den ρ).I<128:=of_decide_eq_true (hs (.tm (.bin .lss (.int .i64) a (.li 128))) (by simp))
   refine ⟨h0,h1,?_⟩
   have e:(Tm.Ef (.ls DN) a (.bin .add (.int .i64) a (.li 1))).den ρ=.s [UInt8.ofNat (a.den ρ).I.toNat]:=congrArg D.s (al2 h0 h1)
   simp only [SR.den,SV.den,e,Kd.av] at hK
   exact hK
  .cases h
 .cases h
def ahD (x lo hi:Tm):Tm:=
 match x,zN lo,zN hi with
 | .ls l,some a,some b=>.ls ((l.drop a).take (b-a))
 |x,_,_=>.Ef x lo hi
theorem ajF {x lo hi:Tm}:((ahD x lo hi).den ρ).S=((x.den ρ).S.drop (lo.den ρ).I.toNat).take ((hi.den ρ).I.toNat-(lo.den ρ).I.toNat):=by
 unfold ahD
 split
 .rename_i l a b ha hb
  rw [(fQ ha).2,(fQ hb).2];rfl
 .rfl
def VP (d:Tm):Option SV->Option Tm
 |none=>some d
 |some (.sc (.int _) t)=>some t
 |_=>none
def Uh (d:Nat):Option SV->Option Nat
 |none=>some d
 |some (.sc (.int _) t)=>zN t
 |_=>none
theorem MC {d:Tm}{x:Option SV}{t:Tm}{dn:Nat}{k:Nat->Prop}(h:VP d x=some t)(hd:(d.den ρ).I=dn)(h0:0<=(t.den ρ).I)(hk:k (t.den ρ).I.toNat):Ii (x.map (SV.den ρ)) dn k:=by
 unfold VP at h
 split at h
 .simp only [aj] at h;subst h
  rw [hd] at hk
  simpa [Ii] using hk
 .simp only [aj] at h;subst h
  exact ⟨h0,hk⟩
 .cases h
theorem tY {d:Nat}{x:Option SV}{n:Nat}{k:Nat->Prop}(h:Uh d x=some n)(hk:k n):Ii (x.map (SV.den ρ)) d k:=by
 unfold Uh at h
 split at h
 .simp only [aj] at h;subst h;exact hk
 .refine ⟨by rw [(fQ h).1];omega,?_⟩
  rw [(fQ h).2];exact hk
 .cases h
def awo (a b c:Option (List Side)):Option (List Side):=aEL a (aEL b c)
def aDu {α:Type}:Option α->Bool|none=>true|some _=>false
theorem afB {α:Type}{o:Option α}:aDu o=o.isNone:=by cases o<;>rfl
def aaQ (P:Program)(pc:Pc)(nv:Nat)(t:TypeId)(s:Tm)(lo hi mx:Option SV):Option SR:=
 bif aDu mx then
  match P.underlying t,VP (.li 0) lo,VP (Zh s) hi with
  |some .string,some l,some h=>(awo (aDZ pc (leT (.li 0) l)) (aDZ pc (leT l h)) (aDZ pc (leT h (Zh s)))).map fun sd=>⟨.sc .str (ahD s l h),[],[],sd,nv⟩
  |_,_,_=>none
 else none
theorem afC {t:TypeId}{s:Tm}{lo hi mx:Option SV}{r:SR}(hp:pc.holds ρ)(h:aaQ P pc nv t s lo hi mx=some r)(hs:∀s∈r.sd,s.holds P ρ)(hK:K (r.den ρ)) :
  DF P t (.str (s.den ρ).S) (lo.map (SV.den ρ)) (hi.map (SV.den ρ)) (mx.map (SV.den ρ)) K:=by
 unfold aaQ at h
 cases hm:aDu mx
 .simp [hm] at h
 .simp only [hm,cond_true] at h
  split at h
  .rename_i l u hu hl hh
   simp only [ay] at h
   obtain ⟨sd,hsd,rfl⟩:=h
   obtain ⟨x,y,h1,h2,rfl⟩:=Gp hsd
   obtain ⟨y,z,h2',h3,rfl⟩:=Gp h2
   have a1:(0:Int)<=(l.den ρ).I:=yK (oZ (P:=P) hp h1 fun s hm=>hs s (by simp [hm]))
   have a2:=yK (oZ (P:=P) hp h2' fun s hm=>hs s (by simp [hm]))
   have a3:=yK (oZ (P:=P) hp h3 fun s hm=>hs s (by simp [hm]))
   rw [MB] at a3
   refine ⟨hu,by rw [afB] at hm;simpa using hm,MC hl rfl a1 (MC hh MB (by omega) ⟨by omega,by omega,?_⟩)⟩
   have:K (.val (.str ((ahD s l u).den ρ).S)):=hK
   rwa [ajF] at this
  .cases h
def aaR (P:Program)(pc:Pc)(nv:Nat)(t:TypeId)(s:Tm)(lo hi mx:Option SV):Option SR:=
 match mW P t with
 |none=>none
 |some e=>
  match mx with
  |none=>match VP (.li 0) lo,VP (.rlen s) hi with
   |some l,some h=>some ⟨.sc .sl (.var nv []),[],[],[.sub e.1 s (some l) (some h) (.var nv [])],nv+1⟩
   |_,_=>none
  |some (.sc (.int _) m)=>match hi with
   |some (.sc (.int _) h)=>
    bif h.beq m then
     match lo,h with
     |none,.li (.ofNat 0)=>some ⟨.nil,[],[],[.sub e.1 s none (some (.li 0)) .nl],nv⟩
     |none,h=>some ⟨.sf (.var nv []),[],[],[.sub e.1 s none (some h) (.var nv [])],nv+1⟩
     |_,_=>none
    else none
   |_=>none
  |_=>none
theorem afD {t:TypeId}{s:Tm}{lo hi mx:Option SV}{r:SR}{full:Bool}(hf:full=false)(h:aaR P pc nv t s lo hi mx=some r)(hs:∀s∈r.sd,s.holds P ρ)(hK:K (r.den ρ)) :
  DF P t (.sl (s.den ρ).R full) (lo.map (SV.den ρ)) (hi.map (SV.den ρ)) (mx.map (SV.den ρ)) K:=by
 subst hf
 unfold aaR at h
 split at h
 .cases h
 .rename_i e he
  split at h
  .split at h
   .rename_i l u hl hh
    simp only [aj] at h;subst h
    obtain ⟨b0,b1,b2,b3,b4⟩:=hs (.sub e.1 s (some l) (some u) (.var nv [])) (by simp)
    simp only [Zf] at b1 b2 b3 b4
    refine dH.2 ⟨e,he,b0,by simp,MC hl rfl b1 (MC hh (by rfl) (by omega) ⟨by omega,by omega,by omega,?_⟩)⟩
    have:K (.val (.sl ((Tm.var nv []).den ρ).R false)):=hK
    rw [b4] at this
    simpa using this
   .cases h
  .split at h
   .rename_i k m _ k' u
    cases hb:u.beq m
    .simp [hb] at h
    .simp only [hb,cond_true] at h
     have:=Tm.beq_eq hb;subst this
     split at h
     .simp only [aj] at h;subst h
      obtain ⟨b0,b1,b2,b3,b4⟩:=hs (.sub e.1 s none (some (.li 0)) .nl) (by simp)
      refine dH.2 ⟨e,he,b0,by simp,?_⟩
      refine ⟨Int.le_refl _,Int.le_refl _,dD _,dD _,dB _,?_⟩
      have:K (.val (.sl [] true)):=hK
      have e0:(Tm.den ρ (Tm.li (Int.ofNat 0))).I.toNat=0:=rfl
      simpa [Tm.den,D.I] using this
     .simp only [aj] at h;subst h
      obtain ⟨b0,b1,b2,b3,b4⟩:=hs (.sub e.1 s none (some u) (.var nv [])) (by simp)
      simp only [Zf] at b1 b2 b3 b4
      refine dH.2 ⟨e,he,b0,by simp,?_⟩
      refine ⟨by omega,by omega,by omega,dD _,by omega,?_⟩
      have:K (.val (.sl ((Tm.var nv []).den ρ).R true)):=hK
      rw [b4] at this
      simpa using this
     .cases h
   .cases h
  .cases h
def UM (P:Program)(nv:Nat)(t:TypeId)(rows:List (List SV))(full:Bool)(lo hi mx:Option SV):Option SR:=
 match mW P t,Uh 0 lo,Uh rows.length hi,Uh rows.length mx with
 |some e,some l,some h,some m=>
  bif rows.all (fun r=>Nat.beq r.length e.1)&&((aDu mx||!aDu hi)&&(Nat.ble l h&&(Nat.ble h m&&Nat.ble m rows.length))) then
   some (.val nv (.slc ((rows.drop l).take (h-l)) (bif aDu mx then full&&Nat.beq h rows.length else Nat.beq m h)))
  else none
 |_,_,_,_=>none
theorem IC {n:Nat}{rows:List (List SV)}(h:rows.all (fun r=>Nat.beq r.length n)=true):lJ n (iM ρ rows):=by
 intro row hr
 rw [l7] at hr
 obtain ⟨x,hx,rfl⟩:=aU.1 hr
 rw [aF] at h
 rw [fZ]
 exact au (h x hx)
theorem VQ {t:TypeId}{rows:List (List SV)}{full:Bool}{lo hi mx:Option SV}{r:SR}(h:UM P nv t rows full lo hi mx=some r)(hK:K (r.den ρ)) :
  DF P t (.sl (iM ρ rows) full) (lo.map (SV.den ρ)) (hi.map (SV.den ρ)) (mx.map (SV.den ρ)) K:=by
 unfold UM at h
 split at h
 .rename_i e l u m he hl hh hm
  cases hc:rows.all (fun r=>Nat.beq r.length e.1)&&((aDu mx||!aDu hi)&&(Nat.ble l u&&(Nat.ble u m&&Nat.ble m rows.length)))
  .simp [hc] at h
  .simp only [hc,cond_true,aj] at h
   subst h
   simp only [ak] at hc
   obtain ⟨c1,c2,c3,c4,c5⟩:=hc
   refine dH.2 ⟨e,he,IC c1,?_,tY hl (tY (by rw [f_];exact hh) (tY (by rw [f_];exact hm) ⟨aC c3,aC c4,by rw [f_];exact aC c5,?_⟩))⟩
   .intro hs
    cases mx<;>cases hi<;>simp_all [aDu]
   .rw [Ai,Aj]
    have:K (.val (.sl (iM ρ ((rows.drop l).take (u-l))) (bif aDu mx then full&&Nat.beq u rows.length else Nat.beq m u))):=hK
    have e2:∀a b:Nat,Nat.beq a b=decide (a=b):=fun a b=>by
     cases hb:Nat.beq a b
     .symm;rw [decide_eq_false_iff_not];intro e;rw [e] at hb;simp at hb
     .symm;rw [decide_eq_true_iff];exact au hb
    rw [e2,e2] at this
    cases mx<;>simpa [aDu,f_] using this
 .cases h
def atU (off:Nat)(h:Tm):Option Tm:=match off with
 |0=>some h
 |off=>(zN h).map fun n=>.li (.ofNat (n-off))
theorem al3 {off:Nat}{h t:Tm}(e:atU off h=some t):(t.den ρ).I.toNat=(h.den ρ).I.toNat-off:=by
 unfold atU at e
 split at e
 .simp only [aj] at e;subst e;simp
 .simp only [ay] at e
  obtain ⟨n,hn,rfl⟩:=e
  rw [(fQ hn).2];rfl
def aaS (P:Program)(pc:Pc)(nv:Nat)(t:TypeId)(b sz off:Nat)(len:Tm)(lo hi mx:Option SV):Option SR:=
 bif aDu mx then
  match mW P t,Uh 0 lo,VP len hi with
  |some e,some l,some h=>
   bif Nat.beq sz e.1 then
    match atU l h,awo (aDZ pc (leT (.li 0) h)) (aDZ pc (leT (.li l) h)) (aDZ pc (leT h len)) with
    |some n,some sd=>some ⟨.os b sz (off+l) n,[],[],sd,nv⟩
    |none,some sd=>match aDZ pc (leT h (.li 4294967296)) with
     |some sd2=>some ⟨.os b sz (off+l) (.bin .sub (.int .i64) h (.li (.ofNat l))),[],[],sd2++sd,nv⟩
     |none=>none
    |_,_=>none
   else none
  |_,_,_=>none
 else match mW P t,zN len with
  |some e,some n=>match Uh 0 lo,Uh n hi,Uh n mx with
   |some l,some h,some m=>bif Nat.beq sz e.1&&(!aDu hi&&(Nat.ble l h&&(Nat.ble h m&&Nat.ble m n))) then some (.val nv (.os b sz (off+l) (.li (.ofNat (h-l))))) else none
   |_,_,_=>none
  |_,_=>none
theorem afE {t:TypeId}{b sz off:Nat}{len:Tm}{lo hi mx:Option SV}{r:SR}(hp:pc.holds ρ)(h:aaS P pc nv t b sz off len lo hi mx=some r)(hs:∀s∈r.sd,s.holds P ρ)(hK:K (r.den ρ)) :
  DF P t (.os b sz off (len.den ρ).I.toNat) (lo.map (SV.den ρ)) (hi.map (SV.den ρ)) (mx.map (SV.den ρ)) K:=by
 unfold aaS at h
 cases hm:aDu mx
 .simp only [hm,cond_false] at h
  split at h
  .rename_i e n he hn
   split at h
   .rename_i l u m hl hh hmx
    cases hc:(Nat.beq sz e.1&&(!aDu hi&&(Nat.ble l u&&(Nat.ble u m&&Nat.ble m n))))
    .simp [hc] at h
    .simp only [hc,cond_true,aj] at h;subst h
     simp only [ak,Bool.not_eq_true'] at hc
     obtain ⟨c1,c2,c3,c4,c5⟩:=hc
     have hlen:=(fQ (ρ:=ρ) hn).2
     refine dH.2 ⟨e,he,au c1,?_,?_⟩
     .intro _;cases hi
      .simp [aDu] at c2
      .rfl
     .rw [hlen]
      refine tY hl (tY hh (tY hmx ⟨aC c3,aC c4,aC c5,?_⟩))
      exact hK
   .cases h
  .cases h
 .simp only [hm,cond_true] at h
  cases mx with
  |some x=>simp [aDu] at hm
  |none=>
   split at h
   .rename_i e l u he hl hh
    cases h1:Nat.beq sz e.1
    .simp [h1] at h
    .simp only [h1,cond_true] at h
     have fin:∀(n:Tm) (sd:List Side),awo (aDZ pc (leT (.li 0) u)) (aDZ pc (leT (.li l) u)) (aDZ pc (leT u len))=some sd->(∀s∈sd,s.holds P ρ)->(n.den ρ).I.toNat=(u.den ρ).I.toNat-l->K (.val (.os b sz (off+l) (n.den ρ).I.toNat))->DF P t (.os b sz off (len.den ρ).I.toNat) (lo.map (SV.den ρ)) (hi.map (SV.den ρ)) none K:=by
      intro n sd hsd hs hn hK
      obtain ⟨x,y,q1,q2,rfl⟩:=Gp hsd
      obtain ⟨y,z,q2',q3,rfl⟩:=Gp q2
      have a1:(0:Int)<=(u.den ρ).I:=yK (oZ (P:=P) hp q1 fun s hm=>hs s (by simp [hm]))
      have a2:(l:Int)<=(u.den ρ).I:=yK (oZ (P:=P) hp q2' fun s hm=>hs s (by simp [hm]))
      have a3:=yK (oZ (P:=P) hp q3 fun s hm=>hs s (by simp [hm]))
      refine dH.2 ⟨e,he,au h1,by simp,tY hl ?_⟩
      have key:∀hi':Nat,hi'=(u.den ρ).I.toNat->l<=hi'/\hi'<=(len.den ρ).I.toNat/\(len.den ρ).I.toNat<=(len.den ρ).I.toNat/\K (.val (.os b sz (off+l) (hi' - l))):=by
       intro hi' e'
       refine ⟨by omega,by omega,dD _,?_⟩
       rw [e',<- hn];exact hK
      cases hi with
      |none=>
       simp only [VP,aj] at hh;subst hh
       exact key _ rfl
      |some x=>
       cases x with
       |sc k t=>
        cases k with
        |int k=>simp only [VP,aj] at hh;subst hh;exact ⟨a1,key _ rfl⟩
        |_=>simp [VP] at hh
       |_=>simp [VP] at hh
     split at h
     .rename_i n sd hn hsd
      simp only [aj] at h;subst h
      exact fin n sd hsd hs (al3 hn) hK
     .rename_i sd hn hsd
      split at h
      .rename_i sd2 hsd2
       simp only [aj] at h;subst h
       have a4:=yK (oZ (P:=P) hp hsd2 fun s hm=>hs s (by simp [hm]))
       obtain ⟨x,y,q1,q2,rfl⟩:=Gp hsd
       obtain ⟨y,z,q2',q3,rfl⟩:=Gp q2
       have a1:(0:Int)<=(u.den ρ).I:=yK (oZ (P:=P) hp q1 fun s hm=>hs s (by simp [hm]))
       have a2:(l:Int)<=(u.den ρ).I:=yK (oZ (P:=P) hp q2' fun s hm=>hs s (by simp [hm]))
       have a4':(u.den ρ).I<=4294967296:=a4
       refine fin _ _ hsd (fun s hm=>hs s (by simp at hm ⊢;exact .inr hm)) ?_ hK
       show (iq .i64 (u.den ρ).I (l:Int)).toNat=_
       rw [uV (by omega) (by omega)]
       omega
      .cases h
     .cases h
   .cases h
def afF (P:Program)(pc:Pc)(nv:Nat)(t:TypeId)(x:SV)(lo hi mx:Option SV):Option SR:=
 match x with
 | .sc .str s=>aaQ P pc nv t s lo hi mx
 | .sc .sl s=>aaR P pc nv t s lo hi mx
 | .slc rows full=>UM P nv t rows full lo hi mx
 | .nil=>UM P nv t [] true lo hi mx
 | .os b sz off len=>aaS P pc nv t b sz off len lo hi mx
 |_=>none
theorem ajG {t:TypeId}{x:SV}{lo hi mx:Option SV}{r:SR}(hp:pc.holds ρ)(h:afF P pc nv t x lo hi mx=some r)(hs:∀s∈r.sd,s.holds P ρ)(hK:K (r.den ρ)) :
  DF P t (x.den ρ) (lo.map (SV.den ρ)) (hi.map (SV.den ρ)) (mx.map (SV.den ρ)) K:=by
 unfold afF at h
 split at h
 .exact afC hp h hs hK
 .exact afD rfl h hs hK
 .exact VQ h hK
 .exact VQ h hK
 .exact afE hp h hs hK
 .cases h
def aaT (P:Program)(pc:Pc)(th:Tr SB)(nv:Nat)(t:TypeId)(x:SV)(lo hi mx:Option SV):Option SR:=
 match x with
 | .op b sz i off=>match alh P t,zN i with
  |some e,some q=>match th.get b with
   |some (.rows sz' rs)=>match Uh 0 lo,Uh e.1 hi,Uh e.1 mx with
    |some l,some h,some m=>bif Nat.beq sz e.2.1&&(Nat.beq off 0&&(Nat.ble e.1 4294967296&&(Nat.beq sz sz'&&(Nat.ble (q+e.1) rs.length&&((aDu mx||!aDu hi)&&(Nat.ble l h&&(Nat.ble h m&&Nat.ble m e.1))))))) then
     some ⟨.os b sz (q+l) (.li (.ofNat (h-l))),[],[b],[],nv⟩ else none
    |_,_,_=>none
   |_=>none
  |_,_=>none
 |x=>afF P pc nv t x lo hi mx
theorem afG {th:Tr SB}{ah:AH}{t:TypeId}{x:SV}{lo hi mx:Option SV}{r:SR}(hp:pc.holds ρ)(ha:Ig ρ th ah)(h:aaT P pc th nv t x lo hi mx=some r)(hs:∀s∈r.sd,s.holds P ρ)(hK:K (r.den ρ)) :
  Es P ah t (x.den ρ) (lo.map (SV.den ρ)) (hi.map (SV.den ρ)) (mx.map (SV.den ρ)) K:=by
 unfold aaT at h
 split at h
 .rename_i b sz i off
  split at h
  .rename_i e q he hq
   split at h
   .rename_i sz' rs hb
    split at h
    .rename_i l u m hl hh hm
     generalize hc:(Nat.beq sz e.2.1&&(Nat.beq off 0&&(Nat.ble e.1 4294967296&&(Nat.beq sz sz'&&(Nat.ble (q+e.1) rs.length&&((aDu mx||!aDu hi)&&(Nat.ble l u&&(Nat.ble u m&&Nat.ble m e.1))))))))=g at h
     cases g
     .cases h
     .simp only [cond_true,aj] at h;subst h
      simp only [ak] at hc
      obtain ⟨c1,c2,c3,c4,c5,c6,c7,c8,c9⟩:=hc
      have e4:=au c4
      refine dH.2 ⟨e,he,au c1,au c2,aC c3,?_⟩
      rw [ha _ _ hb]
      refine ⟨e4,?_,?_,tY hl (tY hh (tY hm ⟨aC c7,aC c8,aC c9,?_⟩))⟩
      .rw [(fQ hq).2,f_];exact aC c5
      .intro hs0
       cases mx<;>cases hi<;>simp_all [aDu]
      .rw [(fQ hq).2];exact hK
    .cases h
   .cases h
  .cases h
 .rename_i hne
  have:=ajG hp h hs hK
  cases x with
  |op b sz i off=>exact absurd rfl (hne b sz i off)
  |sc k t=>cases k<;>exact this
  |_=>exact this
end
end Go.Fw
end
section
namespace Go.Fw
variable [jY]
section
variable {P : Program} {ρ:List AV} {pc:Pc} {id nv:Nat} {fr:mg} {ah:AH} {tr:Tr qo} {th:Tr SB} {K:sQ->Prop}
def aD6 (P:Program)(t:TypeId):Option (List SV):=((P.info? t).bind (·.zero)).bind fun z=>VK z.cells.toList
theorem Dn {t:TypeId}{l:List SV}(h:aD6 P t=some l):aDw P t=some (dU ρ l):=by
 unfold aD6 at h
 unfold aDw
 simp only [aQ] at h
 obtain ⟨z,hz,h⟩:=h
 obtain ⟨i,hi,hz⟩:=hz
 simp [hi,hz,Mc (ρ:=ρ) h]
def Zj (place:Nat->Option (Nat×Nat))(cells:List SV):List (Nat×SV)->Option (List SV)
 |[]=>some cells
 |(i,v)::rest=>
  match place i with
  |none=>none
  |some (off,size)=>bif v.F5&&(Nat.beq v.cells.length size&&Nat.ble (off+v.cells.length) cells.length) then Zj place (apA cells off v.cells) rest else none
theorem Rn {place:Nat->Option (Nat×Nat)}:∀{parts:List (Nat×SV)} {cells out:List SV},Zj place cells parts=some out->
  O9 place (dU ρ cells) (parts.map fun q=>(q.1,q.2.den ρ))=some (dU ρ out)
 |[],cells,out,h=>by simp [Zj] at h;subst h;rfl
 |(i,v)::rest,cells,out,h=>by
  simp only [Zj] at h
  split at h
  .cases h
  .rename_i off size hpl
   cases hc:v.F5&&(Nat.beq v.cells.length size&&Nat.ble (off+v.cells.length) cells.length)
   .simp [hc] at h
   .simp only [hc,cond_true] at h
    simp only [ak] at hc
    obtain ⟨c1,c2,c3⟩:=hc
    simp only [aX,O9,hpl]
    rw [Py c1,Dl c1,fZ,fZ,au c2]
    have c3:=aC c3
    rw [au c2] at c3
    rw [if_neg (by simp;omega),ahA]
    exact Rn h
def afH (P:Program)(nv:Nat)(t:TypeId)(parts:List (Nat×SV)):Option SR:=
 match aD6 P t,aDX P t with
 |some z,some pl=>(Zj pl z parts).map fun cs=>.val nv (.agg cs)
 |_,_=>none
theorem ajH {t:TypeId}{parts:List (Nat×SV)}{r:SR}(h:afH P nv t parts=some r)(hK:K (r.den ρ)):U9 P t (parts.map fun q=>(q.1,q.2.den ρ)) K:=by
 unfold afH at h
 split at h
 .rename_i z pl hz hpl
  simp only [ay] at h
  obtain ⟨cs,hcs,rfl⟩:=h
  exact dH.2 ⟨_,Dn hz,dH.2 ⟨pl,hpl,dH.2 ⟨_,Rn hcs,hK⟩⟩⟩
 .cases h
def aaU (n:Nat):Nat->List SV->List (List SV)
 |0,_=>[]
 |k+1,l=>l.take n::aaU n k (l.drop n)
theorem VR {n:Nat}:∀{k:Nat} {l:List SV},aDC n k (dU ρ l)=iM ρ (aaU n k l)
 |0,l=>rfl
 |k+1,l=>by simp only [aDC,aaU,iM,Rk,Rj,VR (k:=k)]
theorem NK {z:List SV}:∀{n:Nat},(List.replicate n (dU ρ z)).flatten=dU ρ (List.replicate n z).flatten
 |0=>rfl
 |n+1=>by simp only [List.replicate_succ,List.flatten_cons,mF,NK (n:=n)]
def KH (P:Program)(nv:Nat)(t:TypeId)(id len:Nat)(parts:List (Nat×SV)):Option SR:=
 match P.underlying t with
 |some (.slice e)=>match P.info? e,aD6 P e with
  |some i,some z=>bif Nat.beq z.length i.size&&Nat.ble (len*i.size+len) 16777216 then
    (Zj (fun k=>some (k*i.size,i.size)) (List.replicate len z).flatten parts).map fun cs=>⟨.os id i.size 0 (.li (.ofNat len)),[(id,some (.rows i.size (aaU i.size len cs)))],[],[],nv⟩
   else none
  |_,_=>none
 |_=>none
theorem VT {t:TypeId}{len:Nat}{parts:List (Nat×SV)}{r:SR}(h:KH P nv t id len parts=some r)(hK:K (r.den ρ)):mD P t id len (parts.map fun q=>(q.1,q.2.den ρ)) K:=by
 unfold KH at h
 split at h
 .rename_i e hu
  split at h
  .rename_i i z hi hz
   cases hc:Nat.beq z.length i.size&&Nat.ble (len*i.size+len) 16777216
   .simp [hc] at h
   .simp only [hc,cond_true,ay] at h
    obtain ⟨cs,hcs,rfl⟩:=h
    simp only [ak] at hc
    unfold mD
    rw [hu]
    refine dH.2 ⟨i,hi,dH.2 ⟨_,Dn (ρ:=ρ) hz,by rw [fZ];exact au hc.1,aC hc.2,dH.2 ⟨dU ρ cs,?_,?_⟩⟩⟩
    .rw [NK];exact Rn hcs
    .rw [VR];exact hK
  .cases h
 .cases h
def atV (nv id:Nat)(v:SV):Option SR:=
 bif v.F5 then some ⟨.op id v.cells.length (.li 0) 0,[(id,some (.rows v.cells.length [v.cells]))],[],[],nv⟩ else none
theorem apH {v:SV}{r:SR}(h:atV nv id v=some r)(hK:K (r.den ρ)):atx id (v.den ρ) K:=by
 unfold atV at h
 cases hb:v.F5
 .simp [hb] at h
 .simp only [hb,cond_true,aj] at h
  subst h
  refine ⟨Py hb,?_⟩
  rw [Dl hb,fZ];exact hK
def afI (P:Program)(nv id:Nat)(t:TypeId):Option SR:=
 (aD6 P t).map fun z=>match aEK P t with
  |true=>⟨.op id 1 (.li 0) 0,[(id,some (.rows 1 (z.map fun x=>[x])))],[],[],nv⟩
  |false=>⟨.op id z.length (.li 0) 0,[(id,some (.rows z.length [z]))],[],[],nv⟩
theorem ajI {t:TypeId}{r:SR}(h:afI P nv id t=some r)(hK:K (r.den ρ)):QV P t id K:=by
 unfold afI at h
 simp only [ay] at h
 obtain ⟨z,hz,rfl⟩:=h
 refine dH.2 ⟨_,Dn (ρ:=ρ) hz,?_⟩
 cases ha:aEK P t with
 |true=>
  rw [ha] at hK
  have:K ⟨.op id 1 0 0,[(id,some (.rows 1 (iM ρ (z.map fun x=>[x]))))],[]⟩:=hK
  have e:iM ρ (z.map fun x=>[x])=(dU ρ z).map fun x=>[x]:=by simp [l7,nX,dU,Function.comp_def]
  rw [e] at this
  exact this
 |false=>rw [ha] at hK;rw [fZ];exact hK
def al4 : SV->Option SV
 | .nil=>some (.sc .sl .nl)
 | .sc .sl _=>none
 | .sc k t=>some (.sc k t)
 | .c v=>some (.c v)
 |_=>none
def acL : List SV->Option (List SV)
 |[]=>some []
 |x::r=>match al4 x,acL r with|some y,some l=>some (y::l)|_,_=>none
theorem ajJ {x y:SV}(h:al4 x=some y):y.den ρ=alI (x.den ρ):=by
 unfold al4 at h
 split at h
 .simp only [aj] at h;subst h;rfl
 .cases h
 .rename_i k t hk
  simp only [aj] at h;subst h
  cases k<;>first|rfl|exact absurd rfl hk
 .simp only [aj] at h;subst h;rfl
 .cases h
theorem Zk : ∀{z y:List SV},acL z=some y->dU ρ y=(dU ρ z).map alI
 |[],y,h=>by simp only [acL,aj] at h;subst h;rfl
 |x::r,y,h=>by
  simp only [acL] at h
  split at h
  .rename_i a l ha hl
   simp only [aj] at h;subst h
   simp only [dU,aX,ajJ ha,Zk hl]
  .cases h
def OD (P:Program)(nv id:Nat)(t:TypeId)(l c:SV):Option SR:=
 match P.underlying t,l,c with
 |some (.slice e),.sc (.int _) l,.sc (.int _) c=>match P.info? e,aD6 P e with
  |some i,some z0=>match acL z0 with
   |none=>none
   |some z=>bif Nat.beq z0.length i.size&&Nat.ble i.bytes 4096 then
    match zN l,zN c with
    |some n,some m=>bif Nat.ble n m&&Nat.ble m 4294967296 then some ⟨.os id i.size 0 l,[(id,some (.rows i.size (List.replicate n z)))],[],[],nv⟩ else none
    |_,_=>some ⟨.os id i.size 0 l,[(id,some (.fK i.size (.var nv [])))],[],[.mk l c z (.var nv [])],nv+1⟩
   else none
  |_,_=>none
 |_,_,_=>none
theorem Jw {z:List SV}:∀{n:Nat},List.replicate n (dU ρ z)=iM ρ (List.replicate n z)
 |0=>rfl
 |n+1=>by simp only [List.replicate_succ,iM,Jw (n:=n)]
theorem Yk {t:TypeId}{l c:SV}{r:SR}(h:OD P nv id t l c=some r)(hs:∀s∈r.sd,s.holds P ρ)(hK:K (r.den ρ)):uH P t id (l.den ρ) (c.den ρ) K:=by
 unfold OD at h
 split at h
 .rename_i e k l k' c hu
  split at h
  .rename_i i z0 hi hz
   split at h
   .cases h
   rename_i z hlo
   have ajK:=Zk (ρ:=ρ) hlo
   cases hc:Nat.beq z0.length i.size&&Nat.ble i.bytes 4096
   .simp [hc] at h
   .simp only [hc,cond_true] at h
    simp only [ak] at hc
    simp only [uH,hu,SV.den,Kd.av]
    split at h
    .rename_i n m hn hm
     cases hd:Nat.ble n m&&Nat.ble m 4294967296
     .simp [hd] at h
     .simp only [hd,cond_true,aj] at h
      subst h
      simp only [ak] at hd
      have d1:=aC hd.1
      have d2:=aC hd.2
      refine dH.2 ⟨i,hi,dH.2 ⟨_,Dn (ρ:=ρ) hz,by rw [fZ];exact au hc.1,?_,?_,?_,aC hc.2,?_⟩⟩
      .rw [(fQ hn).1];omega
      .rw [(fQ hn).1,(fQ hm).1];omega
      .rw [(fQ hm).1];omega
      .have e:=(fQ (ρ:=ρ) hn).2
       rw [e,<- ajK,Jw]
       have:K ⟨.os id i.size 0 (l.den ρ).I.toNat,[(id,some (.rows i.size (iM ρ (List.replicate n z))))],[]⟩:=hK
       rwa [e] at this
    .simp only [aj] at h
     subst h
     obtain ⟨b1,b2,b3,b4⟩:=hs (.mk l c z (.var nv [])) (by simp)
     refine dH.2 ⟨i,hi,dH.2 ⟨_,Dn (ρ:=ρ) hz,by rw [fZ];exact au hc.1,b1,b2,b3,aC hc.2,?_⟩⟩
     rw [<- ajK,<- b4];exact hK
  .cases h
 .cases h
def Zl (nv:Nat)(f:Fn)(first captured:List SV):Option SR:=
 match f with
 | .func f=>some (.val nv (.fn f first captured))
 |_=>none
def aD9 (pc:Pc)(t:Tm):Option (List Side):=
 match t with
 | .li (.ofNat _)=>some []
 | .slen _=>some []
 | .rlen _=>some []
 |t=>aDZ pc (leT (.li 0) t)
theorem Zm {t:Tm}{l:List Side}(hp:pc.holds ρ)(h:aD9 pc t=some l)(hs:∀s∈l,s.holds P ρ):0<=(t.den ρ).I:=by
 unfold aD9 at h
 split at h
 .exact Int.natCast_nonneg _
 .exact Int.natCast_nonneg _
 .exact Int.natCast_nonneg _
 .exact yK (oZ (P:=P) hp h hs)
def sLn (P:Program)(pc:Pc)(th:Tr SB)(nv:Nat)(t:TypeId)(x:SV):Option SR:=
 match P.underlying t with
 |none=>none
 |some u=>match u,x with
  | .string,.sc .str s=>some (.val nv (.sc (.int .i64) (Zh s)))
  | .slice _,.sc .sl s=>some (.val nv (.sc (.int .i64) (.rlen s)))
  | .slice _,.sf s=>some (.val nv (.sc (.int .i64) (.rlen s)))
  | .slice _,.nil=>some (.val nv (.sc (.int .i64) (.li 0)))
  | .slice _,.slc rows _=>some (.val nv (.sc (.int .i64) (.li (.ofNat rows.length))))
  | .slice _,.os _ _ _ len=>(aD9 pc len).map fun l=>⟨.sc (.int .i64) len,[],[],l,nv⟩
  | .map _ _,.c .mp=>some (.val nv (.sc (.int .i64) (.li 0)))
  | .map _ _,.mp b=>match th.get b with
   |some (.map es)=>some ⟨.sc (.int .i64) (.li (.ofNat es.length)),[],[b],[],nv⟩
   |_=>none
  |_,_=>none
theorem atX {t:TypeId}{x:SV}{r:SR}(hp:pc.holds ρ)(ha:Ig ρ th ah)(h:sLn P pc th nv t x=some r)(hs:∀s∈r.sd,s.holds P ρ)(hK:K (r.den ρ)):ab7 P ah t (x.den ρ) K:=by
 unfold sLn at h
 split at h
 .cases h
 .rename_i u hu
  unfold ab7
  rw [hu]
  split at h
  .simp only [aj] at h;subst h
   simp only [SR.uo,SV.den,Kd.av,MB] at hK;exact hK
  .simp only [aj] at h;subst h;exact hK
  .simp only [aj] at h;subst h;exact hK
  .simp only [aj] at h;subst h;exact hK
  .simp only [aj] at h;subst h
   rename_i rows f
   have:K (.val (.p (.int .i64 (rows.length:Nat)))):=hK
   rw [<- f_ (ρ:=ρ)] at this
   exact this
  .simp only [ay] at h
   obtain ⟨l,hl,rfl⟩:=h
   rename_i b sz off len
   have h0:=Zm (P:=P) hp hl hs
   have:K (.val (.p (.int .i64 (len.den ρ).I))):=hK
   show K (.val (.p (.int .i64 ((len.den ρ).I.toNat:Nat))))
   rwa [Int.toNat_of_nonneg h0]
  .simp only [aj] at h;subst h;exact hK
  .split at h
   .rename_i es hb
    simp only [aj] at h;subst h
    show (match ah _ with|some (.map es)=>K ⟨.p (.int .i64 es.length),[],[_]⟩|_=>False)
    rw [ha _ _ hb]
    simp only [SB.den,dh]
    exact hK
   .cases h
  .cases h
inductive Ys where
 |cs (rows:List (List SV))
 |ts (t:Tm)
def Ys.den (ρ:List AV):Ys->List (List AV)
 | .cs rows=>iM ρ rows
 | .ts t=>(t.den ρ).R
theorem OE {n:Nat}:lJ n []:=fun _ h=>absurd h (by simp)
def Pz (pc:Pc)(th:Tr SB)(n:Nat)(x:SV):Option (Ys×List Nat×List Side):=
 match x with
 | .sc .sl t=>some (.ts t,[],[.TI n t])
 | .sf t=>some (.ts t,[],[.TI n t])
 | .sc .str (.ls l)=>bif Nat.beq n 1 then some (.cs (l.map fun b=>[.sc (.int .u8) (.li (.ofNat b.toNat))]),[],[]) else none
 | .sc .str t=>bif Nat.beq n 1 then some (.ts (.sbs t),[],[]) else none
 | .nil=>some (.cs [],[],[])
 | .slc rows _=>bif rows.all (fun r=>Nat.beq r.length n) then some (.cs rows,[],[]) else none
 | .os b sz off len=>bif Nat.beq sz n then
   match th.get b with
   |some (.rows sz' rs)=>match zN len with
    |some m=>bif Nat.beq sz sz'&&Nat.ble (off+m) rs.length then some (.cs ((rs.drop off).take m),[b],[]) else none
    |none=>none
   |some (.fK sz' t)=>bif Nat.beq sz sz'&&(Nat.beq off 0&&len.beq (.rlen t)) then some (.ts t,[b],[]) else none
   |_=>none
  else none
 |_=>none
theorem Ak {n:Nat}{x:SV}{y:Ys}{rd:List Nat}{l:List Side}(ha:Ig ρ th ah)(h:Pz pc th n x=some (y,rd,l))(hs:∀s∈l,s.holds P ρ){k:List (List AV)->List Nat->Prop}(hk:k (y.den ρ) rd) :
  aDE ah n (x.den ρ) k:=by
 unfold Pz at h
 split at h
 .simp only [aj,aJ] at h
  obtain ⟨rfl,rfl,rfl⟩:=h
  have b0:=hs (.TI n _) (bT.2 rfl)
  exact ⟨b0,hk⟩
 .simp only [aj,aJ] at h
  obtain ⟨rfl,rfl,rfl⟩:=h
  have b0:=hs (.TI n _) (bT.2 rfl)
  exact ⟨b0,hk⟩
 .rename_i l'
  cases h1:Nat.beq n 1
  .simp [h1] at h
  .simp only [h1,cond_true,aj,aJ] at h
   obtain ⟨rfl,rfl,rfl⟩:=h
   refine ⟨au h1,?_⟩
   have e:∀l:List UInt8,iM ρ (l.map fun b=>[SV.sc (.int .u8) (.li (.ofNat b.toNat))])=l.map fun b=>[AV.p (.int .u8 b.toNat)]:=by
    intro l
    induction l with
    |nil=>rfl
    |cons b l ih=>simp only [aX,iM,ih];rfl
   rw [<- e];exact hk
 .rename_i t _
  cases h1:Nat.beq n 1
  .simp [h1] at h
  .simp only [h1,cond_true,aj,aJ] at h
   obtain ⟨rfl,rfl,rfl⟩:=h
   exact ⟨au h1,hk⟩
 .simp only [aj,aJ] at h
  obtain ⟨rfl,rfl,rfl⟩:=h
  exact ⟨OE,hk⟩
 .rename_i rows f
  cases hc:rows.all (fun r=>Nat.beq r.length n)
  .simp [hc] at h
  .simp only [hc,cond_true,aj,aJ] at h
   obtain ⟨rfl,rfl,rfl⟩:=h
   exact ⟨IC hc,hk⟩
 .rename_i b sz off len
  cases h1:Nat.beq sz n
  .simp [h1] at h
  .simp only [h1,cond_true] at h
   refine ⟨au h1,?_⟩
   split at h
   .rename_i sz' rs hb
    split at h
    .rename_i m hm
     cases h2:Nat.beq sz sz'&&Nat.ble (off+m) rs.length
     .simp [h2] at h
     .simp only [h2,cond_true,aj,aJ] at h
      obtain ⟨rfl,rfl,rfl⟩:=h
      simp only [ak] at h2
      rw [ha _ _ hb]
      refine ⟨au h2.1,?_,?_⟩
      .rw [(fQ hm).2,f_];exact aC h2.2
      .rw [(fQ hm).2,Ai,Aj];exact hk
    .cases h
   .rename_i sz' t hb
    cases h2:Nat.beq sz sz'&&(Nat.beq off 0&&len.beq (.rlen t))
    .simp [h2] at h
    .simp only [h2,cond_true,aj,aJ] at h
     obtain ⟨rfl,rfl,rfl⟩:=h
     simp only [ak] at h2
     obtain ⟨c1,c2,c3⟩:=h2
     have c2:=au c2
     subst c2
     have c3:=Tm.beq_eq c3
     subst c3
     rw [ha _ _ hb]
     have e:(Tm.den ρ t.rlen).I.toNat=(t.den ρ).R.length:=rfl
     refine ⟨au c1,?_,?_⟩
     .rw [e];simp
     .rw [e];simpa [Ys.den] using hk
   .cases h
 .cases h
def acM (th:Tr SB)(nv id sz b off:Nat)(len:Tm)(ys:Ys)(rd:List Nat)(l:List Side):Option SR:=
 match th.get b with
 |some (.rows sz' rs)=>match zN len with
  |none=>none
  |some m=>bif Nat.beq sz sz'&&Nat.ble (off+m) rs.length then
    match ys with
    | .cs rows=>bif Nat.ble (m+rows.length) 4294967296 then some ⟨.os id sz 0 (.li (.ofNat (m+rows.length))),[(b,none),(id,some (.rows sz ((rs.drop off).take m++rows)))],b::rd,l,nv⟩ else none
    | .ts t=>bif Nat.beq m 0 then some ⟨.os id sz 0 (.rlen t),[(b,none),(id,some (.fK sz t))],b::rd,l++[.len2 0 t],nv⟩
     else some ⟨.os id sz 0 (.rlen (.var nv [])),[(b,none),(id,some (.fK sz (.var nv [])))],b::rd,l++[.ajs sz ((rs.drop off).take m) t (.var nv [])],nv+1⟩
   else none
 |some (.fK sz' xt)=>bif Nat.beq sz sz'&&Nat.beq off 0 then
   match ys with
   | .cs rows=>some ⟨.os id sz 0 (.rlen (.var nv [])),[(b,none),(id,some (.fK sz (.var nv [])))],b::rd,l++(afw len xt++[.app sz xt rows (.var nv [])]),nv+1⟩
   | .ts yt=>some ⟨.os id sz 0 (.rlen (.var nv [])),[(b,none),(id,some (.fK sz (.var nv [])))],b::rd,l++(afw len xt++[.ajr sz xt yt (.var nv [])]),nv+1⟩
  else none
 |_=>none
theorem ajL {sz b off:Nat}{len:Tm}{ys:Ys}{rd:List Nat}{l:List Side}{r:SR}(h:acM th nv id sz b off len ys rd l=some r):∀s∈l,s∈r.sd:=by
 intro s hm
 unfold acM at h
 split at h
 .split at h
  .cases h
  .rename_i m hn
   generalize (Nat.beq sz _&&Nat.ble (off+m) _)=g at h
   cases g
   .cases h
   .simp only [cond_true] at h
    split at h
    .rename_i rows
     cases h1:Nat.ble (m+rows.length) 4294967296
     .simp [h1] at h
     .simp only [h1,cond_true,aj] at h;subst h;exact hm
    .cases h1:Nat.beq m 0
     .simp only [h1,cond_false,aj] at h;subst h;simp [hm]
     .simp only [h1,cond_true,aj] at h;subst h;simp [hm]
 .generalize (Nat.beq sz _&&Nat.beq off 0)=g at h
  cases g
  .cases h
  .simp only [cond_true] at h
   split at h<;>(simp only [aj] at h;subst h;simp [hm])
 .cases h
theorem al5 {sz b off:Nat}{len:Tm}{ys:Ys}{rd:List Nat}{l:List Side}{r:SR}(ha:Ig ρ th ah)(h:acM th nv id sz b off len ys rd l=some r)(hs:∀s∈r.sd,s.holds P ρ)(hK:K (r.den ρ)) :
  match ah b with
  |some (.rows sz' rs)=>sz=sz'/\off+(len.den ρ).I.toNat<=rs.length/\(len.den ρ).I.toNat+(ys.den ρ).length<=4294967296/\
    K ⟨.os id sz 0 ((len.den ρ).I.toNat+(ys.den ρ).length),[(b,none),(id,some (.rows sz ((rs.drop off).take (len.den ρ).I.toNat++ys.den ρ)))],b::rd⟩
  |_=>False:=by
 unfold acM at h
 split at h
 .rename_i sz' rs hb
  rw [ha _ _ hb]
  split at h
  .cases h
  .rename_i m hn
   cases h0:(Nat.beq sz sz'&&Nat.ble (off+m) rs.length)
   .simp [h0] at h
   .simp only [h0,cond_true] at h
    simp only [ak] at h0
    have e0:=au h0.1
    have e1:=aC h0.2
    subst e0
    show sz=sz/\off+(len.den ρ).I.toNat<=(iM ρ rs).length/\_
    rw [(fQ hn).2,f_,Ai,Aj]
    refine ⟨rfl,e1,?_⟩
    split at h
    .rename_i rows
     cases h1:Nat.ble (m+rows.length) 4294967296
     .simp [h1] at h
     .simp only [h1,cond_true,aj] at h;subst h
      simp only [Ys.den,f_]
      refine ⟨aC h1,?_⟩
      rw [<- yI];exact hK
    .rename_i t
     cases h1:Nat.beq m 0
     .simp only [h1,cond_false,aj] at h;subst h
      obtain ⟨b1,b2⟩:=hs (.ajs sz ((rs.drop off).take m) t (.var nv [])) (by simp)
      have hlen:((rs.drop off).take m).length=m:=by simp;omega
      rw [hlen] at b1
      refine ⟨b1,?_⟩
      have:K ⟨.os id sz 0 ((Tm.var nv []).den ρ).R.length,[(b,none),(id,some (.rows sz ((Tm.var nv []).den ρ).R))],b::rd⟩:=hK
      rw [b2] at this
      simpa [Ys.den,f_,hlen] using this
     .simp only [h1,cond_true,aj] at h;subst h
      have e2:=au h1
      subst e2
      have hl:0+(t.den ρ).R.length<=4294967296:=hs (.len2 0 t) (by simp)
      refine ⟨hl,?_⟩
      have:K ⟨.os id sz 0 (t.den ρ).R.length,[(b,none),(id,some (.rows sz (t.den ρ).R))],b::rd⟩:=hK
      simpa [Ys.den,iM] using this
 .rename_i sz' xt hb
  rw [ha _ _ hb]
  cases h0:(Nat.beq sz sz'&&Nat.beq off 0)
  .simp [h0] at h
  .simp only [h0,cond_true] at h
   simp only [ak] at h0
   have e0:=au h0.1
   have e1:=au h0.2
   subst e0;subst e1
   split at h
   .rename_i rows
    simp only [aj] at h;subst h
    have e3:=UK (P:=P) (ρ:=ρ) (l:=len) (t:=xt) (fun s hm=>hs s (by simp [hm]))
    rw [e3]
    obtain ⟨b1,b2,b3⟩:=hs (.app sz xt rows (.var nv [])) (by simp)
    refine ⟨rfl,by simp [SB.den],by simpa [Ys.den,f_] using b2,?_⟩
    have:K ⟨.os id sz 0 ((Tm.var nv []).den ρ).R.length,[(b,none),(id,some (.rows sz ((Tm.var nv []).den ρ).R))],b::rd⟩:=hK
    rw [b3] at this
    simpa [Ys.den] using this
   .rename_i yt
    simp only [aj] at h;subst h
    have e3:=UK (P:=P) (ρ:=ρ) (l:=len) (t:=xt) (fun s hm=>hs s (by simp [hm]))
    rw [e3]
    obtain ⟨b1,b1',b2,b3⟩:=hs (.ajr sz xt yt (.var nv [])) (by simp)
    refine ⟨rfl,by simp [SB.den],by simpa [Ys.den] using b2,?_⟩
    have:K ⟨.os id sz 0 ((Tm.var nv []).den ρ).R.length,[(b,none),(id,some (.rows sz ((Tm.var nv []).den ρ).R))],b::rd⟩:=hK
    rw [b3] at this
    simpa [Ys.den] using this
 .cases h
def Zn : SV->SV
 | .slc [] true=>.nil
 |x=>x
theorem Zo {x:SV}:(Zn x).den ρ=x.den ρ:=by unfold Zn;split<;>rfl
def PD (P:Program)(pc:Pc)(th:Tr SB)(nv id:Nat)(t t2:TypeId)(x y:SV):Option SR:=
 match mW P t with
 |none=>none
 |some e=>
  bif Nat.ble e.2 4096&&(!Nat.beq e.1 0)&&(match P.underlying t2 with|some (.int _)|none=>false|_=>true)&&
    (match (((P.underlying t).bind fun d=>match d with | .slice el=>aDw P el|_=>none).map List.length) with|some n=>Nat.beq n e.1|none=>false) then
   match Pz pc th e.1 y with
   |none=>none
   |some (ys,rd,l)=>
    match Zn x with
    | .nil=>match ys with
     | .cs rows=>bif Nat.ble rows.length 4294967296 then some ⟨.os id e.1 0 (.li (.ofNat rows.length)),[(id,some (.rows e.1 rows))],rd,l,nv⟩ else none
     | .ts t=>some ⟨.os id e.1 0 (.rlen t),[(id,some (.fK e.1 t))],rd,l++[.len2 0 t],nv⟩
    | .sf xt=>match ys with
     | .cs rows=>bif Nat.beq rows.length 0 then none else some ⟨.os id e.1 0 (.rlen (.var nv [])),[(id,some (.fK e.1 (.var nv [])))],rd,l++[.app e.1 xt rows (.var nv [])],nv+1⟩
     |_=>none
    | .os b sz off len=>bif Nat.beq sz e.1 then acM th nv id e.1 b off len ys rd l else none
    | .slc rs true=>match ys with
     | .cs rows=>bif (rs.all (fun r=>Nat.beq r.length e.1)&&!Nat.beq rows.length 0)&&Nat.ble (rs.length+rows.length) 4294967296 then some ⟨.os id e.1 0 (.li (.ofNat (rs.length+rows.length))),[(id,some (.rows e.1 (rs++rows)))],rd,l,nv⟩ else none
     |_=>none
    |_=>none
  else none
theorem OG {t t2:TypeId}{x y:SV}{r:SR}(ha:Ig ρ th ah)(h:PD P pc th nv id t t2 x y=some r)(hs:∀s∈r.sd,s.holds P ρ)(hK:K (r.den ρ)):Bh P id ah t t2 (x.den ρ) (y.den ρ) K:=by
 unfold PD at h
 split at h
 .cases h
 .rename_i e he
  refine dH.2 ⟨e,he,?_⟩
  generalize hg:(Nat.ble e.2 4096&&(!Nat.beq e.1 0)&&(match P.underlying t2 with|some (.int _)|none=>false|_=>true)&&
    (match (((P.underlying t).bind fun d=>match d with | .slice el=>aDw P el|_=>none).map List.length) with|some n=>Nat.beq n e.1|none=>false))=g at h
  cases g
  .cases h
  .simp only [cond_true] at h
   simp only [ak,Bool.not_eq_true'] at hg
   obtain ⟨⟨⟨g1,g2⟩,g3⟩,g4⟩:=hg
   refine ⟨aC g1,fun e0=>by rw [e0] at g2;simp at g2,?_,?_,?_⟩
   .split at g3<;>first|(cases g3;done)|skip
    rename_i n1 n2
    split
    .exact n1 _ (by assumption)
    .exact n2 (by assumption)
    .trivial
   .generalize hq:((P.underlying t).bind fun d=>match d with | .slice el=>aDw P el|_=>none).map List.length=q at g4 ⊢
    cases q with
    |none=>cases g4
    |some n=>rw [au g4]
   split at h
   .cases h
   .rename_i ys rd l hys
    have inl:(∀s∈l,s∈r.sd)->∀{k:List (List AV)->List Nat->Prop},k (ys.den ρ) rd->aDE ah e.1 (y.den ρ) k:=fun hsub k hk=>Ak (P:=P) ha hys (fun s hm=>hs s (hsub s hm)) hk
    rw [<- Zo (x:=x)]
    generalize Zn x=x' at h ⊢
    split at h
    ·
     split at h
     .rename_i rows
      cases h1:Nat.ble rows.length 4294967296
      .simp [h1] at h
      .simp only [h1,cond_true,aj] at h
       subst h
       refine inl (fun s hm=>hm) ⟨OE,rfl,.inl rfl,?_,?_⟩
       .simp only [Ys.den,f_,List.length_nil,Nat.zero_add];exact aC h1
       .have:K ⟨.os id e.1 0 rows.length,[(id,some (.rows e.1 (iM ρ rows)))],rd⟩:=hK
        simpa [Ys.den,f_] using this
     .rename_i t
      simp only [aj] at h
      subst h
      have hl:0+(t.den ρ).R.length<=4294967296:=hs (.len2 0 t) (by simp)
      refine inl (fun s hm=>by simp [hm]) ⟨OE,rfl,.inl rfl,?_,?_⟩
      .simpa [Ys.den] using hl
      .have:K ⟨.os id e.1 0 (t.den ρ).R.length,[(id,some (.rows e.1 (t.den ρ).R))],rd⟩:=hK
       simpa [Ys.den] using this
    .rename_i xt
     split at h
     .rename_i rows
      cases h1:Nat.beq rows.length 0
      .simp only [h1,cond_false,aj] at h
       subst h
       obtain ⟨b1,b2,b3⟩:=hs (.app e.1 xt rows (.var nv [])) (by simp)
       refine inl (fun s hm=>by simp [hm]) ⟨b1,rfl,.inr ?_,?_,?_⟩
       .intro e0
        have:rows.length=0:=by rw [<- f_ (ρ:=ρ)];simp only [Ys.den] at e0;rw [e0];rfl
        rw [this] at h1;simp at h1
       .simpa [Ys.den,f_] using b2
       .have:K ⟨.os id e.1 0 ((Tm.var nv []).den ρ).R.length,[(id,some (.rows e.1 ((Tm.var nv []).den ρ).R))],rd⟩:=hK
        rw [b3] at this
        simpa [Ys.den] using this
      .simp [h1] at h
     .cases h
    .rename_i b sz off len
     cases h1:Nat.beq sz e.1
     .simp [h1] at h
     .simp only [h1,cond_true] at h
      have e1:=au h1
      subst e1
      exact inl (ajL h) ⟨rfl,al5 (P:=P) ha h hs hK⟩
    .rename_i rs
     split at h
     .rename_i rows
      cases h1:((rs.all (fun r=>Nat.beq r.length e.1)&&!Nat.beq rows.length 0)&&Nat.ble (rs.length+rows.length) 4294967296)
      .simp [h1] at h
      .simp only [h1,cond_true,aj] at h
       subst h
       simp only [ak,Bool.not_eq_true',aF] at h1
       obtain ⟨⟨b1,b2⟩,b3⟩:=h1
       refine inl (fun s hm=>hm) ⟨fun row hrow=>?_,rfl,.inr ?_,?_,?_⟩
       .rw [l7,aU] at hrow
        obtain ⟨r,hr,rfl⟩:=hrow
        rw [fZ];exact au (b1 r hr)
       .intro e0
        have:rows.length=0:=by rw [<- f_ (ρ:=ρ)];simp only [Ys.den] at e0;rw [e0];rfl
        rw [this] at b2;simp at b2
       .simp only [Ys.den,f_];exact aC b3
       .have:K ⟨.os id e.1 0 (rs.length+rows.length),[(id,some (.rows e.1 (iM ρ (rs++rows))))],rd⟩:=hK
        simpa [Ys.den,f_,yI] using this
     .cases h
    .cases h
end
end Go.Fw
end
section
namespace Go.Fw
variable [jY]
 mutual
def AV.fz : AV->Bool
  | .p _ | .str _=>true
  | .agg cs=>iW cs
  | .fD cs=>iW cs
  | .sl rows full=>!full&&Ui rows
  | .vp row _=>iW row
  | .fn _ x y=>iW x&&iW y
  | .mV _ v=>v.fz
  | .os .. | .op .. | .mp _=>false
def iW : List AV->Bool
  |[]=>true
  |a::r=>a.fz&&iW r
def Ui : List (List AV)->Bool
  |[]=>true
  |a::r=>iW a&&Ui r
end
 mutual
theorem acN : ∀{a:AV},a.fz=true->a.clean=true
  | .p _,_=>rfl
  | .str _,_=>rfl
  | .agg cs,h=>Am (l:=cs) h
  | .fD cs,h=>Am (l:=cs) h
  | .sl rows full,h=>by simp only [AV.fz,ak] at h;exact j_ h.2
  | .vp row _,h=>Am (l:=row) h
  | .fn _ x y,h=>by simp only [AV.fz,ak] at h;simp only [AV.clean,Am h.1,Am h.2,Bool.and_self]
  | .mV _ v,h=>acN (a:=v) h
  | .os ..,h=>by simp [AV.fz] at h
  | .op ..,h=>by simp [AV.fz] at h
  | .mp _,h=>by simp [AV.fz] at h
theorem Am : ∀{l:List AV},iW l=true->kX l=true
  |[],_=>rfl
  |a::r,h=>by simp only [iW,ak] at h;simp only [kX,acN h.1,Am h.2,Bool.and_self]
theorem j_ : ∀{l:List (List AV)},Ui l=true->jO l=true
  |[],_=>rfl
  |a::r,h=>by simp only [Ui,ak] at h;simp only [jO,Am h.1,j_ h.2,Bool.and_self]
end
 mutual
theorem al6 {ah:AH}:∀{a:AV},a.fz=true->mX ah a=some a
  | .p _,_=>rfl
  | .str _,_=>rfl
  | .agg cs,h=>by simp only [mX,IE (ah:=ah) (l:=cs) h];rfl
  | .fD cs,h=>by simp only [mX,IE (ah:=ah) (l:=cs) h];rfl
  | .sl rows full,h=>by
   simp only [AV.fz,ak,Bool.not_eq_true'] at h
   simp only [mX,KI (ah:=ah) h.2,h.1];rfl
  | .vp row _,h=>by simp only [mX,IE (ah:=ah) (l:=row) h];rfl
  | .fn _ x y,h=>by simp only [AV.fz,ak] at h;simp only [mX,IE (ah:=ah) h.1,IE (ah:=ah) h.2];rfl
  | .mV _ v,h=>by simp only [mX,al6 (ah:=ah) (a:=v) h];rfl
  | .os ..,h=>by simp [AV.fz] at h
  | .op ..,h=>by simp [AV.fz] at h
  | .mp _,h=>by simp [AV.fz] at h
theorem IE {ah:AH}:∀{l:List AV},iW l=true->yD ah l=some l
  |[],_=>rfl
  |a::r,h=>by simp only [iW,ak] at h;simp only [yD,al6 (ah:=ah) h.1,IE (ah:=ah) h.2];rfl
theorem KI {ah:AH}:∀{l:List (List AV)},Ui l=true->zT ah l=some l
  |[],_=>rfl
  |a::r,h=>by simp only [Ui,ak] at h;simp only [zT,IE (ah:=ah) h.1,KI (ah:=ah) h.2];rfl
end
theorem UN : ∀{l:List AV} {j:Nat},iW l=true->(l.getD j eP).fz=true
 |[],j,_=>rfl
 |a::r,0,h=>by simp only [iW,ak] at h;exact h.1
 |a::r,j+1,h=>by simp only [iW,ak] at h;simpa using UN (j:=j) h.2
theorem Ro : ∀{p:List Nat} {a:AV},a.fz=true->(aDt a p).fz=true
 |[],a,h=>by cases a<;>exact h
 |j::p,.agg l,h=>Ro (p:=p) (UN (j:=j) h)
 |j::p,.fD l,h=>Ro (p:=p) (UN (j:=j) h)
 |j::p,.p _,_|j::p,.str _,_|j::p,.sl ..,_|j::p,.vp ..,_|j::p,.fn ..,_|j::p,.mV ..,_|j::p,.os ..,_|j::p,.op ..,_|j::p,.mp _,_=>rfl
theorem ayh {a:AV}(h:a.fz=true):Ui a.D.R=true:=by
 cases a with
 |sl rows full=>simp only [AV.fz,ak] at h;exact h.2
 |p v=>cases v<;>rfl
 |_=>rfl
theorem ayi {d:D}(h:∀l,d≠.r l):d.R=[]:=by cases d<;>first|rfl|exact absurd rfl (h _)
theorem avD : ∀{l:List (List AV)} {n:Nat},Ui l=true->Ui (l.drop n)=true
 |l,0,h=>h
 |[],n+1,h=>rfl
 |a::r,n+1,h=>by simp only [Ui,ak] at h;simpa using avD (n:=n) h.2
theorem Tm.qK {ρ:List AV}(hρ:iW ρ=true):∀t:Tm,Ui (t.den ρ).R=true
 | .lb _ | .li _ | .lf _ | .ls _ | .nl=>rfl
 | .var i p=>ayh (Ro (UN hρ))
 | .bin o k x y=>by simp only [Tm.den,ayi (aaL o k _ _)];rfl
 | .not _ | .and _ _ | .or _ _ | .com _ _ | .conv _ _ | .toF _ | .UJ _ | .slen _ | .rlen _ | .byte _ _ | .Ef _ _ _ | .bts _=>rfl
 | .sbs x=>by
  show Ui ((x.den ρ).S.map aEf)=true
  induction (x.den ρ).S with
  |nil=>rfl
  |cons b l ih=>simp only [aX,Ui,ih,Bool.and_true];rfl
 | .alb n x=>avD (n:=n) (Tm.qK hρ x)
 | .neg k x=>by cases k<;>rfl
 | .ite c x y=>by
  rw [Tm.qm]
  cases (c.den ρ).B
  .exact Tm.qK hρ y
  .exact Tm.qK hρ x
def Weak (a b:AV):Prop:=∀w E v,Rep w E a v->Rep w E b v
theorem Weak.refl (a:AV):Weak a a:=fun _ _ _ h=>h
theorem iy.weak {w:World}{E:Env}:∀{az bs:List AV} {vs:List Value},az.length=bs.length->(∀(i:Nat) (a b:AV),az[i]?=some a->bs[i]?=some b->Weak a b)->iy w E az vs->iy w E bs vs
 |az,bs,vs,hl,hw,h=>by
  refine ⟨by rw [<- hl,h.1],fun i b v hb hv=>?_⟩
  have hi:i<az.length:=by rw [hl];exact (aA.1 hb).1
  have ha:az[i]?=some az[i]:=by simp [hi]
  exact hw i _ b ha hb _ _ _ (h.2 i _ v ha hv)
inductive zY : List AV->List AV->Prop
 |nil:zY [] []
 |cons {a b:AV} {r s:List AV} (h:Weak a b) (hs:b.jR=a.jR) (k:zY r s):zY (a::r) (b::s)
theorem zY.length {az bs:List AV}(h:zY az bs):az.length=bs.length:=by induction h<;>simp_all
theorem zY.get {az bs:List AV}(h:zY az bs):∀(i:Nat) (a b:AV),az[i]?=some a->bs[i]?=some b->Weak a b/\b.jR=a.jR:=by
 induction h with
 |nil=>intro i a b h;simp at h
 |cons h hs k ih=>
  intro i a b ha hb
  cases i with
  |zero=>simp at ha hb;subst ha;subst hb;exact ⟨h,hs⟩
  |succ i=>simp at ha hb;exact ih i a b ha hb
theorem zY.refl : ∀l:List AV,zY l l
 |[]=>.nil
 |a::r=>.cons (Weak.refl a) rfl (zY.refl r)
inductive uO : List (List AV)->List (List AV)->Prop
 |nil:uO [] []
 |cons {a b:List AV} {r s:List (List AV)} (h:zY a b) (k:uO r s):uO (a::r) (b::s)
theorem uO.length {az bs:List (List AV)}(h:uO az bs):az.length=bs.length:=by induction h<;>simp_all
theorem uO.get {az bs:List (List AV)}(h:uO az bs):∀(i:Nat) (b:List AV),bs[i]?=some b->∃a,az[i]?=some a/\zY a b:=by
 induction h with
 |nil=>intro i b h;simp at h
 |cons h k ih=>
  intro i b hb
  cases i with
  |zero=>simp at hb;subst hb;exact ⟨_,rfl,h⟩
  |succ i=>simp at hb;simpa using ih i b hb
theorem uO.refl : ∀l:List (List AV),uO l l
 |[]=>.nil
 |a::r=>.cons (zY.refl a) (uO.refl r)
theorem Weak.agg {az bs:List AV}(h:zY az bs):Weak (.agg az) (.agg bs):=by
 intro w E v hr
 cases hr with
 |agg cs vs hl hs hc=>
  refine .agg bs vs (by rw [<- h.length,hl]) (fun c hm=>?_) (fun i c v hc' hv=>?_)
  .obtain ⟨i,hi⟩:=wK hm
   have hlt:i<az.length:=by rw [h.length];exact (aA.1 hi).1
   have ha:az[i]?=some az[i]:=by simp [hlt]
   rw [(h.get i _ c ha hi).2]
   exact hs _ (aG ha)
  .have hlt:i<az.length:=by rw [h.length];exact (aA.1 hc').1
   have ha:az[i]?=some az[i]:=by simp [hlt]
   exact (h.get i _ c ha hc').1 _ _ _ (hc i _ v ha hv)
theorem Weak.fD {az bs:List AV}(h:zY az bs):Weak (.fD az) (.fD bs):=by
 intro w E v hr
 cases hr with
 |fD cs vs hl hc=>
  refine .fD bs vs (by rw [<- h.length,hl]) (fun i c v hc' hv=>?_)
  have hlt:i<az.length:=by rw [h.length];exact (aA.1 hc').1
  have ha:az[i]?=some az[i]:=by simp [hlt]
  exact (h.get i _ c ha hc').1 _ _ _ (hc i _ v ha hv)
theorem Weak.mV {t:TypeId}{a b:AV}(h:Weak a b):Weak (.mV t a) (.mV t b):=by
 intro w E v hr
 cases hr with
 |mV t a v hv=>exact .mV t b v (h _ _ _ hv)
theorem Weak.sl {az bs:List (List AV)}(h:uO az bs)(full:Bool):Weak (.sl az full) (.sl bs false):=by
 intro w E v hr
 cases hr with
 |slnil=>
  have:=h.length
  have:bs=[]:=by cases bs with|nil=>rfl|cons=>simp at this
  subst this;exact .slnil false _
 |sl rows full sz c o cap g hcap hfull hsz hfix hcell jS hrep=>
  have key:∀{i j:Nat} {row:List AV} {x:AV},bs[i]?=some row->row[j]?=some x->∃row' x',az[i]?=some row'/\row'[j]?=some x'/\Weak x' x/\x.jR=x'.jR:=by
   intro i j row x hr hx
   obtain ⟨row',hr',hw⟩:=h.get i row hr
   have hlt:j<row'.length:=by rw [hw.length];exact (aA.1 hx).1
   have hx':row'[j]?=some row'[j]:=by simp [hlt]
   exact ⟨row',_,hr',hx',(hw.get j _ x hx' hx).1,(hw.get j _ x hx' hx).2⟩
  rw [h.length]
  refine .sl bs false sz c o cap g (by rw [<- h.length];exact hcap) (fun e=>by cases e) (fun i row hr=>?_) (fun i row j x hr hx=>?_) (fun i row j x hr hx=>?_) (fun row hm x hx=>?_) (fun i row j x hr hx=>?_)
  .obtain ⟨row',hr',hw⟩:=h.get i row hr
   rw [<- hw.length];exact hsz i row' hr'
  .obtain ⟨row',x',q1,q2,-,-⟩:=key hr hx;exact hfix i row' j x' q1 q2
  .obtain ⟨row',x',q1,q2,-,-⟩:=key hr hx;exact hcell i row' j x' q1 q2
  .obtain ⟨i,hi⟩:=wK hm
   obtain ⟨j,hj⟩:=wK hx
   obtain ⟨row',x',q1,q2,-,q3⟩:=key hi hj
   rw [q3];exact jS row' (aG q1) x' (aG q2)
  .obtain ⟨row',x',q1,q2,q3,-⟩:=key hr hx;exact q3 _ _ _ (hrep i row' j x' q1 q2)
theorem Weak.vp {az bs:List AV}(h:zY az bs)(off:Nat):Weak (.vp az off) (.vp bs off):=by
 intro w E v hr
 cases hr with
 |vp row off c o g hfix hcell jS hrep=>
  have key:∀{j:Nat} {x:AV},bs[j]?=some x->∃x',az[j]?=some x'/\Weak x' x/\x.jR=x'.jR:=by
   intro j x hx
   have hlt:j<az.length:=by rw [h.length];exact (aA.1 hx).1
   have hx':az[j]?=some az[j]:=by simp [hlt]
   exact ⟨_,hx',(h.get j _ x hx' hx).1,(h.get j _ x hx' hx).2⟩
  refine .vp bs off c o g (fun j x hx=>?_) (fun j x hx=>?_) (fun x hm=>?_) (fun j x hx=>?_)
  .obtain ⟨x',q1,-,-⟩:=key hx;exact hfix j x' q1
  .obtain ⟨x',q1,-,-⟩:=key hx;exact hcell j x' q1
  .obtain ⟨j,hj⟩:=wK hm
   obtain ⟨x',q1,-,q3⟩:=key hj
   rw [q3];exact jS x' (aG q1)
  .obtain ⟨x',q1,q2,-⟩:=key hx;exact q2 _ _ _ (hrep j x' q1)
end Go.Fw
end
section
namespace Go.Fw
variable [jY]
 mutual
def SV.cln : SV->Bool
  | .agg l | .fD l=>KJ l
  | .slc r _=>EJ r
  | .vp row _=>KJ row
  | .fn _ x y=>KJ x&&KJ y
  | .mV _ v=>v.cln
  | .os .. | .op .. | .mp _=>false
  |_=>true
def KJ : List SV->Bool
  |[]=>true
  |x::r=>x.cln&&KJ r
def EJ : List (List SV)->Bool
  |[]=>true
  |x::r=>KJ x&&EJ r
end
 mutual
def SV.IG : SV->List Nat
  | .agg l | .fD l=>Gq l
  | .slc r _=>EK r
  | .vp row _=>Gq row
  | .fn _ x y=>Gq x++Gq y
  | .mV _ v=>v.IG
  | .os b _ _ _=>[b]
  | .op b _ _ _=>[b]
  | .mp b=>[b]
  |_=>[]
def Gq : List SV->List Nat
  |[]=>[]
  |x::r=>x.IG++Gq r
def EK : List (List SV)->List Nat
  |[]=>[]
  |x::r=>Gq x++EK r
end
 mutual
def SV.kC : SV->Bool
  | .sc .sl _=>false
  | .sc _ _=>true
  | .c _=>true
  | .nil=>true
  | .agg l | .fD l=>afJ l
  | .mV _ v=>v.kC
  | .slc [] _=>true
  | .sf .nl=>true
  |_=>false
def afJ : List SV->Bool
  |[]=>true
  |x::r=>x.kC&&afJ r
end
section
variable {ρ : List AV} (hρ:iW ρ=true)
 include hρ
 mutual
theorem aaV : ∀{x:SV},x.cln=true->(x.den ρ).clean=true
  | .sc k t,_=>by cases k<;>first|rfl|exact j_ (Tm.qK hρ t)
  | .c v,_=>rfl
  | .nil,_=>rfl
  | .sf t,_=>j_ (Tm.qK hρ t)
  | .agg l,h=>yL (l:=l) h
  | .fD l,h=>yL (l:=l) h
  | .slc r _,h=>Dp (l:=r) h
  | .vp row _,h=>yL (l:=row) h
  | .fn _ x y,h=>by simp only [SV.cln,ak] at h;simp only [SV.den,AV.clean,yL h.1,yL h.2,Bool.and_self]
  | .mV _ v,h=>aaV (x:=v) h
  | .os ..,h=>by simp [SV.cln] at h
  | .op ..,h=>by simp [SV.cln] at h
  | .mp _,h=>by simp [SV.cln] at h
theorem yL : ∀{l:List SV},KJ l=true->kX (dU ρ l)=true
  |[],_=>rfl
  |x::r,h=>by simp only [KJ,ak] at h;simp only [dU,kX,aaV h.1,yL h.2,Bool.and_self]
theorem Dp : ∀{l:List (List SV)},EJ l=true->jO (iM ρ l)=true
  |[],_=>rfl
  |x::r,h=>by simp only [EJ,ak] at h;simp only [iM,jO,yL h.1,Dp h.2,Bool.and_self]
end
 mutual
theorem yM : ∀{x:SV},(x.den ρ).refs=x.IG
  | .sc k t=>by cases k<;>first|rfl|exact oV (j_ (Tm.qK hρ t))
  | .c v=>rfl
  | .nil=>rfl
  | .sf t=>oV (j_ (Tm.qK hρ t))
  | .agg l=>tH (l:=l)
  | .fD l=>tH (l:=l)
  | .slc r _=>Ap (l:=r)
  | .vp row _=>tH (l:=row)
  | .fn _ x y=>by simp only [SV.den,AV.refs,tH,SV.IG]
  | .mV _ v=>yM (x:=v)
  | .os ..=>rfl
  | .op ..=>rfl
  | .mp _=>rfl
theorem tH : ∀{l:List SV},mQ (dU ρ l)=Gq l
  |[]=>rfl
  |x::r=>by simp only [dU,mQ,yM,tH,Gq]
theorem Ap : ∀{l:List (List SV)},mY (iM ρ l)=EK l
  |[]=>rfl
  |x::r=>by simp only [iM,mY,tH,Ap,EK]
end
 omit hρ in
 mutual
theorem MF : ∀{x:SV},x.kC=true->(x.den ρ).flat=true
  | .sc k t,h=>by cases k<;>first|rfl|(simp [SV.kC] at h)
  | .c v,_=>rfl
  | .nil,_=>rfl
  | .agg l,h=>KL (l:=l) h
  | .fD l,h=>KL (l:=l) h
  | .mV _ v,h=>MF (x:=v) h
  | .sf t,h=>by cases t<;>first|rfl|(simp [SV.kC] at h)
  | .slc [] _,h=>rfl
  | .slc (_::_) _,h=>by simp [SV.kC] at h
  | .vp ..,h=>by simp [SV.kC] at h
  | .fn ..,h=>by simp [SV.kC] at h
  | .os ..,h=>by simp [SV.kC] at h
  | .op ..,h=>by simp [SV.kC] at h
  | .mp _,h=>by simp [SV.kC] at h
theorem KL : ∀{l:List SV},afJ l=true->Bv (dU ρ l)=true
  |[],_=>rfl
  |x::r,h=>by simp only [afJ,ak] at h;simp only [dU,Bv,MF h.1,KL h.2,Bool.and_self]
end
end
 mutual
def SV.nrm : SV->SV
  | .nil=>.slc [] false
  | .sf t=>.sc .sl t
  | .agg l=>.agg (zO l)
  | .fD l=>.fD (zO l)
  | .slc r _=>.slc (ahF r) false
  | .vp row off=>.vp (zO row) off
  | .mV t v=>.mV t v.nrm
  |x=>x
def zO : List SV->List SV
  |[]=>[]
  |x::r=>x.nrm::zO r
def ahF : List (List SV)->List (List SV)
  |[]=>[]
  |x::r=>zO x::ahF r
end
section
variable {ρ : List AV}
 mutual
theorem al8 : ∀{x:SV},(x.nrm.den ρ).jR=(x.den ρ).jR
  | .sc .. | .c _ | .nil | .sf _ | .agg _ | .fD _ | .slc .. | .vp .. | .fn .. | .mV .. | .os .. | .op .. | .mp _=>rfl
theorem Gs : ∀{x:SV},Weak (x.den ρ) (x.nrm.den ρ)
  | .sc k t=>Weak.refl _
  | .c v=>Weak.refl _
  | .nil=>Weak.sl .nil true
  | .sf t=>Weak.sl (uO.refl _) true
  | .agg l=>Weak.agg (tZ (l:=l))
  | .fD l=>Weak.fD (tZ (l:=l))
  | .slc r f=>Weak.sl (II (l:=r)) f
  | .vp row off=>Weak.vp (tZ (l:=row)) off
  | .fn ..=>Weak.refl _
  | .mV t v=>Weak.mV (Gs (x:=v))
  | .os ..=>Weak.refl _
  | .op ..=>Weak.refl _
  | .mp _=>Weak.refl _
theorem tZ : ∀{l:List SV},zY (dU ρ l) (dU ρ (zO l))
  |[]=>.nil
  |x::r=>.cons Gs al8 tZ
theorem II : ∀{l:List (List SV)},uO (iM ρ l) (iM ρ (ahF l))
  |[]=>.nil
  |x::r=>.cons tZ II
end
end
def AhG (ρ:List AV)(g:Nat->Option SB)(ah:AH):Prop:=∀b k,g b=some k->ah b=some (k.den ρ)
def atY (th:Nat->Option SB)(b sz off:Nat)(len:Tm):Option SV:=
 match th b with
 |some (.rows sz' rs)=>match zN len with
  |some m=>bif Nat.beq sz sz'&&(Nat.ble (off+m) rs.length&&EJ rs) then some (.slc ((rs.drop off).take m) false) else none
  |none=>none
 |some (.fK sz' t)=>bif Nat.beq sz sz'&&(Nat.beq off 0&&len.beq (.rlen t)) then some (.sc .sl t) else none
 |_=>none
def atZ (th:Nat->Option SB)(b sz:Nat)(i:Tm)(off:Nat):Option SV:=
 match th b with
 |some (.rows sz' rs)=>match zN i with
  |some m=>bif Nat.beq sz sz'&&EJ rs then (Eh rs m).map fun row=>.vp row off else none
  |none=>none
 |_=>none
 mutual
def SV.mX (th:Nat->Option SB):SV->Option SV
  | .sc k t=>some (.sc k t)
  | .c v=>some (.c v)
  | .nil=>some (.slc [] false)
  | .sf t=>some (.sc .sl t)
  | .agg l=>match Jy th l with|some l=>some (.agg l)|none=>none
  | .fD l=>match Jy th l with|some l=>some (.fD l)|none=>none
  | .slc r _=>match OH th r with|some r=>some (.slc r false)|none=>none
  | .vp row off=>match Jy th row with|some l=>some (.vp l off)|none=>none
  | .fn f x y=>match Jy th x,Jy th y with|some x,some y=>some (.fn f x y)|_,_=>none
  | .mV t v=>match v.mX th with|some v=>some (.mV t v)|none=>none
  | .os b sz off len=>atY th b sz off len
  | .op b sz i off=>atZ th b sz i off
  | .mp _=>none
def Jy (th:Nat->Option SB):List SV->Option (List SV)
  |[]=>some []
  |x::r=>match x.mX th,Jy th r with|some a,some l=>some (a::l)|_,_=>none
def OH (th:Nat->Option SB):List (List SV)->Option (List (List SV))
  |[]=>some []
  |x::r=>match Jy th x,OH th r with|some a,some l=>some (a::l)|_,_=>none
end
section
variable {ρ : List AV} (hρ:iW ρ=true) {th:Nat->Option SB} {ah:AH} (ha:AhG ρ th ah)
 include hρ ha
theorem al9 {b sz off:Nat}{len:Tm}{y:SV}(h:atY th b sz off len=some y):Go.Fw.mX ah (.os b sz off (len.den ρ).I.toNat)=some (y.den ρ):=by
 unfold atY at h
 split at h
 .rename_i sz' rs hb
  split at h
  .rename_i m hm
   cases h0:Nat.beq sz sz'&&(Nat.ble (off+m) rs.length&&EJ rs)
   .simp [h0] at h
   .simp only [h0,cond_true,aj] at h;subst h
    simp only [ak] at h0
    simp only [Go.Fw.mX,ha _ _ hb,SB.den]
    rw [if_pos ⟨au h0.1,by rw [(fQ hm).2,f_];exact aC h0.2.1,Dp hρ h0.2.2⟩,(fQ hm).2,Ai,Aj]
    rfl
  .cases h
 .rename_i sz' t hb
  cases h0:Nat.beq sz sz'&&(Nat.beq off 0&&len.beq (.rlen t))
  .simp [h0] at h
  .simp only [h0,cond_true,aj] at h;subst h
   simp only [ak] at h0
   have e1:=au h0.2.1
   have e2:=Tm.beq_eq h0.2.2
   subst e1;subst e2
   have e3:(Tm.den ρ t.rlen).I.toNat=(t.den ρ).R.length:=rfl
   simp only [Go.Fw.mX,ha _ _ hb,SB.den,e3]
   rw [if_pos ⟨au h0.1,by simp,j_ (Tm.qK hρ t)⟩]
   simp [SV.den,Kd.av]
 .cases h
theorem al_ {b sz off:Nat}{i:Tm}{y:SV}(h:atZ th b sz i off=some y):Go.Fw.mX ah (.op b sz (i.den ρ).I.toNat off)=some (y.den ρ):=by
 unfold atZ at h
 split at h
 .rename_i sz' rs hb
  split at h
  .rename_i m hm
   cases h0:Nat.beq sz sz'&&EJ rs
   .simp [h0] at h
   .simp only [h0,cond_true,ay] at h
    obtain ⟨row,hrow,rfl⟩:=h
    simp only [ak] at h0
    simp only [Go.Fw.mX,ha _ _ hb,SB.den]
    rw [if_pos ⟨au h0.1,Dp hρ h0.2⟩,(fQ hm).2,Me hrow]
    rfl
  .cases h
 .cases h
 mutual
theorem PE : ∀{x y:SV},x.mX th=some y->Go.Fw.mX ah (x.den ρ)=some (y.den ρ)
  | .sc k t,y,h=>by
   simp only [SV.mX,aj] at h;subst h
   cases k<;>first|rfl|(simp only [SV.den,Kd.av,Go.Fw.mX,KI (ah:=ah) (Tm.qK hρ t)];rfl)
  | .c v,y,h=>by simp only [SV.mX,aj] at h;subst h;rfl
  | .nil,y,h=>by simp only [SV.mX,aj] at h;subst h;rfl
  | .sf t,y,h=>by
   simp only [SV.mX,aj] at h;subst h
   simp only [SV.den,Kd.av,Go.Fw.mX,KI (ah:=ah) (Tm.qK hρ t)];rfl
  | .agg l,y,h=>by
   simp only [SV.mX] at h
   split at h
   .rename_i m hm;simp only [aj] at h;subst h;simp only [SV.den,Go.Fw.mX,yN hm];rfl
   .cases h
  | .fD l,y,h=>by
   simp only [SV.mX] at h
   split at h
   .rename_i m hm;simp only [aj] at h;subst h;simp only [SV.den,Go.Fw.mX,yN hm];rfl
   .cases h
  | .slc r f,y,h=>by
   simp only [SV.mX] at h
   split at h
   .rename_i m hm;simp only [aj] at h;subst h;simp only [SV.den,Go.Fw.mX,MG hm];rfl
   .cases h
  | .vp row off,y,h=>by
   simp only [SV.mX] at h
   split at h
   .rename_i m hm;simp only [aj] at h;subst h;simp only [SV.den,Go.Fw.mX,yN hm];rfl
   .cases h
  | .fn f x z,y,h=>by
   simp only [SV.mX] at h
   split at h
   .rename_i m n hm hn;simp only [aj] at h;subst h;simp only [SV.den,Go.Fw.mX,yN hm,yN hn];rfl
   .cases h
  | .mV t v,y,h=>by
   simp only [SV.mX] at h
   split at h
   .rename_i m hm;simp only [aj] at h;subst h;simp only [SV.den,Go.Fw.mX,PE hm];rfl
   .cases h
  | .os b sz off len,y,h=>al9 hρ ha h
  | .op b sz i off,y,h=>al_ hρ ha h
  | .mp _,y,h=>by simp [SV.mX] at h
theorem yN : ∀{l m:List SV},Jy th l=some m->yD ah (dU ρ l)=some (dU ρ m)
  |[],m,h=>by simp only [Jy,aj] at h;subst h;rfl
  |x::r,m,h=>by
   simp only [Jy] at h
   split at h
   .rename_i a l ha' hl;simp only [aj] at h;subst h;simp only [dU,yD,PE ha',yN hl];rfl
   .cases h
theorem MG : ∀{l m:List (List SV)},OH th l=some m->zT ah (iM ρ l)=some (iM ρ m)
  |[],m,h=>by simp only [OH,aj] at h;subst h;rfl
  |x::r,m,h=>by
   simp only [OH] at h
   split at h
   .rename_i a l ha' hl;simp only [aj] at h;subst h;simp only [iM,zT,yN ha',MG hl];rfl
   .cases h
end
end
def thN (th:Tr SB):Nat->Nat->Option SB
 |0=>th.get
 |n+1=>fun b=>match th.get b with
  |some (.rows sz rs)=>bif EJ rs then some (.rows sz rs) else match OH (thN th n) rs with
   |some r=>some (.rows sz r)
   |none=>none
  |k=>k
 mutual
theorem ahG {ρ:List AV}(hρ:iW ρ=true):∀{x:SV},(x.den ρ).clean=x.cln
  | .sc k t=>by cases k<;>first|rfl|exact j_ (Tm.qK hρ t)
  | .c v=>rfl
  | .nil=>rfl
  | .sf t=>j_ (Tm.qK hρ t)
  | .agg l=>Gt hρ (l:=l)
  | .fD l=>Gt hρ (l:=l)
  | .slc r _=>Rq hρ (l:=r)
  | .vp row _=>Gt hρ (l:=row)
  | .fn _ x y=>by simp only [SV.den,AV.clean,SV.cln,Gt hρ]
  | .mV _ v=>ahG hρ (x:=v)
  | .os ..=>rfl
  | .op ..=>rfl
  | .mp _=>rfl
theorem Gt {ρ:List AV}(hρ:iW ρ=true):∀{l:List SV},kX (dU ρ l)=KJ l
  |[]=>rfl
  |x::r=>by simp only [dU,kX,KJ,ahG hρ,Gt hρ]
theorem Rq {ρ:List AV}(hρ:iW ρ=true):∀{l:List (List SV)},jO (iM ρ l)=EJ l
  |[]=>rfl
  |x::r=>by simp only [iM,jO,EJ,Gt hρ,Rq hρ]
end
theorem IJ {ρ:List AV}(hρ:iW ρ=true){th:Tr SB}{ah:AH}(ha:Ig ρ th ah):∀n,AhG ρ (thN th n) (yA ah n)
 |0=>ha
 |n+1=>fun b k h=>by
  have ih:=IJ hρ ha n
  simp only [thN] at h
  cases hb:th.get b with
  |none=>rw [hb] at h;cases h
  |some sb=>
   have hab:=ha b sb hb
   cases sb with
   |rows sz rs=>
    simp only [hb] at h
    simp only [yA,hab,SB.den,Rq hρ]
    cases hc:EJ rs
    .simp only [hc,cond_false] at h
     split at h
     .rename_i r hr
      simp only [aj] at h;subst h
      simp only [cond_false,MG hρ ih hr];rfl
     .cases h
    .simp only [hc,cond_true,aj] at h;subst h
     rfl
   |fK sz t=>
    simp only [hb,aj] at h;subst h
    simp only [yA,hab,SB.den,j_ (Tm.qK hρ t),cond_true]
   |map es=>simp only [hb,aj] at h;subst h;simp only [yA,hab,SB.den]
   |BZ m t=>simp only [hb,aj] at h;subst h;simp only [yA,hab,SB.den]
   |it m n k=>simp only [hb,aj] at h;subst h;simp only [yA,hab,SB.den]
   |kN ty sz rs=>simp only [hb,aj] at h;subst h;simp only [yA,hab,SB.den]
def rfT (th:Tr SB):List Nat->Option (List Nat)
 |[]=>some []
 |b::r=>match th.get b with
  |none=>none
  |some k=>match rfT th r with
   |none=>none
   |some l=>some ((match k with | .rows _ rs=>EK rs|_=>[])++l)
def ama (th:Tr SB):Nat->List Nat->Option (List Nat)
 |0,l=>some l
 |n+1,l=>match l with
  |[]=>some []
  |_::_=>match rfT th l with
   |none=>none
   |some m=>match ama th n m with
    |none=>none
    |some r=>some (l++r)
theorem ahH {ρ:List AV}(hρ:iW ρ=true){th:Tr SB}{ah:AH}(ha:Ig ρ th ah):∀{l m:List Nat},rfT th l=some m->l.flatMap (Ey ah)=m
 |[],m,h=>by simp only [rfT,aj] at h;subst h;rfl
 |b::r,m,h=>by
  simp only [rfT] at h
  split at h
  .cases h
  .rename_i k hk
   split at h
   .cases h
   .rename_i q hq
    simp only [aj] at h;subst h
    rw [List.flatMap_cons,ahH hρ ha hq]
    simp only [Ey,ha b k hk]
    cases k with
    |rows sz rs=>simp only [SB.den,Ap hρ]
    |fK sz t=>simp only [SB.den,oV (j_ (Tm.qK hρ t))]
    |map es=>rfl
    |BZ m t=>rfl
    |it m n k=>rfl
    |kN ty sz rs=>rfl
theorem ahI {ah:AH}:∀n,rch ah n []=[]
 |0=>rfl
 |n+1=>by simp only [rch,List.flatMap_nil,ahI n,cu]
theorem acO {ρ:List AV}(hρ:iW ρ=true){th:Tr SB}{ah:AH}(ha:Ig ρ th ah):∀(n:Nat) {l m:List Nat},ama th n l=some m->rch ah n l=m
 |0,l,m,h=>by simp only [ama,aj] at h;exact h
 |n+1,l,m,h=>by
  simp only [ama] at h
  split at h
  .simp only [aj] at h;subst h;exact ahI _
  .split at h
   .cases h
   .rename_i q hq
    split at h
    .cases h
    .rename_i r hr
     simp only [aj] at h;subst h
     simp only [rch]
     rw [ahH hρ ha hq,acO hρ ha n hr]
end Go.Fw
end
section
namespace Go.Fw
variable [jY]
section
variable {P : Program} {ρ:List AV} {pc:Pc} {id nv:Nat} {fr:mg} {ah:AH} {tr:Tr qo} {th:Tr SB} {K:sQ->Prop}
def ahJ (P:Program)(kv:TypeId->SV->Bool)(cs:List SV):List Field->Bool
 |[]=>true
 |f::fs=>(bif decide (f.name≠ "_") then (match Dy P f.type with|some ty=>(match FP ty cs f.offset with|some a=>kv f.type a|none=>false)|none=>false) else true)&&ahJ P kv cs fs
def IK (P:Program):Nat->TypeId->SV->Bool
 |0,_,_=>false
 |d+1,t,a=>match P.underlying t with
  |none=>false
  |some u=>match u,a with
   | .bool,.sc .bool _=>true
   | .int _,.sc (.int _) _=>true
   | .string,.sc .str _=>true
   | .struct fs,.agg cs=>ahJ P (IK P d) cs fs.toList
   |_,_=>false
theorem acP {kv:TypeId->SV->Bool}{ka:TypeId->AV->Bool}(hk:∀t x,kv t x=true->ka t (x.den ρ)=true){cs:List SV}:∀{fs:List Field},ahJ P kv cs fs=true->ali P ka (dU ρ cs) fs=true
 |[],_=>rfl
 |f::fs,h=>by
  simp only [ahJ,ak] at h
  simp only [ali,ak]
  refine ⟨?_,acP hk h.2⟩
  have h1:=h.1
  by_cases hn:f.name≠ "_"
  .rw [if_pos hn]
   simp only [hn,not_false_eq_true,ne_eq,decide_true,cond_true] at h1
   split at h1
   .rename_i ty hty
    rw [hty]
    split at h1
    .rename_i a ha
     dsimp only
     rw [VN ha]
     exact hk _ _ h1
    .cases h1
   .cases h1
  .rw [if_neg hn]
theorem Rt : ∀{d:Nat} {t:TypeId} {x:SV},IK P d t x=true->DI P d t (x.den ρ)=true
 |0,t,x,h=>by simp [IK] at h
 |d+1,t,x,h=>by
  unfold IK at h
  unfold DI
  split at h
  .cases h
  .rename_i u hu
   rw [hu]
   split at h
   .rfl
   .rfl
   .rfl
   .exact acP (kv:=IK P d) (ka:=DI P d) (fun t x=>Rt) h
   .cases h
def ahK : SV->Bool
 | .sc .bool _ | .sc (.int _) _ | .sc .str _=>true
 |_=>false
def apJ : SV->Bool
 | .agg cs=>cs.all ahK
 |a=>ahK a
theorem acQ {x:SV}(h:ahK x=true):afd (x.den ρ)=true:=by
 unfold ahK at h
 split at h
 .rfl
 .rfl
 .rfl
 .cases h
theorem apK {x:SV}(h:apJ x=true):alj (x.den ρ)=true:=by
 unfold apJ at h
 split at h
 .rename_i cs
  show (dU ρ cs).all afd=true
  rw [nX,List.all_map,aF]
  intro y hy
  exact acQ (aF.1 h y hy)
 .rename_i hx
  have h1:=acQ (ρ:=ρ) h
  unfold alj
  split
  .rename_i cs e
   rw [e] at h1
   simp [afd] at h1
  .exact h1
def VU (P:Program)(t:TypeId):Option SV:=((P.info? t).bind (·.zero)).bind apz
theorem Ru {t:TypeId}{z:SV}(h:VU P t=some z):J5 P t=some (z.den ρ):=by
 unfold VU at h
 simp only [aQ] at h
 obtain ⟨v,hv,hz⟩:=h
 unfold J5
 simp only [aQ]
 exact ⟨v,hv,acC hz⟩
def Zp (P:Program)(pc:Pc)(kt:TypeId)(k:SV):List (SV×SV)->Option (Option (Nat×SV))
 |[]=>some none
 |e::r=>match yEq P 10000 kt k e.1 with
  |none=>none
  |some t=>match pc.known t with
   |none=>none
   |some true=>some (some (0,e.2))
   |some false=>match Zp P pc kt k r with
    |none=>none
    |some none=>some none
    |some (some q)=>some (some (q.1+1,q.2))
def aaW (ρ:List AV)(es:List (SV×SV)):List (AV×AV):=es.map fun e=>(e.1.den ρ,e.2.den ρ)
theorem PG (hp:pc.holds ρ){kt:TypeId}{k:SV}:∀{es:List (SV×SV)} {r:Option (Nat×SV)},Zp P pc kt k es=some r->zQ P kt (k.den ρ) (aaW ρ es)=some (r.map fun q=>(q.1,q.2.den ρ))
 |[],r,h=>by simp only [Zp,aj] at h;subst h;rfl
 |e::es,r,h=>by
  simp only [Zp] at h
  split at h
  .cases h
  .rename_i t ht
   have ht:=Rl (P:=P) (ρ:=ρ) ht
   simp only [aaW,aX,zQ,ht]
   split at h
   .cases h
   .rename_i hk
    simp only [aj] at h;subst h
    rw [Pc.gQ hp hk];rfl
   .rename_i hk
    rw [Pc.gQ hp hk]
    dsimp only
    split at h
    .cases h
    .rename_i hf
     simp only [aj] at h;subst h
     have:=PG hp hf
     unfold aaW at this
     rw [this];rfl
    .rename_i q hf
     simp only [aj] at h;subst h
     have:=PG hp hf
     unfold aaW at this
     rw [this];rfl
def lkS (c:Bool)(v:SV)(ok:Bool):SV:=bif c then .fD [v,.sc .bool (.lb ok)] else v
theorem IL {c ok:Bool}{v:SV}:(lkS c v ok).den ρ=J6 c (v.den ρ) ok:=by cases c<;>rfl
def PI (P:Program)(t:TypeId)(id nv:Nat)(r:Option SV):Option SR:=
 match r with
 |none=>some ⟨.mp id,[(id,some (.map []))],[],[],nv⟩
 |some (.sc (.int _) _)=>match P.underlying t with
  |some (.map _ _)=>some ⟨.mp id,[(id,some (.map []))],[],[],nv⟩
  |_=>none
 |_=>none
theorem TJ {t:TypeId}{x:Option SV}{r:SR}(h:PI P t id nv x=some r)(hK:K (r.den ρ)):F8 P t id (x.map (SV.den ρ)) K:=by
 unfold PI at h
 split at h
 .simp only [aj] at h;subst h;exact ⟨trivial,hK⟩
 .split at h
  .rename_i hu
   simp only [aj] at h;subst h
   refine ⟨?_,hK⟩
   simp only [Option.map_some,SV.den,Kd.av,hu]
  .cases h
 .cases h
def lkT (c:Bool)(v:SV)(f:Tm):SV:=bif c then .fD [v,.sc .bool f] else v
theorem apL {c:Bool}{v:SV}{f:Tm}:(lkT c v f).den ρ=J6 c (v.den ρ) (f.den ρ).B:=by cases c<;>rfl
def awq (P:Program)(nv:Nat)(et:TypeId):Option SV:=
 match IB P 20 et,P.underlying et with
 |some l,some d=>bif l.any (fun k=>decide (k=.sl)) then none else bif J4 d then some (.agg (kQ nv [] 1 l)) else match l with | [k]=>some (.sc k (.var nv [1]))|_=>none
 |_,_=>none
def awr (P:Program)(pc:Pc)(th:Tr SB)(nv:Nat)(kt et:TypeId)(z m k:SV)(c:Bool):Option SR:=
 match m with
 | .c .mp=>some (.val nv (lkS c z false))
 | .mp b=>match th.get b with
  |some (.map es)=>match Zp P pc kt k es with
   |none=>none
   |some none=>some ⟨lkS c z false,[],[b],[],nv⟩
   |some (some q)=>some ⟨lkS c q.2 true,[],[b],[],nv⟩
  |some (.BZ sh t)=>match awq P nv et with
   |none=>none
   |some v=>some ⟨lkT c v (.var nv [0]),[],[b],[.look kt sh t k z (.var nv [0]) v],nv+1⟩
  |_=>none
 |_=>none
def aaX (P:Program)(pc:Pc)(th:Tr SB)(nv:Nat)(t:TypeId)(m k:SV)(c:Bool):Option SR:=
 match P.underlying t with
 |some (.map kt et)=>bif IK P 10000 kt k then (match VU P et with|some z=>awr P pc th nv kt et z m k c|none=>none) else none
 |_=>none
theorem afK {t:TypeId}{m k:SV}{c:Bool}{r:SR}(hp:pc.holds ρ)(ha:Ig ρ th ah)(h:aaX P pc th nv t m k c=some r)(hs:∀s∈r.sd,s.holds P ρ)(hK:K (r.den ρ)):Eu P ah t (m.den ρ) (k.den ρ) c K:=by
 unfold aaX at h
 unfold Eu
 split at h
 .rename_i kt et hu
  rw [hu]
  cases hk:IK P 10000 kt k
  .simp [hk] at h
  .simp only [hk,cond_true] at h
   refine ⟨Rt hk,?_⟩
   split at h
   .rename_i z hz
    refine dH.2 ⟨_,Ru (ρ:=ρ) hz,?_⟩
    unfold awr at h
    split at h
    .simp only [aj] at h;subst h
     rw [SR.uo,IL] at hK
     exact hK
    .rename_i b
     split at h
     .rename_i es hb
      show (match ah b with|some (.map es)=>_|_=>False)
      rw [ha _ _ hb]
      have hf:=fun r h=>PG (ρ:=ρ) (P:=P) hp (r:=r) (kt:=kt) (k:=k) (es:=es) h
      split at h
      .cases h
      .rename_i hq
       simp only [aj] at h;subst h
       refine dH.2 ⟨_,hf _ hq,?_⟩
       simp only [SR.den,IL] at hK
       exact hK
      .rename_i q hq
       simp only [aj] at h;subst h
       refine dH.2 ⟨_,hf _ hq,?_⟩
       simp only [SR.den,IL] at hK
       exact hK
     .rename_i sh t hb
      show (match ah b with|some (.map es)=>_|_=>False)
      rw [ha _ _ hb]
      split at h
      .cases h
      .rename_i v hv
       simp only [aj] at h;subst h
       obtain ⟨r,r1,r2,r3⟩:=hs _ aZ
       refine dH.2 ⟨_,r1,?_⟩
       simp only [SR.den,apL,r2,r3] at hK
       cases r with
       |none=>exact hK
       |some q=>exact hK
     .cases h
    .cases h
   .cases h
 .cases h
def arU (P:Program)(pc:Pc)(th:Tr SB)(nv:Nat)(kt:TypeId)(m k v:SV):Option SR:=
 match m with
 | .mp b=>match th.get b with
  |some (.map es)=>match Zp P pc kt k es with
   |none=>none
   |some none=>some ⟨.c .undef,[(b,some (.map (es++[(k,v)])))],[b],[],nv⟩
   |some (some q)=>match Eh es q.1 with
    |some e=>bif e.1.beq k then some ⟨.c .undef,[(b,some (.map (es.set q.1 (k,v))))],[b],[],nv⟩ else none
    |none=>none
  |some (.BZ sh t)=>some ⟨.c .undef,[(b,some (.BZ sh (.var nv [])))],[b],[.put kt sh t k v (.var nv [])],nv+1⟩
  |_=>none
 |_=>none
def aaY (P:Program)(pc:Pc)(th:Tr SB)(nv:Nat)(t:TypeId)(m k v:SV):Option SR:=
 match P.underlying t with
 |some (.map kt _)=>bif IK P 10000 kt k&&apJ k then arU P pc th nv kt m k v else none
 |_=>none
theorem VW {t:TypeId}{m k v:SV}{r:SR}(hp:pc.holds ρ)(ha:Ig ρ th ah)(h:aaY P pc th nv t m k v=some r)(hs:∀s∈r.sd,s.holds P ρ)(hK:K (r.den ρ)):Ew P ah t (m.den ρ) (k.den ρ) (v.den ρ) K:=by
 unfold aaY at h
 unfold Ew
 split at h
 .rename_i kt et hu
  rw [hu]
  cases hk:IK P 10000 kt k&&apJ k
  .simp [hk] at h
  .simp only [hk,cond_true] at h
   simp only [ak] at hk
   refine ⟨Rt hk.1,apK hk.2,?_⟩
   unfold arU at h
   split at h
   .rename_i b
    split at h
    .rename_i es hb
     show (match ah b with|some (.map es)=>_|_=>False)
     rw [ha _ _ hb]
     have hf:=fun r h=>PG (ρ:=ρ) (P:=P) hp (r:=r) (kt:=kt) (k:=k) (es:=es) h
     split at h
     .cases h
     .rename_i hq
      simp only [aj] at h;subst h
      refine dH.2 ⟨_,hf _ hq,by simp,?_⟩
      simp only [SR.den,SB.den,SV.den,Cv.val,aX,List.map_nil,Option.map_some,List.map_append] at hK
      exact hK
     .rename_i q hq
      split at h
      .rename_i e he
       cases hc:e.1.beq k
       .simp [hc] at h
       .simp only [hc,cond_true,aj] at h;subst h
        have he':=SV.beq_eq hc
        rw [yH] at he
        refine dH.2 ⟨_,hf _ hq,?_,?_⟩
        .intro q' hq'
         simp only [Option.map_some,aj] at hq'
         subst hq'
         simp [he,he']
        .simp only [SR.den,SB.den,SV.den,Cv.val,aX,List.map_nil,Option.map_some,List.map_set] at hK
         exact hK
      .cases h
    .rename_i sh t hb
     show (match ah b with|some (.map es)=>_|_=>False)
     rw [ha _ _ hb]
     simp only [aj] at h;subst h
     obtain ⟨r,r1,r2,r3⟩:=hs _ aZ
     refine dH.2 ⟨_,r1,r2,?_⟩
     simp only [SR.den,SB.den,SV.den,Cv.val,aX,List.map_nil,Option.map_some,r3] at hK
     exact hK
    .cases h
   .cases h
 .cases h
def amb (P:Program)(pc:Pc)(th:Tr SB)(nv:Nat)(t:TypeId)(x y:SV):Option SR:=
 match mW P t with
 |none=>none
 |some e=>bif Nat.beq e.1 0 then none else
  match Pz pc th e.1 y with
  |none=>none
  |some (ys,rd,l)=>
   match x with
   | .nil=>some ⟨.sc (.int .i64) (.li 0),[],rd,l,nv⟩
   | .os b sz off len=>bif Nat.beq sz e.1 then
     match th.get b with
     |some (.rows sz' rs)=>match zN len,ys with
      |some m,.cs rows=>bif Nat.beq sz sz'&&Nat.ble (off+m) rs.length then
       some ⟨.sc (.int .i64) (.li (.ofNat (min rows.length m))),[(b,some (.rows e.1 (rs.take off++rows.take m++rs.drop (off+min rows.length m))))],b::rd,l,nv⟩ else none
      |_,_=>none
     |some (.fK sz' xt)=>match ys,aD9 pc len with
      | .ts yt,some l'=>bif Nat.beq sz sz'&&Nat.beq off 0 then
       some ⟨.sc (.int .i64) (aDP (ltT (.rlen yt) len) (.rlen yt) len),[(b,some (.fK e.1 (.var nv [])))],b::rd,l++(l'++[.cpy xt len yt (.var nv [])]),nv+1⟩ else none
      |_,_=>none
     |_=>none
    else none
   |_=>none
theorem amc {t:TypeId}{x y:SV}{r:SR}(hp:pc.holds ρ)(ha:Ig ρ th ah)(h:amb P pc th nv t x y=some r)(hs:∀s∈r.sd,s.holds P ρ)(hK:K (r.den ρ)):YU P ah t (x.den ρ) (y.den ρ) K:=by
 unfold amb at h
 split at h
 .cases h
 .rename_i e he
  cases h0:Nat.beq e.1 0
  .simp only [h0,cond_false] at h
   refine dH.2 ⟨e,he,?_⟩
   refine And.intro (fun e0=>by rw [e0] at h0;exact absurd h0 (by decide)) ?_
   split at h
   .cases h
   .rename_i ys rd l hy
    split at h
    .simp only [aj] at h;subst h
     exact Ak ha hy hs hK
    .rename_i b sz off len
     cases h1:Nat.beq sz e.1
     .simp [h1] at h
     .simp only [h1,cond_true] at h
      have e1:=au h1
      split at h
      .rename_i sz' rs hb
       split at h
       .rename_i m rows hm
        cases h2:Nat.beq sz sz'&&Nat.ble (off+m) rs.length
        .simp [h2] at h
        .simp only [h2,cond_true,aj] at h;subst h
         simp only [ak] at h2
         refine Ak ha hy hs ?_
         show sz=e.1/\_
         refine ⟨e1,?_⟩
         rw [ha _ _ hb]
         refine ⟨au h2.1,?_,?_⟩
         .rw [(fQ hm).2,f_];exact aC h2.2
         .rw [(fQ hm).2]
          simp only [Ys.den,f_,Aj,Ai,<- yI]
          exact hK
       .cases h
      .rename_i sz' xt hb
       split at h
       .rename_i yt l' hn
        cases h2:Nat.beq sz sz'&&Nat.beq off 0
        .simp [h2] at h
        .simp only [h2,cond_true,aj] at h;subst h
         simp only [ak] at h2
         have e2:=au h2.2
         subst e2
         refine Ak ha hy (fun s hm=>hs s (by simp [hm])) ?_
         have hl0:=Zm hp hn (fun s hm=>hs s (by simp [hm]))
         obtain ⟨c1,c2⟩:=hs (.cpy xt len yt (.var nv [])) (by simp)
         show sz=e.1/\_
         refine ⟨e1,?_⟩
         rw [ha _ _ hb]
         refine ⟨au h2.1,by simpa using c1,?_⟩
         have hv2:((aDP (ltT (.rlen yt) len) (.rlen yt) len).den ρ).I=((min (yt.den ρ).R.length (len.den ρ).I.toNat:Nat):Int):=by
          rw [Ah]
          have e3:((ltT (.rlen yt) len).den ρ).B=decide (((yt.den ρ).R.length:Int)<(len.den ρ).I):=by
           rw [ltT,oK];rfl
          rw [e3]
          by_cases hlt:((yt.den ρ).R.length:Int)<(len.den ρ).I
          .rw [decide_eq_true hlt]
           show ((yt.den ρ).R.length:Int)=_
           omega
          .rw [decide_eq_false hlt]
           show (len.den ρ).I=_
           omega
         have:K ⟨.p (.int .i64 ((aDP (ltT (.rlen yt) len) (.rlen yt) len).den ρ).I),[(b,some (.rows e.1 ((Tm.var nv []).den ρ).R))],b::rd⟩:=hK
         rw [hv2,c2] at this
         simpa [Ys.den] using this
       .cases h
      .cases h
    .cases h
  .simp [h0] at h
def acR : List SV->Option UInt8
 |[.sc (.int .u8) (.li (.ofNat n))]=>bif Nat.blt n 256 then some (UInt8.ofNat n) else none
 |_=>none
def FQ : List (List SV)->Option (List UInt8)
 |[]=>some []
 |x::r=>match acR x with|none=>none|some b=>match FQ r with|none=>none|some l=>some (b::l)
theorem amd {row:List SV}{b:UInt8}(h:acR row=some b):aDG (dU ρ row)=some b:=by
 unfold acR at h
 split at h
 .rename_i n
  cases hn:Nat.blt n 256
  .simp [hn] at h
  .simp only [hn,cond_true,aj] at h;subst h
   have:=OC hn
   show (bif decide (0<=(n:Int)/\(n:Int)<256) then some (UInt8.ofNat (n:Int).toNat) else none)=_
   have e:decide (0<=(n:Int)/\(n:Int)<256)=true:=by simp;omega
   rw [e];rfl
 .cases h
theorem Zq : ∀{rows:List (List SV)} {l:List UInt8},FQ rows=some l->(iM ρ rows).mapM aDG=some l
 |[],l,h=>by simp only [FQ,aj] at h;subst h;rfl
 |x::r,l,h=>by
  simp only [FQ] at h
  split at h
  .cases h
  .rename_i b hb
   split at h
   .cases h
   .rename_i l' hl
    simp only [aj] at h;subst h
    simp only [iM,List.mapM_cons,amd hb,Zq hl,Option.pure_def,Option.bind_eq_bind,Option.bind_some]
def aEF : SV->Bool | .sc .str _=>true|_=>false
def afL (P:Program)(pc:Pc)(th:Tr SB)(nv:Nat)(s:TypeId)(x:SV):Option SR:=
 bif (match P.underlying s with|some (.slice e)=>(match P.underlying e with|some (.int k)=>decide (k=.u8)|_=>false)|_=>false)&&!aEF x then
  match Pz pc th 1 x with
  |none=>none
  |some (.cs rows,rd,l)=>(FQ rows).map fun b=>⟨.sc .str (.ls b),[],rd,l,nv⟩
  |some (.ts t,rd,l)=>some ⟨.sc .str (.bts t),[],rd,l++[.atJ t],nv⟩
 else none
theorem Zr : ∀{ys:List (List AV)},(ys.mapM aDG).isSome=true->ys.mapM aDG=some (ys.map aaK)
 |[],_=>rfl
 |y::ys,h=>by
  cases hb:aDG y with
  |none=>simp [hb] at h
  |some b=>
   cases hr:ys.mapM aDG with
   |none=>simp [hb,hr] at h
   |some r=>
    have ih:=Zr (ys:=ys) (by rw [hr];rfl)
    rw [hr] at ih
    simp only [aj] at ih
    simp [hb,hr,ih,aaK]
theorem ajM {s d:TypeId}{x:SV}{r:SR}(hd:P.underlying d=some .string)(ha:Ig ρ th ah)(h:afL P pc th nv s x=some r)(hs:∀s∈r.sd,s.holds P ρ)(hK:K (r.den ρ)):afe P ah s d (x.den ρ) K:=by
 unfold afL at h
 generalize hg:((match P.underlying s with|some (.slice e)=>(match P.underlying e with|some (.int k)=>decide (k=.u8)|_=>false)|_=>false)&&!aEF x)=g at h
 cases g
 .cases h
 .simp only [cond_true] at h
  simp only [ak] at hg
  obtain ⟨h1,h2⟩:=hg
  refine ⟨hd,?_,?_,?_⟩
  .split at h1
   .rename_i e hu
    split at h1
    .rename_i k hk
     rw [hu]
     show P.underlying e=_
     rw [hk,of_decide_eq_true h1]
    .cases h1
   .cases h1
  .cases x with
   |sc k t=>cases k<;>first|trivial|(simp [aEF] at h2)
   |_=>trivial
  .split at h
   .cases h
   .rename_i rows rd l hy
    cases hb:FQ rows with
    |none=>simp [hb] at h
    |some b=>
     simp only [hb,Option.map_some,aj] at h;subst h
     exact Ak ha hy hs (dH.2 ⟨_,Zq hb,hK⟩)
   .rename_i t rd l hy
    simp only [aj] at h;subst h
    refine Ak ha hy (fun s hm=>hs s (by simp [hm])) ?_
    have hb:=hs (.atJ t) (by simp)
    exact dH.2 ⟨_,Zr hb,hK⟩
def ame (P:Program)(pc:Pc)(th:Tr SB)(nv:Nat)(s d:TypeId)(x:SV):Option SR:=
 match P.underlying s,P.underlying d with
 |some (.slice _),some .string=>afL P pc th nv s x
 |_,_=>VO P nv s d x
theorem amf {s d:TypeId}{x:SV}{r:SR}(ha:Ig ρ th ah)(h:ame P pc th nv s d x=some r)(hs:∀s∈r.sd,s.holds P ρ)(hK:K (r.den ρ)):Tc P ah s d (x.den ρ) K:=by
 unfold ame at h
 unfold Tc
 split at h
 .rename_i hu hd
  rw [hu,hd]
  exact ajM hd ha h hs hK
 .rename_i hno
  have:=acK (P:=P) h hs hK
  split
  .rename_i h1 h2;exact (hno _ h1 h2).elim
  .exact this
def VX (P:Program)(nv:Nat)(t:TypeId)(x:SV):Option SR:=
 match P.underlying t with
 |none=>none
 |some (.interface _)=>none
 |some _=>some (.val nv (.mV t x))
theorem acS {t:TypeId}{x:SV}{r:SR}(h:VX P nv t x=some r)(hK:K (r.den ρ)):J9 P t (x.den ρ) K:=by
 unfold VX at h
 split at h
 .cases h
 .cases h
 .rename_i d hn hu
  simp only [aj] at h;subst h
  refine ⟨?_,hK⟩
  rw [hu]
  cases d with
  |interface l=>exact hn l rfl
  |_=>trivial
def sAs (P:Program)(nv:Nat)(w?:Option (Array (String×TypeId)))(x:SV)(a:TypeId)(c:Bool):Option SR:=
 match w?,x with
 |some want,.mV t v=>match P.info? t with
  |none=>none
  |some i=>match Instr.missingMethod want i.methods with|none=>some (.val nv (lkS c (.mV t v) true))|some _=>none
 |none,.mV t v=>bif Nat.beq t a then some (.val nv (lkS c v true)) else bif c then (VU P a).map fun z=>.val nv (lkS c z false) else none
 |_,.c .mV=>bif c then (VU P a).map fun z=>.val nv (lkS c z false) else none
 |_,_=>none
def aaZ (P:Program)(nv:Nat)(x:SV)(a:TypeId)(c:Bool):Option SR:=
 match P.underlying a with
 |none=>none
 |some d=>sAs P nv (Ik d) x a c
theorem afM {x:SV}{a:TypeId}{c:Bool}{r:SR}(h:aaZ P nv x a c=some r)(hK:K (r.den ρ)):Il P (x.den ρ) a c K:=by
 unfold aaZ at h
 split at h
 .cases h
 .rename_i d hd
  refine dH.2 ⟨d,hd,?_⟩
  unfold sAs at h
  split at h
  .rename_i want t v hq
   split at h
   .cases h
   .rename_i i hi
    split at h
    .rename_i hm
     simp only [aj] at h;subst h
     rw [hq]
     rw [SR.uo,IL] at hK
     exact dH.2 ⟨i,hi,hm,hK⟩
    .cases h
  .rename_i t v hq
   rw [hq]
   cases h1:Nat.beq t a
   .simp only [h1,cond_false] at h
    cases c
    .cases h
    .simp only [cond_true,ay] at h
     obtain ⟨z,hz,rfl⟩:=h
     rw [SR.uo,IL] at hK
     exact .inr ⟨fun e=>by subst e;simp at h1,rfl,dH.2 ⟨_,Ru hz,hK⟩⟩
   .simp only [h1,cond_true,aj] at h;subst h
    rw [SR.uo,IL] at hK
    exact .inl ⟨au h1,hK⟩
  .cases c
   .cases h
   .simp only [cond_true,ay] at h
    obtain ⟨z,hz,rfl⟩:=h
    rw [SR.uo,IL] at hK
    have:true=true/\gB (J5 P a) fun z=>K (.val (J6 true z false)):=⟨rfl,dH.2 ⟨_,Ru hz,hK⟩⟩
    cases Ik d<;>exact this
  .cases h
def Rw (nv:Nat)(x:SV):Option SR:=
 match x with
 | .vp _ _ | .op _ _ _ _ | .fn _ _ _=>some (.val nv x)
 |_=>none
theorem aa0 {x:SV}{r:SR}(h:Rw nv x=some r)(hK:K (r.den ρ)):Ac (x.den ρ) K:=by
 unfold Rw at h
 split at h
 .simp only [aj] at h;subst h;exact hK
 .simp only [aj] at h;subst h;exact hK
 .simp only [aj] at h;subst h;exact hK
 .cases h
def afN (P:Program)(th:Tr SB)(id nv:Nat)(t:TypeId)(m:SV):Option SR:=
 match P.underlying t with
 |some (.map _ _)=>(match m with
  | .mp b=>(match th.get b with
   |some (.map es)=>some ⟨.op id 1 (.li 0) 0,[(id,some (.it b (.li es.length) 0))],[b],[],nv⟩
   |some (.BZ _ t)=>some ⟨.op id 1 (.li 0) 0,[(id,some (.it b (.rlen t) 0))],[b],[],nv⟩
   |_=>none)
  |_=>none)
 |_=>none
theorem ajN {t:TypeId}{m:SV}{r:SR}(ha:Ig ρ th ah)(h:afN P th id nv t m=some r)(hK:K (r.den ρ)):J7 P ah id t (m.den ρ) K:=by
 unfold afN at h
 unfold J7
 split at h
 .rename_i kt et hu
  rw [hu]
  split at h
  .rename_i b
   split at h
   .rename_i es hb
    simp only [aj] at h;subst h
    show (match ah b with|some (.map es)=>_|_=>False)
    rw [ha _ _ hb]
    simpa [SR.den,SB.den,SV.den,Tm.den,D.I] using hK
   .rename_i mk t hb
    simp only [aj] at h;subst h
    show (match ah b with|some (.map es)=>_|_=>False)
    rw [ha _ _ hb]
    simpa [SR.den,SB.den,SV.den,Tm.den,D.I,mZ] using hK
   .cases h
  .cases h
 .cases h
def amg (th:Tr SB)(nv:Nat)(x:SV)(str:Bool):Option SR:=
 bif str then none else
 match x with
 | .op q _ (.li 0) 0=>(match th.get q with
  |some (.it b n k)=>(match th.get b with
   |some (.map es)=>bif n.beq (.li es.length) then (match Nat.beq k es.length with
    |true=>some ⟨.fD [.sc .bool (.lb false)],[],[q,b],[],nv⟩
    |false=>bif Nat.beq (k+1) es.length then (match es[k]? with
     |some e=>some ⟨.fD [.sc .bool (.lb true),e.1,e.2],[(q,some (.it b n (k+1)))],[q,b],[],nv⟩
     |none=>none) else none) else none
   |_=>none)
  |_=>none)
 |_=>none
theorem amh {x:SV}{str:Bool}{r:SR}(ha:Ig ρ th ah)(h:amg th nv x str=some r)(hK:K (r.den ρ)):U_ ah (x.den ρ) str K:=by
 unfold amg at h
 cases str with
 |true=>cases h
 |false=>
  simp only [cond_false] at h
  split at h
  .rename_i q sz
   split at h
   .rename_i b n k hq
    split at h
    .rename_i es hb
     cases hn:n.beq (.li es.length)
     .simp [hn] at h
     .simp only [hn,cond_true] at h
      have hn:=Tm.beq_eq hn
      subst hn
      show (match ah q with|some (.it b n k)=>J8 ah q b n k K|_=>False)
      rw [ha _ _ hq]
      show J8 ah q b es.length k K
      unfold J8
      rw [ha _ _ hb]
      refine ⟨by simp,?_⟩
      split at h
      .rename_i hk
       simp only [aj] at h;subst h
       rw [hk]
       exact hK
      .rename_i hk
       rw [hk]
       cases hk1:Nat.beq (k+1) es.length
       .simp [hk1] at h
       .simp only [hk1,cond_true] at h
        split at h
        .rename_i e he
         simp only [aj] at h;subst h
         exact ⟨au hk1,dH.2 ⟨(e.1.den ρ,e.2.den ρ),by rw [bP,he];rfl,hK⟩⟩
        .cases h
    .cases h
   .cases h
  .cases h
def afO (th:Tr SB)(nv:Nat)(x:SV):Option SR:=
 match x with
 | .op q _ (.li 0) 0=>(match th.get q with
  |some (.it b n (k+1))=>(match th.get b with
   |some (.map es)=>bif n.beq (.li es.length) then (match es[k]? with
    |some e=>some ⟨.fD [e.1,e.2],[],[q,b],[],nv⟩
    |none=>none) else none
   |_=>none)
  |_=>none)
 |_=>none
theorem ajO {x:SV}{r:SR}(ha:Ig ρ th ah)(h:afO th nv x=some r)(hK:K (r.den ρ)):Oc ah (x.den ρ) K:=by
 unfold afO at h
 split at h
 .rename_i q sz
  split at h
  .rename_i b n k hq
   split at h
   .rename_i es hb
    cases hn:n.beq (.li es.length)
    .simp [hn] at h
    .simp only [hn,cond_true] at h
     have hn:=Tm.beq_eq hn
     subst hn
     show (match ah q with|some (.it b n (k+1))=>Ij ah q b n k K|_=>False)
     rw [ha _ _ hq]
     show Ij ah q b es.length k K
     unfold Ij
     rw [ha _ _ hb]
     refine ⟨by simp,?_⟩
     split at h
     .rename_i e he
      simp only [aj] at h;subst h
      exact dH.2 ⟨(e.1.den ρ,e.2.den ρ),by rw [bP,he];rfl,hK⟩
     .cases h
   .cases h
  .cases h
 .cases h
def afP (P:Program)(th:Tr SB)(nv:Nat)(t:TypeId)(x:SV):Option SR:=
 match mW P t with
 |none=>none
 |some e=>match (match P.underlying t with|some (.slice el)=>aD6 P el|_=>none) with
  |none=>none
  |some z=>bif Nat.beq e.1 0||!Nat.beq z.length e.1 then none else
   match x with
   | .os b sz off len=>bif Nat.beq sz e.1 then
     match th.get b with
     |some (.rows sz' rs)=>match zN len with
      |some m=>bif Nat.beq sz sz'&&Nat.ble (off+m) rs.length then
       some ⟨.fD [],[(b,some (.rows e.1 (rs.take off++List.replicate m z++rs.drop (off+m))))],[b],[],nv⟩ else none
      |none=>none
     |_=>none
    else none
   |_=>none
theorem ajP {t:TypeId}{x:SV}{r:SR}(ha:Ig ρ th ah)(h:afP P th nv t x=some r)(hK:K (r.den ρ)):Va P ah t (x.den ρ) K:=by
 unfold afP at h
 split at h
 .cases h
 .rename_i e he
  split at h
  .cases h
  .rename_i z hz
   cases h0:Nat.beq e.1 0||!Nat.beq z.length e.1
   .simp only [h0,cond_false] at h
    simp only [aO,Bool.not_eq_false'] at h0
    have hz':((P.underlying t).bind fun d=>match d with | .slice el=>aDw P el|_=>none)=some (dU ρ z):=by
     split at hz
     .rename_i el hu;rw [hu];exact Dn hz
     .cases hz
    refine dH.2 ⟨e,he,fun e0=>by rw [e0] at h0;exact absurd h0.1 (by decide),dH.2 ⟨_,hz',by rw [fZ];exact au h0.2,?_⟩⟩
    split at h
    .rename_i b sz off len
     cases h1:Nat.beq sz e.1
     .simp [h1] at h
     .simp only [h1,cond_true] at h
      split at h
      .rename_i sz' rs hb
       split at h
       .rename_i m hm
        cases h2:Nat.beq sz sz'&&Nat.ble (off+m) rs.length
        .simp [h2] at h
        .simp only [h2,cond_true,aj] at h;subst h
         simp only [ak] at h2
         refine ⟨au h1,?_⟩
         rw [ha _ _ hb]
         refine ⟨au h2.1,by rw [(fQ hm).2,f_];exact aC h2.2,?_⟩
         rw [(fQ hm).2]
         have:K ⟨.fD [],[(b,some (.rows e.1 (iM ρ (rs.take off++List.replicate m z++rs.drop (off+m)))))],[b]⟩:=hK
         rw [yI,yI,<- Aj,<- Ai] at this
         have e2:iM ρ (List.replicate m z)=List.replicate m (dU ρ z):=by rw [l7,List.map_replicate]
         rw [e2] at this
         exact this
       .cases h
      .cases h
    .cases h
   .simp [h0] at h
end
end Go.Fw
end
section
namespace Go.Fw
variable [jY]
abbrev qO :=Pc->Nat->FuncId->List SV->Option (SV×Nat×List (Pc×Side)×Bool)
def jD (P:Program)(ρ:List AV)(l:List (Pc×Side)):Prop:=∀x∈l,Pc.holds ρ x.1->x.2.holds P ρ
def VY : List (Pc×Side)->List Side
 |[]=>[]
 |x::r=>.under x.1 x.2::VY r
theorem Zt {P:Program}{ρ:List AV}:∀{l:List (Pc×Side)},(∀s∈VY l,s.holds P ρ)->jD P ρ l
 |[],_,x,hx=>by simp at hx
 |y::r,h,x,hx=>by
  rcases bC.1 hx with rfl|hx
  .exact h (.under x.1 x.2) (by simp [VY])
  .exact Zt (l:=r) (fun s hs=>h s (by simp [VY,hs])) x hx
def o7 (P:Program)(ρ:List AV)(X:qO):Prop:=∀pc nv f args r,X pc nv f args=some r->Pc.holds ρ pc->jD P ρ r.2.2.1->PC P f (dU ρ args) (r.1.den ρ)/\(r.2.2.2=true->PCa P f (dU ρ args) (r.1.den ρ))
 mutual
def IQ (th:Tr SB):Nat->SV->SV×Nat×List Side
  |nv,.os b sz off len=>match th.get b with
   |some (.fK sz' t)=>bif Nat.beq sz sz'&&(Nat.beq off 0&&!(len.beq (.rlen t))) then (.sc .sl (.var nv []),nv+1,[.sub sz t none (some len) (.var nv [])]) else (.os b sz off len,nv,[])
   |_=>(.os b sz off len,nv,[])
  |nv,.agg l=>(.agg (FT th nv l).1,(FT th nv l).2.1,(FT th nv l).2.2)
  |nv,.fD l=>(.fD (FT th nv l).1,(FT th nv l).2.1,(FT th nv l).2.2)
  |nv,.sc k t=>(.sc k t,nv,[])
  |nv,.c v=>(.c v,nv,[])
  |nv,.nil=>(.nil,nv,[])
  |nv,.sf t=>(.sf t,nv,[])
  |nv,.slc r f=>(.slc r f,nv,[])
  |nv,.vp r o=>(.vp r o,nv,[])
  |nv,.fn f x y=>(.fn f x y,nv,[])
  |nv,.mV t v=>(.mV t v,nv,[])
  |nv,.op b sz i o=>(.op b sz i o,nv,[])
  |nv,.mp b=>(.mp b,nv,[])
def FT (th:Tr SB):Nat->List SV->List SV×Nat×List Side
  |nv,[]=>([],nv,[])
  |nv,x::r=>((IQ th nv x).1::(FT th (IQ th nv x).2.1 r).1,(FT th (IQ th nv x).2.1 r).2.1,(IQ th nv x).2.2++(FT th (IQ th nv x).2.1 r).2.2)
end
section
variable {P : Program} {ρ:List AV} {ah:AH} {th:Tr SB} (hρ:iW ρ=true) (ha:Ig ρ th ah)
 include hρ ha
theorem apM {nv b sz off n:Nat}{len:Tm}(hs:∀s∈(IQ th nv (.os b sz off len)).2.2,s.holds P ρ):Go.Fw.mX (yA ah n) ((SV.os b sz off len).den ρ)=Go.Fw.mX (yA ah n) ((IQ th nv (.os b sz off len)).1.den ρ):=by
 simp only [IQ] at hs ⊢
 split
 .rename_i sz' t hb
  rw [hb] at hs
  dsimp only at hs
  cases h0:Nat.beq sz sz'&&(Nat.beq off 0&&!(len.beq (.rlen t)))
  .rfl
  .simp only [h0,cond_true] at hs ⊢
   simp only [ak] at h0
   obtain ⟨h1,h2,-⟩:=h0
   have h1:=au h1
   have h2:=au h2
   subst h1;subst h2
   obtain ⟨-,q1,q2,q3,q4⟩:=hs (.sub sz t none (some len) (.var nv [])) (by simp)
   simp only [Zf] at q1 q2 q3 q4
   have hcl:=j_ (Tm.qK hρ t)
   show (match yA ah n b with|some (.rows sz' rs)=>if sz=sz'/\0+(len.den ρ).I.toNat<=rs.length/\jO rs=true then some (AV.sl ((rs.drop 0).take (len.den ρ).I.toNat) false) else none|_=>none)=(zT (yA ah n) ((Tm.var nv []).den ρ).R).map fun r=>AV.sl r false
   rw [Q8 (ha _ _ hb) hcl n,KI (Tm.qK hρ _),q4]
   dsimp only
   rw [if_pos ⟨rfl,by omega,hcl⟩]
   simp
 .rfl
 mutual
theorem VZ {n:Nat}:∀{x:SV} {nv:Nat},(∀s∈(IQ th nv x).2.2,s.holds P ρ)->Go.Fw.mX (yA ah n) (x.den ρ)=Go.Fw.mX (yA ah n) ((IQ th nv x).1.den ρ)
  | .os b sz off len,nv,hs=>apM hρ ha hs
  | .agg l,nv,hs=>by
   simp only [IQ] at hs ⊢
   simp only [SV.den,Go.Fw.mX,KN (l:=l) hs]
  | .fD l,nv,hs=>by
   simp only [IQ] at hs ⊢
   simp only [SV.den,Go.Fw.mX,KN (l:=l) hs]
  | .sc ..,nv,hs=>rfl
  | .c ..,nv,hs=>rfl
  | .nil,nv,hs=>rfl
  | .sf ..,nv,hs=>rfl
  | .slc ..,nv,hs=>rfl
  | .vp ..,nv,hs=>rfl
  | .fn ..,nv,hs=>rfl
  | .mV ..,nv,hs=>rfl
  | .op ..,nv,hs=>rfl
  | .mp ..,nv,hs=>rfl
theorem KN {n:Nat}:∀{l:List SV} {nv:Nat},(∀s∈(FT th nv l).2.2,s.holds P ρ)->yD (yA ah n) (dU ρ l)=yD (yA ah n) (dU ρ (FT th nv l).1)
  |[],nv,hs=>rfl
  |x::r,nv,hs=>by
   simp only [FT] at hs ⊢
   simp only [dU,yD,VZ (x:=x) (fun s h=>hs s (b_ _ h)),KN (l:=r) (fun s h=>hs s (cO _ h))]
end
end
def anq (rd:List Nat):List (Nat×Option SB):=rd.map fun b=>(b,none)
def ahM (P:Program)(X:qO)(pc:Pc)(nv:Nat)(f:FuncId)(args az:List SV)(rd:List Nat)(sd:List Side):Option SR:=
 match X pc nv f (zO az) with
 |some r=>some ⟨r.1,bif KJ args||(r.1.kC||r.2.2.2) then [] else anq rd,rd,sd++VY r.2.2.1,r.2.1⟩
 |none=>match alS P nv f with
  |none=>none
  |some r=>some ⟨r,bif KJ args||r.kC then [] else anq rd,rd,sd++[.call f (zO az) r],nv+1⟩
def afQ (P:Program)(X:qO)(pc:Pc)(th:Tr SB)(nv:Nat)(f:FuncId)(args:List SV):Option SR:=
 match Jy (thN th aDF) (FT th nv args).1 with
 |none=>none
 |some az=>match ama th aDF (Gq args) with
  |none=>none
  |some rd=>ahM P X pc (FT th nv args).2.1 f args az rd (FT th nv args).2.2
section
variable {P : Program} {ρ:List AV} {pc:Pc} {id nv:Nat} {fr:mg} {ah:AH} {tr:Tr qo} {th:Tr SB} {K:sQ->Prop} {X:qO}
theorem ajQ {f:FuncId}{args:List SV}{r:SR}(hρ:iW ρ=true)(hX:o7 P ρ X)(hp:pc.holds ρ)(ha:Ig ρ th ah)(h:afQ P X pc th nv f args=some r)(hs:∀s∈r.sd,s.holds P ρ)(hK:K (r.den ρ)):YV P ah f (dU ρ args) K:=by
 unfold afQ at h
 split at h
 .cases h
 .rename_i az has
  split at h
  .cases h
  rename_i rd hrd
  unfold ahM at h
  have hw:∀w E vs,iy w E (dU ρ az) vs->iy w E (dU ρ (zO az)) vs:=fun w E vs hr=>
   iy.weak (tZ (ρ:=ρ)).length (fun i a b h1 h2=>((tZ (ρ:=ρ)).get i a b h1 h2).1) hr
  have fin:∀(v:SV) (b:Bool),(∀s∈(FT th nv args).2.2,s.holds P ρ)->PC P f (dU ρ (zO az)) (v.den ρ)->(b=true->PCa P f (dU ρ (zO az)) (v.den ρ))->K ⟨v.den ρ,(bif KJ args||(v.kC||b) then [] else anq rd).map (fun x=>(x.1,x.2.map (SB.den ρ))),rd⟩->YV P ah f (dU ρ args) K:=by
   intro v b hpre hp hpa hk
   refine dH.2 ⟨_,(KN hρ ha hpre).trans (yN hρ (IJ hρ ha aDF) has),dU ρ (zO az),v.den ρ,hw,hp,?_⟩
   rw [tH hρ,acO hρ ha aDF hrd]
   cases hc:KJ args||(v.kC||b)
   .rw [hc] at hk
    refine .inr ?_
    have e:(anq rd).map (fun x=>(x.1,x.2.map (SB.den ρ)))=arR rd:=by
     unfold anq arR
     rw [List.map_map]
     rfl
    rw [<- e];exact hk
   .rw [hc] at hk
    refine .inl ⟨?_,hk⟩
    simp only [aY] at hc
    rcases hc with hc|hc|hc
    .exact .inl (yL hρ hc)
    .exact .inr (.inl (MF hc))
    .exact .inr (.inr (hpa hc))
  split at h
  .rename_i v hv
   simp only [aj] at h;subst h
   have hu:=Zt (P:=P) (ρ:=ρ) (l:=v.2.2.1) fun s hm=>hs s (cO _ hm)
   exact fin v.1 v.2.2.2 (fun s hm=>hs s (b_ _ hm)) (hX _ _ f _ v hv hp hu).1 (hX _ _ f _ v hv hp hu).2 hK
  .split at h
   .cases h
   .rename_i v hv
    simp only [aj] at h;subst h
    refine fin v false (fun s hm=>hs s (b_ _ hm)) (hs (.call f (zO az) v) (by simp)) (fun h=>by cases h) ?_
    rw [Bool.or_false];exact hK
def afR (b:UInt8):List SV:=[.sc (.int .u8) (.li (.ofNat b.toNat))]
theorem V3 {l:List UInt8}:iM ρ (l.map afR)=l.map F6:=by
 rw [l7,List.map_map];rfl
theorem ajR {row:List SV}{b:UInt8}(h:acR row=some b):dU ρ row=F6 b:=by
 unfold acR at h
 split at h
 .rename_i n
  cases hn:Nat.blt n 256
  .simp [hn] at h
  .simp only [hn,cond_true,aj] at h;subst h
   have:=OC hn
   have e:(UInt8.ofNat n).toNat=n:=by simp;omega
   simp only [F6,e]
   rfl
 .cases h
theorem TK : ∀{rows:List (List SV)} {l:List UInt8},FQ rows=some l->iM ρ rows=l.map F6
 |[],l,h=>by simp only [FQ,aj] at h;subst h;rfl
 |x::r,l,h=>by
  simp only [FQ] at h
  split at h
  .cases h
  .rename_i b hb
   split at h
   .cases h
   .rename_i l' hl
    simp only [aj] at h;subst h
    simp only [iM,aX,ajR (ρ:=ρ) hb,TK hl]
def aa1 (id:Nat)(el:TypeId)(pre:List (Nat×Option SB))(r:SR):Option SR:=
 match r with
 |⟨.os i sz 0 (.li (.ofNat n)),wr,rd,sd,nv⟩=>match wr.getLast? with
  |some (i',some (.rows sz' rows))=>match FQ rows with
   |some l=>bif (Nat.beq i id&&Nat.beq i' id)&&(Nat.beq sz 1&&(Nat.beq sz' 1&&Nat.beq n l.length)) then some ⟨.os id 1 0 (.li (.ofNat l.length)),pre++[(id,some (.kN el 1 (l.map afR)))],rd,sd,nv⟩ else none
   |none=>none
  |_=>none
 |_=>none
def ami (P:Program)(pc:Pc)(th:Tr SB)(nv id:Nat)(t t2:TypeId)(x y:SV):Option SR:=
 match P.underlying t with
 |some (.slice el)=>match Zn x with
  | .nil=>match PD P pc th nv id t t2 .nil y with
   |some ⟨v,[(i',k)],rd,sd,vX⟩=>aa1 id el [] ⟨v,[(i',k)],rd,sd,vX⟩
   |_=>none
  | .os b sz off len=>match th.get b with
   |some (.kN ty sz' rs)=>bif Nat.beq ty el then
     match PD P pc (th.upd zX b (some (.rows sz' rs))) nv id t t2 (.os b sz off len) y with
     |some ⟨v,[(b',none),(i',k)],rd,sd,vX⟩=>bif Nat.beq b' b&&rd.any (Nat.beq b) then aa1 id el [(b,none)] ⟨v,[(b',none),(i',k)],rd,sd,vX⟩ else none
     |_=>none
    else none
   |_=>none
  |_=>none
 |_=>none
theorem Zu {id:Nat}{el:TypeId}{pre:List (Nat×Option SB)}{r r':SR}(h:aa1 id el pre r=some r'):∃(l:List UInt8) (rows:List (List SV)),r.v=.os id 1 0 (.li (.ofNat l.length))/\r.wr.getLast?=some (id,some (.rows 1 rows))/\iM ρ rows=l.map F6/\
  r'=⟨.os id 1 0 (.li (.ofNat l.length)),pre++[(id,some (.kN el 1 (l.map afR)))],r.rd,r.sd,r.nv⟩:=by
 unfold aa1 at h
 split at h
 .rename_i i sz n wr rd sd nv
  split at h
  .rename_i i' sz' rows hw
   split at h
   .rename_i l hl
    cases h0:(Nat.beq i id&&Nat.beq i' id)&&(Nat.beq sz 1&&(Nat.beq sz' 1&&Nat.beq n l.length))
    .simp [h0] at h
    .simp only [h0,cond_true,aj] at h
     simp only [ak] at h0
     obtain rfl:=au h0.1.1
     obtain rfl:=au h0.1.2
     obtain rfl:=au h0.2.1
     obtain rfl:=au h0.2.2.1
     obtain rfl:=au h0.2.2.2
     exact ⟨l,rows,rfl,hw,TK hl,h.symm⟩
   .cases h
  .cases h
 .cases h
theorem amj {t t2:TypeId}{x y:SV}{r:SR}(ha:Ig ρ th ah)(h:ami P pc th nv id t t2 x y=some r)(hs:∀s∈r.sd,s.holds P ρ)(hK:K (r.den ρ)):ab5 P id ah t t2 (x.den ρ) (y.den ρ) K:=by
 unfold ami at h
 split at h
 .rename_i el hu
  rw [<- Zo (x:=x)]
  generalize Zn x=x' at h ⊢
  split at h
  .split at h
   .rename_i v i' k rd sd vX hq
    obtain ⟨l,rows,h1,h2,h3,rfl⟩:=Zu (ρ:=ρ) h
    refine ⟨el,l,rd,hu,?_⟩
    refine ⟨OG (K:=fun r=>r=_) ha hq hs ?_,?_⟩
    .simp only at h1;subst h1
     simp only [List.getLast?_singleton,aj,aJ] at h2
     obtain ⟨rfl,rfl⟩:=h2
     simp only [SR.den,SV.den,aX,List.map_nil,Option.map_some,SB.den,h3]
     rfl
    .simp only [SR.den,aX,List.map_nil,List.nil_append,Option.map_some,SB.den,V3] at hK
     exact hK
   .cases h
  .rename_i b sz off len
   split at h
   .rename_i ty sz' rs hb
    cases h0:Nat.beq ty el
    .simp [h0] at h
    .simp only [h0,cond_true] at h
     obtain rfl:=au h0
     split at h
     .rename_i v b' i' k rd sd vX hq
      cases h4:Nat.beq b' b&&rd.any (Nat.beq b)
      .simp [h4] at h
      .simp only [h4,cond_true] at h
       simp only [ak,List.any_eq_true] at h4
       obtain rfl:=au h4.1
       obtain ⟨b2,hb2,hb3⟩:=h4.2
       obtain rfl:=au hb3
       obtain ⟨l',rows,h1,h2,h3,rfl⟩:=Zu (ρ:=ρ) h
       refine ⟨ty,l',rd,hu,?_⟩
       show (match ah b' with|some (.kN ty' aBa aBb)=>_|_=>False)
       rw [ha _ _ hb]
       refine ⟨rfl,hb2,OG (K:=fun r=>r=_) (ah:=upd ah b' (some (.rows sz' (iM ρ rs)))) ?_ hq hs ?_,?_⟩
       .intro b3 k3 hk3
        rcases Tr.pW _ _ _ _ _ _ hk3 with ⟨rfl,e⟩|⟨hne,e⟩
        .simp only [aj] at e;subst e
         rw [rC rfl];rfl
        .rw [aDs hne];exact ha _ _ e
       .simp only at h1;subst h1
        simp only [List.getLast?_cons_cons,List.getLast?_singleton,aj,aJ] at h2
        obtain ⟨rfl,rfl⟩:=h2
        simp only [SR.den,SV.den,aX,List.map_nil,Option.map_some,Option.map_none,SB.den,h3]
        rfl
       .simp only [SR.den,aX,List.map_nil,bV,List.nil_append,Option.map_some,Option.map_none,SB.den,V3] at hK
        exact hK
     .cases h
   .cases h
  .cases h
 .cases h
def amk (P:Program)(pc:Pc)(th:Tr SB)(nv id:Nat)(t t2:TypeId)(x y:SV):Option SR:=
 match ami P pc th nv id t t2 x y with
 |some r=>some r
 |none=>PD P pc th nv id t t2 x y
theorem aml {t t2:TypeId}{x y:SV}{r:SR}(ha:Ig ρ th ah)(h:amk P pc th nv id t t2 x y=some r)(hs:∀s∈r.sd,s.holds P ρ)(hK:K (r.den ρ)):ab6 P id ah t t2 (x.den ρ) (y.den ρ) K:=by
 unfold amk at h
 split at h
 .rename_i r' hr
  simp only [aj] at h;subst h
  exact .inr (amj ha hr hs hK)
 .exact .inl (OG ha h hs hK)
def aa2 (c:Tm):SV->SV->Option SV
 | .sc k x,.sc k' y=>bif decide (k=k') then some (.sc k (VI k c x y)) else none
 |x,y=>bif x.beq y then some x else none
theorem V4 {c:Tm}{x y z:SV}(h:aa2 c x y=some z):z.den ρ=bif (c.den ρ).B then x.den ρ else y.den ρ:=by
 unfold aa2 at h
 split at h
 .rename_i k x k' y
  by_cases hk:k=k'
  .subst hk
   simp only [decide_true,cond_true,aj] at h;subst h
   exact VJ
  .simp [hk] at h
 .cases hb:x.beq y
  .simp [hb] at h
  .simp only [hb,cond_true,aj] at h;subst h
   rw [SV.beq_eq hb];simp
def TL (c:Tm):List SV->List SV->Option (List SV)
 |[],[]=>some []
 |x::r,y::s=>match aa2 c x y,TL c r s with|some z,some l=>some (z::l)|_,_=>none
 |_,_=>none
theorem Rx {c:Tm}:∀{x y z:List SV},TL c x y=some z->dU ρ z=bif (c.den ρ).B then dU ρ x else dU ρ y
 |[],[],z,h=>by simp only [TL,aj] at h;subst h;simp [dU]
 |x::r,y::s,z,h=>by
  simp only [TL] at h
  split at h
  .rename_i z l hz hl
   simp only [aj] at h;subst h
   simp only [dU,V4 hz,Rx hl]
   cases (c.den ρ).B<;>rfl
  .cases h
 |[],_::_,z,h=>by simp [TL] at h
 |_::_,[],z,h=>by simp [TL] at h
def amm (c:Tm):SV->SV->Option SV
 | .agg x,.agg y=>match TL c x y with|some z=>some (.agg z)|none=>none
 | .fD x,.fD y=>match TL c x y with|some z=>some (.fD z)|none=>none
 |x,y=>aa2 c x y
theorem ajS {c:Tm}{x y z:SV}(h:amm c x y=some z):z.den ρ=bif (c.den ρ).B then x.den ρ else y.den ρ:=by
 unfold amm at h
 split at h
 .split at h
  .rename_i z hz;simp only [aj] at h;subst h;simp only [SV.den,Rx hz];cases (c.den ρ).B<;>rfl
  .cases h
 .split at h
  .rename_i z hz;simp only [aj] at h;subst h;simp only [SV.den,Rx hz];cases (c.den ρ).B<;>rfl
  .cases h
 .exact V4 h
def V5 (pc:Pc)(tr:Tr qo):Option Operand->Option (Option SV)
 |none=>some none
 |some x=>match CJ pc tr x with|some v=>some (some v)|none=>none
theorem Ry {x:Option Operand}{v:Option SV}(hp:pc.holds ρ)(hf:Zg ρ tr fr)(h:V5 pc tr x=some v) :
  ∃l,YS fr (x.toList.map fun y=>((),y))=some l/\l.head?.map (·.2)=v.map (SV.den ρ):=by
 unfold V5 at h
 split at h
 .simp only [aj] at h;subst h;exact ⟨[],rfl,rfl⟩
 .rename_i x
  split at h
  .rename_i v hv
   simp only [aj] at h;subst h
   exact ⟨[((),v.den ρ)],by simp [YS,iV hp hf hv],rfl⟩
  .cases h
def UO (mx:Bool)(nv:Nat):List SV->Option SR
 |[.sc (.int k) a,.sc (.int k') b]=>bif decide (k=k') then some (.val nv (.sc (.int k) (bif mx then aDP (aDz .lss (.int k) a b) b a else aDP (aDz .lss (.int k) b a) b a))) else none
 |_=>none
theorem V6 {mx:Bool}{l:List SV}{r:SR}(h:UO mx nv l=some r)(hK:K (r.den ρ)):Et mx (dU ρ l) fun a=>K (.val a):=by
 unfold UO at h
 split at h
 .rename_i k a k' b
  by_cases hk:k=k'
  .subst hk
   simp only [decide_true,cond_true,aj] at h;subst h
   refine ⟨rfl,?_⟩
   cases mx
   .simp only [cond_false,SR.uo,SV.den,Kd.av,Ah,oK,qJ,D.EH] at hK
    by_cases hlt:(b.den ρ).I<(a.den ρ).I
    .simp only [hlt,decide_true,cond_true] at hK;simpa [hlt] using hK
    .simp only [hlt,decide_false,cond_false] at hK;simpa [hlt] using hK
   .simp only [cond_true,SR.uo,SV.den,Kd.av,Ah,oK,qJ,D.EH] at hK
    by_cases hlt:(a.den ρ).I<(b.den ρ).I
    .simp only [hlt,decide_true,cond_true] at hK;simpa [hlt] using hK
    .simp only [hlt,decide_false,cond_false] at hK;simpa [hlt] using hK
  .simp [hk] at h
 .cases h
def sOp (P:Program)(X:qO)(pc:Pc)(tr:Tr qo)(th:Tr SB)(id nv:Nat)(op:Op):Option SR:=
 match op with
 | .move x | .assign x=>match CJ pc tr x with|some v=>some (.val nv v)|none=>none
 | .pick c a b=>match CJ pc tr c with
  |some (.sc .bool t)=>match pc.known t with
   |some true=>match CJ pc tr a with|some v=>some (.val nv v)|none=>none
   |some false=>match CJ pc tr b with|some v=>some (.val nv v)|none=>none
   |none=>match CJ ((t,true)::pc) tr a,CJ ((t,false)::pc) tr b with
    |some x,some y=>match amm t x y with|some z=>some (.val nv z)|none=>none
    |_,_=>none
  |_=>none
 | .load t a=>match CJ pc tr a with|some a=>ahz P pc th nv t a|none=>none
 | .store t a v=>match CJ pc tr a,CJ pc tr v with|some a,some v=>afx P pc th nv t a v|_,_=>none
 | .fieldAddr s x k=>match CJ pc tr x with|some a=>OA P nv s a k|none=>none
 | .field s x k=>match CJ pc tr x with|some a=>afy P nv s a k|none=>none
 | .indexAddr t x i=>match CJ pc tr x,CJ pc tr i with|some x,some i=>OB P pc nv t x i|_,_=>none
 | .index t x i=>match CJ pc tr x,CJ pc tr i with|some x,some i=>afA P pc nv t x i|_,_=>none
 | .extract x k=>match CJ pc tr x with|some x=>VL nv x k|none=>none
 | .binOp o t x y _=>match CJ pc tr x,CJ pc tr y with|some x',some y'=>atM P pc nv o t (isC x||isC y) x' y' | _,_=>none
 | .unOp o _ x=>match CJ pc tr x with|some x=>sUn nv o x|none=>none
 | .convert s d x=>match CJ pc tr x with|some x=>ame P pc th nv s d x|none=>none
 | .makeMap t none=>PI P t id nv none
 | .makeMap t (some r)=>match CJ pc tr r with|some r=>PI P t id nv (some r)|none=>none
 | .lookup t m k c=>match CJ pc tr m,CJ pc tr k with|some m,some k=>aaX P pc th nv t m k c|_,_=>none
 | .mapUpdate t m k v | .insert t m k v=>match CJ pc tr m,CJ pc tr k,CJ pc tr v with|some m,some k,some v=>aaY P pc th nv t m k v|_,_,_=>none
 | .range t x=>match CJ pc tr x with|some x=>afN P th id nv t x|none=>none
 | .next x str=>match CJ pc tr x with|some x=>amg th nv x str|none=>none
 | .entry x=>match CJ pc tr x with|some x=>afO th nv x|none=>none
 | .makeInterface t x=>match CJ pc tr x with|some x=>VX P nv t x|none=>none
 | .typeAssert x _ a c=>match CJ pc tr x with|some x=>aaZ P nv x a c|none=>none
 | .nilCheck x=>match CJ pc tr x with|some x=>Rw nv x|none=>none
 | .slice t x lo hi mx=>match CJ pc tr x,V5 pc tr lo,V5 pc tr hi,V5 pc tr mx with
  |some x,some lo,some hi,some mx=>aaT P pc th nv t x lo hi mx
  |_,_,_,_=>none
 | .build t parts=>match ajt pc tr parts.toList with|some ps=>afH P nv t ps|none=>none
 | .buildSlice t len parts=>match ajt pc tr parts.toList with|some ps=>KH P nv t id len ps|none=>none
 | .box _ v=>match CJ pc tr v with|some v=>atV nv id v|none=>none
 | .alloc t=>afI P nv id t
 | .makeSlice t l c=>match CJ pc tr l,CJ pc tr c with|some l,some c=>OD P nv id t l c|_,_=>none
 | .makeFunc f first captured=>match Oz pc tr first.toList,Oz pc tr captured.toList with|some x,some y=>Zl nv f x y|_,_=>none
 | .call ⟨.builtin .len,args,ts⟩=>match Oz pc tr args.toList,ts[0]? with|some [x],some t=>sLn P pc th nv t x|_,_=>none
 | .call ⟨.builtin .append,args,ts⟩=>match Oz pc tr args.toList,ts[0]?,ts[1]? with|some [x,y],some t,some t2=>amk P pc th nv id t t2 x y|_,_,_=>none
 | .call ⟨.builtin .copy,args,ts⟩=>match Oz pc tr args.toList,ts[0]? with|some [x,y],some t=>amb P pc th nv t x y|_,_=>none
 | .call ⟨.builtin .clear,args,ts⟩=>match Oz pc tr args.toList,ts[0]? with|some [x],some t=>afP P th nv t x|_,_=>none
 | .call ⟨.builtin .min,args,_⟩=>match Oz pc tr args.toList with|some l=>UO false nv l|none=>none
 | .call ⟨.builtin .max,args,_⟩=>match Oz pc tr args.toList with|some l=>UO true nv l|none=>none
 | .call ⟨.value (.func f),args,_⟩=>match Oz pc tr args.toList with|some l=>afQ P X pc th nv f l|none=>none
 |_=>none
theorem aa3 {op:Op}{r:SR}(hρ:iW ρ=true)(hX:o7 P ρ X)(hp:pc.holds ρ)(hf:Zg ρ tr fr)(ha:Ig ρ th ah)(h:sOp P X pc tr th id nv op=some r)(hs:∀s∈r.sd,s.holds P ρ)(hK:K (r.den ρ)) :
  aOp P id fr ah op K:=by
 unfold sOp at h
 split at h
 .split at h
  .rename_i v hv;simp only [aj] at h;subst h
   exact dH.2 ⟨_,iV hp hf hv,hK⟩
  .cases h
 .split at h
  .rename_i v hv;simp only [aj] at h;subst h
   exact dH.2 ⟨_,iV hp hf hv,hK⟩
  .cases h
 .split at h
  .rename_i t ht
   refine dH.2 ⟨_,iV hp hf ht,?_⟩
   show aIf (t.den ρ).B _ _
   rw [Ep]
   split at h
   .rename_i hk
    rw [if_pos (Pc.gQ hp hk)]
    split at h
    .rename_i v hv;simp only [aj] at h;subst h;exact dH.2 ⟨_,iV hp hf hv,hK⟩
    .cases h
   .rename_i hk
    rw [if_neg (by rw [Pc.gQ hp hk];simp)]
    split at h
    .rename_i v hv;simp only [aj] at h;subst h;exact dH.2 ⟨_,iV hp hf hv,hK⟩
    .cases h
   .split at h
    .rename_i x y hx hy
     split at h
     .rename_i z hz
      simp only [aj] at h;subst h
      have hz':K (.val (z.den ρ)):=hK
      rw [ajS hz] at hz'
      cases hb:(t.den ρ).B
      .rw [hb] at hz'
       rw [if_neg (by simp)]
       exact dH.2 ⟨_,iV (Pc.jy hb hp) hf hy,hz'⟩
      .rw [hb] at hz'
       rw [if_pos rfl]
       exact dH.2 ⟨_,iV (Pc.jy hb hp) hf hx,hz'⟩
     .cases h
    .cases h
  .cases h
 .split at h
  .rename_i a hv;exact dH.2 ⟨_,iV hp hf hv,acE ha h hs hK⟩
  .cases h
 .split at h
  .rename_i a v h1 h2;exact dH.2 ⟨_,iV hp hf h1,dH.2 ⟨_,iV hp hf h2,ajv ha h hs hK⟩⟩
  .cases h
 .split at h
  .rename_i a hv;exact dH.2 ⟨_,iV hp hf hv,Yi h hK⟩
  .cases h
 .split at h
  .rename_i a hv;exact dH.2 ⟨_,iV hp hf hv,ajw h hK⟩
  .cases h
 .split at h
  .rename_i a v h1 h2;exact dH.2 ⟨_,iV hp hf h1,dH.2 ⟨_,iV hp hf h2,Yj hp h hs hK⟩⟩
  .cases h
 .split at h
  .rename_i a v h1 h2;exact dH.2 ⟨_,iV hp hf h1,dH.2 ⟨_,iV hp hf h2,ajy hp h hs hK⟩⟩
  .cases h
 .split at h
  .rename_i a hv;exact dH.2 ⟨_,iV hp hf hv,acF h hK⟩
  .cases h
 .split at h
  .rename_i a v h1 h2;exact dH.2 ⟨_,iV hp hf h1,dH.2 ⟨_,iV hp hf h2,apE hp h hs hK⟩⟩
  .cases h
 .split at h
  .rename_i a hv;exact dH.2 ⟨_,iV hp hf hv,atQ h hK⟩
  .cases h
 .split at h
  .rename_i a hv;exact dH.2 ⟨_,iV hp hf hv,amf ha h hs hK⟩
  .cases h
 .exact TJ h hK
 .split at h
  .rename_i a hv;exact dH.2 ⟨_,iV hp hf hv,TJ h hK⟩
  .cases h
 .split at h
  .rename_i a v h1 h2;exact dH.2 ⟨_,iV hp hf h1,dH.2 ⟨_,iV hp hf h2,afK hp ha h hs hK⟩⟩
  .cases h
 .split at h
  .rename_i a v u h1 h2 h3;exact dH.2 ⟨_,iV hp hf h1,dH.2 ⟨_,iV hp hf h2,dH.2 ⟨_,iV hp hf h3,VW hp ha h hs hK⟩⟩⟩
  .cases h
 .split at h
  .rename_i a v u h1 h2 h3;exact dH.2 ⟨_,iV hp hf h1,dH.2 ⟨_,iV hp hf h2,dH.2 ⟨_,iV hp hf h3,VW hp ha h hs hK⟩⟩⟩
  .cases h
 .split at h
  .rename_i a hv;exact dH.2 ⟨_,iV hp hf hv,ajN ha h hK⟩
  .cases h
 .split at h
  .rename_i a hv;exact dH.2 ⟨_,iV hp hf hv,amh ha h hK⟩
  .cases h
 .split at h
  .rename_i a hv;exact dH.2 ⟨_,iV hp hf hv,ajO ha h hK⟩
  .cases h
 .split at h
  .rename_i a hv;exact dH.2 ⟨_,iV hp hf hv,acS h hK⟩
  .cases h
 .split at h
  .rename_i a hv;exact dH.2 ⟨_,iV hp hf hv,afM h hK⟩
  .cases h
 .split at h
  .rename_i a hv;exact dH.2 ⟨_,iV hp hf hv,aa0 h hK⟩
  .cases h
 .split at h
  .rename_i x lo hi mx h1 h2 h3 h4
   obtain ⟨l,l1,l2⟩:=Ry hp hf h2
   obtain ⟨j,j1,j2⟩:=Ry hp hf h3
   obtain ⟨m,m1,m2⟩:=Ry hp hf h4
   refine dH.2 ⟨_,iV hp hf h1,dH.2 ⟨l,l1,dH.2 ⟨j,j1,dH.2 ⟨m,m1,?_⟩⟩⟩⟩
   rw [l2,j2,m2]
   exact afG hp ha h hs hK
  .cases h
 .split at h
  .rename_i ps h1;exact dH.2 ⟨_,aaN hp hf h1,ajH h hK⟩
  .cases h
 .split at h
  .rename_i ps h1;exact dH.2 ⟨_,aaN hp hf h1,VT h hK⟩
  .cases h
 .split at h
  .rename_i a hv;exact dH.2 ⟨_,iV hp hf hv,apH h hK⟩
  .cases h
 .exact ajI h hK
 .split at h
  .rename_i a v h1 h2;exact dH.2 ⟨_,iV hp hf h1,dH.2 ⟨_,iV hp hf h2,Yk h hs hK⟩⟩
  .cases h
 .split at h
  .rename_i x y h1 h2
   refine dH.2 ⟨_,wL hp hf h1,dH.2 ⟨_,wL hp hf h2,?_⟩⟩
   unfold Zl at h
   split at h
   .simp only [aj] at h;subst h;exact hK
   .cases h
  .cases h
 .split at h
  .rename_i x t h1 h2
   refine dH.2 ⟨_,wL hp hf h1,?_⟩
   exact dH.2 ⟨_,h2,atX hp ha h hs hK⟩
  .cases h
 .split at h
  .rename_i x y t t2 h1 h2 h3
   refine dH.2 ⟨_,wL hp hf h1,?_⟩
   exact dH.2 ⟨_,h2,dH.2 ⟨_,h3,aml ha h hs hK⟩⟩
  .cases h
 .split at h
  .rename_i x y t h1 h2
   refine dH.2 ⟨_,wL hp hf h1,?_⟩
   exact dH.2 ⟨_,h2,amc hp ha h hs hK⟩
  .cases h
 .split at h
  .rename_i x t h1 h2
   refine dH.2 ⟨_,wL hp hf h1,?_⟩
   exact dH.2 ⟨_,h2,ajP ha h hK⟩
  .cases h
 .split at h
  .rename_i l h1;exact dH.2 ⟨_,wL hp hf h1,V6 h hK⟩
  .cases h
 .split at h
  .rename_i l h1;exact dH.2 ⟨_,wL hp hf h1,V6 h hK⟩
  .cases h
 .split at h
  .rename_i l h1;exact dH.2 ⟨_,wL hp hf h1,ajQ hρ hX hp ha h hs hK⟩
  .cases h
 .cases h
end
end Go.Fw
end
section
namespace Go.Fw
variable [jY]
def afS (b:Nat)(l:List Nat):Bool:=l.any (fun c=>Nat.beq c b)
theorem V7 {b:Nat}{l:List Nat}(h:afS b l=false):b∉l:=by
 intro hm
 unfold afS at h
 rw [List.any_eq_false] at h
 exact h b hm (by simp)
def aDT (M:List Nat)(i:Nat)(rd wr:List Nat)(f:KA):Bool:=
 (M.getD i 0).testBit f.i||(f.wr.all (fun b=>!afS b rd&&!afS b wr)&&f.rd.all fun b=>!afS b wr)
theorem Zv {M:List Nat}{i:Nat}{rd wr:List Nat}{f:KA}(h1:aDT M i rd wr f=true):aaE M i rd wr f:=by
 unfold aDT at h1
 unfold aaE
 simp only [aY,ak,aF,Bool.not_eq_true'] at h1
 rcases h1 with h1|⟨h1,h2⟩
 .exact .inl h1
 .exact .inr ⟨fun b hb=>⟨V7 (h1 b hb).1,V7 (h1 b hb).2⟩,fun b hb=>V7 (h2 b hb)⟩
def wrT (th:Tr SB):List (Nat×Option SB)->Tr SB
 |[]=>th
 |(b,k)::r=>wrT (th.upd zX b k) r
theorem Rz {ρ:List AV}:∀{wr:List (Nat×Option SB)} {th:Tr SB} {ah:AH},Ig ρ th ah->Ig ρ (wrT th wr) (rP ah (wr.map fun x=>(x.1,x.2.map (SB.den ρ))))
 |[],th,ah,h=>h
 |(b,k)::r,th,ah,h=>by
  refine Rz (wr:=r) (th:=th.upd zX b k) fun j y hj=>?_
  rcases Tr.pW _ _ _ _ _ _ hj with ⟨rfl,e⟩|⟨hne,e⟩
  .subst e;rw [rC rfl];rfl
  .rw [aDs hne];exact h j y e
def tag (pc:Pc)(l:List Side)(acc:List (Pc×Side)):List (Pc×Side):=l.map (fun s=>(pc,s))++acc
theorem IU {P:Program}{ρ:List AV}{pc:Pc}{l:List Side}{acc:List (Pc×Side)}(h:jD P ρ (tag pc l acc)):(pc.holds ρ->∀s∈l,s.holds P ρ)/\jD P ρ acc:=
 ⟨fun hp s hs=>h (pc,s) (by simp [tag,hs]) hp,fun x hx=>h x (by simp [tag,hx])⟩
inductive When where
 |yes
 |no
 |maybe (l:Pc)
def ahO (ops:Array Oper)(pc:Pc)(tr:Tr qo)(o:Oper):Option When:=
 match o.guard with
 |none=>some .yes
 |some (j,want)=>match (ops[j]?).bind (·.dst) with
  |none=>none
  |some d=>match tr.get d with
   |none=>none
   |some e=>match e.v with
    | .sc .bool t=>match e.h with
     |[]=>match pc.known t with
      |some b=>some (bif b == want then .yes else .no)
      |none=>some (.maybe [(t,want)])
     |h=>match Pc.known (h++pc) t with
      |some b=>some (bif b == want then .maybe h else .no)
      |none=>some (.maybe ((t,want)::h))
    | .c .undef=>some .no
    |_=>none
def PK (tr:Tr qo)(d:Option Nat)(e:qo):Tr qo:=match d with|some d=>tr.upd zX d (some e)|none=>tr
def V8 (N:Nat):Option Nat->Bool|some d=>Nat.blt d N|none=>true
section
variable {P : Program} {ρ:List AV} {pc:Pc} {fr:mg} {ah:AH} {tr:Tr qo} {th:Tr SB} {X:qO}
theorem yO {N:Nat}{d:Option Nat}{e:qo}(hf:Zg ρ tr fr)(hd:V8 N d=true)(hN:fr.length=N):Zg ρ (PK tr d e) (zK fr d (e.den ρ)):=by
 cases d with
 |none=>exact hf
 |some d=>
  intro t x hx
  have hlt:d<fr.length:=by rw [hN];exact OC hd
  simp only [zK,vG]
  rcases Tr.pW _ _ _ _ _ _ hx with ⟨rfl,e1⟩|⟨hne,e1⟩
  .simp only [aj] at e1;subst e1;rw [if_pos ⟨rfl,hlt⟩]
  .rw [if_neg (fun h=>hne h.1)];exact hf t x e1
theorem mG {d:Option Nat}{a:AV}:(zK fr d a).length=fr.length:=by cases d<;>simp [zK,h_]
theorem Pc.IV {l:Pc}(h:l.all (fun x=>(x.1.den ρ).B == x.2)=true)(hp:pc.holds ρ):Pc.holds ρ (l++pc):=by
 intro x hx
 rw [aH] at hx
 rcases hx with hx|hx
 .rw [aF] at h;simpa using h x hx
 .exact hp x hx
def When.sem (ρ:List AV):When->Bool->Prop
 | .yes,b=>b=true
 | .no,b=>b=false
 | .maybe l,b=>b=l.all (fun x=>(x.1.den ρ).B == x.2)
theorem DR {ops:Array Oper}{o:Oper}{wn:When}(hp:pc.holds ρ)(hf:Zg ρ tr fr)(h:ahO ops pc tr o=some wn){k:Bool->Prop}(hk:∀b,wn.sem ρ b->k b):nN ops fr o k:=by
 unfold ahO at h
 unfold nN
 split at h
 .rename_i hg
  simp only [aj] at h;subst h
  rw [hg];exact hk _ rfl
 .rename_i j want hg
  rw [hg]
  split at h
  .cases h
  .rename_i d hd
   refine dH.2 ⟨d,hd,?_⟩
   split at h
   .cases h
   .rename_i e he
    refine dH.2 ⟨_,hf d e he,?_⟩
    obtain ⟨eh,ev⟩:=e
    dsimp only at h
    split at h
    .rename_i t
     split at h
     .split at h
      .rename_i b hb
       simp only [aj] at h;subst h
       have hb':=Pc.gQ hp hb
       show k ((t.den ρ).B == want)
       rw [hb']
       refine hk _ ?_
       cases hbw:b == want<;>rfl
      .simp only [aj] at h;subst h
       show k ((t.den ρ).B == want)
       exact hk _ (by simp [When.sem])
     .split at h
      .rename_i b hb
       simp only [aj] at h;subst h
       simp only [qo.den]
       cases ha:eh.all (fun x=>(x.1.den ρ).B == x.2)
       .refine hk false ?_
        cases hbw:b == want
        .simp [When.sem]
        .simp [When.sem,ha]
       .have hb':=Pc.gQ (Pc.IV ha hp) hb
        refine hk ((t.den ρ).B == want) ?_
        rw [hb']
        cases hbw:b == want
        .simp [When.sem]
        .simp [When.sem,ha]
      .simp only [aj] at h;subst h
       simp only [qo.den]
       cases ha:eh.all (fun x=>(x.1.den ρ).B == x.2)
       .exact hk false (by simp [When.sem,ha])
       .exact hk _ (by simp [When.sem,ha])
    .simp only [aj] at h;subst h
     simp only [qo.den]
     cases ha:eh.all (fun x=>(x.1.den ρ).B == x.2)<;>exact hk false rfl
    .cases h
end
end Go.Fw
end
section
namespace Go.Fw
variable [jY]
theorem wM {w:World}{E E':Env}(hf:∀c o,E.fix c o->E'.fix c o){a:AV}{v:Value}(h:Rep w E a v):(∀b∈a.refs,E'.own b=E.own b)->Rep w E' a v:=by
 induction h with
 |p h=>intro _;exact .p h
 |str s l h=>intro _;exact .str s l h
 |agg cs vs hl hs _ ih=>intro hr;exact .agg cs vs hl hs (fun i c v hc hv=>ih i c v hc hv (fun b hb=>hr b (jB i c hc hb)))
 |fD cs vs hl _ ih=>intro hr;exact .fD cs vs hl (fun i c v hc hv=>ih i c v hc hv (fun b hb=>hr b (jB i c hc hb)))
 |slnil full a=>intro _;exact .slnil full a
 |sl rows full sz c o cap g hcap hfull hsz hfix hcell jS _ ih=>
  intro hr
  exact .sl rows full sz c o cap g hcap hfull hsz (fun i row j x h1 h2=>hf _ _ (hfix i row j x h1 h2)) hcell jS (fun i row j x h1 h2=>ih i row j x h1 h2 (fun b hb=>hr b (xq i row h1 (jB j x h2 hb))))
 |vp row off c o g hfix hcell jS _ ih=>
  intro hr
  exact .vp row off c o g (fun j x h=>hf _ _ (hfix j x h)) hcell jS (fun j x h=>ih j x h (fun b hb=>hr b (jB j x h hb)))
 |mP b sz off a hb=>intro hr;exact .mP b sz off a (by rw [hr b (by simp [AV.refs])];exact hb)
 |os b sz off len c o cap hb hcap hsize=>intro hr;exact .os b sz off len c o cap (by rw [hr b (by simp [AV.refs])];exact hb) hcap hsize
 |op b sz row off c o hb=>intro hr;exact .op b sz row off c o (by rw [hr b (by simp [AV.refs])];exact hb)
 |fn f first captured vs us hl hl' _ _ ih ih'=>
  intro hr
  exact .fn f first captured vs us hl hl' (fun i c v hc hv=>ih i c v hc hv (fun b hb=>hr b (by simp only [AV.refs,aH];exact .inl (jB i c hc hb))))
   (fun i c v hc hv=>ih' i c v hc hv (fun b hb=>hr b (by simp only [AV.refs,aH];exact .inr (jB i c hc hb))))
 |mV t a v _ ih=>intro hr;exact .mV t a v (ih hr)
 |mp b c hb=>intro hr;exact .mp b c (by rw [hr b (by simp [AV.refs])];exact hb)
def SB.IG : SB->List Nat
 | .rows _ rs=>EK rs
 | .fK _ _=>[]
 | .BZ _ _=>[]
 | .map es=>Gq (es.map (·.1))++Gq (es.map (·.2))
 | .it m _ _=>[m]
 | .kN _ _ rs=>EK rs
def wB.xQ : wB->List Nat
 | .rows _ rs=>mY rs
 | .map es=>mQ (es.map (·.1))++mQ (es.map (·.2))
 | .it m _ _=>[m]
 | .kN _ _ rs=>mY rs
theorem rU.env {base:Nat}{w:World}{E E':Env}{b:Nat}{k:wB}(h:rU base w E b k)(hf:∀c o,E.fix c o->E'.fix c o)(hn:∀c o off,E.own b=.at c o->E'.fix c off->E.fix c off)(hb:E'.own b=E.own b)
  (hr:∀x∈k.xQ,E'.own x=E.own x):rU base w E' b k:=by
 cases k with
 |rows sz rs=>
  rcases h with ⟨q1,q2⟩|⟨c,o,arr,ty,q1,q2,q3,q4,q5,q6,q7,q8⟩
  .exact .inl ⟨by rw [hb];exact q1,q2⟩
  .refine .inr ⟨c,o,arr,ty,by rw [hb];exact q1,q2,fun off h0=>q3 off (hn c o off q1 h0),q4,q5,q6,q7,fun i row j x hi hj=>?_⟩
   obtain ⟨v,hv,hx⟩:=q8 i row j x hi hj
   exact ⟨v,hv,wM hf hx fun y hy=>hr y (xq i row hi (jB j x hj hy))⟩
 |map es=>
  obtain ⟨c,lK,clock,q1,q2,q3,q4,q5,q6,q7⟩:=h
  refine ⟨c,lK,clock,by rw [hb];exact q1,q2,fun off h0=>q3 off (hn c 0 off q1 h0),q4,q5,fun i e ce hi hc=>?_,q7⟩
  obtain ⟨r1,r2,r3⟩:=q6 i e ce hi hc
  refine ⟨wM hf r1 fun y hy=>hr y ?_,wM hf r2 fun y hy=>hr y ?_,r3⟩
  .exact aH.2 (.inl (jB i e.1 (by simp [hi]) hy))
  .exact aH.2 (.inr (jB i e.2 (by simp [hi]) hy))
 |it m n k=>
  obtain ⟨c,cm,q1,q2,q3,q4,q5⟩:=h
  exact ⟨c,cm,by rw [hb];exact q1,q2,fun off h0=>q3 off (hn c 0 off q1 h0),q4,by rw [hr m (by simp [wB.xQ])];exact q5⟩
 |kN ty sz rs=>
  rcases h with ⟨q1,q2⟩|⟨c,o,arr,q1,q2,q3,q4,q5,q6,q7,q8⟩
  .exact .inl ⟨by rw [hb];exact q1,q2⟩
  .refine .inr ⟨c,o,arr,by rw [hb];exact q1,q2,fun off h0=>q3 off (hn c o off q1 h0),q4,q5,q6,q7,fun i row j x hi hj=>?_⟩
   obtain ⟨v,hv,hx⟩:=q8 i row j x hi hj
   exact ⟨v,hv,wM hf hx fun y hy=>hr y (xq i row hi (jB j x hj hy))⟩
def Env.part (E:Env)(oJ:AH):Env:=⟨E.fix,fun b=>if (oJ b).isSome then E.own b else .free⟩
section
variable {base : Nat} {w:World} {E:Env} {rV oJ:AH} {F:Nat->Prop} {nx:Nat}
theorem RF (hh:dX base w E rV F)(hsub:∀b k,oJ b=some k->rV b=some k)(hlt:∀b k,oJ b=some k->b<nx)(hrefs:∀b k,oJ b=some k->∀x∈k.xQ,(oJ x).isSome=true) :
  dX base w (E.part oJ) oJ (fun b=>nx<=b):=by
 have own:∀b,(oJ b).isSome=true->(E.part oJ).own b=E.own b:=fun b hb=>by simp [Env.part,hb]
 refine ⟨fun b k hb=>?_,fun b b' k k' c o c' o' hne h1 h2 h3 h4=>?_,fun b hb=>?_,hh.kJ,hh.bs,fun b c o h=>?_⟩
 .exact (hh.blk b k (hsub b k hb)).env (fun _ _ h=>h) (fun _ _ _ _ h=>h) (own b (by simp [hb])) fun x hx=>own x (hrefs b k hb x hx)
 .rw [own b (by simp [h1])] at h3
  rw [own b' (by simp [h2])] at h4
  exact hh.sep b b' k k' c o c' o' hne (hsub _ _ h1) (hsub _ _ h2) h3 h4
 .have:¬(oJ b).isSome=true:=fun h=>by
   obtain ⟨k,hk⟩:=Option.isSome_iff_exists.1 h
   have:=hlt b k hk;omega
  simp [Env.part,this]
 .by_cases hb:(oJ b).isSome=true
  .rw [own b hb] at h;exact hh.kL b c o h
  .simp [Env.part,hb] at h
theorem V9 {a:AV}{v:Value}(h:Rep w E a v)(hr:∀x∈a.refs,(oJ x).isSome=true):Rep w (E.part oJ) a v:=
 wM (E:=E) (E':=E.part oJ) (fun _ _ h=>h) h fun b hb=>by simp [Env.part,hr b hb]
def Env.back (E E1:Env)(oJ:AH)(nx nx':Nat):Env:=⟨E1.fix,fun b=>if (oJ b).isSome=true\/(nx<=b/\b<nx') then E1.own b else E.own b⟩
theorem ajT (hh:dX base w E rV F)(hsub:∀b k,oJ b=some k->rV b=some k)(hlt:∀b k,oJ b=some k->b<nx){nx':Nat}(hnx:nx<=nx')(hF:∀b,nx<=b->b<nx'->F b)
  {w':World} {E1:Env} {fV:AH} (hst:Step base w (E.part oJ) w' E1) (hh':dX base w' E1 fV (fun b=>nx'<=b))
  (hlt':∀b k,fV b=some k->b<nx'/\((nx<=b/\b<nx')\/(oJ b).isSome=true)/\∀x∈k.xQ,(nx<=x/\x<nx')\/(oJ x).isSome=true) {yA:AH} (hN:∀b,yA b=if nx'<=b then rV b else fV b) :
  Step base w E w' (E.back E1 oJ nx nx')/\dX base w' (E.back E1 oJ nx nx') yA (fun b=>F b/\¬(nx<=b/\b<nx'))/\
   ∀a v,Rep w' E1 a v->(∀x∈a.refs,(nx<=x/\x<nx')\/(oJ x).isSome=true)->Rep w' (E.back E1 oJ nx nx') a v:=by
 have afT:∀b,(oJ b).isSome=true->(E.part oJ).own b=E.own b:=fun b hb=>by simp [Env.part,hb]
 have PL:∀b c o,(E.part oJ).own b=.at c o->(oJ b).isSome=true/\E.own b=.at c o:=fun b c o h=>by
  by_cases hb:(oJ b).isSome=true
  .rw [afT b hb] at h;exact ⟨hb,h⟩
  .simp [Env.part,hb] at h
 have in1:∀b,((nx<=b/\b<nx')\/(oJ b).isSome=true)->(E.back E1 oJ nx nx').own b=E1.own b:=fun b hb=>by
  simp only [Env.back];rw [if_pos (hb.symm)]
 have out1:∀b,¬((nx<=b/\b<nx')\/(oJ b).isSome=true)->(E.back E1 oJ nx nx').own b=E.own b:=fun b hb=>by
  simp only [Env.back];rw [if_neg (fun h=>hb h.symm)]
 have hfree:∀b,nx<=b->b<nx'->E.own b=.free:=fun b h1 h2=>hh.fresh b (hF b h1 h2)
 
 have extra:∀b k c o,nx'<=b->rV b=some k->E.own b=.at c o->∀b' o',(E.part oJ).own b'≠.at c o':=fun b k c o hb hk ho b' o' h=>by
  obtain ⟨h1,h2⟩:=PL b' c o' h
  obtain ⟨k',hk'⟩:=Option.isSome_iff_exists.1 h1
  have hb':=hlt b' k' hk'
  exact hh.sep b' b k' k c o' c o (by omega) (hsub _ _ hk') hk h2 ho rfl
 have hx:Ext w E w' (E.back E1 oJ nx nx'):=by
  refine ⟨hst.ext.fix,hst.ext.cell,fun b hb=>?_,hst.ext.arr⟩
  by_cases hin:(nx<=b/\b<nx')\/(oJ b).isSome=true
  .rw [in1 b hin]
   rcases hin with ⟨h1,h2⟩|h1
   .exact absurd (hfree b h1 h2) hb
   .have:=hst.ext.own b (by rw [afT b h1];exact hb)
    rw [this,afT b h1]
  .exact out1 b hin
 refine ⟨⟨hx,hst.below,hst.z_,fun c hc hno=>hst.keep c hc fun b o h=>hno b o (PL b c o h).2,fun b c o h hc=>?_,fun c o h hc=>?_⟩,⟨fun b k hb=>?_,fun b b' k k' c o c' o' hne h1 h2 h3 h4=>?_,fun b hb=>?_,hh'.kJ,hh'.bs,fun b c o h=>?_⟩,fun a v hr hrf=>?_⟩
 .by_cases hin:(nx<=b/\b<nx')\/(oJ b).isSome=true
  .rw [in1 b hin] at h
   obtain ⟨b',o',h'⟩:=hst.FI b c o h hc
   exact ⟨b',o',(PL b' c o' h').2⟩
  .rw [out1 b hin] at h;exact ⟨b,o,h⟩
 .exact (hst.Aa c o h hc).imp id fun ⟨b',o',h'⟩=>⟨b',o',(PL b' c o' h').2⟩
 .rw [hN b] at hb
  split at hb
  .rename_i hle
   have hb0:=hh.blk b k hb
   refine hb0.keep hx (fun c o ho=>hst.keep c (hb0.lt ho).1 (extra b k c o hle hb ho)) (fun c o off ho h=>?_)
   rcases hst.Aa c off h (hb0.lt ho).1 with h|⟨b',o',h⟩
   .exact h
   .exact absurd h (extra b k c o hle hb ho b' o')
  .obtain ⟨g1,g2,g3⟩:=hlt' b k hb
   exact (hh'.blk b k hb).env (fun _ _ h=>h) (fun _ _ _ _ h=>h) (in1 b g2) fun x hx=>in1 x (g3 x hx)
 .have mix:∀b b' k k' c o c' o',nx'<=b->rV b=some k->E.own b=.at c o->b' < nx'->fV b'=some k'->E1.own b'=.at c' o'->c≠c':=by
   intro b b' k k' c o c' o' h1 h2 h3 h4 h5 h6 e
   subst e
   obtain ⟨x,y,hxy⟩:=hst.FI b' c o' h6 ((hh.blk b k h2).lt h3).1
   exact extra b k c o h1 h2 h3 x y hxy
  rw [hN b] at h1
  rw [hN b'] at h2
  have bo:∀b k,nx'<=b->rV b=some k->(E.back E1 oJ nx nx').own b=E.own b:=fun b k hle hk=>out1 b fun h=>by
   rcases h with h|h
   .omega
   .obtain ⟨k0,hk0⟩:=Option.isSome_iff_exists.1 h
    have:=hlt b k0 hk0;omega
  split at h1
  .rename_i g1
   rw [bo b k g1 h1] at h3
   split at h2
   .rename_i g2
    rw [bo b' k' g2 h2] at h4
    exact hh.sep b b' k k' c o c' o' hne h1 h2 h3 h4
   .rename_i g2
    rw [in1 b' (hlt' b' k' h2).2.1] at h4
    exact mix b b' k k' c o c' o' g1 h1 h3 (by omega) h2 h4
  .rename_i g1
   rw [in1 b (hlt' b k h1).2.1] at h3
   split at h2
   .rename_i g2
    rw [bo b' k' g2 h2] at h4
    exact (mix b' b k' k c' o' c o g2 h2 h4 (by omega) h1 h3).symm
   .rename_i g2
    rw [in1 b' (hlt' b' k' h2).2.1] at h4
    exact hh'.sep b b' k k' c o c' o' hne h1 h2 h3 h4
 .have h0:=hh.fresh b hb.1
  rw [out1 b fun h=>?_]
  .exact h0
  .rcases h with h|h
   .exact hb.2 h
   .obtain ⟨k0,hk0⟩:=Option.isSome_iff_exists.1 h
    exact (hh.blk b k0 (hsub _ _ hk0)).own h0
 .by_cases hin:(nx<=b/\b<nx')\/(oJ b).isSome=true
  .rw [in1 b hin] at h;exact hh'.kL b c o h
  .rw [out1 b hin] at h
   have:=hh.kL b c o h
   exact ⟨this.1,bZ this.2 hst.below.size⟩
 .exact wM (E:=E1) (E':=E.back E1 oJ nx nx') (fun _ _ h=>h) hr fun x hx=>in1 x (hrf x hx)
end
def Tr.all {α:Type}:Tr α->(Nat->α->Bool)->Bool
 | .e,_=>true
 | .n l x r,f=>(match x with|none=>true|some a=>f 0 a)&&(Tr.all l (fun j=>f (2*j+1))&&Tr.all r (fun j=>f (2*j+2)))
theorem Tr.MH {α:Type}:∀{t:Tr α} {f:Nat->α->Bool},t.all f=true->∀{k:Nat} {a:α},t.get k=some a->f k a=true
 | .e,f,_,k,a,h=>by simp [Tr.get] at h
 | .n l x r,f,hf,k,a,h=>by
  simp only [Tr.all,ak] at hf
  simp only [Tr.get] at h
  cases h1:Nat.beq k 0
  .simp only [h1,cond_false] at h
   have hk:k≠0:=by intro e;subst e;simp at h1
   cases h2:Nat.beq (k % 2) 1
   .simp only [h2,cond_false] at h
    have:=Tr.MH hf.2.2 h
    have a1:k % 2≠1:=by intro e;rw [e] at h2;simp at h2
    have e:2*((k-1) / 2)+2=k:=by omega
    rwa [e] at this
   .simp only [h2,cond_true] at h
    have:=Tr.MH hf.2.1 h
    have a1:=au h2
    have e:2*((k-1) / 2)+1=k:=by omega
    rwa [e] at this
  .simp only [h1,cond_true] at h
   have:=au h1
   subst this;subst h
   exact hf.1
def iQ (ρ:List AV)(th:Tr SB):AH:=fun b=>(th.get b).map (SB.den ρ)
theorem Aq {ρ:List AV}{th:Tr SB}{b:Nat}{k:wB}(h:iQ ρ th b=some k):∃z,th.get b=some z/\z.den ρ=k:=by
 unfold iQ at h
 simpa only [ay] using h
def aEm (th:Tr SB)(b:Nat):Bool:=match th.get b with|some _=>true|none=>false
def btw (nx nx' b:Nat):Bool:=Nat.ble nx b&&Nat.ble (b+1) nx'
theorem apN {nx nx' b:Nat}(h:btw nx nx' b=true):nx<=b/\b<nx':=by
 simp only [btw,ak] at h
 exact ⟨aC h.1,aC h.2⟩
def aa4 (th:Tr SB)(nx:Nat)(args:List SV):Bool:=th.all (fun b k=>Nat.ble (b+1) nx&&k.IG.all (aEm th))&&(Gq args).all (aEm th)
def aa5 (th:Tr SB)(nx nx':Nat)(th':Tr SB)(v:SV):Bool:=
 Nat.ble nx nx'&&(th'.all (fun b k=>Nat.ble (b+1) nx'&&((btw nx nx' b||aEm th b)&&k.IG.all (fun x=>btw nx nx' x||aEm th x)))&&v.IG.all (fun x=>btw nx nx' x||aEm th x))
theorem DT : ∀{l:List AV},(∀x∈l,x.clean=true)->kX l=true
 |[],_=>rfl
 |x::r,h=>by simp only [kX,ak];exact ⟨h x (by simp),DT fun y hy=>h y (by simp [hy])⟩
theorem IW {l:List AV}(h:kX l=true){x:AV}(hx:x∈l):x.clean=true:=by
 obtain ⟨i,hi⟩:=List.getElem?_of_mem hx
 exact lD h i x hi
theorem acT {a:Bool}{l:List AV}(h:kX l=true):(nO a l).clean=true:=by
 cases a with
 |true=>exact h
 |false=>cases l with
  |nil=>rfl
  |cons x r=>exact IW (x:=x) h (by simp)
theorem TM {a:Bool}{f:List AV->List AV}(hf:∀row,∀x∈f row,x∈row){l:List (List AV)}(h:jO l=true):kX (l.map fun row=>nO a (f row))=true:=by
 refine DT fun x hx=>?_
 obtain ⟨row,hr,rfl⟩:=aU.1 hx
 obtain ⟨i,hi⟩:=List.getElem?_of_mem hr
 have hrow:=xM h i row hi
 exact acT (DT fun y hy=>IW hrow (hf row y hy))
theorem Gu {ρ:List AV}(hρ:iW ρ=true){k:SB}:(k.den ρ).xQ=k.IG:=by
 cases k with
 |rows sz rs=>simp only [SB.den,wB.xQ,SB.IG,Ap hρ]
 |fK sz t=>simp only [SB.den,wB.xQ,SB.IG,oV (j_ (Tm.qK hρ t))]
 |BZ m t=>
  have hc:=j_ (Tm.qK hρ t)
  simp only [SB.den,wB.xQ,SB.IG,List.map_map]
  rw [show ((fun x:AV×AV=>x.1)∘rW m)=fun row=>nO m.ka (row.take m.kn) from rfl,show ((fun x:AV×AV=>x.2)∘rW m)=fun row=>nO m.va (row.drop m.kn) from rfl]
  rw [jW (TM (f:=fun row=>row.take m.kn) (fun row x hx=>bJ hx) hc),jW (TM (f:=fun row=>row.drop m.kn) (fun row x hx=>List.mem_of_mem_drop hx) hc)]
  rfl
 |map es=>
  simp only [SB.den,wB.xQ,SB.IG,List.map_map]
  have e1:(es.map ((fun x=>x.1)∘fun e=>(SV.den ρ e.1,SV.den ρ e.2)))=dU ρ (es.map (·.1)):=by simp [nX,Function.comp_def]
  have e2:(es.map ((fun x=>x.2)∘fun e=>(SV.den ρ e.1,SV.den ρ e.2)))=dU ρ (es.map (·.2)):=by simp [nX,Function.comp_def]
  rw [e1,e2,tH hρ,tH hρ]
 |it m n k=>rfl
 |kN ty sz rs=>simp only [SB.den,wB.xQ,SB.IG,Ap hρ]
section
variable {ρ : List AV} (hρ:iW ρ=true) {th th':Tr SB} {nx nx':Nat}
 include hρ
theorem PN {b:Nat}(h:aEm th b=true):(iQ ρ th b).isSome=true:=by
 unfold aEm at h
 unfold iQ
 split at h
 .rename_i k hk;rw [hk];rfl
 .cases h
theorem amn {b:Nat}(h:(btw nx nx' b||aEm th b)=true):(nx<=b/\b<nx')\/(iQ ρ th b).isSome=true:=by
 rw [aY] at h
 exact h.imp apN (PN hρ)
theorem afU {args:List SV}(h:aa4 th nx args=true):(∀b k,iQ ρ th b=some k->b<nx)/\(∀b k,iQ ρ th b=some k->∀x∈k.xQ,(iQ ρ th x).isSome=true)/\∀x∈mQ (dU ρ args),(iQ ρ th x).isSome=true:=by
 unfold aa4 at h
 simp only [ak] at h
 refine ⟨fun b k hk=>?_,fun b k hk x hx=>?_,fun x hx=>?_⟩
 .obtain ⟨z,hz,rfl⟩:=Aq hk
  have:=Tr.MH h.1 hz
  simp only [ak] at this
  exact aC this.1
 .obtain ⟨z,hz,rfl⟩:=Aq hk
  have:=Tr.MH h.1 hz
  simp only [ak,aF] at this
  rw [Gu hρ] at hx
  exact PN hρ (this.2 x hx)
 .rw [tH hρ] at hx
  exact PN hρ (aF.1 h.2 x hx)
theorem afV {v:SV}(h:aa5 th nx nx' th' v=true):nx<=nx'/\(∀b k,iQ ρ th' b=some k->b<nx'/\((nx<=b/\b<nx')\/(iQ ρ th b).isSome=true)/\∀x∈k.xQ,(nx<=x/\x<nx')\/(iQ ρ th x).isSome=true)/\
  ∀x∈(v.den ρ).refs,(nx<=x/\x<nx')\/(iQ ρ th x).isSome=true:=by
 unfold aa5 at h
 simp only [ak] at h
 refine ⟨aC h.1,fun b k hk=>?_,fun x hx=>?_⟩
 .obtain ⟨z,hz,rfl⟩:=Aq hk
  have:=Tr.MH h.2.1 hz
  simp only [ak,aF] at this
  refine ⟨aC this.1,amn hρ this.2.1,fun x hx=>?_⟩
  rw [Gu hρ] at hx
  exact amn hρ (this.2.2 x hx)
 .rw [yM hρ] at hx
  exact amn hρ (aF.1 h.2.2 x hx)
end
end Go.Fw
end
