
import Derived.Test.YtlnenmklgkgaeaaFwB
set_option linter.unusedVariables false
set_option linter.unusedSimpArgs false
set_option linter.unusedSectionVars false
set_option linter.unnecessarySimpa false
section
namespace Go.Fw
variable [iT]
inductive D where
 |b (v:Bool)
 |i (v:Int)
 |f (v:Nat)
 |s (v:List UInt8)
 |r (v:List (List AV))
def D.B : D->Bool | .b v=>v|_=>false
def D.I : D->Int | .i v=>v|_=>0
def D.F : D->Nat | .f v=>v|_=>0
def D.S : D->List UInt8 | .s v=>v|_=>[]
def D.R : D->List (List AV) | .r v=>v|_=>[]
def AV.D : AV->D
 | .p (.bool v)=>.b v| .p (.int _ n)=>.i n| .p (.float _ n)=>.f n| .str l=>.s l| .sl rows _=>.r rows|_=>.b false
inductive Kd where
 |bool
 |int (k:IntKind)
 |jL
 |str
 |sl
 deriving DecidableEq
def Kd.av : Kd->D->AV
 | .bool,d=>.p (.bool d.B)| .int k,d=>.p (.int k d.I)| .jL,d=>.p (.float .f64 d.F)| .str,d=>.str d.S| .sl,d=>.sl d.R false
inductive Tm where
 |lb (v:Bool)
 |li (v:Int)
 |lf (v:Nat)
 |ls (v:List UInt8)
 |nl
 |var (i:Nat) (p:List Nat)
 |bin (o:BinOp) (k:Kd) (x y:Tm)
 |not (x:Tm)
 |and (x y:Tm)
 |or (x y:Tm)
 |ite (c x y:Tm)
 |neg (k:Kd) (x:Tm)
 |com (k:IntKind) (x:Tm)
 |conv (k:IntKind) (x:Tm)
 |toF (x:Tm)
 |ZJ (x:Tm)
 |slen (x:Tm)
 |rlen (x:Tm)
 |byte (x i:Tm)
 |Gj (x lo hi:Tm)
 |bts (x:Tm)
 |sbs (x:Tm)
 |G9 (n:Nat) (x:Tm)
def X3 (row:List AV):UInt8:=(ayD row).getD 0
def azb (b:UInt8):List AV:=[.p (.int .u8 b.toNat)]
def eX : AV:=.p undef
def ayr : AV->List Nat->AV
 |a,[]=>a| .agg l,j::p=>ayr (l.getD j eX) p| .gW l,j::p=>ayr (l.getD j eX) p|_,_=>eX
def oL (o:BinOp)(k:Kd)(x y:D):D:=
 match k with
 | .int k=>
  match o with
  | .add=>.i (fK k x.I y.I)| .sub=>.i (mD k x.I y.I)| .mul=>.i (agu k x.I y.I)| .quo=>.i (LU k x.I y.I)| .rem=>.i (LV k x.I y.I)| .and=>.i (jl k x.I y.I)| .or=>.i (ZH k x.I y.I)| .xor=>.i (atU k x.I y.I)| .andNot=>.i (nK k x.I y.I)| .shl=>.i (atV k x.I y.I)| .shr=>.i (m_ k x.I y.I)| .eql=>.b (dU x.I y.I)| .neq=>.b (jk x.I y.I)| .lss=>.b (decide (x.I<y.I))| .leq=>.b (decide (x.I<=y.I))| .gtr=>.b (decide (x.I > y.I))| .geq=>.b (decide (x.I>=y.I))
 | .jL=>
  match o with
  | .add=>.f ((FloatKind.f64.format.add x.F y.F).getD 0)| .sub=>.f ((FloatKind.f64.format.sub x.F y.F).getD 0)| .mul=>.f ((FloatKind.f64.format.mul x.F y.F).getD 0)| .quo=>.f ((FloatKind.f64.format.div x.F y.F).getD 0)| .eql=>.b (fEq x.F y.F)| .neq=>.b (Kv x.F y.F)| .lss=>.b (fLt x.F y.F)| .leq=>.b (XZ x.F y.F)| .gtr=>.b (fGt x.F y.F)| .geq=>.b (ZI x.F y.F)|_=>.b false
 | .str=>
  match o with
  | .add=>.s (x.S++y.S)| .eql=>.b (Dw x.S y.S)| .neq=>.b (sNe x.S y.S)| .lss=>.b (Op.bytesLess x.S y.S)| .leq=>.b (Op.bytesLess x.S y.S||decide (x.S=y.S))| .gtr=>.b (!(Op.bytesLess x.S y.S||decide (x.S=y.S)))| .geq=>.b (!Op.bytesLess x.S y.S)|_=>.b false
 | .bool=>
  match o with
  | .eql=>.b (Qy x.B y.B)| .neq=>.b (bNe x.B y.B)|_=>.b false
 | .sl=>.b false
def Tm.den (ρ:List AV):Tm->D
 | .lb v=>.b v| .li v=>.i v| .lf v=>.f v| .ls v=>.s v| .nl=>.r []| .var i p=>(ayr (ρ.getD i eX) p).D| .bin o k x y=>oL o k (x.den ρ) (y.den ρ)| .not x=>.b (!(x.den ρ).B)| .and x y=>.b ((x.den ρ).B&&(y.den ρ).B)| .or x y=>.b ((x.den ρ).B||(y.den ρ).B)| .ite c x y=>match x.den ρ,y.den ρ with
  | .b x,.b y=>.b (bif (c.den ρ).B then x else y)| .i x,.i y=>.i (bif (c.den ρ).B then x else y)| .f x,.f y=>.f (bif (c.den ρ).B then x else y)| .s x,.s y=>.s (bif (c.den ρ).B then x else y)| .r x,.r y=>.r (bif (c.den ρ).B then x else y)|x,y=>bif (c.den ρ).B then x else y
 | .neg k x=>match k with | .int k=>.i (mD k 0 (x.den ρ).I)|_=>.f (Op.negFloat .f64 (x.den ρ).F)
 | .com k x=>.i (EM k (x.den ρ).I)| .conv k x=>.i (k.wrap (x.den ρ).I)| .toF x=>.f (FloatKind.f64.nearest (x.den ρ).I)| .ZJ x=>.i (((FloatKind.f64.decode (x.den ρ).F).toInt .zero).getD 0)| .slen x=>.i (sLen (x.den ρ).S)| .rlen x=>.i (nM (x.den ρ).R)| .byte x i=>.i (((x.den ρ).S.getD (i.den ρ).I.toNat 0).toNat:Int)| .Gj x lo hi=>.s (((x.den ρ).S.drop (lo.den ρ).I.toNat).take ((hi.den ρ).I.toNat-(lo.den ρ).I.toNat))| .bts x=>.s ((x.den ρ).R.map X3)| .sbs x=>.r ((x.den ρ).S.map azb)| .G9 n x=>.r ((x.den ρ).R.drop n)
theorem Tm.oh (ρ:List AV)(c x y:Tm):(Tm.ite c x y).den ρ=bif (c.den ρ).B then x.den ρ else y.den ρ:=by
 simp only [Tm.den];cases hc:(c.den ρ).B<;>cases hx:x.den ρ<;>cases hy:y.den ρ<;>rfl
def Tm.beq : Tm->Tm->Bool
 | .lb v,.lb w=>v == w| .li v,.li w=>decide (v=w)| .lf v,.lf w=>Nat.beq v w| .ls v,.ls w=>decide (v=w)| .nl,.nl=>true| .var i p,.var j q=>Nat.beq i j&&decide (p=q)| .bin o k x y,.bin o' k' x' y'=>decide (o=o')&&(decide (k=k')&&(x.beq x'&&y.beq y'))| .not x,.not x'=>x.beq x'| .and x y,.and x' y'=>x.beq x'&&y.beq y'| .or x y,.or x' y'=>x.beq x'&&y.beq y'| .ite c x y,.ite c' x' y'=>c.beq c'&&(x.beq x'&&y.beq y')| .neg k x,.neg k' x'=>decide (k=k')&&x.beq x'| .com k x,.com k' x'=>decide (k=k')&&x.beq x'| .conv k x,.conv k' x'=>decide (k=k')&&x.beq x'| .toF x,.toF x'=>x.beq x'| .ZJ x,.ZJ x'=>x.beq x'| .slen x,.slen x'=>x.beq x'| .rlen x,.rlen x'=>x.beq x'| .byte x i,.byte x' i'=>x.beq x'&&i.beq i'| .Gj x l h,.Gj x' l' h'=>x.beq x'&&(l.beq l'&&h.beq h')| .bts x,.bts x'=>x.beq x'| .sbs x,.sbs x'=>x.beq x'| .G9 n x,.G9 m x'=>Nat.beq n m&&x.beq x'|_,_=>false
theorem Tm.beq_eq : ∀{x y:Tm},x.beq y=true->x=y:=by
 intro x;induction x with
 |lb|li|lf|ls|nl|var=>intro y h;cases y<;>simp_all [Tm.beq]
 |bin o k x y ql ihy=>intro z h;cases z<;>simp [Tm.beq] at h;obtain ⟨rfl,rfl,h1,h2⟩:=h;rw [ql h1,ihy h2]
 |not x ih|toF x ih|ZJ x ih|slen x ih|rlen x ih|bts x ih|sbs x ih=>intro z h;cases z<;>simp [Tm.beq] at h;rw [ih h]
 |and x y ql ihy|or x y ql ihy|byte x y ql ihy=>intro z h;cases z<;>simp [Tm.beq] at h;rw [ql h.1,ihy h.2]
 |ite x y z i1 i2 i3|Gj x y z i1 i2 i3=>intro u h;cases u<;>simp [Tm.beq] at h;rw [i1 h.1,i2 h.2.1,i3 h.2.2]
 |neg k x ih|com k x ih|conv k x ih=>intro z h;cases z<;>simp [Tm.beq] at h;obtain ⟨rfl,h1⟩:=h;rw [ih h1]
 |G9 n x ih=>intro z h;cases z<;>simp [Tm.beq] at h;obtain ⟨rfl,h1⟩:=h;rw [ih h1]
theorem G_ {a b:Int}(h0 : -9223372036854775808<=a+b)(h1:a+b<9223372036854775808):fK .i64 a b=a+b:=by
 have e:IntKind.wrap .i64 (a+b)=if (a+b) % 18446744073709551616>=9223372036854775808 then (a+b) % 18446744073709551616-18446744073709551616 else (a+b) % 18446744073709551616:=by
  show (if (true&&decide ((a+b) % 2 ^ 64>=2 ^ (64-1)))=true then (a+b) % 2 ^ 64-2 ^ 64 else (a+b) % 2 ^ 64)=_;simp
 unfold fK;rw [e];split<;>omega
theorem ZK {a b:Int}(h0 : -9223372036854775808<=a-b)(h1:a-b<9223372036854775808):mD .i64 a b=a-b:=by
 have e:IntKind.wrap .i64 (a-b)=if (a-b) % 18446744073709551616>=9223372036854775808 then (a-b) % 18446744073709551616-18446744073709551616 else (a-b) % 18446744073709551616:=by
  show (if (true&&decide ((a-b) % 2 ^ 64>=2 ^ (64-1)))=true then (a-b) % 2 ^ 64-2 ^ 64 else (a-b) % 2 ^ 64)=_;simp
 unfold mD;rw [e];split<;>omega
def Oa {α:Type}(n:Nat)(k:Nat->α):α:=match n with|0=>k 0|m+1=>k (m+1)
theorem vP {α:Type}(n:Nat)(k:Nat->α):Oa n k=k n:=by cases n<;>rfl
def ZL {α:Type}(n:Int)(k:Int->α):α:=match n with | .ofNat m=>Oa m fun m=>k (.ofNat m) | .negSucc m=>Oa m fun m=>k (.negSucc m)
theorem Sl {α:Type}(n:Int)(k:Int->α):ZL n k=k n:=by cases n<;>simp [ZL,vP]
def Tm.Jv : Tm->Option D
 | .lb v=>some (.b v)| .li v=>some (.i v)| .lf v=>some (.f v)| .ls v=>some (.s v)|_=>none
def Tm.ofD : D->Tm
 | .b v=>match v with|true=>.lb true|false=>.lb false
 | .i v=>ZL v .li| .f v=>Oa v .lf| .s v=>.ls v| .r _=>.nl
theorem Tm.Dx {ρ:List AV}{t:Tm}{d:D}(h:t.Jv=some d):t.den ρ=d:=by
 cases t<;>simp_all [Tm.Jv,Tm.den]
theorem Tm.IX {ρ:List AV}{d:D}(h:∀l,d≠.r l):(Tm.ofD d).den ρ=d:=by
 cases d with
 |b v=>cases v<;>rfl
 |i v=>simp [Tm.ofD,Sl,Tm.den]|f v=>simp [Tm.ofD,vP,Tm.den]|s v=>rfl|r l=>exact absurd rfl (h l)
theorem X4 (o:BinOp)(k:Kd)(x y:D)(l:List (List AV)):oL o k x y≠.r l:=by
 cases k<;>cases o<;>simp [oL]
def ayA (o:BinOp)(k:Kd)(x y:Tm):Tm:=
 match x.Jv,y.Jv with
 |some a,some b=>Tm.ofD (oL o k a b)|_,_=>.bin o k x y
theorem mW {ρ:List AV}{o k x y}:(ayA o k x y).den ρ=oL o k (x.den ρ) (y.den ρ):=by
 unfold ayA;split
 .rename_i a b ha hb;rw [Tm.IX (X4 o k a b),Tm.Dx ha,Tm.Dx hb]
 .rfl
theorem D.BP (v:Bool):(D.b v).B=v:=rfl
def ayK : Tm->Tm
 | .lb v=>.lb (!v)| .not x=>match x with
  | .bin o k a b=>.bin o k a b| .and a b=>.and a b| .or a b=>.or a b| .not a=>.not a|x=>.not (.not x)
 |x=>.not x
theorem mX {ρ:List AV}{x:Tm}:((ayK x).den ρ).B=!(x.den ρ).B:=by
 unfold ayK;split
 .rfl
 .split<;>simp [Tm.den,D.BP]
 .simp [Tm.den,D.BP]
def aps (x y:Tm):Tm:=bif x.beq y then x else .and x y
def or2 (x y:Tm):Tm:=bif x.beq y then x else .or x y
theorem aiJ {ρ:List AV}{x y:Tm}:((aps x y).den ρ).B=((x.den ρ).B&&(y.den ρ).B):=by
 unfold aps;cases h:x.beq y
 .rfl
 .rw [Tm.beq_eq h];simp
theorem ama {ρ:List AV}{x y:Tm}:((or2 x y).den ρ).B=((x.den ρ).B||(y.den ρ).B):=by
 unfold or2;cases h:x.beq y
 .rfl
 .rw [Tm.beq_eq h];simp
def ayU (x y:Tm):Tm:=
 match x,y with
 | .lb true,y=>y| .lb false,_=>.lb false|x,.lb true=>x|x,.lb false=>.lb false|x,y=>aps x y
theorem uX {ρ:List AV}{x y:Tm}:((ayU x y).den ρ).B=((x.den ρ).B&&(y.den ρ).B):=by
 unfold ayU;split<;>simp [Tm.den,D.BP,aiJ]
def azw (x y:Tm):Tm:=
 match x,y with
 | .lb true,_=>.lb true| .lb false,y=>y|x,.lb true=>.lb true|x,.lb false=>x|x,y=>or2 x y
theorem He {ρ:List AV}{x y:Tm}:((azw x y).den ρ).B=((x.den ρ).B||(y.den ρ).B):=by
 unfold azw;split<;>simp [Tm.den,D.BP,ama]
def apt (c x y:Tm):Tm:=bif x.beq c then azw c y else bif y.beq c then ayU c x else .ite c x y
theorem aiK {ρ:List AV}{c x y:Tm}:((apt c x y).den ρ).B=bif (c.den ρ).B then (x.den ρ).B else (y.den ρ).B:=by
 unfold apt;cases h1:x.beq c
 .simp only [cond_false];cases h2:y.beq c
  .simp only [cond_false,Tm.oh];cases (c.den ρ).B<;>rfl
  .simp only [cond_true];rw [Tm.beq_eq h2,uX];cases (c.den ρ).B<;>simp
 .simp only [cond_true];rw [Tm.beq_eq h1,He];cases (c.den ρ).B<;>simp
def Sm (c x y:Tm):Tm:=
 match c with
 | .lb true=>x| .lb false=>y|c=>
 bif x.beq y then x else
 match x,y with
 | .lb true,.lb false=>c| .lb false,.lb true=>ayK c|x,.lb false=>ayU c x|x,.lb true=>azw (ayK c) x| .lb true,y=>azw c y| .lb false,y=>ayU (ayK c) y|x,y=>apt c x y
theorem Kw {ρ:List AV}{c x y:Tm}:((Sm c x y).den ρ).B=bif (c.den ρ).B then (x.den ρ).B else (y.den ρ).B:=by
 unfold Sm;split
 .rfl
 .rfl
 .cases h:x.beq y
  .simp only [cond_false];split
   .simp [Tm.den,D.BP]
   .simp [mX,Tm.den,D.BP]
   .simp [uX,Tm.den,D.BP]
   .simp [He,mX,Tm.den,D.BP]
   .simp [He,mX,Tm.den,D.BP]
   .simp [uX,mX,Tm.den,D.BP]
   .exact aiK
  .simp only [cond_true];rw [Tm.beq_eq h];simp
def agw (c:Tm):Tm->Tm
 | .ite d x y=>bif d.beq c then x else .ite d x y
 |t=>t
def aiL (c:Tm):Tm->Tm
 | .ite d x y=>bif d.beq c then y else .ite d x y
 |t=>t
theorem ZM {ρ:List AV}{c t:Tm}(h:(c.den ρ).B=true):(agw c t).den ρ=t.den ρ:=by
 unfold agw;split
 .rename_i d x y;cases hb:d.beq c
  .rfl
  .simp only [cond_true,Tm.oh];rw [Tm.beq_eq hb,h];rfl
 .rfl
theorem ZN {ρ:List AV}{c t:Tm}(h:(c.den ρ).B=false):(aiL c t).den ρ=t.den ρ:=by
 unfold aiL;split
 .rename_i d x y;cases hb:d.beq c
  .rfl
  .simp only [cond_true,Tm.oh];rw [Tm.beq_eq hb,h];rfl
 .rfl
def amb (c x y:Tm):Tm:=bif (agw c x).beq (aiL c y) then agw c x else .ite c (agw c x) (aiL c y)
theorem ZO {ρ:List AV}{c x y:Tm}:(amb c x y).den ρ=bif (c.den ρ).B then x.den ρ else y.den ρ:=by
 unfold amb;cases h:(agw c x).beq (aiL c y)
 .simp only [cond_false,Tm.oh];cases hc:(c.den ρ).B
  .simp only [cond_false,ZN hc]
  .simp only [cond_true,ZM hc]
 .simp only [cond_true];have e:=Tm.beq_eq h;cases hc:(c.den ρ).B
  .simp only [cond_false];rw [e,ZN hc]
  .simp only [cond_true];rw [ZM hc]
def ayP (c x y:Tm):Tm:=
 match c with
 | .lb true=>x| .lb false=>y| .not c=>amb c y x|c=>amb c x y
theorem xB {ρ:List AV}{c x y:Tm}:(ayP c x y).den ρ=bif (c.den ρ).B then x.den ρ else y.den ρ:=by
 unfold ayP;split
 .rfl
 .rfl
 .rename_i c;rw [ZO];simp only [Tm.den,D.BP];cases (c.den ρ).B<;>rfl
 .exact ZO
def acy (o:BinOp)(k:Kd)(a b:D):Tm:=Tm.ofD (oL o k a b)
def azx (o:BinOp)(k:Kd)(y:Tm)(b:D):Tm->Tm
 | .ite c u v=>Sm c (azx o k y b u) (azx o k y b v)|x=>match x.Jv with
  |some a=>acy o k a b|none=>.bin o k x y
def agx (o:BinOp)(k:Kd)(x:Tm)(a:D):Tm->Tm
 | .ite c u v=>Sm c (agx o k x a u) (agx o k x a v)|y=>match y.Jv with
  |some b=>acy o k a b|none=>.bin o k x y
theorem Sr {ρ:List AV}{o k a b}:(acy o k a b).den ρ=oL o k a b:=Tm.IX (X4 o k a b)
theorem aiM {ρ:List AV}{o k y b}(hy:y.den ρ=b){x:Tm}:((azx o k y b x).den ρ).B=(oL o k (x.den ρ) b).B:=by
 induction x with
 |ite c u v _ ihu ihv=>
  simp only [azx,Kw,Tm.oh,ihu,ihv];cases (c.den ρ).B<;>rfl
 |_=>
  simp only [azx,Tm.Jv]
  first
  |(rw [Sr];rfl)
  |(simp only [Tm.den,hy])
theorem aiN {ρ:List AV}{o k x a}(hx:x.den ρ=a){y:Tm}:((agx o k x a y).den ρ).B=(oL o k a (y.den ρ)).B:=by
 induction y with
 |ite c u v _ ihu ihv=>
  simp only [agx,Kw,Tm.oh,ihu,ihv];cases (c.den ρ).B<;>rfl
 |_=>
  simp only [agx,Tm.Jv]
  first
  |(rw [Sr];rfl)
  |(simp only [Tm.den,hx])
def JH (o:BinOp)(k:Kd)(x y:Tm):Tm:=
 match y.Jv with
 |some b=>match o,k,b with
  | .eql,.bool,.b true=>x| .eql,.bool,.b false=>ayK x| .neq,.bool,.b true=>ayK x| .neq,.bool,.b false=>x|o,k,b=>azx o k y b x
 |none=>match x.Jv with
  |some a=>agx o k x a y|none=>.bin o k x y
theorem sO {ρ:List AV}{o k x y}:((JH o k x y).den ρ).B=(oL o k (x.den ρ) (y.den ρ)).B:=by
 unfold JH;split
 .rename_i b hb;have e:=Tm.Dx (ρ:=ρ) hb;split
  .rw [e];simp [oL,D.BP,Qy]
  .rw [e,mX];simp [oL,D.BP,Qy]
  .rw [e,mX];simp [oL,D.BP,bNe]
  .rw [e];simp [oL,D.BP,bNe]
  .rw [aiM e,e]
 .split
  .rename_i a ha;have e:=Tm.Dx (ρ:=ρ) ha;rw [aiN e,e]
  .rfl
def Sv (k:Kd)(c x y:Tm):Tm:=match k with | .bool=>Sm c x y|_=>ayP c x y
theorem Sz {ρ:List AV}{k:Kd}{c x y:Tm}:k.av ((Sv k c x y).den ρ)=bif (c.den ρ).B then k.av (x.den ρ) else k.av (y.den ρ):=by
 cases k with
 |bool=>simp only [Sv,Kd.av,Kw];cases (c.den ρ).B<;>rfl
 |_=>simp only [Sv,xB];cases (c.den ρ).B<;>rfl
end Go.Fw
end
section
namespace Go.Fw
variable [iT]
inductive Cv where
 |ptr|fn|kY|mp|undef
 |at (c o:Nat)
 deriving DecidableEq
def Cv.val : Cv->Value
 | .ptr=>.pointer none| .fn=>.nilFunc| .kY=>.nilIface| .mp=>.map none| .undef=>Go.undef| .at c o=>.pointer (some ⟨c,o,none⟩)
inductive SV where
 |sc (k:Kd) (t:Tm)
 |c (v:Cv)
 |nil
 |sf (t:Tm)
 |agg (l:List SV)
 |gW (l:List SV)
 |slc (rows:List (List SV)) (full:Bool)
 |vp (row:List SV) (off:Nat)
 |os (b sz off:Nat) (len:Tm)
 |op (b sz:Nat) (row:Tm) (off:Nat)
 |fn (f:Nat) (first captured:List SV)
 |kY (t:TypeId) (v:SV)
 |mp (b:Nat)
 
 |ost (b sz:Nat) (off len:Tm)
 
 |nan
 mutual
def SV.den (ρ:List AV):SV->AV
  | .sc k t=>k.av (t.den ρ)| .c v=>.p v.val| .nil=>.sl [] true| .nan=>.nan| .sf t=>.sl (t.den ρ).R true| .agg l=>.agg (dK ρ l)| .gW l=>.gW (dK ρ l)| .slc rows full=>.sl (fQ ρ rows) full| .vp row off=>.vp (dK ρ row) off| .os b sz off len=>.os b sz off (len.den ρ).I.toNat| .op b sz row off=>.op b sz (row.den ρ).I.toNat off| .fn f first captured=>.fn (.func f) (dK ρ first) (dK ρ captured)| .kY t v=>.kY t (v.den ρ)| .mp b=>.mp b| .ost b sz off len=>.os b sz (off.den ρ).I.toNat (len.den ρ).I.toNat
def dK (ρ:List AV):List SV->List AV
  |[]=>[]|x::r=>x.den ρ::dK ρ r
def fQ (ρ:List AV):List (List SV)->List (List AV)
  |[]=>[]|x::r=>dK ρ x::fQ ρ r
end
theorem agl {ρ:List AV}:∀{l:List SV},dK ρ l=l.map (SV.den ρ)
 |[]=>rfl|x::r=>by simp [dK,agl (l:=r)]
theorem jd {ρ:List AV}:∀{l:List (List SV)},fQ ρ l=l.map (dK ρ)
 |[]=>rfl|x::r=>by simp [fQ,jd (l:=r)]
 mutual
def SV.beq : SV->SV->Bool
  | .sc k t,.sc k' t'=>decide (k=k')&&t.beq t'| .c v,.c v'=>decide (v=v')| .nil,.nil=>true| .nan,.nan=>true| .sf t,.sf t'=>t.beq t'| .agg l,.agg l'=>Oc l l'| .gW l,.gW l'=>Oc l l'| .slc r f,.slc r' f'=>PK r r'&&f == f'| .vp r o,.vp r' o'=>Oc r r'&&Nat.beq o o'| .os b s o l,.os b' s' o' l'=>Nat.beq b b'&&(Nat.beq s s'&&(Nat.beq o o'&&l.beq l'))| .op b s r o,.op b' s' r' o'=>Nat.beq b b'&&(Nat.beq s s'&&(r.beq r'&&Nat.beq o o'))| .fn f x y,.fn f' x' y'=>Nat.beq f f'&&(Oc x x'&&Oc y y')| .kY t v,.kY t' v'=>Nat.beq t t'&&v.beq v'| .mp b,.mp b'=>Nat.beq b b'| .ost b s o l,.ost b' s' o' l'=>Nat.beq b b'&&(Nat.beq s s'&&(o.beq o'&&l.beq l'))|_,_=>false
def Oc : List SV->List SV->Bool
  |[],[]=>true|x::r,y::s=>x.beq y&&Oc r s|_,_=>false
def PK : List (List SV)->List (List SV)->Bool
  |[],[]=>true|x::r,y::s=>Oc x y&&PK r s|_,_=>false
end
 mutual
theorem SV.beq_eq : ∀{x y:SV},x.beq y=true->x=y:=fun {x y} h=>by
  match x,y with
  | .sc k t,.sc k' t'=>simp [SV.beq] at h;rw [h.1,Tm.beq_eq h.2]| .c v,.c v'=>simp [SV.beq] at h;rw [h]| .nil,.nil=>rfl| .nan,.nan=>rfl| .sf t,.sf t'=>simp [SV.beq] at h;rw [Tm.beq_eq h]| .agg l,.agg l'=>simp [SV.beq] at h;rw [zo h]| .gW l,.gW l'=>simp [SV.beq] at h;rw [zo h]| .slc r f,.slc r' f'=>simp [SV.beq] at h;rw [Hf h.1,h.2]| .vp r o,.vp r' o'=>simp [SV.beq] at h;rw [zo h.1,h.2]| .os b s o l,.os b' s' o' l'=>simp [SV.beq] at h;rw [h.1,h.2.1,h.2.2.1,Tm.beq_eq h.2.2.2]| .op b s r o,.op b' s' r' o'=>simp [SV.beq] at h;rw [h.1,h.2.1,Tm.beq_eq h.2.2.1,h.2.2.2]| .fn f x y,.fn f' x' y'=>simp [SV.beq] at h;rw [h.1,zo h.2.1,zo h.2.2]| .kY t v,.kY t' v'=>simp [SV.beq] at h;rw [h.1,SV.beq_eq h.2]| .mp b,.mp b'=>simp [SV.beq] at h;rw [h]| .ost b s o l,.ost b' s' o' l'=>simp [SV.beq] at h;rw [h.1,h.2.1,Tm.beq_eq h.2.2.1,Tm.beq_eq h.2.2.2]
theorem zo : ∀{x y:List SV},Oc x y=true->x=y:=fun {x y} h=>by
  match x,y with
  |[],[]=>rfl|x::r,y::s=>simp [Oc] at h;rw [SV.beq_eq h.1,zo h.2]
theorem Hf : ∀{x y:List (List SV)},PK x y=true->x=y:=fun {x y} h=>by
  match x,y with
  |[],[]=>rfl|x::r,y::s=>simp [PK] at h;rw [zo h.1,Hf h.2]
end
def SV.cells : SV->List SV
 | .agg l=>l|a=>[a]
def SV.iL : SV->Bool
 | .agg _ | .gW _ | .c .undef=>false|_=>true
def SV.BA : SV->Bool
 | .gW _ | .c .undef=>false|_=>true
structure MSh where
 ka:Bool
 kn:Nat
 va:Bool
 vn:Nat
 deriving DecidableEq
def lQ (a:Bool)(l:List AV):AV:=bif a then .agg l else match l with|x::_=>x | []=>eX
def pV (m:MSh)(row:List AV):AV×AV:=(lQ m.ka (row.take m.kn),lQ m.va (row.drop m.kn))
def Za (rs:List (List AV))(i off:Nat)(x:AV):List (List AV):=rs.take i++[lay (rs.getD i []) off [x]]++rs.drop (i+1)
inductive SB where
 |rows (sz:Nat) (rs:List (List SV))
 |fZ (sz:Nat) (t:Tm)
 |xC (m:MSh) (t:Tm)
 |map (es:List (SV×SV))
 |it (m:Nat) (n:Tm) (k:Nat)
 |iD (ty:TypeId) (sz:Nat) (rs:List (List SV))
 |mQ (sz:Nat) (t i:Tm) (off:Nat) (x:SV)
def SB.den (ρ:List AV):SB->qO
 | .rows sz rs=>.rows sz (fQ ρ rs)| .fZ sz t=>.rows sz (t.den ρ).R| .xC m t=>.map ((t.den ρ).R.map (pV m))| .map es=>.map (es.map fun e=>(e.1.den ρ,e.2.den ρ))| .it m n k=>.it m (n.den ρ).I.toNat k| .iD ty sz rs=>.iD ty sz (fQ ρ rs)| .mQ sz t i off x=>.rows sz (Za (t.den ρ).R (i.den ρ).I.toNat off (x.den ρ))
theorem zq {rs:List (List AV)}{i off:Nat}{x:AV}{row:List AV}(h:rs[i]?=some row):Za rs i off x=rs.set i (lay row off [x]):=by
 have hlt:=(aA.1 h).1;have he:rs.getD i []=row:=by simp [aB,h]
 unfold Za;rw [he,List.set_eq_take_append_cons_drop,if_pos hlt];simp
theorem Oe {row:List AV}{o:Nat}{x:AV}(h:o<row.length):lay row o [x]=row.set o x:=by
 unfold lay;rw [List.set_eq_take_append_cons_drop,if_pos h];simp
theorem acz {row cs:List AV}{o p:Nat}{x:AV}(h:o+cs.length<=row.length)(hp:p<row.length)(hd:p<o\/o+cs.length<=p):lay (lay row p [x]) o cs=lay (lay row o cs) p [x]:=by
 rw [Oe hp,Oe (by rw [EJ h];exact hp)];apply List.ext_getElem?;intro j;rw [XK (by simpa using h),List.getElem?_set,List.getElem?_set,XK h,EJ h];by_cases hj:p=j
 .subst hj;rw [if_neg (by omega)];simp [hp]
 .simp only [hj,if_false]
inductive Tr (α:Type) where
 |e
 |n (l:Tr α) (x:Option α) (r:Tr α)
def Tr.get {α:Type}:Tr α->Nat->Option α
 | .e,_=>none| .n l x r,k=>bif Nat.beq k 0 then x else bif Nat.beq (k % 2) 1 then l.get ((k-1) / 2) else r.get ((k-1) / 2)
def Tr.upd {α:Type}:Nat->Tr α->Nat->Option α->Tr α
 |0,_,_,_=>.e|m+1,.e,k,f=>bif Nat.beq k 0 then .n .e f .e else bif Nat.beq (k % 2) 1 then .n (Tr.upd m .e ((k-1) / 2) f) none .e else .n .e none (Tr.upd m .e ((k-1) / 2) f)
 |m+1,.n l x r,k,f=>bif Nat.beq k 0 then .n l f r else bif Nat.beq (k % 2) 1 then .n (Tr.upd m l ((k-1) / 2) f) x r else .n l x (Tr.upd m r ((k-1) / 2) f)
theorem Tr.kW {α:Type}:∀(m:Nat) (t:Tr α) (k:Nat) (f:Option α) (j:Nat) (y:α),(Tr.upd m t k f).get j=some y->(j=k/\f=some y)\/(j≠k/\t.get j=some y)
 |0,t,k,f,j,y,h=>by simp [Tr.upd,Tr.get] at h
 |m+1,.e,k,f,j,y,h=>by
  have ih:=Tr.kW m (.e:Tr α) ((k-1) / 2) f ((j-1) / 2) y;simp only [Tr.get] at ih;unfold Tr.upd at h;cases h1:Nat.beq k 0
  .simp only [h1,cond_false] at h;have hk:k≠0:=(by intro e;subst e;simp at h1);cases h2:Nat.beq (k % 2) 1
   .simp only [h2,cond_false,Tr.get] at h;cases h3:Nat.beq j 0
    .simp only [h3,cond_false] at h;cases h4:Nat.beq (j % 2) 1
     .simp only [h4,cond_false] at h;rcases ih h with ⟨e,q⟩|⟨_,q⟩
      .left;refine ⟨?_,q⟩;have hj:j≠0:=(by intro e;subst e;simp at h3);have a1:k % 2≠1:=(by intro e;rw [e] at h2;simp at h2);have a2:j % 2≠1:=(by intro e;rw [e] at h4;simp at h4);omega
      .cases q
     .simp [h4] at h
    .simp [h3] at h
   .simp only [h2,cond_true,Tr.get] at h;cases h3:Nat.beq j 0
    .simp only [h3,cond_false] at h;cases h4:Nat.beq (j % 2) 1
     .simp [h4] at h
     .simp only [h4,cond_true] at h;rcases ih h with ⟨e,q⟩|⟨_,q⟩
      .left;refine ⟨?_,q⟩;have hj:j≠0:=(by intro e;subst e;simp at h3);have a1:=au h2;have a2:=au h4;omega
      .cases q
    .simp [h3] at h
  .simp only [h1,cond_true,Tr.get] at h;have hk:=au h1;cases h3:Nat.beq j 0
   .simp [h3] at h
   .simp only [h3,cond_true] at h;exact .inl ⟨by rw [hk,au h3],h⟩
 |m+1,.n l x r,k,f,j,y,h=>by
  have ihl:=Tr.kW m l ((k-1) / 2) f ((j-1) / 2) y;have ihr:=Tr.kW m r ((k-1) / 2) f ((j-1) / 2) y;unfold Tr.upd at h;cases h1:Nat.beq k 0
  .simp only [h1,cond_false] at h;have hk:k≠0:=(by intro e;subst e;simp at h1);cases h2:Nat.beq (k % 2) 1
   .simp only [h2,cond_false,Tr.get] at h;have a1:k % 2≠1:=(by intro e;rw [e] at h2;simp at h2);cases h3:Nat.beq j 0
    .simp only [h3,cond_false] at h;have hj:j≠0:=(by intro e;subst e;simp at h3);cases h4:Nat.beq (j % 2) 1
     .simp only [h4,cond_false] at h;have a2:j % 2≠1:=(by intro e;rw [e] at h4;simp at h4);rcases ihr h with ⟨e,q⟩|⟨e,q⟩
      .exact .inl ⟨by omega,q⟩
      .exact .inr ⟨by intro e';exact e (by rw [e']),by simpa [Tr.get,h3,h4] using q⟩
     .simp only [h4,cond_true] at h;have a2:=au h4;exact .inr ⟨by intro e;subst e;exact a1 a2,by simpa [Tr.get,h3,h4] using h⟩
    .simp only [h3,cond_true] at h;exact .inr ⟨by intro e;subst e;exact hk (au h3),by simpa [Tr.get,h3] using h⟩
   .simp only [h2,cond_true,Tr.get] at h;have a1:=au h2;cases h3:Nat.beq j 0
    .simp only [h3,cond_false] at h;have hj:j≠0:=(by intro e;subst e;simp at h3);cases h4:Nat.beq (j % 2) 1
     .simp only [h4,cond_false] at h;have a2:j % 2≠1:=(by intro e;rw [e] at h4;simp at h4);exact .inr ⟨by intro e;subst e;exact a2 a1,by simpa [Tr.get,h3,h4] using h⟩
     .simp only [h4,cond_true] at h;have a2:=au h4;rcases ihl h with ⟨e,q⟩|⟨e,q⟩
      .exact .inl ⟨by omega,q⟩
      .exact .inr ⟨by intro e';exact e (by rw [e']),by simpa [Tr.get,h3,h4] using q⟩
    .simp only [h3,cond_true] at h;exact .inr ⟨by intro e;subst e;exact hk (au h3),by simpa [Tr.get,h3] using h⟩
  .simp only [h1,cond_true,Tr.get] at h;have hk:=au h1;cases h3:Nat.beq j 0
   .simp only [h3,cond_false] at h;have hj:j≠0:=(by intro e;subst e;simp at h3);exact .inr ⟨by omega,by simpa [Tr.get,h3] using h⟩
   .simp only [h3,cond_true] at h;exact .inl ⟨by rw [hk,au h3],h⟩
abbrev Pc :=List (Tm×Bool)
def Pc.holds (ρ:List AV)(pc:Pc):Prop:=∀x∈pc,(x.1.den ρ).B=x.2
def Pc.has (pc:Pc)(x:Tm×Bool):Bool:=pc.any fun y=>y.2 == x.2&&y.1.beq x.1
theorem Pc.V6 {ρ:List AV}{pc:Pc}{x:Tm×Bool}(h:pc.has x=true)(hp:pc.holds ρ):(x.1.den ρ).B=x.2:=by
 unfold Pc.has at h;rw [List.any_eq_true] at h;obtain ⟨y,hy,h⟩:=h;simp at h;rw [<- Tm.beq_eq h.2,<- h.1];exact hp y hy
def Pc.Qk (pc:Pc)(t:Tm):Option Bool:=bif pc.has (t,true) then some true else bif pc.has (t,false) then some false else none
theorem Pc.ag1 {ρ:List AV}{pc:Pc}(hp:pc.holds ρ){t:Tm}{b:Bool}(h:pc.Qk t=some b):(t.den ρ).B=b:=by
 unfold Pc.Qk at h;cases h1:pc.has (t,true)
 .simp only [h1,cond_false] at h;cases h2:pc.has (t,false)
  .simp [h2] at h
  .simp [h2] at h;subst h;exact Pc.V6 h2 hp
 .simp [h1] at h;subst h;exact Pc.V6 h1 hp
def Pc.V7 (x:Tm):Pc->Option Int
 |[]=>none|(.bin .eql (.int _) y (.li a),true)::r=>bif y.beq x then some a else Pc.V7 x r
 |_::r=>Pc.V7 x r
theorem Pc.Hg {ρ:List AV}{x:Tm}{a:Int}:∀{pc:Pc},pc.holds ρ->Pc.V7 x pc=some a->(x.den ρ).I=a
 |[],_,h=>by simp [Pc.V7] at h
 |e::r,hp,h=>by
  have hr:Pc.holds ρ r:=fun y hy=>hp y (aN _ hy);unfold Pc.V7 at h;split at h
  .cases h
  .rename_i k y a' r' heq;simp only [List.cons.injEq] at heq;obtain ⟨rfl,rfl⟩:=heq;cases hb:y.beq x
   .simp only [hb,cond_false] at h;exact Pc.Hg hr h
   .simp only [hb,cond_true,aj] at h;subst h;have:=hp _ aZ;rw [Tm.beq_eq hb] at this;have h2:(x.den ρ).I=(D.i a').I:=(by simpa [Tm.den,oL,D.BP,dU] using this);exact h2
  .rename_i heq;simp only [List.cons.injEq] at heq;obtain ⟨rfl,rfl⟩:=heq;exact Pc.Hg hr h
theorem aiP {o:BinOp}{k:IntKind}{d d' e:D}(h:d.I=d'.I):oL o (.int k) d e=oL o (.int k) d' e:=by
 cases o<;>simp only [oL,h]
def orE (a b:Option Bool):Option Bool:=match a with|some v=>some v|none=>b
theorem X5 {a b:Option Bool}{v:Bool}(h:orE a b=some v):a=some v\/b=some v:=by
 unfold orE at h;cases a
 .exact .inr h
 .exact .inl h
def Pc.known (pc:Pc):Tm->Option Bool
 | .lb v=>some v| .not x=>match Pc.known pc x with
  |some b=>some (!b)|none=>pc.Qk (.not x)
 | .and x y=>match Pc.known pc x with
  |some false=>some false|some true=>orE (Pc.known pc y) (pc.Qk (.and x y))|none=>match Pc.known pc y with
   |some false=>some false|_=>pc.Qk (.and x y)
 | .or x y=>match Pc.known pc x with
  |some true=>some true|some false=>orE (Pc.known pc y) (pc.Qk (.or x y))|none=>match Pc.known pc y with
   |some true=>some true|_=>pc.Qk (.or x y)
 | .ite c x y=>match Pc.known pc c with
  |some true=>orE (Pc.known pc x) (pc.Qk (.ite c x y))|some false=>orE (Pc.known pc y) (pc.Qk (.ite c x y))|none=>pc.Qk (.ite c x y)
 | .bin o (.int k) x (.li b)=>match pc.Qk (.bin o (.int k) x (.li b)) with
  |some v=>some v|none=>match Pc.V7 x pc with
   |some a=>some (oL o (.int k) (.i a) (.i b)).B|none=>none
 |t=>pc.Qk t
theorem Pc.fM {ρ:List AV}{pc:Pc}(hp:pc.holds ρ):∀{t:Tm} {b:Bool},pc.known t=some b->(t.den ρ).B=b:=by
 intro t;induction t with
 |lb v=>intro b h;simp [Pc.known] at h;subst h;rfl|not x ih=>
  intro b h;simp only [Pc.known] at h;split at h
  .rename_i c hc;simp only [aj] at h;subst h;simp only [Tm.den,D.BP,ih hc]
  .exact Pc.ag1 hp h
 |and x y ql ihy=>
  intro b h;simp only [Pc.known] at h;split at h
  .rename_i hx;simp only [aj] at h;subst h;simp only [Tm.den,D.BP,ql hx];rfl
  .rename_i hx;rcases X5 h with h|h
   .simp only [Tm.den,D.BP,ql hx,ihy h];rfl
   .exact Pc.ag1 hp h
  .split at h
   .rename_i hy;simp only [aj] at h;subst h;simp only [Tm.den,D.BP,ihy hy,Bool.and_false]
   .exact Pc.ag1 hp h
 |or x y ql ihy=>
  intro b h;simp only [Pc.known] at h;split at h
  .rename_i hx;simp only [aj] at h;subst h;simp only [Tm.den,D.BP,ql hx];rfl
  .rename_i hx;rcases X5 h with h|h
   .simp only [Tm.den,D.BP,ql hx,ihy h];rfl
   .exact Pc.ag1 hp h
  .split at h
   .rename_i hy;simp only [aj] at h;subst h;simp only [Tm.den,D.BP,ihy hy,Bool.or_true]
   .exact Pc.ag1 hp h
 |ite c x y ihc ql ihy=>
  intro b h;simp only [Pc.known] at h;split at h
  .rename_i hc;rcases X5 h with h|h
   .rw [Tm.oh,ihc hc];exact ql h
   .exact Pc.ag1 hp h
  .rename_i hc;rcases X5 h with h|h
   .rw [Tm.oh,ihc hc];exact ihy h
   .exact Pc.ag1 hp h
  .exact Pc.ag1 hp h
 |bin o k x y _ _=>
  intro b h;unfold Pc.known at h;split at h
  all_goals first
   |(rename_i heq;cases heq;done)
   |skip
  .rename_i o' k' x' b' heq;cases heq;split at h
   .rename_i hv;simp only [aj] at h;subst h;exact Pc.ag1 hp hv
   .split at h
    .rename_i a ha;simp only [aj] at h;subst h;have:=Pc.Hg hp ha;simp only [Tm.den];rw [aiP (d':=.i a) this]
    .cases h
  .exact Pc.ag1 hp h
 |_=>
  intro b h;exact Pc.ag1 hp h
theorem Pc.iw {ρ:List AV}{pc:Pc}{t:Tm}{b:Bool}(h:(t.den ρ).B=b)(hp:pc.holds ρ):Pc.holds ρ ((t,b)::pc):=by
 intro x hx;cases hx with
 |head=>exact h|tail _ hx=>exact hp x hx
structure oq where
 h:Pc
 v:SV
def oq.den (ρ:List AV)(e:oq):AV:=bif e.h.all (fun x=>(x.1.den ρ).B == x.2) then e.v.den ρ else eX
def oq.sure (pc:Pc)(e:oq):Bool:=e.h.all fun x=>match pc.known x.1 with|some b=>b == x.2|none=>false
theorem oq.ZP {ρ:List AV}{pc:Pc}{e:oq}(hp:pc.holds ρ)(h:e.sure pc=true):e.den ρ=e.v.den ρ:=by
 unfold oq.den;have:e.h.all (fun x=>(x.1.den ρ).B == x.2)=true:=by
  unfold oq.sure at h;rw [aF] at h ⊢;intro x hx;have:=h x hx;split at this
  .rename_i b hb;rw [Pc.fM hp hb];exact this
  .cases this
 rw [this];rfl
def uf : Nat:=40
end Go.Fw
end
section
namespace Go.Fw
variable [iT]
def zu {α:Type}:List α->Nat->Option α
 |[],_=>none|x::_,0=>some x|_::r,n+1=>zu r n
theorem vS {α:Type}:∀(l:List α) (n:Nat),zu l n=l[n]?
 |[],n=>by simp [zu]
 |x::r,0=>by simp [zu]
 |x::r,n+1=>by simp [zu,vS r n]
def uK : List Nat->AV->AV->AV
 |[],_,y=>y|j::p,.agg l,y=>.agg (l.set j (uK p (l.getD j eX) y))|j::p,.gW l,y=>.gW (l.set j (uK p (l.getD j eX) y))|_::_,a,_=>a
def Dy (p:List Nat)(r:AV):List (List AV):=(ayr r p).D.R
def Vm (k:qO):AH:=fun b=>if b=0 then some k else none
def PCo (P:Program)(f:FuncId)(args:List AV)(r:AV)(p:List Nat)(sz:Nat):Prop:=
 ∀(w:World) (fix:Nat->Nat->Prop) (vs:List Value),(∀c o,fix c o->c<w.heap.size)->Zg w fix->fG w (dW fix) args vs->
  match P.funcs[f]? with
  |none=>False|some fn=>fn.body.isNone=false/\fn.name≠ "runtime.NumGoroutine" /\Calls P f vs.toArray w fun e w'=>∃v E',e=.returned v/\Step w.heap.size w (dW fix) w' E'/\
   dM w.heap.size w' E' (Vm (.rows sz (Dy p r))) (fun b=>1<=b)/\Rep w' E' (uK p r (.os 0 sz 0 (Dy p r).length)) v
def nZ : List (Nat×qO)->AH
 |[],_=>none|x::r,b=>bif Nat.beq x.1 b then some x.2 else nZ r b
def PWL (P:Program)(f:FuncId)(args:List AV)(bin:List (Nat×qO))(n0:Nat)(r:AV)(Jw:List (Nat×qO)):Prop:=
 ∀(base:Nat) (w:World) (E:Env) (vs:List Value),dM base w E (nZ bin) (fun b=>n0<=b)->Zg w E.fix->fG w E args vs->
  match P.funcs[f]? with
  |none=>False|some fn=>fn.body.isNone=false/\fn.name≠ "runtime.NumGoroutine" /\Calls P f vs.toArray w fun e w'=>∃v E',e=.returned v/\Step base w E w' E'/\
   dM base w' E' (nZ Jw) (fun b=>n0<=b)/\Rep w' E' r v
def kOf : AV->Nat
 | .p (.int _ n)=>n.toNat|_=>0
def TT : List AV:=[.p (.bool true)]
def Gl (ρ:List AV)(bl:List (Nat×SB)):List (Nat×qO):=bl.map fun x=>(x.1,x.2.den ρ)
inductive Side where
 |BQ (f:FuncId) (args:List SV) (bl:List (Nat×SB)) (n0:Nat) (r:SV) (Gt:List (Nat×SB))
 |PL (f:FuncId) (args:List SV) (r:SV) (p:List Nat) (sz:Nat) (fl:Bool)
 |tm (t:Tm)
 |call (f:FuncId) (args:List SV) (r:SV)
 |fop (o:BinOp) (x y:Tm)
 |cat (x y:Tm)
 |num (k:IntKind) (x:Tm) (n:Tm)
 |row (t i:Tm) (cells:List SV)
 |rd (ty:Bool×Nat) (t i:Tm) (off:Nat) (v:SV)
 |st (t i:Tm) (off:Nat) (cells:List SV) (n:Tm)
 |sub (sz:Nat) (t:Tm) (lo hi:Option Tm) (n:Tm)
 |mk (len cap:Tm) (z:List SV) (n:Tm)
 |app (sz:Nat) (x:Tm) (y:List (List SV)) (n:Tm)
 |ZQ (sz:Nat) (x y n:Tm)
 |len2 (m:Nat) (y:Tm)
 |Lh (n:Nat) (t:Tm)
 |cpy (x len y n:Tm)
 |apv (t:Tm)
 |mark (m:MSh) (t d len n:Tm)
 |agy (sz:Nat) (x:List (List SV)) (y n:Tm)
 |look (kt:TypeId) (m:MSh) (t:Tm) (k z:SV) (f:Tm) (v:SV)
 |put (kt:TypeId) (m:MSh) (t:Tm) (k v:SV) (n:Tm)
 |under (pc:Pc) (s:Side)
def X6 (ρ:List AV)(d:Nat):Option Tm->Int
 |none=>d|some t=>(t.den ρ).I
def Side.holds (P:Program)(ρ:List AV):Side->Prop
 | .tm t=>(t.den ρ).B=true| .BQ f args bl n0 r Gt=>PWL P f (dK ρ args) (Gl ρ bl) n0 (r.den ρ) (Gl ρ Gt)| .PL f args r p sz fl=>PCo P f (dK ρ args) (r.den ρ) p sz/\(fl=true->∀row∈Dy p (r.den ρ),y8 row=true)| .call f args r=>PC P f (dK ρ args) (r.den ρ)| .fop o x y=>match o with
  | .add=>(FloatKind.f64.format.add (x.den ρ).F (y.den ρ).F).isSome=true| .sub=>(FloatKind.f64.format.sub (x.den ρ).F (y.den ρ).F).isSome=true| .mul=>(FloatKind.f64.format.mul (x.den ρ).F (y.den ρ).F).isSome=true| .quo=>(FloatKind.f64.format.div (x.den ρ).F (y.den ρ).F).isSome=true|_=>False
 | .cat x y=>(x.den ρ).S.length+(y.den ρ).S.length<=4294967296| .num k x n=>(FloatKind.f64.decode (x.den ρ).F).toInt .zero=some (n.den ρ).I/\k.min<=(n.den ρ).I/\(n.den ρ).I<=k.max| .row t i cells=>0<=(i.den ρ).I/\(t.den ρ).R[(i.den ρ).I.toNat]?=some (dK ρ cells)| .rd ty t i off v=>∃row,(t.den ρ).R[(i.den ρ).I.toNat]?=some row/\apart ty row off (fun x=>x=v.den ρ)| .st t i off cells n=>∃row,(t.den ρ).R[(i.den ρ).I.toNat]?=some row/\off+cells.length<=row.length/\(n.den ρ).R=(t.den ρ).R.set (i.den ρ).I.toNat (lay row off (dK ρ cells))| .sub sz t lo hi n=>jy sz (t.den ρ).R/\0<=X6 ρ 0 lo/\X6 ρ 0 lo<=X6 ρ (t.den ρ).R.length hi/\X6 ρ (t.den ρ).R.length hi<=(t.den ρ).R.length/\
   (n.den ρ).R=((t.den ρ).R.drop (X6 ρ 0 lo).toNat).take ((X6 ρ (t.den ρ).R.length hi).toNat-(X6 ρ 0 lo).toNat)
 | .mk len cap z n=>0<=(len.den ρ).I/\(len.den ρ).I<=(cap.den ρ).I/\(cap.den ρ).I<=4294967296/\(n.den ρ).R=List.replicate (len.den ρ).I.toNat (dK ρ z)| .app sz x y n=>jy sz (x.den ρ).R/\(x.den ρ).R.length+y.length<=4294967296/\(n.den ρ).R=(x.den ρ).R++fQ ρ y| .ZQ sz x y n=>jy sz (x.den ρ).R/\jy sz (y.den ρ).R/\(x.den ρ).R.length+(y.den ρ).R.length<=4294967296/\(n.den ρ).R=(x.den ρ).R++(y.den ρ).R| .len2 m y=>m+(y.den ρ).R.length<=4294967296| .Lh n t=>jy n (t.den ρ).R| .cpy x len y n=>(len.den ρ).I.toNat<=(x.den ρ).R.length/\(n.den ρ).R=(y.den ρ).R.take (len.den ρ).I.toNat++(x.den ρ).R.drop (min (y.den ρ).R.length (len.den ρ).I.toNat)| .apv t=>((t.den ρ).R.mapM ayD).isSome=true| .mark m t d len n=>(len.den ρ).I.toNat<=(d.den ρ).R.length/\(∀e∈(t.den ρ).R.map (pV m),∃kk i,e.1=.p (.int kk i)/\0<=i/\i.toNat<(len.den ρ).I.toNat)/\(n.den ρ).R.length=(d.den ρ).R.length/\
   ∀i,i<(d.den ρ).R.length->(n.den ρ).R[i]?=if ((t.den ρ).R.map (pV m)).any (fun e=>Nat.beq (kOf e.1) i)=true then some TT else (d.den ρ).R[i]?
 | .agy sz x y n=>x.length+(y.den ρ).R.length<=4294967296/\(n.den ρ).R=fQ ρ x++(y.den ρ).R| .look kt m t k z f v=>∃r,wV P kt (k.den ρ) ((t.den ρ).R.map (pV m))=some r/\(f.den ρ).B=r.isSome/\v.den ρ=(match r with|none=>z.den ρ|some q=>q.2)| .put kt m t k v n=>∃r,wV P kt (k.den ρ) ((t.den ρ).R.map (pV m))=some r/\(∀q,r=some q->(((t.den ρ).R.map (pV m))[q.1]?).map (·.1)=some (k.den ρ))/\
   (n.den ρ).R.map (pV m)=(match r with|none=>(t.den ρ).R.map (pV m)++[(k.den ρ,v.den ρ)]|some q=>((t.den ρ).R.map (pV m)).set q.1 (k.den ρ,v.den ρ))
 | .under pc s=>Pc.holds ρ pc->s.holds P ρ
def aiQ (l t:Tm):List Side:=bif l.beq (.rlen t) then [] else [.tm (.bin .eql (.int .i64) l (.rlen t))]
theorem X7 {P:Program}{ρ:List AV}{l t:Tm}(h:∀s∈aiQ l t,s.holds P ρ):(l.den ρ).I.toNat=(t.den ρ).R.length:=by
 unfold aiQ at h;cases hb:l.beq (.rlen t)
 .simp only [hb,cond_false] at h;have:=h _ (bT.2 rfl);have h2:(l.den ρ).I=(Tm.den ρ (.rlen t)).I:=by simpa [Side.holds,Tm.den,oL,D.BP,dU] using this
  rw [h2];rfl
 .rw [Tm.beq_eq hb];rfl
def Vs (ρ:List AV)(tr:Tr oq)(fr:jB):Prop:=∀t e,tr.get t=some e->fV fr t=some (e.den ρ)
def Dz (ρ:List AV)(tr:Tr SB)(ah:AH):Prop:=∀b k,tr.get b=some k->ah b=some (k.den ρ)
def amc : Value->Option SV
 | .string s=>some (.sc .str (.ls s.data.toList))| .slice none 0 0=>some .nil| .bool b=>some (.sc .bool (.lb b))| .int k n=>some (.sc (.int k) (.li n))| .float .f64 n=>some (.sc .jL (.lf n))| .nilFunc=>some (.c .fn)| .nilIface=>some (.c .kY)| .pointer none=>some (.c .ptr)| .map none=>some (.c .mp)|_=>none
def SA : List Value->Option (List SV)
 |[]=>some []|v::r=>match amc v with|none=>none|some x=>match SA r with|none=>none|some l=>some (x::l)
def amd : Value->Option SV
 | .agg cs=>match SA cs.toList with|none=>none|some l=>some (.agg l)
 | .tuple vs=>if vs.isEmpty=true then some (.c .undef) else none
 |v=>amc v
theorem ZR {ρ:List AV}{v:Value}{s:SV}(h:amc v=some s):ofC v=some (s.den ρ):=by
 unfold amc at h;split at h<;>first|(cases h;done)|(simp only [aj] at h;subst h;rfl)
theorem IY {ρ:List AV}:∀{l:List Value} {s:List SV},SA l=some s->l.mapM ofC=some (dK ρ s)
 |[],s,h=>by simp [SA] at h;subst h;rfl
 |v::r,s,h=>by
  simp only [SA] at h;split at h
  .cases h
  .rename_i x hx;split at h
   .cases h
   .rename_i l hl;simp only [aj] at h;subst h;rw [List.mapM_cons,ZR (ρ:=ρ) hx,IY (ρ:=ρ) hl];rfl
theorem ZT {ρ:List AV}{v:Value}{s:SV}(h:amd v=some s):ofV v=some (s.den ρ):=by
 unfold amd at h;split at h
 .rename_i cs;split at h
  .cases h
  .rename_i l hl;simp only [aj] at h;subst h;simp only [ofV,IY (ρ:=ρ) hl];rfl
 .rename_i vs;split at h
  .rename_i hv;simp only [aj] at h;subst h;simp only [ofV,hv,if_true];have:vs=#[]:=(by simpa using hv);subst this;rfl
  .cases h
 .rename_i h1 h2;have:=ZR (ρ:=ρ) h;unfold ofV;split
  .exact absurd rfl (h1 _)
  .exact absurd rfl (h2 _)
  .exact this
def zf (pc:Pc)(fr:Tr oq):Operand->Option SV
 | .tmp t=>match fr.get t with
  |some e=>bif e.sure pc then some e.v else none
  |none=>none
 | .const v=>amd v| .func f=>some (.fn f [] [])| .global g=>match Zf g iT.tab with
  |none=>none|some row=>match SA row with
   |none=>none|some r=>some (.vp r 0)
section
variable {P : Program} {ρ:List AV} {pc:Pc} {tr:Tr oq} {fr:jB}
theorem gK (hp:pc.holds ρ)(hf:Vs ρ tr fr){x:Operand}{v:SV}(h:zf pc tr x=some v):ev fr x=some (v.den ρ):=by
 cases x with
 |tmp t=>
  simp only [zf] at h;split at h
  .rename_i e he;cases hs:e.sure pc
   .simp [hs] at h
   .simp [hs] at h;subst h;simp only [ev];rw [hf t e he,oq.ZP hp hs]
  .cases h
 |const v=>exact ZT h|func f=>simp [zf] at h;subst h;rfl|global g=>
  simp only [zf] at h;split at h
  .cases h
  .rename_i row hrow;split at h
   .cases h
   .rename_i r hr;simp only [aj] at h;subst h;simp only [ev,hrow,Option.bind_some,IY (ρ:=ρ) hr];rfl
def Ky (pc:Pc)(fr:Tr oq):List Operand->Option (List SV)
 |[]=>some []|x::r=>match zf pc fr x with|none=>none|some a=>match Ky pc fr r with|none=>none|some l=>some (a::l)
theorem uD (hp:pc.holds ρ)(hf:Vs ρ tr fr):∀{l:List Operand} {s:List SV},Ky pc tr l=some s->Q9 fr l=some (dK ρ s)
 |[],s,h=>by simp [Ky] at h;subst h;rfl
 |x::r,s,h=>by
  simp only [Ky] at h;split at h
  .cases h
  .rename_i a ha;split at h
   .cases h
   .rename_i l hl;simp only [aj] at h;subst h;simp only [Q9,gK hp hf ha,uD hp hf hl];rfl
def agz {α:Type}(pc:Pc)(fr:Tr oq):List (α×Operand)->Option (List (α×SV))
 |[]=>some []|(i,x)::r=>match zf pc fr x with|none=>none|some a=>match agz pc fr r with|none=>none|some l=>some ((i,a)::l)
theorem X8 {α:Type}(hp:pc.holds ρ)(hf:Vs ρ tr fr):∀{l:List (α×Operand)} {s:List (α×SV)},agz pc tr l=some s->Q8 fr l=some (s.map fun q=>(q.1,q.2.den ρ))
 |[],s,h=>by simp [agz] at h;subst h;rfl
 |(i,x)::r,s,h=>by
  simp only [agz] at h;split at h
  .cases h
  .rename_i a ha;split at h
   .cases h
   .rename_i l hl;simp only [aj] at h;subst h;simp only [Q8,gK hp hf ha,X8 hp hf hl];rfl
end
structure SR where
 v:SV
 wr:List (Nat×Option SB)
 rd:List Nat
 sd:List Side
 nv:Nat
def SR.val (nv:Nat)(v:SV):SR:=⟨v,[],[],[],nv⟩
def SR.den (ρ:List AV)(r:SR):mP:=⟨r.v.den ρ,r.wr.map fun x=>(x.1,x.2.map (SB.den ρ)),r.rd⟩
def ayM (pc:Pc)(t:Tm):Option (List Side):=
 match pc.known t with
 |some true=>some []|some false=>none|none=>some [.tm t]
theorem jq {P:Program}{ρ:List AV}{pc:Pc}(hp:pc.holds ρ){t:Tm}{l:List Side}(h:ayM pc t=some l)(hs:∀s∈l,s.holds P ρ):(t.den ρ).B=true:=by
 unfold ayM at h;split at h
 .rename_i hk;exact Pc.fM hp hk
 .cases h
 .simp only [aj] at h;subst h;exact hs (.tm t) (by simp)
def AP (ty:Bool×Nat)(row:List SV)(off:Nat):Option SV:=
 bif ty.1 then (bif Nat.ble (off+ty.2) row.length then some (.agg ((row.drop off).take ty.2)) else none) else zu row off
theorem dX {ρ:List AV}{l:List SV}:(dK ρ l).length=l.length:=by rw [agl,dh]
theorem DC {ρ:List AV}{l:List SV}{n:Nat}{x:SV}(h:zu l n=some x):(dK ρ l)[n]?=some (x.den ρ):=by
 rw [agl,bP,<- vS,h];rfl
theorem Og {ρ:List AV}{l:List SV}{n:Nat}:(dK ρ l).drop n=dK ρ (l.drop n):=by simp [agl,List.map_drop]
theorem Oh {ρ:List AV}{l:List SV}{n:Nat}:(dK ρ l).take n=dK ρ (l.take n):=by simp [agl,List.map_take]
theorem jr {ρ:List AV}{l m:List SV}:dK ρ (l++m)=dK ρ l++dK ρ m:=by simp [agl]
theorem fC {ρ:List AV}{l:List (List SV)}:(fQ ρ l).length=l.length:=by rw [jd,dh]
theorem Aa {ρ:List AV}{l:List (List SV)}{n:Nat}{x:List SV}(h:zu l n=some x):(fQ ρ l)[n]?=some (dK ρ x):=by
 rw [jd,bP,<- vS,h];rfl
theorem vT {ρ:List AV}{l m:List (List SV)}:fQ ρ (l++m)=fQ ρ l++fQ ρ m:=by simp [jd]
theorem V8 {ρ:List AV}{l:List (List SV)}{n:Nat}{x:List SV}:(fQ ρ l).set n (dK ρ x)=fQ ρ (l.set n x):=by simp [jd,List.map_set]
theorem xE {ρ:List AV}{l:List (List SV)}{n:Nat}:(fQ ρ l).drop n=fQ ρ (l.drop n):=by simp [jd,List.map_drop]
theorem xG {ρ:List AV}{l:List (List SV)}{n:Nat}:(fQ ρ l).take n=fQ ρ (l.take n):=by simp [jd,List.map_take]
theorem sQ {ρ:List AV}{ty:Bool×Nat}{row:List SV}{off:Nat}{v:SV}(h:AP ty row off=some v){k:AV->Prop}(hk:k (v.den ρ)):apart ty (dK ρ row) off k:=by
 unfold AP at h;unfold apart;cases h1:ty.1
 .simp only [h1,cond_false] at h;rw [if_neg (by simp)];exact dG.2 ⟨_,DC h,hk⟩
 .simp only [h1,cond_true] at h;rw [if_pos rfl];cases h2:Nat.ble (off+ty.2) row.length
  .simp [h2] at h
  .simp [h2] at h;subst h;refine ⟨by rw [dX];exact aC h2,?_⟩;rw [Og,Oh];exact hk
def uM (t:Tm):Option Nat:=match t with | .li (.ofNat n)=>some n|_=>none
theorem eG {ρ:List AV}{t:Tm}{n:Nat}(h:uM t=some n):(t.den ρ).I=(n:Int)/\(t.den ρ).I.toNat=n:=by
 unfold uM at h;split at h
 .simp only [aj] at h;subst h;exact ⟨rfl,rfl⟩
 .cases h
def BR (P:Program):Nat->TypeId->Option (List Kd)
  |0,_=>none|d+1,t=>match P.underlying t with
   |some .bool=>some [.bool]|some (.int k)=>some [.int k]|some (.float .f64)=>some [.jL]|some .string=>some [.str]|some (.slice _)=>some [.sl]|some (.struct fs)=>aiR P (BR P d) fs.toList|some (.array n e)=>(BR P d e).map fun l=>(List.replicate n l).flatten
   |_=>none
 where aiR (P:Program) (kf:TypeId->Option (List Kd)):List Field->Option (List Kd)
  |[]=>some []|f::r=>match kf f.type with|none=>none|some l=>match aiR P kf r with|none=>none|some m=>some (l++m)
def kG (n:Nat)(p:List Nat):Nat->List Kd->List SV
 |_,[]=>[]|j,k::r=>.sc k (.var n (p++[j]))::kG n p (j+1) r
def aze (P:Program)(n:Nat)(p:List Nat)(t:TypeId):Option SV:=
 match BR P 20 t,P.underlying t with
 |some l,some d=>bif Gz d then some (.agg (kG n p 0 l)) else match l with | [k]=>some (.sc k (.var n p))|_=>none
 |_,_=>none
def ZU (P:Program)(n:Nat):Nat->List TypeId->Option (List SV)
 |_,[]=>some []|j,t::r=>match aze P n [j] t with|none=>none|some x=>match ZU P n (j+1) r with|none=>none|some l=>some (x::l)
def aiS (P:Program)(n:Nat)(f:FuncId):Option SV:=
 match P.funcs[f]? with
 |none=>none|some fn=>match fn.resultTypes.toList with
  |[t]=>aze P n [] t|l=>(ZU P n 0 l).map .gW
def aiT (P:Program)(n off:Nat)(t:TypeId):Option SV:=
 match BR P 20 t,P.underlying t with
 |some l,some d=>bif Gz d then some (.agg (kG n [] off l)) else match l with | [k]=>some (.sc k (.var n [off]))|_=>none
 |_,_=>none
end Go.Fw
end
section
namespace Go.Fw
variable [iT]
section
variable {P : Program} {ρ:List AV} {pc:Pc} {id nv:Nat} {fr:jB} {ah:AH} {tr:Tr oq} {th:Tr SB} {K:mP->Prop}
theorem SR.qQ {nv:Nat}{v:SV}:(SR.val nv v).den ρ=.val (v.den ρ):=rfl
def acA (P:Program)(nv:Nat)(t:TypeId)(ty:Bool×Nat)(b:Nat)(t' i:Tm)(o:Nat)(x:SV)(off:Nat):Option SR:=
 bif Nat.beq off o&&!ty.1 then some ⟨x,[],[b],[.rd (false,1) t' i o (.sc .sl (.var nv []))],nv+1⟩
 else bif Nat.ble (o+1) off||Nat.ble (off+(bif ty.1 then ty.2 else 1)) o then
  (aiT P nv off t).map fun v=>⟨v,[],[b],[.rd ty t' i off v,.rd (false,1) t' i o (.sc .sl (.var (nv+1) []))],nv+2⟩
 else none
theorem rd1 {t i:Tm}{o:Nat}{v:SV}(h:Side.holds P ρ (.rd (false,1) t i o v)):∃row,(t.den ρ).R[(i.den ρ).I.toNat]?=some row/\o<row.length:=by
 obtain ⟨row,h1,h2⟩:=h;refine ⟨row,h1,?_⟩;unfold apart at h2;simp only [aP,if_false] at h2;obtain ⟨a,h3,-⟩:=dG.1 h2;exact (aA.1 h3).1
theorem agA {t:TypeId}{ty:Bool×Nat}{b o off:Nat}{t' i:Tm}{x:SV}{r:SR}(h:acA P nv t ty b t' i o x off=some r)(hs:∀s∈r.sd,s.holds P ρ)(hK:K (r.den ρ)) :
  fD (Za (t'.den ρ).R (i.den ρ).I.toNat o (x.den ρ))[(i.den ρ).I.toNat]? fun row=>apart ty row off fun y=>K ⟨y,[],[b]⟩:=by
 unfold acA at h;cases h0:Nat.beq off o&&!ty.1
 .simp only [h0,cond_false] at h;cases h1:(Nat.ble (o+1) off||Nat.ble (off+(bif ty.1 then ty.2 else 1)) o)
  .simp [h1] at h
  .simp only [h1,cond_true,ay] at h;obtain ⟨v,hv,rfl⟩:=h;obtain ⟨row,q1,q2⟩:=hs (.rd ty t' i off v) (by simp);obtain ⟨row',q3,q4⟩:=rd1 (hs (.rd (false,1) t' i o (.sc .sl (.var (nv+1) []))) (by simp));obtain rfl:row'=row:=Option.some.inj (q3.symm.trans q1);have hlt:=(aA.1 q1).1;rw [zq q1];refine dG.2 ⟨_,bM hlt,?_⟩;have hd:o+1<=off\/off+(bif ty.1 then ty.2 else 1)<=o:=by
    rcases Bool.or_eq_true_iff.1 h1 with h|h
    .exact .inl (aC h)
    .exact .inr (aC h)
   rw [Oe q4];unfold apart at q2 ⊢;cases hty:ty.1
   .simp only [hty,aP,if_false,cond_false] at q2 hd ⊢;obtain ⟨a,h3,rfl⟩:=dG.1 q2;refine dG.2 ⟨_,?_,hK⟩;rw [List.getElem?_set_ne (by omega)];exact h3
   .simp only [hty,if_true,cond_true] at q2 hd ⊢;obtain ⟨h3,h4⟩:=q2;refine ⟨by simpa using h3,?_⟩;have e:((row'.set o (x.den ρ)).drop off).take ty.2=(row'.drop off).take ty.2:=by
     apply List.ext_getElem?;intro j;rw [bH,bH];split
     .rw [List.getElem?_drop,List.getElem?_drop,List.getElem?_set_ne (by omega)]
     .rfl
    rw [e,h4];exact hK
 .simp only [h0,cond_true,aj] at h;subst h;simp only [ak,Bool.not_eq_true'] at h0;obtain rfl:=au h0.1;obtain ⟨row,q3,q4⟩:=rd1 (hs (.rd (false,1) t' i off (.sc .sl (.var nv []))) (by simp));have hlt:=(aA.1 q3).1;rw [zq q3];refine dG.2 ⟨_,bM hlt,?_⟩;unfold apart;simp only [h0.2,aP,if_false];refine dG.2 ⟨_,?_,hK⟩;rw [Oe q4,bM q4]
def aeI (P:Program)(pc:Pc)(th:Tr SB)(nv:Nat)(t:TypeId)(a:SV):Option SR:=
 match xg P t with
 |none=>none|some ty=>
  match a with
  | .vp row off=>(AP ty row off).map (SR.val nv)| .op b sz i off=>
   match th.get b with
   |some (.rows sz' rs)=>bif Nat.beq sz sz' then
     match uM i with
     |none=>none|some n=>match zu rs n with
      |none=>none|some row=>(AP ty row off).map fun v=>⟨v,[],[b],[],nv⟩
    else none
   |some (.fZ sz' t')=>bif Nat.beq sz sz' then
     (aiT P nv off t).map fun v=>⟨v,[],[b],[.rd ty t' i off v],nv+1⟩
    else none
   |some (.iD te sz' rs)=>bif Nat.beq sz sz' then
     match uM i with
     |none=>none|some n=>match zu rs n with
      |none=>none|some row=>(AP ty row off).map fun v=>⟨v,[],[b],[],nv⟩
    else none
   |some (.mQ sz' t' i' o x)=>bif Nat.beq sz sz'&&i.beq i' then acA P nv t ty b t' i o x off else none
   |_=>none
  |_=>none
theorem ZV {t:TypeId}{a:SV}{r:SR}(ha:Dz ρ th ah)(h:aeI P pc th nv t a=some r)(hs:∀s∈r.sd,s.holds P ρ)(hK:K (r.den ρ)):Q5 P ah t (a.den ρ) K:=by
 unfold aeI at h;split at h
 .cases h
 .rename_i ty hty;refine dG.2 ⟨ty,hty,?_⟩;split at h
  .rename_i row off;simp only [ay] at h;obtain ⟨v,hv,rfl⟩:=h;exact sQ hv hK
  .rename_i b sz i off;split at h
   .rename_i sz' rs hb;cases h1:Nat.beq sz sz'
    .simp [h1] at h
    .simp only [h1,cond_true] at h;split at h
     .cases h
     .rename_i n hn;split at h
      .cases h
      .rename_i row hrow;simp only [ay] at h;obtain ⟨v,hv,rfl⟩:=h;dsimp only [SV.den];rw [ha _ _ hb];refine ⟨au h1,dG.2 ⟨dK ρ row,?_,sQ hv hK⟩⟩;rw [(eG hn).2];exact Aa hrow
   .rename_i sz' t' hb;cases h1:Nat.beq sz sz'
    .simp [h1] at h
    .simp only [h1,cond_true,ay] at h;obtain ⟨v,hv,rfl⟩:=h;dsimp only [SV.den];rw [ha _ _ hb];obtain ⟨row,h2,h3⟩:=hs (.rd ty t' i off v) (by simp);refine ⟨au h1,dG.2 ⟨row,h2,zZ (fun x hx=>?_) h3⟩⟩;subst hx;exact hK
   .rename_i te sz' rs hb;cases h1:Nat.beq sz sz'
    .simp [h1] at h
    .simp only [h1,cond_true] at h;split at h
     .cases h
     .rename_i n hn;split at h
      .cases h
      .rename_i row hrow;simp only [ay] at h;obtain ⟨v,hv,rfl⟩:=h;dsimp only [SV.den];rw [ha _ _ hb];refine ⟨au h1,dG.2 ⟨dK ρ row,?_,sQ hv hK⟩⟩;rw [(eG hn).2];exact Aa hrow
   .rename_i sz' t' i' o x hb;cases h1:Nat.beq sz sz'&&i.beq i'
    .simp [h1] at h
    .simp only [h1,cond_true] at h;simp only [ak] at h1;obtain rfl:=Tm.beq_eq h1.2;dsimp only [SV.den];rw [ha _ _ hb];exact ⟨au h1.1,agA h hs hK⟩
   .cases h
  .cases h
def aiU (row:List SV)(off:Nat)(cs:List SV):List SV:=row.take off++cs++row.drop (off+cs.length)
theorem X9 {row cs:List SV}{off:Nat}:lay (dK ρ row) off (dK ρ cs)=dK ρ (aiU row off cs):=by
 simp [lay,aiU,jr,Oh,Og,dX]
theorem nV {v:SV}(h:v.BA=true):(v.den ρ).cells=dK ρ v.cells:=by
 cases v with
 |sc k t=>cases k<;>rfl
 |_=>first|rfl|(simp [SV.BA] at h)
theorem AU {v:SV}(h:v.BA=true):(v.den ρ).BA=true:=by
 cases v with
 |sc k t=>cases k<;>rfl
 |c v=>cases v<;>first|rfl|(simp [SV.BA] at h)
 |_=>first|rfl|(simp [SV.BA] at h)
def V9 : SV->Bool
 | .os ..=>true|_=>false
def X_ (nv b sz:Nat)(t' i:Tm)(o:Nat)(x:SV)(off:Nat)(v:SV):Option SR:=
 bif Nat.beq off o then
  match v.cells with
  |[y]=>bif V9 y then some ⟨.c .undef,[(b,some (.mQ sz t' i o y))],[b],[.rd (false,1) t' i o (.sc .sl (.var nv []))],nv+1⟩
   else some ⟨.c .undef,[(b,some (.fZ sz (.var nv [])))],[b],[.st t' i o [y] (.var nv [])],nv+1⟩
  |_=>none
 else bif (Nat.ble (o+1) off||Nat.ble (off+v.cells.length) o)&&!(v.cells.any V9) then
  some ⟨.c .undef,[(b,some (.mQ sz (.var nv []) i o x))],[b],[.st t' i off v.cells (.var nv []),.rd (false,1) t' i o (.sc .sl (.var (nv+1) []))],nv+2⟩
 else none
theorem acB {b sz o off:Nat}{t' i:Tm}{x v:SV}{r:SR}(h:X_ nv b sz t' i o x off v=some r)(hs:∀s∈r.sd,s.holds P ρ)(hK:K (r.den ρ)) :
  fD (Za (t'.den ρ).R (i.den ρ).I.toNat o (x.den ρ))[(i.den ρ).I.toNat]? fun row=>off+v.cells.length<=row.length/\
   K ⟨.p undef,[(b,some (.rows sz ((Za (t'.den ρ).R (i.den ρ).I.toNat o (x.den ρ)).set (i.den ρ).I.toNat (lay row off (dK ρ v.cells)))))],[b]⟩:=by
 unfold X_ at h;cases h0:Nat.beq off o
 .simp only [h0,cond_false] at h;cases h1:(Nat.ble (o+1) off||Nat.ble (off+v.cells.length) o)&&!(v.cells.any V9)
  .simp [h1] at h
  .simp only [h1,cond_true,aj] at h;subst h;simp only [ak] at h1;obtain ⟨row,q1,q2,q3⟩:=hs (.st t' i off v.cells (.var nv [])) (by simp);obtain ⟨row',q5,q4⟩:=rd1 (hs (.rd (false,1) t' i o (.sc .sl (.var (nv+1) []))) (by simp));obtain rfl:row'=row:=Option.some.inj (q5.symm.trans q1);have hlt:=(aA.1 q1).1;have hd:o<off\/off+(dK ρ v.cells).length<=o:=by
    rw [dX];rcases Bool.or_eq_true_iff.1 h1.1 with h|h
    .exact .inl (aC h)
    .exact .inr (aC h)
   have hq2:off+(dK ρ v.cells).length<=row'.length:=(by rw [dX];exact q2);rw [zq q1];refine dG.2 ⟨_,bM hlt,by rw [Oe q4];simpa using q2,?_⟩;rw [List.set_set,acz hq2 q4 hd];have:K ⟨.p undef,[(b,some (.rows sz (Za ((Tm.var nv []).den ρ).R (i.den ρ).I.toNat o (x.den ρ))))],[b]⟩:=hK;rw [q3,zq (bM hlt),List.set_set] at this;exact this
 .simp only [h0,cond_true] at h;obtain rfl:=au h0;split at h
  .rename_i y hy;cases h2:V9 y
   .simp only [h2,cond_false,aj] at h;subst h;obtain ⟨row,q1,q2,q3⟩:=hs (.st t' i off [y] (.var nv [])) (by simp);have hlt:=(aA.1 q1).1;have q4:off<row.length:=q2;rw [zq q1];refine dG.2 ⟨_,bM hlt,by rw [Oe q4,hy,List.length_set];exact q4,?_⟩;have:K ⟨.p undef,[(b,some (.rows sz ((Tm.var nv []).den ρ).R))],[b]⟩:=hK;rw [q3] at this;rw [List.set_set,hy,dK,dK,Oe q4,Oe (by simpa using q4),List.set_set];rw [dK,dK,Oe q4] at this;exact this
   .simp only [h2,cond_true,aj] at h;subst h;obtain ⟨row,q1,q4⟩:=rd1 (hs (.rd (false,1) t' i off (.sc .sl (.var nv []))) (by simp));have hlt:=(aA.1 q1).1;rw [zq q1];refine dG.2 ⟨_,bM hlt,by rw [Oe q4,hy,List.length_set];exact q4,?_⟩;have:K ⟨.p undef,[(b,some (.rows sz (Za (t'.den ρ).R (i.den ρ).I.toNat off (y.den ρ))))],[b]⟩:=hK;rw [zq q1,Oe q4] at this;rw [List.set_set,hy,dK,dK,Oe q4,Oe (by simpa using q4),List.set_set];exact this
  .cases h
def acC (P:Program)(pc:Pc)(th:Tr SB)(nv:Nat)(t:TypeId)(a v:SV):Option SR:=
 match xg P t with
 |none=>none|some ty=>
  bif v.BA&&Nat.beq v.cells.length ty.2 then
   match a with
   | .op b sz i off=>
    match th.get b with
    |some (.rows sz' rs)=>bif Nat.beq sz sz' then
      match uM i with
      |none=>none|some n=>match zu rs n with
       |none=>none|some row=>bif Nat.ble (off+ty.2) row.length then some ⟨.c .undef,[(b,some (.rows sz (rs.set n (aiU row off v.cells))))],[b],[],nv⟩ else none
     else none
    |some (.fZ sz' t')=>bif Nat.beq sz sz' then
      bif v.cells.any V9 then
       (match v.cells with
       |[x]=>bif ty.1 then none else (aiT P nv off t).map fun v0=>⟨.c .undef,[(b,some (.mQ sz t' i off x))],[b],[.rd (false,1) t' i off v0],nv+1⟩
       |_=>none)
      else some ⟨.c .undef,[(b,some (.fZ sz (.var nv [])))],[b],[.st t' i off v.cells (.var nv [])],nv+1⟩
     else none
    |some (.iD te sz' rs)=>bif Nat.beq sz sz' then
      match uM i with
      |none=>none|some n=>match zu rs n with
       |none=>none|some row=>bif Nat.ble (off+ty.2) row.length then some ⟨.c .undef,[(b,some (.iD te sz (rs.set n (aiU row off v.cells))))],[b],[],nv⟩ else none
     else none
    |some (.mQ sz' t' i' o x)=>bif Nat.beq sz sz'&&i.beq i' then X_ nv b sz t' i o x off v else none
    |_=>none
   |_=>none
  else none
theorem agB {t:TypeId}{a v:SV}{r:SR}(ha:Dz ρ th ah)(h:acC P pc th nv t a v=some r)(hs:∀s∈r.sd,s.holds P ρ)(hK:K (r.den ρ)):Ew P ah t (a.den ρ) (v.den ρ) K:=by
 unfold acC at h;split at h
 .cases h
 .rename_i ty hty;refine dG.2 ⟨ty,hty,?_⟩;cases h0:v.BA&&Nat.beq v.cells.length ty.2
  .simp [h0] at h
  .simp only [h0,cond_true] at h;simp only [ak] at h0;obtain ⟨hbx,hlen⟩:=h0;have hlen:=au hlen;split at h
   .rename_i b sz i off;dsimp only [SV.den];split at h
    .rename_i sz' rs hb;cases h1:Nat.beq sz sz'
     .simp [h1] at h
     .simp only [h1,cond_true] at h;split at h
      .cases h
      .rename_i n hn;split at h
       .cases h
       .rename_i row hrow;cases h2:Nat.ble (off+ty.2) row.length
        .simp [h2] at h
        .simp only [h2,cond_true,aj] at h;subst h;rw [ha _ _ hb];refine ⟨au h1,AU hbx,by rw [nV hbx,dX,hlen],dG.2 ⟨dK ρ row,by rw [(eG hn).2];exact Aa hrow,?_,?_⟩⟩
         .rw [dX];exact aC h2
         .rw [(eG hn).2,nV hbx,X9,V8];exact hK
    .rename_i sz' t' hb;cases h1:Nat.beq sz sz'
     .simp [h1] at h
     simp only [h1,cond_true] at h;cases hos:v.cells.any V9
     case true=>
      simp only [hos,cond_true] at h;split at h
      .rename_i x hx;cases arA:ty.1
       .simp only [arA,cond_false,ay] at h;obtain ⟨v0,hv0,rfl⟩:=h;obtain ⟨row,q1,q4⟩:=rd1 (hs (.rd (false,1) t' i off v0) (by simp));rw [ha _ _ hb];have hl1:ty.2=1:=(by rw [<- hlen,hx];rfl);refine ⟨au h1,AU hbx,by rw [nV hbx,dX,hlen],dG.2 ⟨row,q1,by omega,?_⟩⟩;have:K ⟨.p undef,[(b,some (.rows sz (Za (t'.den ρ).R (i.den ρ).I.toNat off (x.den ρ))))],[b]⟩:=hK;rw [zq q1] at this;rw [nV hbx,hx];exact this
       .simp [arA] at h
      .cases h
     case false=>
      simp only [hos,cond_false,aj] at h;subst h;rw [ha _ _ hb];obtain ⟨row,q1,q2,q3⟩:=hs (.st t' i off v.cells (.var nv [])) (by simp);refine ⟨au h1,AU hbx,by rw [nV hbx,dX,hlen],dG.2 ⟨row,q1,by rw [<- hlen];exact q2,?_⟩⟩;rw [nV hbx];have:K ⟨.p undef,[(b,some (.rows sz ((Tm.var nv []).den ρ).R))],[b]⟩:=hK;rw [q3] at this;exact this
    .rename_i te sz' rs hb;cases h1:Nat.beq sz sz'
     .simp [h1] at h
     .simp only [h1,cond_true] at h;split at h
      .cases h
      .rename_i n hn;split at h
       .cases h
       .rename_i row hrow;cases h2:Nat.ble (off+ty.2) row.length
        .simp [h2] at h
        .simp only [h2,cond_true,aj] at h;subst h;rw [ha _ _ hb];refine ⟨au h1,AU hbx,by rw [nV hbx,dX,hlen],dG.2 ⟨dK ρ row,by rw [(eG hn).2];exact Aa hrow,?_,?_⟩⟩
         .rw [dX];exact aC h2
         .rw [(eG hn).2,nV hbx,X9,V8];exact hK
    .rename_i sz' t' i' o x hb;cases h1:Nat.beq sz sz'&&i.beq i'
     .simp [h1] at h
     .simp only [h1,cond_true] at h;simp only [ak] at h1;obtain rfl:=Tm.beq_eq h1.2;rw [ha _ _ hb];have key:=acB (sz:=sz) h hs hK;obtain ⟨row,k1,k2,k3⟩:=dG.1 key;refine ⟨au h1.1,AU hbx,by rw [nV hbx,dX,hlen],dG.2 ⟨row,k1,by rw [<- hlen];exact k2,?_⟩⟩;rw [nV hbx];exact k3
    .cases h
   .cases h
def Kz (P:Program)(nv:Nat)(s:TypeId)(a:SV)(k:Nat):Option SR:=
 match JD P s k with
 |none=>none|some f=>bif Nat.beq f.2.2 0 then none else
  match a with
  | .vp row off=>some (.val nv (.vp row (off+f.1)))| .op b sz i off=>some (.val nv (.op b sz i (off+f.1)))|_=>none
theorem Vt {s:TypeId}{a:SV}{k:Nat}{r:SR}(h:Kz P nv s a k=some r)(hK:K (r.den ρ)):Ak P s (a.den ρ) k K:=by
 unfold Kz at h;split at h
 .cases h
 .rename_i f hf;refine dG.2 ⟨f,hf,?_⟩;cases h0:Nat.beq f.2.2 0
  .simp only [h0,cond_false] at h;refine ⟨fun e=>by rw [e] at h0;simp at h0,?_⟩;split at h
   .simp only [aj] at h;subst h;exact hK
   .simp only [aj] at h;subst h;exact hK
   .cases h
  .simp [h0] at h
def acD (P:Program)(nv:Nat)(s:TypeId)(a:SV)(k:Nat):Option SR:=
 match JD P s k with
 |none=>none|some f=>match a with
  | .agg cs=>(AP f.2 cs f.1).map (.val nv)|_=>none
theorem agC {s:TypeId}{a:SV}{k:Nat}{r:SR}(h:acD P nv s a k=some r)(hK:K (r.den ρ)):Q7 P s (a.den ρ) k K:=by
 unfold acD at h;split at h
 .cases h
 .rename_i f hf;refine dG.2 ⟨f,hf,?_⟩;split at h
  .simp only [ay] at h;obtain ⟨v,hv,rfl⟩:=h;exact sQ hv hK
  .cases h
def SC (nv:Nat)(x:SV)(k:Nat):Option SR:=
 match x with
 | .gW l=>(zu l k).map (.val nv)|_=>none
theorem ZW {x:SV}{k:Nat}{r:SR}(h:SC nv x k=some r)(hK:K (r.den ρ)):Am (x.den ρ) k K:=by
 unfold SC at h;split at h
 .simp only [ay] at h;obtain ⟨v,hv,rfl⟩:=h;exact dG.2 ⟨_,DC hv,hK⟩
 .cases h
def azy (a b:Option (List Side)):Option (List Side):=match a,b with|some a,some b=>some (a++b)|_,_=>none
theorem sS {a b:Option (List Side)}{l:List Side}(h:azy a b=some l):∃x y,a=some x/\b=some y/\l=x++y:=by
 unfold azy at h;split at h
 .simp only [aj] at h;exact ⟨_,_,rfl,rfl,h.symm⟩
 .cases h
def aeJ (pc:Pc)(s t:Tm):Option (List Side):=azy (ayM pc s) (ayM pc t)
theorem Hl (hp:pc.holds ρ){s t:Tm}{l:List Side}(h:aeJ pc s t=some l)(hs:∀s∈l,s.holds P ρ):(s.den ρ).B=true/\(t.den ρ).B=true:=by
 obtain ⟨x,y,h1,h2,rfl⟩:=sS h;exact ⟨jq hp h1 fun s hm=>hs s (by simp [hm]),jq hp h2 fun s hm=>hs s (by simp [hm])⟩
def Vo (x y:Tm):Tm:=ayA .leq (.int .i64) x y
def ltT (x y:Tm):Tm:=ayA .lss (.int .i64) x y
theorem ou {x y:Tm}(h:((Vo x y).den ρ).B=true):(x.den ρ).I<=(y.den ρ).I:=by
 simpa [Vo,mW,oL,D.BP] using h
theorem Ya {x y:Tm}(h:((ltT x y).den ρ).B=true):(x.den ρ).I<(y.den ρ).I:=by
 simpa [ltT,mW,oL,D.BP] using h
def ay_ (P:Program)(t:TypeId):Option TypeId:=match P.underlying t with|some (.slice e)=>some e|_=>none
def aeK (P:Program)(nv:Nat)(t:TypeId):Option SR:=match ay_ P t with
 |some el=>match BR P 20 el with
  |some ks=>some ⟨.vp (kG nv [] 0 ks) 0,[],[],[.tm (.lb false)],nv+1⟩|none=>none
 |none=>none
theorem ZX {t:TypeId}{r:SR}{p:Prop}(h:aeK P nv t=some r)(hs:∀s∈r.sd,s.holds P ρ):p:=by
 unfold aeK at h;split at h
 .split at h
  .simp only [aj] at h;subst h;have:=hs (.tm (.lb false)) (by simp);exact absurd this (by show ¬(Tm.den ρ (.lb false)).B=true;simp [Tm.den,D.B])
  .cases h
 .cases h
def KA (P:Program)(pc:Pc)(nv:Nat)(t:TypeId)(x i:SV):Option SR:=
 match i with
 | .sc (.int _) n=>
  match x with
  | .sc .sl tm | .sf tm=>
   match iP P t,ay_ P t with
   |some e,some el=>match BR P 20 el with
    |none=>none|some ks=>bif Nat.beq ks.length e.1 then
      some ⟨.vp (kG nv [] 0 ks) 0,[],[],[.row tm n (kG nv [] 0 ks)],nv+1⟩
     else none
   |_,_=>none
  | .slc rows _=>
   match iP P t,uM n with
   |some e,some j=>match zu rows j with
    |none=>none|some row=>bif Nat.beq row.length e.1 then some (.val nv (.vp row 0)) else none
   |_,_=>(match rows with | []=>aeK P nv t|_::_=>none)
  | .nil=>aeK P nv t| .os b sz off len=>
   match iP P t,aeJ pc (Vo (.li 0) n) (ltT n len) with
   |some e,some l=>bif Nat.beq sz e.1 then
     match off,uM n with
     |0,_=>some ⟨.op b sz n 0,[],[],l,nv⟩|off,some j=>some ⟨.op b sz (.li (.ofNat (off+j))) 0,[],[],l,nv⟩|_,_=>none
    else none
   |_,_=>none
  | .vp row off=>
   match yB P t,uM n with
   |some e,some j=>bif Nat.blt j e.1 then some (.val nv (.vp row (off+j*e.2.1))) else none
   |_,_=>none
  | .op b sz j off=>
   match yB P t with
   |some e=>bif Nat.beq sz e.2.1 then
     match uM n,uM j with
     |some m,some q=>bif Nat.blt m e.1 then some (.val nv (.op b sz (.li (.ofNat (q+m))) off)) else none
     |none,some 0=>match aeJ pc (Vo (.li 0) n) (ltT n (.li (.ofNat e.1))) with
      |some l=>some ⟨.op b sz n off,[],[],l,nv⟩|none=>none
     |_,_=>none
    else match uM n with
     |some m=>bif Nat.blt m e.1 then some (.val nv (.op b sz j (off+m*e.2.1))) else none
     |none=>none
   |none=>none
  |_=>none
 |_=>none
theorem JI {n:Nat}{p:List Nat}:∀{ks:List Kd} {j:Nat},(kG n p j ks).length=ks.length
 |[],_=>rfl|k::r,j=>by simp [kG,JI (ks:=r)]
theorem KC {a b:Nat}(h:Nat.blt a b=true):a<b:=aC h
theorem Vu {t:TypeId}{x i:SV}{r:SR}(hp:pc.holds ρ)(h:KA P pc nv t x i=some r)(hs:∀s∈r.sd,s.holds P ρ)(hK:K (r.den ρ)):rD P t (x.den ρ) (i.den ρ) K:=by
 have frozen:∀(k:IntKind) (tm n:Tm) (full:Bool) (r:SR),(match iP P t,ay_ P t with
   |some e,some el=>match BR P 20 el with
    |none=>none|some ks=>bif Nat.beq ks.length e.1 then
      some ⟨.vp (kG nv [] 0 ks) 0,[],[],[.row tm n (kG nv [] 0 ks)],nv+1⟩
     else none
   |_,_=>none)=some r->(∀s∈r.sd,s.holds P ρ)->K (r.den ρ)->rD P t (.sl (tm.den ρ).R full) (.p (.int k (n.den ρ).I)) K:=by
  intro k tm n full r h hs hK;split at h
  .rename_i e el he hel;split at h
   .cases h
   .rename_i ks hks;cases h1:Nat.beq ks.length e.1
    .simp [h1] at h
    .simp only [h1,cond_true,aj] at h;subst h;obtain ⟨h2,h3⟩:=hs (.row tm n (kG nv [] 0 ks)) (by simp);refine dG.2 ⟨e,he,h2,dG.2 ⟨_,h3,?_,hK⟩⟩;rw [dX,JI];exact au h1
  .cases h
 unfold KA at h;split at h
 .rename_i k n;split at h
  .exact frozen k _ n false r h hs hK
  .exact frozen k _ n true r h hs hK
  .split at h
   .rename_i e j he hj;split at h
    .cases h
    .rename_i row hrow;cases h1:Nat.beq row.length e.1
     .simp [h1] at h
     .simp only [h1,cond_true,aj] at h;subst h;refine dG.2 ⟨e,he,?_,dG.2 ⟨dK ρ row,?_,by rw [dX];exact au h1,hK⟩⟩
      .rw [(eG hj).1];omega
      .rw [(eG hj).2];exact Aa hrow
   .split at h
    .exact ZX h hs
    .cases h
  .exact ZX h hs
  .rename_i b sz off len;split at h
   .rename_i e l he hl;cases h1:Nat.beq sz e.1
    .simp [h1] at h
    .simp only [h1,cond_true] at h;have main:r.sd=l->(0<=(n.den ρ).I/\(n.den ρ).I.toNat<(len.den ρ).I.toNat):=by
      intro hsd;have:=Hl (P:=P) hp hl (fun s hm=>hs s (by rw [hsd];exact hm));have q1:(0:Int)<=(n.den ρ).I:=ou this.1;have q2:=Ya this.2;omega
     split at h
     .simp only [aj] at h;obtain ⟨m1,m2⟩:=main (by rw [<- h]);subst h;refine dG.2 ⟨e,he,m1,m2,au h1,?_⟩;rw [Nat.zero_add];exact hK
     .rename_i off j hoff hj;simp only [aj] at h;obtain ⟨m1,m2⟩:=main (by rw [<- h]);subst h;refine dG.2 ⟨e,he,m1,m2,au h1,?_⟩;rw [(eG hj).2];exact hK
     .cases h
   .cases h
  .rename_i row off;split at h
   .rename_i e j he hj;cases h1:Nat.blt j e.1
    .simp [h1] at h
    .simp only [h1,cond_true,aj] at h;subst h;refine dG.2 ⟨e,he,by rw [(eG hj).1];omega,by rw [(eG hj).2];exact KC h1,?_⟩;rw [(eG hj).2];exact hK
   .cases h
  .rename_i b sz j off;split at h
   .rename_i e he;cases hq:Nat.beq sz e.2.1
    .simp only [hq,cond_false] at h;split at h
     .rename_i m hm;cases h1:Nat.blt m e.1
      .simp [h1] at h
      .simp only [h1,cond_true,aj] at h;subst h;refine dG.2 ⟨e,he,by rw [(eG hm).1];omega,by rw [(eG hm).2];exact KC h1,?_⟩;rw [(eG hm).2,hq];exact hK
     .cases h
    .simp only [hq,cond_true] at h;split at h
     .rename_i m q hm hj;cases h1:Nat.blt m e.1
      .simp [h1] at h
      .simp only [h1,cond_true,aj] at h;subst h;refine dG.2 ⟨e,he,by rw [(eG hm).1];omega,by rw [(eG hm).2];exact KC h1,?_⟩;rw [(eG hm).2,hq,(eG hj).2];exact hK
     .rename_i hm hj;split at h
      .rename_i l hl;simp only [aj] at h;subst h;obtain ⟨m1,m2⟩:=Hl (P:=P) hp hl hs;have m1:(0:Int)<=_:=ou m1;have m2:=Ya m2;have m2':(n.den ρ).I<(e.1:Int):=m2;refine dG.2 ⟨e,he,m1,by omega,?_⟩;rw [hq,(eG hj).2,Nat.zero_add];exact hK
      .cases h
     .cases h
   .cases h
  .cases h
 .cases h
def V_ : Tm->Tm
 | .ls l=>.li l.length|s=>.slen s
theorem IZ {s:Tm}:((V_ s).den ρ).I=((s.den ρ).S.length:Int):=by unfold V_;split<;>rfl
def aeL (s n:Tm):Tm:=
 match s,uM n with
 | .ls l,some j=>.li ((l.getD j 0).toNat:Nat)|s,_=>.byte s n
theorem agD {s n:Tm}:((aeL s n).den ρ).I=(((s.den ρ).S.getD (n.den ρ).I.toNat 0).toNat:Int):=by
 unfold aeL;split
 .rename_i l j hj;rw [(eG hj).2];rfl
 .rfl
def acE (P:Program)(pc:Pc)(nv:Nat)(t:TypeId)(x i:SV):Option SR:=
 match i with
 | .sc (.int _) n=>
  match x with
  | .sc .str s=>
   match P.underlying t,aeJ pc (Vo (.li 0) n) (ltT n (V_ s)) with
   |some .string,some l=>some ⟨.sc (.int .u8) (aeL s n),[],[],l,nv⟩|_,_=>none
  | .agg cs=>
   match yB P t,uM n with
   |some e,some j=>bif Nat.blt j e.1 then (AP (e.2.2,e.2.1) cs (j*e.2.1)).map (.val nv) else none
   |_,_=>none
  |_=>none
 |_=>none
theorem agE {t:TypeId}{x i:SV}{r:SR}(hp:pc.holds ρ)(h:acE P pc nv t x i=some r)(hs:∀s∈r.sd,s.holds P ρ)(hK:K (r.den ρ)):JV P t (x.den ρ) (i.den ρ) K:=by
 unfold acE at h;split at h
 .rename_i k n;split at h
  .rename_i s;split at h
   .rename_i l hu hl;simp only [aj] at h;subst h;obtain ⟨h1,h2⟩:=Hl (P:=P) hp hl (fun s hm=>hs s hm);have q1:(0:Int)<=(n.den ρ).I:=ou h1;have q2:=Ya h2;rw [IZ] at q2;have hlt:(n.den ρ).I.toNat<(s.den ρ).S.length:=(by omega);refine ⟨hu,q1,dG.2 ⟨(s.den ρ).S[(n.den ρ).I.toNat],by simp [hlt],?_⟩⟩;have hv:((aeL s n).den ρ).I=(((s.den ρ).S[(n.den ρ).I.toNat]).toNat:Int):=(by rw [agD];simp [hlt]);rw [<- hv];exact hK
   .cases h
  .rename_i cs;split at h
   .rename_i e j he hj;cases h1:Nat.blt j e.1
    .simp [h1] at h
    .simp only [h1,cond_true,ay] at h;obtain ⟨v,hv,rfl⟩:=h;refine dG.2 ⟨e,he,by rw [(eG hj).1];omega,by rw [(eG hj).2];exact KC h1,?_⟩;rw [(eG hj).2];exact sQ hv hK
   .cases h
  .cases h
 .cases h
end
end Go.Fw
end
section
namespace Go.Fw
variable [iT]
section
variable {P : Program} {ρ:List AV} {pc:Pc} {id nv:Nat} {fr:jB} {ah:AH} {tr:Tr oq} {th:Tr SB} {K:mP->Prop}
def agF (P:Program)(eqv:TypeId->SV->SV->Option Tm)(xs ys:List SV):List Field->Option Tm
 |[]=>some (.lb true)|f::fs=>bif decide (f.name≠ "_") then
   match xg P f.type with
   |none=>none|some ty=>match AP ty xs f.offset,AP ty ys f.offset with
    |some a,some b=>match eqv f.type a b,agF P eqv xs ys fs with
     |some r,some s=>some (ayU r s)|_,_=>none
    |_,_=>none
  else agF P eqv xs ys fs
def yEq (P:Program):Nat->TypeId->SV->SV->Option Tm
 |0,_,_,_=>none|d+1,t,x,y=>
  match P.underlying t with
  |none=>none|some u=>match u,x,y with
   | .bool,.sc .bool a,.sc .bool b=>some (JH .eql .bool a b)| .int _,.sc (.int k) a,.sc (.int k') b=>bif decide (k=k') then some (JH .eql (.int k) a b) else none
   | .float _,.sc .jL a,.sc .jL b=>some (JH .eql .jL a b)| .string,.sc .str a,.sc .str b=>some (JH .eql .str a b)| .pointer _,.c .ptr,.c .ptr=>some (.lb true)| .pointer _,.c .ptr,.vp _ _=>some (.lb false)| .pointer _,.c .ptr,.op _ _ _ _=>some (.lb false)| .pointer _,.vp _ _,.c .ptr=>some (.lb false)| .pointer _,.op _ _ _ _,.c .ptr=>some (.lb false)| .interface _,.c .kY,.c .kY=>some (.lb true)| .interface _,.c .kY,.kY _ _=>some (.lb false)| .interface _,.kY _ _,.c .kY=>some (.lb false)| .struct fs,.agg xs,.agg ys=>bif P.stoodInHeld t then none else agF P (yEq P d) xs ys fs.toList
   |_,_,_=>none
theorem SE {ty:Bool×Nat}{row:List SV}{off:Nat}{v:SV}(h:AP ty row off=some v):JW ty (dK ρ row) off=some (v.den ρ):=by
 have:=sQ (ρ:=ρ) h (k:=fun x=>x=v.den ρ) rfl;unfold apart at this;unfold JW;split at this
 .rename_i h1;rw [if_pos h1,if_pos this.1,this.2]
 .rename_i h1;rw [if_neg h1];obtain ⟨z,hz,rfl⟩:=dG.1 this;exact hz
theorem Yb {eqv:TypeId->SV->SV->Option Tm}{eqa:TypeId->AV->AV->Option Bool}(he:∀t x y tm,eqv t x y=some tm->eqa t (x.den ρ) (y.den ρ)=some (tm.den ρ).B){xs ys:List SV} :
  ∀{fs:List Field} {tm:Tm},agF P eqv xs ys fs=some tm->Zh P eqa (dK ρ xs) (dK ρ ys) fs=some (tm.den ρ).B
 |[],tm,h=>by simp [agF] at h;subst h;rfl
 |f::fs,tm,h=>by
  unfold agF at h;by_cases hn:f.name≠ "_"
  .rw [show decide (f.name≠ "_")=true by simpa using hn] at h
   simp only [cond_true] at h;split at h
   .cases h
   .rename_i ty hty;split at h
    .rename_i a b ha hb;split at h
     .rename_i r s hr hs;simp only [aj] at h;subst h;unfold Zh;rw [if_pos hn,hty,Option.bind_some,SE ha,Option.bind_some,SE hb,Option.bind_some,he _ _ _ _ hr,Option.bind_some,Yb he hs,uX];rfl
     .cases h
    .cases h
  .rw [show decide (f.name≠ "_")=false by simpa using hn] at h
   simp only [cond_false] at h;unfold Zh;rw [if_neg hn];exact Yb he h
theorem Oi : ∀{d:Nat} {t:TypeId} {x y:SV} {tm:Tm},yEq P d t x y=some tm->aeq P d t (x.den ρ) (y.den ρ)=some (tm.den ρ).B
 |0,t,x,y,tm,h=>by simp [yEq] at h
 |d+1,t,x,y,tm,h=>by
  unfold yEq at h;split at h
  .cases h
  .rename_i u hu;split at h
   .simp only [aj] at h;subst h;simp [aeq,hu,SV.den,Kd.av,sO,oL,D.BP,Qy]
   .rename_i k a k' b;by_cases hk:k=k'
    .subst hk;simp at h;subst h;simp [aeq,hu,SV.den,Kd.av,sO,oL,D.BP,dU]
    .simp [hk] at h
   .simp only [aj] at h;subst h;simp [aeq,hu,SV.den,Kd.av,sO,oL,D.BP,fEq,Op.floatEq]
   .simp only [aj] at h;subst h;simp [aeq,hu,SV.den,Kd.av,sO,oL,D.BP,Dw]
   .simp only [aj] at h;subst h;simp [aeq,hu,SV.den,Cv.val,Tm.den,D.BP]
   .simp only [aj] at h;subst h;simp [aeq,hu,SV.den,Cv.val,Tm.den,D.BP]
   .simp only [aj] at h;subst h;simp [aeq,hu,SV.den,Cv.val,Tm.den,D.BP]
   .simp only [aj] at h;subst h;simp [aeq,hu,SV.den,Cv.val,Tm.den,D.BP]
   .simp only [aj] at h;subst h;simp [aeq,hu,SV.den,Cv.val,Tm.den,D.BP]
   .simp only [aj] at h;subst h;simp [aeq,hu,SV.den,Cv.val,Tm.den,D.BP]
   .simp only [aj] at h;subst h;simp [aeq,hu,SV.den,Cv.val,Tm.den,D.BP]
   .simp only [aj] at h;subst h;simp [aeq,hu,SV.den,Cv.val,Tm.den,D.BP]
   .rename_i fs xs ys;cases h1:P.stoodInHeld t
    .simp only [h1,cond_false] at h;simp only [SV.den,aeq,hu,h1];rw [if_neg (by simp)];exact Yb (fun _ _ _ _ he=>Oi he) h
    .simp [h1] at h
   .cases h
def Wh (P:Program)(t:TypeId)(x:SV)(c:Bool):Bool:=
 match x with
 | .agg _=>!(P.eqGuardType P.depth t)| .c .kY=>c|_=>true
theorem ZY {t:TypeId}{x:SV}{c:Bool}(h:Wh P t x c=true):ab8 P t (x.den ρ) c:=by
 unfold Wh at h;split at h
 .simpa [ab8,SV.den] using h
 .exact h
 .rename_i h1 h2;cases x with
  |agg l=>exact absurd rfl (h1 l)|sc k t=>cases k<;>trivial
  |c v=>cases v<;>first|trivial|exact absurd rfl h2
  |_=>trivial
theorem agG {t:TypeId}{c:Bool}{a b:AV}{KV:AV->Prop}{r:Bool}(ha:∀k n,a≠.p (.int k n))(hf:∀k n,a≠.p (.float k n))(hs:∀s,a≠.str s)(hok:ab8 P t a c)(he:aeq P 10000 t a b=some r)(h:KV (.p (.bool r))):Gf P .eql t c a b KV:=by
 unfold Gf;split<;>first|exact absurd rfl (ha _ _)|exact absurd rfl (hf _ _)|exact absurd rfl (hs _)|skip
 all_goals first|exact ⟨hok,dG.2 ⟨r,he,h⟩⟩|simp_all
theorem agH {t:TypeId}{c:Bool}{a b:AV}{KV:AV->Prop}{r:Bool}(ha:∀k n,a≠.p (.int k n))(hf:∀k n,a≠.p (.float k n))(hs:∀s,a≠.str s)(hok:ab8 P t a c)(he:aeq P 10000 t a b=some r)(h:KV (.p (.bool (!r)))):Gf P .neq t c a b KV:=by
 unfold Gf;split<;>first|exact absurd rfl (ha _ _)|exact absurd rfl (hf _ _)|exact absurd rfl (hs _)|skip
 all_goals first|exact ⟨hok,dG.2 ⟨r,he,h⟩⟩|simp_all
def apw (o:BinOp)(x y:Nat):Bool:=match o with
 | .add=>(FloatKind.f64.format.add x y).isSome| .sub=>(FloatKind.f64.format.sub x y).isSome| .mul=>(FloatKind.f64.format.mul x y).isSome| .quo=>(FloatKind.f64.format.div x y).isSome|_=>false
def agI (o:BinOp)(x y:Tm):List Side:=
 match x,y with
 | .lf a,.lf b=>bif apw o a b then [] else [.fop o x y]
 |x,y=>[.fop o x y]
theorem amf {o:BinOp}{x y:Tm}(h:∀s∈agI o x y,s.holds P ρ):(Side.fop o x y).holds P ρ:=by
 unfold agI at h;split at h
 .rename_i a b;cases h1:apw o a b
  .exact h (.fop o (.lf a) (.lf b)) (by simp [h1])
  .cases o<;>first|exact h1|(simp [apw] at h1)
 .exact h (.fop o x y) (by simp)
def apx (x y:Tm):List Side:=
 match x,y with
 | .ls a,.ls b=>bif Nat.ble (a.length+b.length) 4294967296 then [] else [.cat x y]
 |x,y=>[.cat x y]
theorem amg {x y:Tm}(h:∀s∈apx x y,s.holds P ρ):(Side.cat x y).holds P ρ:=by
 unfold apx at h;split at h
 .rename_i a b;cases h1:Nat.ble (a.length+b.length) 4294967296
  .exact h (.cat (.ls a) (.ls b)) (by simp [h1])
  .exact aC h1
 .exact h (.cat x y) (by simp)
def FW : BinOp->Bool
 | .eql | .neq | .lss | .leq | .gtr | .geq=>true|_=>false
def aof (pc:Pc)(nv:Nat)(o:BinOp)(k:IntKind)(a:Tm)(k':IntKind)(b:Tm):Option SR:=
 match o with
 | .shl=>(ayM pc (Vo (.li 0) b)).map fun l=>⟨.sc (.int k) (ayA .shl (.int k) a b),[],[],l,nv⟩
 | .shr=>(ayM pc (Vo (.li 0) b)).map fun l=>⟨.sc (.int k) (ayA .shr (.int k) a b),[],[],l,nv⟩
 | .quo=>bif decide (k=k') then (ayM pc (ayA .neq (.int k) b (.li 0))).map fun l=>⟨.sc (.int k) (ayA .quo (.int k) a b),[],[],l,nv⟩ else none
 | .rem=>bif decide (k=k') then (ayM pc (ayA .neq (.int k) b (.li 0))).map fun l=>⟨.sc (.int k) (ayA .rem (.int k) a b),[],[],l,nv⟩ else none
 |o=>bif decide (k=k') then some (.val nv (bif FW o then .sc .bool (JH o (.int k) a b) else .sc (.int k) (ayA o (.int k) a b))) else none
def Z4 (nv:Nat)(o:BinOp)(a b:Tm):Option SR:=
 bif FW o then some (.val nv (.sc .bool (JH o .jL a b)))
 else match o with
  | .add=>some ⟨.sc .jL (ayA .add .jL a b),[],[],agI .add a b,nv⟩| .sub=>some ⟨.sc .jL (ayA .sub .jL a b),[],[],agI .sub a b,nv⟩| .mul=>some ⟨.sc .jL (ayA .mul .jL a b),[],[],agI .mul a b,nv⟩| .quo=>some ⟨.sc .jL (ayA .quo .jL a b),[],[],agI .quo a b,nv⟩|_=>none
def Z5 (nv:Nat)(o:BinOp)(a b:Tm):Option SR:=
 bif FW o then some (.val nv (.sc .bool (JH o .str a b)))
 else match o with
  | .add=>some ⟨.sc .str (ayA .add .str a b),[],[],apx a b,nv⟩|_=>none
def Z7 (P:Program)(nv:Nat)(o:BinOp)(t:TypeId)(c:Bool)(x y:SV):Option SR:=
 match o with
 | .eql=>bif Wh P t x c then (yEq P 10000 t x y).map fun tm=>.val nv (.sc .bool tm) else none
 | .neq=>bif Wh P t x c then (yEq P 10000 t x y).map fun tm=>.val nv (.sc .bool (ayK tm)) else none
 |_=>none
def SV.isNum : SV->Bool
 | .sc (.int _) _ | .sc .jL _ | .sc .str _=>true|_=>false
def apy (P:Program)(pc:Pc)(nv:Nat)(o:BinOp)(t:TypeId)(c:Bool)(x y:SV):Option SR:=
 match x,y with
 | .sc (.int k) a,.sc (.int k') b=>aof pc nv o k a k' b| .sc .jL a,.sc .jL b=>Z4 nv o a b| .sc .str a,.sc .str b=>Z5 nv o a b|x,y=>bif x.isNum then none else Z7 P nv o t c x y
def apz (nv:Nat)(o:BinOp)(x y:SV):Option SR:=
 match x,y with
 | .nan,.nan=>(afU o).map fun b=>.val nv (.sc .bool (.lb b))
 | .nan,.sc .jL _=>(afU o).map fun b=>.val nv (.sc .bool (.lb b))
 | .sc .jL _,.nan=>(afU o).map fun b=>.val nv (.sc .bool (.lb b))
 | .sc .jL (.lf 0),.sc .jL (.lf 0)=>match o with
  | .quo=>some (.val nv .nan)|_=>none
 |_,_=>none
theorem amh {K:mP->Prop}{o:BinOp}{x y:SV}{r:SR}(h:apz nv o x y=some r)(hK:K (r.den ρ)):afV o (x.den ρ) (y.den ρ) K:=by
 unfold apz at h;split at h
 .simp only [ay] at h;obtain ⟨b,hb,rfl⟩:=h;exact .inr ⟨b,hb,.inl rfl,rfl,rfl,hK⟩
 .simp only [ay] at h;obtain ⟨b,hb,rfl⟩:=h;exact .inr ⟨b,hb,.inl rfl,rfl,rfl,hK⟩
 .simp only [ay] at h;obtain ⟨b,hb,rfl⟩:=h;exact .inr ⟨b,hb,.inr rfl,rfl,rfl,hK⟩
 .split at h
  .simp only [aj] at h;subst h;exact .inl ⟨rfl,rfl,rfl,hK⟩
  .cases h
 .cases h
theorem getD_some {o:Option Nat}(h:o.isSome=true):o=some (o.getD 0):=by cases o<;>simp_all
theorem aiV {o:BinOp}{t:TypeId}{c:Bool}{k k':IntKind}{a b:Tm}{r:SR}(hp:pc.holds ρ)(h:aof pc nv o k a k' b=some r)(hs:∀s∈r.sd,s.holds P ρ)(hK:K (r.den ρ)) :
  Gf P o t c (.p (.int k (a.den ρ).I)) (.p (.int k' (b.den ρ).I)) fun a=>K (.val a):=by
 have rest:(bif decide (k=k') then some (SR.val nv (bif FW o then .sc .bool (JH o (.int k) a b) else .sc (.int k) (ayA o (.int k) a b))) else none)=some r->k=k'/\
   K (.val (bif FW o then (.p (.bool (oL o (.int k) (a.den ρ) (b.den ρ)).B)) else (.p (.int k (oL o (.int k) (a.den ρ) (b.den ρ)).I)))):=by
  intro h;by_cases hk:k=k'
  .subst hk;simp only [decide_true,cond_true,aj] at h;subst h;refine ⟨rfl,?_⟩;cases hc:FW o<;>simp only [hc,cond_true,cond_false,SR.qQ,SV.den,Kd.av,mW,sO] at hK ⊢<;>exact hK
  .simp [hk] at h
 have div:∀o:BinOp,(bif decide (k=k') then (ayM pc (ayA .neq (.int k) b (.li 0))).map fun l=>(⟨.sc (.int k) (ayA o (.int k) a b),[],[],l,nv⟩:SR) else none)=some r->k=k'/\(b.den ρ).I≠0/\
   K (.val (.p (.int k (oL o (.int k) (a.den ρ) (b.den ρ)).I))):=by
  intro o h;by_cases hk:k=k'
  .subst hk;simp only [decide_true,cond_true,ay] at h;obtain ⟨l,hl,rfl⟩:=h;have h0:=jq (P:=P) hp hl hs;rw [mW] at h0;refine ⟨rfl,?_,?_⟩
   .simpa [oL,D.BP,jk,Tm.den,D.I] using h0
   .have:K (.val (.p (.int k ((ayA o (.int k) a b).den ρ).I))):=hK
    rwa [mW] at this
  .simp [hk] at h
 have sh:∀o:BinOp,(ayM pc (Vo (.li 0) b)).map (fun l=>(⟨.sc (.int k) (ayA o (.int k) a b),[],[],l,nv⟩:SR))=some r->0<=(b.den ρ).I/\
   K (.val (.p (.int k (oL o (.int k) (a.den ρ) (b.den ρ)).I))):=by
  intro o h;simp only [ay] at h;obtain ⟨l,hl,rfl⟩:=h;have h0:(0:Int)<=(b.den ρ).I:=ou (jq (P:=P) hp hl hs);refine ⟨h0,?_⟩;have:K (.val (.p (.int k ((ayA o (.int k) a b).den ρ).I))):=hK
  rwa [mW] at this
 cases o
 case shl=>exact sh .shl h
 case shr=>exact sh .shr h
 case quo=>exact div .quo h
 case rem=>exact div .rem h
 all_goals exact rest h
theorem aiW {o:BinOp}{t:TypeId}{c:Bool}{a b:Tm}{r:SR}(h:Z4 nv o a b=some r)(hs:∀s∈r.sd,s.holds P ρ)(hK:K (r.den ρ)) :
  Gf P o t c (.p (.float .f64 (a.den ρ).F)) (.p (.float .f64 (b.den ρ).F)) fun a=>K (.val a):=by
 cases o
 case add|sub|mul|quo=>
  simp only [Z4,FW,cond_false,aj] at h;subst h;have:=amf (P:=P) (ρ:=ρ) hs;refine ⟨rfl,dG.2 ⟨_,getD_some this,?_⟩⟩;simp only [SR.den,SV.den,Kd.av,mW,sO,List.map_nil] at hK;exact hK
 case eql|neq|lss|leq|gtr|geq=>
  simp only [Z4,FW,cond_true,aj] at h;subst h;simp only [SR.qQ,SV.den,Kd.av,mW,sO] at hK;exact ⟨rfl,hK⟩
 all_goals (simp [Z4,FW] at h)
theorem aiX {o:BinOp}{t:TypeId}{c:Bool}{a b:Tm}{r:SR}(h:Z5 nv o a b=some r)(hs:∀s∈r.sd,s.holds P ρ)(hK:K (r.den ρ)) :
  Gf P o t c (.str (a.den ρ).S) (.str (b.den ρ).S) fun a=>K (.val a):=by
 cases o
 case add=>
  simp only [Z5,FW,cond_false,aj] at h;subst h;have:=amg (P:=P) (ρ:=ρ) hs;simp only [SR.den,SV.den,Kd.av,mW,sO,List.map_nil] at hK;exact ⟨this,hK⟩
 case eql|neq|lss|leq|gtr|geq=>
  simp only [Z5,FW,cond_true,aj] at h;subst h;simp only [SR.qQ,SV.den,Kd.av,mW,sO] at hK;exact hK
 all_goals (simp [Z5,FW] at h)
theorem agJ {x:SV}(h:x.isNum=false):(∀k n,x.den ρ≠.p (.int k n))/\(∀k n,x.den ρ≠.p (.float k n))/\(∀s,x.den ρ≠.str s):=by
 cases x with
 |sc k' t=>cases k'<;>simp [SV.isNum] at h<;>simp [SV.den,Kd.av]
 |c v=>cases v<;>simp [SV.den,Cv.val,Go.undef]
 |_=>simp [SV.den]
theorem aiY {o:BinOp}{t:TypeId}{c:Bool}{x y:SV}{r:SR}(hn:x.isNum=false)(h:Z7 P nv o t c x y=some r)(hK:K (r.den ρ)) :
  Gf P o t c (x.den ρ) (y.den ρ) fun a=>K (.val a):=by
 obtain ⟨h1,h2,h3⟩:=agJ (ρ:=ρ) hn;cases o
 case eql=>
  simp only [Z7] at h;cases h4:Wh P t x c
  .simp [h4] at h
  .simp only [h4,cond_true,ay] at h;obtain ⟨tm,htm,rfl⟩:=h;exact agG h1 h2 h3 (ZY h4) (Oi htm) hK
 case neq=>
  simp only [Z7] at h;cases h4:Wh P t x c
  .simp [h4] at h
  .simp only [h4,cond_true,ay] at h;obtain ⟨tm,htm,rfl⟩:=h;refine agH h1 h2 h3 (ZY h4) (Oi htm) ?_;have:K (.val (.p (.bool ((ayK tm).den ρ).B))):=hK
   rwa [mX] at this
 all_goals (simp [Z7] at h)
theorem amj {o:BinOp}{t:TypeId}{c:Bool}{x y:SV}{r:SR}(hp:pc.holds ρ)(h:apy P pc nv o t c x y=some r)(hs:∀s∈r.sd,s.holds P ρ)(hK:K (r.den ρ)) :
  Gf P o t c (x.den ρ) (y.den ρ) fun a=>K (.val a):=by
 unfold apy at h;split at h
 .exact aiV hp h hs hK
 .exact aiW h hs hK
 .exact aiX h hs hK
 .cases hn:x.isNum
  .simp only [hn,cond_false] at h;exact aiY hn h hK
  .simp [hn] at h
end
end Go.Fw
end
section
namespace Go.Fw
variable [iT]
section
variable {P : Program} {ρ:List AV} {pc:Pc} {id nv:Nat} {fr:jB} {ah:AH} {tr:Tr oq} {th:Tr SB} {K:mP->Prop}
def amk (k:Kd)(x:Tm):Tm:=match x.Jv with|some d=>Tm.ofD ((Tm.neg k x).den [])|none=>.neg k x
def apA (k:IntKind)(x:Tm):Tm:=match x.Jv with|some d=>Tm.ofD ((Tm.com k x).den [])|none=>.com k x
def aiZ (k:IntKind)(x:Tm):Tm:=match x.Jv with|some d=>Tm.ofD ((Tm.conv k x).den [])|none=>.conv k x
def apB (x:Tm):Tm:=match x.Jv with|some d=>Tm.ofD ((Tm.toF x).den [])|none=>.toF x
def arB (x:Tm):Tm:=match x.Jv with|some d=>Tm.ofD ((Tm.ZJ x).den [])|none=>.ZJ x
theorem Qz {x:Tm}{d:D}(h:x.Jv=some d)(ρ ρ':List AV):x.den ρ=x.den ρ':=by rw [Tm.Dx h,Tm.Dx h]
theorem ai0 {k:Kd}{x:Tm}:(amk k x).den ρ=(Tm.neg k x).den ρ:=by
 unfold amk;split
 .rename_i d hd;rw [Tm.IX (by intro l;cases k<;>simp [Tm.den])];simp only [Tm.den,Qz hd ρ []]
 .rfl
theorem ai1 {k:IntKind}{x:Tm}:(apA k x).den ρ=(Tm.com k x).den ρ:=by
 unfold apA;split
 .rename_i d hd;rw [Tm.IX (by intro l;simp [Tm.den])];simp only [Tm.den,Qz hd ρ []]
 .rfl
theorem agK {k:IntKind}{x:Tm}:(aiZ k x).den ρ=(Tm.conv k x).den ρ:=by
 unfold aiZ;split
 .rename_i d hd;rw [Tm.IX (by intro l;simp [Tm.den])];simp only [Tm.den,Qz hd ρ []]
 .rfl
theorem ai2 {x:Tm}:(apB x).den ρ=(Tm.toF x).den ρ:=by
 unfold apB;split
 .rename_i d hd;rw [Tm.IX (by intro l;simp [Tm.den])];simp only [Tm.den,Qz hd ρ []]
 .rfl
def sUn (nv:Nat)(o:UnOp)(x:SV):Option SR:=
 match o,x with
 | .neg,.sc (.int k) a=>some (.val nv (.sc (.int k) (amk (.int k) a)))| .xor,.sc (.int k) a=>some (.val nv (.sc (.int k) (apA k a)))| .neg,.sc .jL a=>some (.val nv (.sc .jL (amk .jL a)))| .not,.sc .bool a=>some (.val nv (.sc .bool (ayK a)))|_,_=>none
theorem apC {o:UnOp}{x:SV}{r:SR}(h:sUn nv o x=some r)(hK:K (r.den ρ)):aUn o (x.den ρ) fun a=>K (.val a):=by
 unfold sUn at h;split at h<;>first|(cases h;done)|(simp only [aj] at h;subst h;simp only [SR.qQ,SV.den,Kd.av,ai0,ai1,mX] at hK;exact hK)
def apD (k:IntKind)(x n:Tm):List Side:=
 match x with
 | .lf a=>bif decide ((FloatKind.f64.decode a).toInt .zero=some (n.den []).I)&&(decide (k.min<=(n.den []).I)&&decide ((n.den []).I<=k.max)) then (match n with | .li _=>[]|_=>[.num k x n]) else [.num k x n]
 |x=>[.num k x n]
theorem aml {k:IntKind}{x n:Tm}(h:∀s∈apD k x n,s.holds P ρ):(Side.num k x n).holds P ρ:=by
 unfold apD at h;split at h
 .rename_i a;cases h1:decide ((FloatKind.f64.decode a).toInt .zero=some (n.den []).I)&&(decide (k.min<=(n.den []).I)&&decide ((n.den []).I<=k.max))
  .rw [h1] at h;exact h (.num k (.lf a) n) (by simp)
  .rw [h1] at h;simp only [cond_true] at h;simp only [ak,decide_eq_true_eq] at h1;split at h
   .exact ⟨h1.1,h1.2.1,h1.2.2⟩
   .exact h _ (by simp)
 .exact h (.num k x n) (by simp)
def KD : List UInt8:=(List.range 128).map UInt8.ofNat
theorem ai3 (n:Nat)(h:n<128):(KD.drop n).take 1=[UInt8.ofNat n]:=by
 have h1:n<KD.length:=by simpa [KD] using h
 rw [List.drop_eq_getElem_cons h1];simp [KD]
theorem ai4 {n:Int}(h0:0<=n)(h1:n<128):(KD.drop n.toNat).take ((fK .i64 n 1).toNat-n.toNat)=[UInt8.ofNat n.toNat]:=by
 have e:fK .i64 n 1=n+1:=by
  unfold fK IntKind.wrap;simp [IntKind.bits,IntKind.signed];omega
 rw [e,show (n+1).toNat-n.toNat=1 by omega];exact ai3 _ (by omega)
def SG (P:Program)(nv:Nat)(s d:TypeId)(x:SV):Option SR:=
 match P.underlying s,P.underlying d with
 |some _,some u=>
  match u,x with
  | .int k,.sc (.int _) a=>some (.val nv (.sc (.int k) (aiZ k a)))| .float .f64,.sc (.int _) a=>some (.val nv (.sc .jL (apB a)))| .int k,.sc .jL a=>some ⟨.sc (.int k) (arB a),[],[],apD k a (arB a),nv⟩| .string,.sc .str a=>some (.val nv (.sc .str a))| .string,.sc (.int _) a=>some ⟨.sc .str (.Gj (.ls KD) a (.bin .add (.int .i64) a (.li 1))),[],[],[.tm (.bin .leq (.int .i64) (.li 0) a),.tm (.bin .lss (.int .i64) a (.li 128))],nv⟩|_,_=>none
 |_,_=>none
theorem Z8 {s d:TypeId}{x:SV}{r:SR}(h:SG P nv s d x=some r)(hs:∀s∈r.sd,s.holds P ρ)(hK:K (r.den ρ)):Dn P s d (x.den ρ) fun a=>K (.val a):=by
 unfold SG at h;split at h
 .rename_i u0 u hu0 hu;refine ⟨by rw [hu0];rfl,?_⟩;rw [hu];split at h
  .simp only [aj] at h;subst h;simp only [SR.qQ,SV.den,Kd.av,agK] at hK;exact hK
  .simp only [aj] at h;subst h;simp only [SR.qQ,SV.den,Kd.av,ai2] at hK;exact hK
  .simp only [aj] at h;subst h;obtain ⟨h1,h2,h3⟩:=aml (P:=P) (ρ:=ρ) hs;exact dG.2 ⟨_,h1,h2,h3,hK⟩
  .simp only [aj] at h;subst h;exact hK
  .rename_i a;simp only [aj] at h;subst h;have h0:0<=(a.den ρ).I:=of_decide_eq_true (hs (.tm (.bin .leq (.int .i64) (.li 0) a)) (by simp));have h1:(a.den ρ).I<128:=of_decide_eq_true (hs (.tm (.bin .lss (.int .i64) a (.li 128))) (by simp));refine ⟨h0,h1,?_⟩;have e:(Tm.Gj (.ls KD) a (.bin .add (.int .i64) a (.li 1))).den ρ=.s [UInt8.ofNat (a.den ρ).I.toNat]:=congrArg D.s (ai4 h0 h1);simp only [SR.den,SV.den,e,Kd.av] at hK;exact hK
  .cases h
 .cases h
def aeM (x lo hi:Tm):Tm:=
 match x,uM lo,uM hi with
 | .ls l,some a,some b=>.ls ((l.drop a).take (b-a))|x,_,_=>.Gj x lo hi
theorem agL {x lo hi:Tm}:((aeM x lo hi).den ρ).S=((x.den ρ).S.drop (lo.den ρ).I.toNat).take ((hi.den ρ).I.toNat-(lo.den ρ).I.toNat):=by
 unfold aeM;split
 .rename_i l a b ha hb;rw [(eG ha).2,(eG hb).2];rfl
 .rfl
def SH (d:Tm):Option SV->Option Tm
 |none=>some d|some (.sc (.int _) t)=>some t|_=>none
def Ql (d:Nat):Option SV->Option Nat
 |none=>some d|some (.sc (.int _) t)=>uM t|_=>none
theorem I4 {d:Tm}{x:Option SV}{t:Tm}{dn:Nat}{k:Nat->Prop}(h:SH d x=some t)(hd:(d.den ρ).I=dn)(h0:0<=(t.den ρ).I)(hk:k (t.den ρ).I.toNat):Ey (x.map (SV.den ρ)) dn k:=by
 unfold SH at h;split at h
 .simp only [aj] at h;subst h;rw [hd] at hk;simpa [Ey] using hk
 .simp only [aj] at h;subst h;exact ⟨h0,hk⟩
 .cases h
theorem qC {d:Nat}{x:Option SV}{n:Nat}{k:Nat->Prop}(h:Ql d x=some n)(hk:k n):Ey (x.map (SV.den ρ)) d k:=by
 unfold Ql at h;split at h
 .simp only [aj] at h;subst h;exact hk
 .refine ⟨by rw [(eG h).1];omega,?_⟩;rw [(eG h).2];exact hk
 .cases h
def amm (a b c:Option (List Side)):Option (List Side):=azy a (azy b c)
def ayt {α:Type}:Option α->Bool|none=>true|some _=>false
theorem acF {α:Type}{o:Option α}:ayt o=o.isNone:=by cases o<;>rfl
def Yc (P:Program)(pc:Pc)(nv:Nat)(t:TypeId)(s:Tm)(lo hi mx:Option SV):Option SR:=
 bif ayt mx then
  match P.underlying t,SH (.li 0) lo,SH (V_ s) hi with
  |some .string,some l,some h=>(amm (ayM pc (Vo (.li 0) l)) (ayM pc (Vo l h)) (ayM pc (Vo h (V_ s)))).map fun sd=>⟨.sc .str (aeM s l h),[],[],sd,nv⟩
  |_,_,_=>none
 else none
theorem acG {t:TypeId}{s:Tm}{lo hi mx:Option SV}{r:SR}(hp:pc.holds ρ)(h:Yc P pc nv t s lo hi mx=some r)(hs:∀s∈r.sd,s.holds P ρ)(hK:K (r.den ρ)) :
  xk P t (.str (s.den ρ).S) (lo.map (SV.den ρ)) (hi.map (SV.den ρ)) (mx.map (SV.den ρ)) K:=by
 unfold Yc at h;cases hm:ayt mx
 .simp [hm] at h
 .simp only [hm,cond_true] at h;split at h
  .rename_i l u hu hl hh;simp only [ay] at h;obtain ⟨sd,hsd,rfl⟩:=h;obtain ⟨x,y,h1,h2,rfl⟩:=sS hsd;obtain ⟨y,z,h2',h3,rfl⟩:=sS h2;have a1:(0:Int)<=(l.den ρ).I:=ou (jq (P:=P) hp h1 fun s hm=>hs s (by simp [hm]));have a2:=ou (jq (P:=P) hp h2' fun s hm=>hs s (by simp [hm]));have a3:=ou (jq (P:=P) hp h3 fun s hm=>hs s (by simp [hm]));rw [IZ] at a3;refine ⟨hu,by rw [acF] at hm;simpa using hm,I4 hl rfl a1 (I4 hh IZ (by omega) ⟨by omega,by omega,?_⟩)⟩;have:K (.val (.str ((aeM s l u).den ρ).S)):=hK
   rwa [agL] at this
  .cases h
def Yd (P:Program)(pc:Pc)(nv:Nat)(t:TypeId)(s:Tm)(lo hi mx:Option SV):Option SR:=
 match iP P t with
 |none=>none|some e=>
  match mx with
  |none=>match SH (.li 0) lo,SH (.rlen s) hi with
   |some l,some h=>some ⟨.sc .sl (.var nv []),[],[],[.sub e.1 s (some l) (some h) (.var nv [])],nv+1⟩|_,_=>none
  |some (.sc (.int _) m)=>match hi with
   |some (.sc (.int _) h)=>
    bif h.beq m then
     match lo,h with
     |none,.li (.ofNat 0)=>some ⟨.nil,[],[],[.sub e.1 s none (some (.li 0)) .nl],nv⟩|none,h=>some ⟨.sf (.var nv []),[],[],[.sub e.1 s none (some h) (.var nv [])],nv+1⟩|_,_=>none
    else none
   |_=>none
  |_=>none
theorem acH {t:TypeId}{s:Tm}{lo hi mx:Option SV}{r:SR}{full:Bool}(hf:full=false)(h:Yd P pc nv t s lo hi mx=some r)(hs:∀s∈r.sd,s.holds P ρ)(hK:K (r.den ρ)) :
  xk P t (.sl (s.den ρ).R full) (lo.map (SV.den ρ)) (hi.map (SV.den ρ)) (mx.map (SV.den ρ)) K:=by
 subst hf;unfold Yd at h;split at h
 .cases h
 .rename_i e he;split at h
  .split at h
   .rename_i l u hl hh;simp only [aj] at h;subst h;obtain ⟨b0,b1,b2,b3,b4⟩:=hs (.sub e.1 s (some l) (some u) (.var nv [])) (by simp);simp only [X6] at b1 b2 b3 b4;refine dG.2 ⟨e,he,b0,by simp,I4 hl rfl b1 (I4 hh (by rfl) (by omega) ⟨by omega,by omega,by omega,?_⟩)⟩;have:K (.val (.sl ((Tm.var nv []).den ρ).R false)):=hK;rw [b4] at this;simpa using this
   .cases h
  .split at h
   .rename_i k m _ k' u;cases hb:u.beq m
    .simp [hb] at h
    .simp only [hb,cond_true] at h;have:=Tm.beq_eq hb;subst this;split at h
     .simp only [aj] at h;subst h;obtain ⟨b0,b1,b2,b3,b4⟩:=hs (.sub e.1 s none (some (.li 0)) .nl) (by simp);refine dG.2 ⟨e,he,b0,by simp,?_⟩;refine ⟨Int.le_refl _,Int.le_refl _,dD _,dD _,dB _,?_⟩;have:K (.val (.sl [] true)):=hK;have e0:(Tm.den ρ (Tm.li (Int.ofNat 0))).I.toNat=0:=rfl;simpa [Tm.den,D.I] using this
     .simp only [aj] at h;subst h;obtain ⟨b0,b1,b2,b3,b4⟩:=hs (.sub e.1 s none (some u) (.var nv [])) (by simp);simp only [X6] at b1 b2 b3 b4;refine dG.2 ⟨e,he,b0,by simp,?_⟩;refine ⟨by omega,by omega,by omega,dD _,by omega,?_⟩;have:K (.val (.sl ((Tm.var nv []).den ρ).R true)):=hK;rw [b4] at this;simpa using this
     .cases h
   .cases h
  .cases h
def QA (P:Program)(nv:Nat)(t:TypeId)(rows:List (List SV))(full:Bool)(lo hi mx:Option SV):Option SR:=
 match iP P t,Ql 0 lo,Ql rows.length hi,Ql rows.length mx with
 |some e,some l,some h,some m=>
  bif rows.all (fun r=>Nat.beq r.length e.1)&&((ayt mx||!ayt hi)&&(Nat.ble l h&&(Nat.ble h m&&Nat.ble m rows.length))) then
   some (.val nv (.slc ((rows.drop l).take (h-l)) (bif ayt mx then full&&Nat.beq h rows.length else Nat.beq m h)))
  else none
 |_,_,_,_=>none
theorem EN {n:Nat}{rows:List (List SV)}(h:rows.all (fun r=>Nat.beq r.length n)=true):jy n (fQ ρ rows):=by
 intro row hr;rw [jd] at hr;obtain ⟨x,hx,rfl⟩:=aU.1 hr;rw [aF] at h;rw [dX];exact au (h x hx)
theorem SI {t:TypeId}{rows:List (List SV)}{full:Bool}{lo hi mx:Option SV}{r:SR}(h:QA P nv t rows full lo hi mx=some r)(hK:K (r.den ρ)) :
  xk P t (.sl (fQ ρ rows) full) (lo.map (SV.den ρ)) (hi.map (SV.den ρ)) (mx.map (SV.den ρ)) K:=by
 unfold QA at h;split at h
 .rename_i e l u m he hl hh hm;cases hc:rows.all (fun r=>Nat.beq r.length e.1)&&((ayt mx||!ayt hi)&&(Nat.ble l u&&(Nat.ble u m&&Nat.ble m rows.length)))
  .simp [hc] at h
  .simp only [hc,cond_true,aj] at h;subst h;simp only [ak] at hc;obtain ⟨c1,c2,c3,c4,c5⟩:=hc;refine dG.2 ⟨e,he,EN c1,?_,qC hl (qC (by rw [fC];exact hh) (qC (by rw [fC];exact hm) ⟨aC c3,aC c4,by rw [fC];exact aC c5,?_⟩))⟩
   .intro hs;cases mx<;>cases hi<;>simp_all [ayt]
   .rw [xE,xG];have:K (.val (.sl (fQ ρ ((rows.drop l).take (u-l))) (bif ayt mx then full&&Nat.beq u rows.length else Nat.beq m u))):=hK;have e2:∀a b:Nat,Nat.beq a b=decide (a=b):=fun a b=>by
     cases hb:Nat.beq a b
     .symm;rw [decide_eq_false_iff_not];intro e;rw [e] at hb;simp at hb
     .symm;rw [decide_eq_true_iff];exact au hb
    rw [e2,e2] at this;cases mx<;>simpa [ayt,fC] using this
 .cases h
def apE (off:Nat)(h:Tm):Option Tm:=match off with
 |0=>some h|off=>(uM h).map fun n=>.li (.ofNat (n-off))
theorem ai5 {off:Nat}{h t:Tm}(e:apE off h=some t):(t.den ρ).I.toNat=(h.den ρ).I.toNat-off:=by
 unfold apE at e;split at e
 .simp only [aj] at e;subst e;simp
 .simp only [ay] at e;obtain ⟨n,hn,rfl⟩:=e;rw [(eG hn).2];rfl
def Ye (P:Program)(pc:Pc)(nv:Nat)(t:TypeId)(b sz off:Nat)(len:Tm)(lo hi mx:Option SV):Option SR:=
 bif ayt mx then
  match iP P t,Ql 0 lo,SH len hi with
  |some e,some l,some h=>
   bif Nat.beq sz e.1 then
    match apE l h,amm (ayM pc (Vo (.li 0) h)) (ayM pc (Vo (.li l) h)) (ayM pc (Vo h len)) with
    |some n,some sd=>some ⟨.os b sz (off+l) n,[],[],sd,nv⟩|none,some sd=>match ayM pc (Vo h (.li 4294967296)) with
     |some sd2=>some ⟨.os b sz (off+l) (.bin .sub (.int .i64) h (.li (.ofNat l))),[],[],sd2++sd,nv⟩|none=>none
    |_,_=>none
   else none
  |_,_,_=>none
 else match iP P t,uM len with
  |some e,some n=>match Ql 0 lo,Ql n hi,Ql n mx with
   |some l,some h,some m=>bif Nat.beq sz e.1&&(!ayt hi&&(Nat.ble l h&&(Nat.ble h m&&Nat.ble m n))) then some (.val nv (.os b sz (off+l) (.li (.ofNat (h-l))))) else none
   |_,_,_=>none
  |_,_=>none
theorem acI {t:TypeId}{b sz off:Nat}{len:Tm}{lo hi mx:Option SV}{r:SR}(hp:pc.holds ρ)(h:Ye P pc nv t b sz off len lo hi mx=some r)(hs:∀s∈r.sd,s.holds P ρ)(hK:K (r.den ρ)) :
  xk P t (.os b sz off (len.den ρ).I.toNat) (lo.map (SV.den ρ)) (hi.map (SV.den ρ)) (mx.map (SV.den ρ)) K:=by
 unfold Ye at h;cases hm:ayt mx
 .simp only [hm,cond_false] at h;split at h
  .rename_i e n he hn;split at h
   .rename_i l u m hl hh hmx;cases hc:(Nat.beq sz e.1&&(!ayt hi&&(Nat.ble l u&&(Nat.ble u m&&Nat.ble m n))))
    .simp [hc] at h
    .simp only [hc,cond_true,aj] at h;subst h;simp only [ak,Bool.not_eq_true'] at hc;obtain ⟨c1,c2,c3,c4,c5⟩:=hc;have hlen:=(eG (ρ:=ρ) hn).2;refine dG.2 ⟨e,he,au c1,?_,?_⟩
     .intro _;cases hi
      .simp [ayt] at c2
      .rfl
     .rw [hlen];refine qC hl (qC hh (qC hmx ⟨aC c3,aC c4,aC c5,?_⟩));exact hK
   .cases h
  .cases h
 .simp only [hm,cond_true] at h;cases mx with
  |some x=>simp [ayt] at hm|none=>
   split at h
   .rename_i e l u he hl hh;cases h1:Nat.beq sz e.1
    .simp [h1] at h
    .simp only [h1,cond_true] at h;have fin:∀(n:Tm) (sd:List Side),amm (ayM pc (Vo (.li 0) u)) (ayM pc (Vo (.li l) u)) (ayM pc (Vo u len))=some sd->(∀s∈sd,s.holds P ρ)->(n.den ρ).I.toNat=(u.den ρ).I.toNat-l->K (.val (.os b sz (off+l) (n.den ρ).I.toNat))->xk P t (.os b sz off (len.den ρ).I.toNat) (lo.map (SV.den ρ)) (hi.map (SV.den ρ)) none K:=by
      intro n sd hsd hs hn hK;obtain ⟨x,y,q1,q2,rfl⟩:=sS hsd;obtain ⟨y,z,q2',q3,rfl⟩:=sS q2;have a1:(0:Int)<=(u.den ρ).I:=ou (jq (P:=P) hp q1 fun s hm=>hs s (by simp [hm]));have a2:(l:Int)<=(u.den ρ).I:=ou (jq (P:=P) hp q2' fun s hm=>hs s (by simp [hm]));have a3:=ou (jq (P:=P) hp q3 fun s hm=>hs s (by simp [hm]));refine dG.2 ⟨e,he,au h1,by simp,qC hl ?_⟩;have key:∀hi':Nat,hi'=(u.den ρ).I.toNat->l<=hi'/\hi'<=(len.den ρ).I.toNat/\(len.den ρ).I.toNat<=(len.den ρ).I.toNat/\K (.val (.os b sz (off+l) (hi' - l))):=by
       intro hi' e';refine ⟨by omega,by omega,dD _,?_⟩;rw [e',<- hn];exact hK
      cases hi with
      |none=>
       simp only [SH,aj] at hh;subst hh;exact key _ rfl
      |some x=>
       cases x with
       |sc k t=>
        cases k with
        |int k=>simp only [SH,aj] at hh;subst hh;exact ⟨a1,key _ rfl⟩|_=>simp [SH] at hh
       |_=>simp [SH] at hh
     split at h
     .rename_i n sd hn hsd;simp only [aj] at h;subst h;exact fin n sd hsd hs (ai5 hn) hK
     .rename_i sd hn hsd;split at h
      .rename_i sd2 hsd2;simp only [aj] at h;subst h;have a4:=ou (jq (P:=P) hp hsd2 fun s hm=>hs s (by simp [hm]));obtain ⟨x,y,q1,q2,rfl⟩:=sS hsd;obtain ⟨y,z,q2',q3,rfl⟩:=sS q2;have a1:(0:Int)<=(u.den ρ).I:=ou (jq (P:=P) hp q1 fun s hm=>hs s (by simp [hm]));have a2:(l:Int)<=(u.den ρ).I:=ou (jq (P:=P) hp q2' fun s hm=>hs s (by simp [hm]));have a4':(u.den ρ).I<=4294967296:=a4;refine fin _ _ hsd (fun s hm=>hs s (by simp at hm ⊢;exact .inr hm)) ?_ hK;show (mD .i64 (u.den ρ).I (l:Int)).toNat=_;rw [ZK (by omega) (by omega)];omega
      .cases h
     .cases h
   .cases h
def Yf (P:Program)(pc:Pc)(nv:Nat)(t:TypeId)(b sz:Nat)(len:Tm)(lo hi mx:Option SV):Option SR:=
 match lo,hi,mx with
 |some (.sc (.int _) l),none,none=>match iP P t with
  |some e=>bif Nat.beq sz e.1 then
    match amm (ayM pc (Vo (.li 0) l)) (ayM pc (Vo l len)) (ayM pc (Vo len (.li 4294967296))) with
    |some sd=>some ⟨.ost b sz l (.bin .sub (.int .i64) len l),[],[],sd,nv⟩|none=>none
   else none
  |none=>none
 |_,_,_=>none
theorem acJ {t:TypeId}{b sz:Nat}{len:Tm}{lo hi mx:Option SV}{r:SR}(hp:pc.holds ρ)(h:Yf P pc nv t b sz len lo hi mx=some r)(hs:∀s∈r.sd,s.holds P ρ)(hK:K (r.den ρ)) :
  xk P t (.os b sz 0 (len.den ρ).I.toNat) (lo.map (SV.den ρ)) (hi.map (SV.den ρ)) (mx.map (SV.den ρ)) K:=by
 unfold Yf at h;split at h
 .rename_i k l;split at h
  .rename_i e he;cases h1:Nat.beq sz e.1
   .simp [h1] at h
   .simp only [h1,cond_true] at h;split at h
    .rename_i sd hsd;simp only [aj] at h;subst h;obtain ⟨x,y,q1,q2,rfl⟩:=sS hsd;obtain ⟨y,z,q2',q3,rfl⟩:=sS q2;have a1:(0:Int)<=(l.den ρ).I:=ou (jq (P:=P) hp q1 fun s hm=>hs s (by simp [hm]));have a2:(l.den ρ).I<=(len.den ρ).I:=ou (jq (P:=P) hp q2' fun s hm=>hs s (by simp [hm]));have a3:(len.den ρ).I<=4294967296:=ou (jq (P:=P) hp q3 fun s hm=>hs s (by simp [hm]));have hK':K (.val (.os b sz (l.den ρ).I.toNat (mD .i64 (len.den ρ).I (l.den ρ).I).toNat)):=hK;rw [ZK (by omega) (by omega),show ((len.den ρ).I-(l.den ρ).I).toNat=(len.den ρ).I.toNat-(l.den ρ).I.toNat by omega] at hK';refine dG.2 ⟨e,he,au h1,by simp,a1,?_⟩;refine ⟨by omega,dD _,dD _,?_⟩;rw [Nat.zero_add];exact hK'
    .cases h
  .cases h
 .cases h
def acK (P:Program)(pc:Pc)(nv:Nat)(t:TypeId)(x:SV)(lo hi mx:Option SV):Option SR:=
 match x with
 | .sc .str s=>Yc P pc nv t s lo hi mx| .sc .sl s=>Yd P pc nv t s lo hi mx| .slc rows full=>QA P nv t rows full lo hi mx| .nil=>QA P nv t [] true lo hi mx| .os b sz off len=>match Ye P pc nv t b sz off len lo hi mx with
  |some r=>some r|none=>bif Nat.beq off 0 then Yf P pc nv t b sz len lo hi mx else none
 |_=>none
theorem agM {t:TypeId}{x:SV}{lo hi mx:Option SV}{r:SR}(hp:pc.holds ρ)(h:acK P pc nv t x lo hi mx=some r)(hs:∀s∈r.sd,s.holds P ρ)(hK:K (r.den ρ)) :
  xk P t (x.den ρ) (lo.map (SV.den ρ)) (hi.map (SV.den ρ)) (mx.map (SV.den ρ)) K:=by
 unfold acK at h;split at h
 .exact acG hp h hs hK
 .exact acH rfl h hs hK
 .exact SI h hK
 .exact SI h hK
 .split at h
  .rename_i hq;simp only [aj] at h;subst h;exact acI hp hq hs hK
  .rename_i off len _ _;cases h0:Nat.beq off 0
   .simp [h0] at h
   .simp only [h0,cond_true] at h;obtain rfl:=au h0;exact acJ hp h hs hK
 .cases h
def Yg (P:Program)(pc:Pc)(th:Tr SB)(nv:Nat)(t:TypeId)(x:SV)(lo hi mx:Option SV):Option SR:=
 match x with
 | .op b sz i off=>match aic P t,uM i with
  |some e,some q=>match th.get b with
   |some (.rows sz' rs)=>match Ql 0 lo,Ql e.1 hi,Ql e.1 mx with
    |some l,some h,some m=>bif Nat.beq sz e.2.1&&(Nat.beq off 0&&(Nat.ble e.1 4294967296&&(Nat.beq sz sz'&&(Nat.ble (q+e.1) rs.length&&((ayt mx||!ayt hi)&&(Nat.ble l h&&(Nat.ble h m&&Nat.ble m e.1))))))) then
     some ⟨.os b sz (q+l) (.li (.ofNat (h-l))),[],[b],[],nv⟩ else none
    |_,_,_=>none
   |_=>none
  |_,_=>none
 |x=>acK P pc nv t x lo hi mx
theorem acL {th:Tr SB}{ah:AH}{t:TypeId}{x:SV}{lo hi mx:Option SV}{r:SR}(hp:pc.holds ρ)(ha:Dz ρ th ah)(h:Yg P pc th nv t x lo hi mx=some r)(hs:∀s∈r.sd,s.holds P ρ)(hK:K (r.den ρ)) :
  BG P ah t (x.den ρ) (lo.map (SV.den ρ)) (hi.map (SV.den ρ)) (mx.map (SV.den ρ)) K:=by
 unfold Yg at h;split at h
 .rename_i b sz i off;split at h
  .rename_i e q he hq;split at h
   .rename_i sz' rs hb;split at h
    .rename_i l u m hl hh hm;generalize hc:(Nat.beq sz e.2.1&&(Nat.beq off 0&&(Nat.ble e.1 4294967296&&(Nat.beq sz sz'&&(Nat.ble (q+e.1) rs.length&&((ayt mx||!ayt hi)&&(Nat.ble l u&&(Nat.ble u m&&Nat.ble m e.1))))))))=g at h;cases g
     .cases h
     .simp only [cond_true,aj] at h;subst h;simp only [ak] at hc;obtain ⟨c1,c2,c3,c4,c5,c6,c7,c8,c9⟩:=hc;have e4:=au c4;refine dG.2 ⟨e,he,au c1,au c2,aC c3,?_⟩;rw [ha _ _ hb];refine ⟨e4,?_,?_,qC hl (qC hh (qC hm ⟨aC c7,aC c8,aC c9,?_⟩))⟩
      .rw [(eG hq).2,fC];exact aC c5
      .intro hs0;cases mx<;>cases hi<;>simp_all [ayt]
      .rw [(eG hq).2];exact hK
    .cases h
   .cases h
  .cases h
 .rename_i hne;have:=agM hp h hs hK;cases x with
  |op b sz i off=>exact absurd rfl (hne b sz i off)|sc k t=>cases k<;>exact this
  |_=>exact this
end
end Go.Fw
end
section
namespace Go.Fw
variable [iT]
section
variable {P : Program} {ρ:List AV} {pc:Pc} {id nv:Nat} {fr:jB} {ah:AH} {tr:Tr oq} {th:Tr SB} {K:mP->Prop}
def ay0 (P:Program)(t:TypeId):Option (List SV):=((P.info? t).bind (·.zero)).bind fun z=>SA z.cells.toList
theorem xH {t:TypeId}{l:List SV}(h:ay0 P t=some l):ays P t=some (dK ρ l):=by
 unfold ay0 at h;unfold ays;simp only [aQ] at h;obtain ⟨z,hz,h⟩:=h;obtain ⟨i,hi,hz⟩:=hz;simp [hi,hz,IY (ρ:=ρ) h]
def Wi (place:Nat->Option (Nat×Nat))(cells:List SV):List (Nat×SV)->Option (List SV)
 |[]=>some cells|(i,v)::rest=>
  match place i with
  |none=>none|some (off,size)=>bif v.BA&&(Nat.beq v.cells.length size&&Nat.ble (off+v.cells.length) cells.length) then Wi place (aiU cells off v.cells) rest else none
theorem Oj {place:Nat->Option (Nat×Nat)}:∀{parts:List (Nat×SV)} {cells out:List SV},Wi place cells parts=some out->
  FT place (dK ρ cells) (parts.map fun q=>(q.1,q.2.den ρ))=some (dK ρ out)
 |[],cells,out,h=>by simp [Wi] at h;subst h;rfl
 |(i,v)::rest,cells,out,h=>by
  simp only [Wi] at h;split at h
  .cases h
  .rename_i off size hpl;cases hc:v.BA&&(Nat.beq v.cells.length size&&Nat.ble (off+v.cells.length) cells.length)
   .simp [hc] at h
   .simp only [hc,cond_true] at h;simp only [ak] at hc;obtain ⟨c1,c2,c3⟩:=hc;simp only [aX,FT,hpl];rw [AU c1,nV c1,dX,dX,au c2];have c3:=aC c3;rw [au c2] at c3;rw [if_neg (by simp;omega),X9];exact Oj h
def acM (P:Program)(nv:Nat)(t:TypeId)(parts:List (Nat×SV)):Option SR:=
 match ay0 P t,ayC P t with
 |some z,some pl=>(Wi pl z parts).map fun cs=>.val nv (.agg cs)
 |_,_=>none
theorem agN {t:TypeId}{parts:List (Nat×SV)}{r:SR}(h:acM P nv t parts=some r)(hK:K (r.den ρ)):Q_ P t (parts.map fun q=>(q.1,q.2.den ρ)) K:=by
 unfold acM at h;split at h
 .rename_i z pl hz hpl;simp only [ay] at h;obtain ⟨cs,hcs,rfl⟩:=h;exact dG.2 ⟨_,xH hz,dG.2 ⟨pl,hpl,dG.2 ⟨_,Oj hcs,hK⟩⟩⟩
 .cases h
def Yh (n:Nat):Nat->List SV->List (List SV)
 |0,_=>[]|k+1,l=>l.take n::Yh n k (l.drop n)
theorem SK {n:Nat}:∀{k:Nat} {l:List SV},ayz n k (dK ρ l)=fQ ρ (Yh n k l)
 |0,l=>rfl|k+1,l=>by simp only [ayz,Yh,fQ,Oh,Og,SK (k:=k)]
theorem JJ {z:List SV}:∀{n:Nat},(List.replicate n (dK ρ z)).flatten=dK ρ (List.replicate n z).flatten
 |0=>rfl|n+1=>by simp only [List.replicate_succ,List.flatten_cons,jr,JJ (n:=n)]
def Ho (P:Program)(nv:Nat)(t:TypeId)(id len:Nat)(parts:List (Nat×SV)):Option SR:=
 match P.underlying t with
 |some (.slice e)=>match P.info? e,ay0 P e with
  |some i,some z=>bif Nat.beq z.length i.size&&Nat.ble (len*i.size+len) 16777216 then
    (Wi (fun k=>some (k*i.size,i.size)) (List.replicate len z).flatten parts).map fun cs=>⟨.os id i.size 0 (.li (.ofNat len)),[(id,some (.rows i.size (Yh i.size len cs)))],[],[],nv⟩
   else none
  |_,_=>none
 |_=>none
theorem SL {t:TypeId}{len:Nat}{parts:List (Nat×SV)}{r:SR}(h:Ho P nv t id len parts=some r)(hK:K (r.den ρ)):jD P t id len (parts.map fun q=>(q.1,q.2.den ρ)) K:=by
 unfold Ho at h;split at h
 .rename_i e hu;split at h
  .rename_i i z hi hz;cases hc:Nat.beq z.length i.size&&Nat.ble (len*i.size+len) 16777216
   .simp [hc] at h
   .simp only [hc,cond_true,ay] at h;obtain ⟨cs,hcs,rfl⟩:=h;simp only [ak] at hc;unfold jD;rw [hu];refine dG.2 ⟨i,hi,dG.2 ⟨_,xH (ρ:=ρ) hz,by rw [dX];exact au hc.1,aC hc.2,dG.2 ⟨dK ρ cs,?_,?_⟩⟩⟩
    .rw [JJ];exact Oj hcs
    .rw [SK];exact hK
  .cases h
 .cases h
def apF (nv id:Nat)(v:SV):Option SR:=
 bif v.BA then some ⟨.op id v.cells.length (.li 0) 0,[(id,some (.rows v.cells.length [v.cells]))],[],[],nv⟩ else none
theorem amn {v:SV}{r:SR}(h:apF nv id v=some r)(hK:K (r.den ρ)):apj id (v.den ρ) K:=by
 unfold apF at h;cases hb:v.BA
 .simp [hb] at h
 .simp only [hb,cond_true,aj] at h;subst h;refine ⟨AU hb,?_⟩;rw [nV hb,dX];exact hK
def ai6 (P:Program)(t:TypeId):Bool:=match P.underlying t with
 |some (.struct fs)=>(match fs[0]? with
  |some f=>(match P.underlying f.type with|some (.pointer e)=>Nat.beq e t|_=>false)|none=>false)
 |_=>false
def acN (P:Program)(nv id:Nat)(t:TypeId):Option SR:=
 (ay0 P t).map fun z=>match azj P t with
  |true=>⟨.op id 1 (.li 0) 0,[(id,some (.rows 1 (z.map fun x=>[x])))],[],[],nv⟩|false=>⟨.op id z.length (.li 0) 0,[(id,some (bif ai6 P t then .iD t z.length [z] else .rows z.length [z]))],[],[],nv⟩
theorem agO {t:TypeId}{r:SR}(h:acN P nv id t=some r)(hK:K (r.den ρ)):Rf P t id K:=by
 unfold acN at h;simp only [ay] at h;obtain ⟨z,hz,rfl⟩:=h;cases hsf:(!azj P t&&ai6 P t);rotate_left
 .simp only [ak,Bool.not_eq_true'] at hsf;rw [hsf.1,hsf.2] at hK;refine .inr (dG.2 ⟨_,xH (ρ:=ρ) hz,hsf.1,?_⟩);rw [dX];exact hK
 refine .inl (dG.2 ⟨_,xH (ρ:=ρ) hz,?_⟩);cases ha:azj P t with
 |true=>
  rw [ha] at hK;have:K ⟨.op id 1 0 0,[(id,some (.rows 1 (fQ ρ (z.map fun x=>[x]))))],[]⟩:=hK;have e:fQ ρ (z.map fun x=>[x])=(dK ρ z).map fun x=>[x]:=by simp [jd,agl,dK,Function.comp_def]
  rw [e] at this;exact this
 |false=>
  have h2:ai6 P t=false:=by rw [ha] at hsf;simpa using hsf
  rw [ha,h2] at hK;rw [dX];exact hK
def ai7 : SV->Option SV
 | .nil=>some (.sc .sl .nl)| .sc .sl _=>none| .sc k t=>some (.sc k t)| .c v=>some (.c v)|_=>none
def Z9 : List SV->Option (List SV)
 |[]=>some []|x::r=>match ai7 x,Z9 r with|some y,some l=>some (y::l)|_,_=>none
theorem agP {x y:SV}(h:ai7 x=some y):y.den ρ=Ju (x.den ρ):=by
 unfold ai7 at h;split at h
 .simp only [aj] at h;subst h;rfl
 .cases h
 .rename_i k t hk;simp only [aj] at h;subst h;cases k<;>first|rfl|exact absurd rfl hk
 .simp only [aj] at h;subst h;rfl
 .cases h
theorem Wj : ∀{z y:List SV},Z9 z=some y->dK ρ y=(dK ρ z).map Ju
 |[],y,h=>by simp only [Z9,aj] at h;subst h;rfl
 |x::r,y,h=>by
  simp only [Z9] at h;split at h
  .rename_i a l ha hl;simp only [aj] at h;subst h;simp only [dK,aX,agP ha,Wj hl]
  .cases h
def KE (P:Program)(nv id:Nat)(t:TypeId)(l c:SV):Option SR:=
 match P.underlying t,l,c with
 |some (.slice e),.sc (.int _) l,.sc (.int _) c=>match P.info? e,ay0 P e with
  |some i,some z0=>match Z9 z0 with
   |none=>none|some z=>bif Nat.beq z0.length i.size&&Nat.ble i.bytes 4096 then
    match uM l,uM c with
    |some n,some m=>bif Nat.ble n m&&Nat.ble m 4294967296 then some ⟨.os id i.size 0 l,[(id,some (.rows i.size (List.replicate n z)))],[],[],nv⟩ else none
    |_,_=>some ⟨.os id i.size 0 l,[(id,some (.fZ i.size (.var nv [])))],[],[.mk l c z (.var nv [])],nv+1⟩
   else none
  |_,_=>none
 |_,_,_=>none
theorem FX {z:List SV}:∀{n:Nat},List.replicate n (dK ρ z)=fQ ρ (List.replicate n z)
 |0=>rfl|n+1=>by simp only [List.replicate_succ,fQ,FX (n:=n)]
theorem Vw {t:TypeId}{l c:SV}{r:SR}(h:KE P nv id t l c=some r)(hs:∀s∈r.sd,s.holds P ρ)(hK:K (r.den ρ)):qh P t id (l.den ρ) (c.den ρ) K:=by
 unfold KE at h;split at h
 .rename_i e k l k' c hu;split at h
  .rename_i i z0 hi hz;split at h
   .cases h
   rename_i z hlo;have arC:=Wj (ρ:=ρ) hlo;cases hc:Nat.beq z0.length i.size&&Nat.ble i.bytes 4096
   .simp [hc] at h
   .simp only [hc,cond_true] at h;simp only [ak] at hc;simp only [qh,hu,SV.den,Kd.av];split at h
    .rename_i n m hn hm;cases hd:Nat.ble n m&&Nat.ble m 4294967296
     .simp [hd] at h
     .simp only [hd,cond_true,aj] at h;subst h;simp only [ak] at hd;have d1:=aC hd.1;have d2:=aC hd.2;refine dG.2 ⟨i,hi,dG.2 ⟨_,xH (ρ:=ρ) hz,by rw [dX];exact au hc.1,?_,?_,?_,aC hc.2,?_⟩⟩
      .rw [(eG hn).1];omega
      .rw [(eG hn).1,(eG hm).1];omega
      .rw [(eG hm).1];omega
      .have e:=(eG (ρ:=ρ) hn).2;rw [e,<- arC,FX];have:K ⟨.os id i.size 0 (l.den ρ).I.toNat,[(id,some (.rows i.size (fQ ρ (List.replicate n z))))],[]⟩:=hK
       rwa [e] at this
    .simp only [aj] at h;subst h;obtain ⟨b1,b2,b3,b4⟩:=hs (.mk l c z (.var nv [])) (by simp);refine dG.2 ⟨i,hi,dG.2 ⟨_,xH (ρ:=ρ) hz,by rw [dX];exact au hc.1,b1,b2,b3,aC hc.2,?_⟩⟩;rw [<- arC,<- b4];exact hK
  .cases h
 .cases h
def Wl (nv:Nat)(f:Fn)(first captured:List SV):Option SR:=
 match f with
 | .func f=>some (.val nv (.fn f first captured))|_=>none
def ay3 (pc:Pc)(t:Tm):Option (List Side):=
 match t with
 | .li (.ofNat _)=>some []| .slen _=>some []| .rlen _=>some []|t=>ayM pc (Vo (.li 0) t)
theorem Wn {t:Tm}{l:List Side}(hp:pc.holds ρ)(h:ay3 pc t=some l)(hs:∀s∈l,s.holds P ρ):0<=(t.den ρ).I:=by
 unfold ay3 at h;split at h
 .exact Int.natCast_nonneg _
 .exact Int.natCast_nonneg _
 .exact Int.natCast_nonneg _
 .exact ou (jq (P:=P) hp h hs)
def sLn (P:Program)(pc:Pc)(th:Tr SB)(nv:Nat)(t:TypeId)(x:SV):Option SR:=
 match P.underlying t with
 |none=>none|some u=>match u,x with
  | .string,.sc .str s=>some (.val nv (.sc (.int .i64) (V_ s)))| .slice _,.sc .sl s=>some (.val nv (.sc (.int .i64) (.rlen s)))| .slice _,.sf s=>some (.val nv (.sc (.int .i64) (.rlen s)))| .slice _,.nil=>some (.val nv (.sc (.int .i64) (.li 0)))| .slice _,.slc rows _=>some (.val nv (.sc (.int .i64) (.li (.ofNat rows.length))))| .slice _,.os _ _ _ len=>(ay3 pc len).map fun l=>⟨.sc (.int .i64) len,[],[],l,nv⟩
  | .map _ _,.c .mp=>some (.val nv (.sc (.int .i64) (.li 0)))| .map _ _,.mp b=>match th.get b with
   |some (.map es)=>some ⟨.sc (.int .i64) (.li (.ofNat es.length)),[],[b],[],nv⟩|_=>none
  |_,_=>none
theorem apG {t:TypeId}{x:SV}{r:SR}(hp:pc.holds ρ)(ha:Dz ρ th ah)(h:sLn P pc th nv t x=some r)(hs:∀s∈r.sd,s.holds P ρ)(hK:K (r.den ρ)):Ll P ah t (x.den ρ) K:=by
 unfold sLn at h;split at h
 .cases h
 .rename_i u hu;unfold Ll;rw [hu];split at h
  .simp only [aj] at h;subst h;simp only [SR.qQ,SV.den,Kd.av,IZ] at hK;exact hK
  .simp only [aj] at h;subst h;exact hK
  .simp only [aj] at h;subst h;exact hK
  .simp only [aj] at h;subst h;exact hK
  .simp only [aj] at h;subst h;rename_i rows f;have:K (.val (.p (.int .i64 (rows.length:Nat)))):=hK;rw [<- fC (ρ:=ρ)] at this;exact this
  .simp only [ay] at h;obtain ⟨l,hl,rfl⟩:=h;rename_i b sz off len;have h0:=Wn (P:=P) hp hl hs;have:K (.val (.p (.int .i64 (len.den ρ).I))):=hK;show K (.val (.p (.int .i64 ((len.den ρ).I.toNat:Nat))))
   rwa [Int.toNat_of_nonneg h0]
  .simp only [aj] at h;subst h;exact hK
  .split at h
   .rename_i es hb;simp only [aj] at h;subst h;show (match ah _ with|some (.map es)=>K ⟨.p (.int .i64 es.length),[],[_]⟩|_=>False);rw [ha _ _ hb];simp only [SB.den,dh];exact hK
   .cases h
  .cases h
inductive Ys where
 |cs (rows:List (List SV))
 |ts (t:Tm)
def Ys.den (ρ:List AV):Ys->List (List AV)
 | .cs rows=>fQ ρ rows| .ts t=>(t.den ρ).R
theorem KF {n:Nat}:jy n []:=fun _ h=>absurd h (by simp)
def LW (pc:Pc)(th:Tr SB)(n:Nat)(x:SV):Option (Ys×List Nat×List Side):=
 match x with
 | .sc .sl t=>some (.ts t,[],[.Lh n t])| .sf t=>some (.ts t,[],[.Lh n t])| .sc .str (.ls l)=>bif Nat.beq n 1 then some (.cs (l.map fun b=>[.sc (.int .u8) (.li (.ofNat b.toNat))]),[],[]) else none
 | .sc .str t=>bif Nat.beq n 1 then some (.ts (.sbs t),[],[]) else none
 | .nil=>some (.cs [],[],[])| .slc rows _=>bif rows.all (fun r=>Nat.beq r.length n) then some (.cs rows,[],[]) else none
 | .os b sz off len=>bif Nat.beq sz n then
   match th.get b with
   |some (.rows sz' rs)=>match uM len with
    |some m=>bif Nat.beq sz sz'&&Nat.ble (off+m) rs.length then some (.cs ((rs.drop off).take m),[b],[]) else none
    |none=>none
   |some (.fZ sz' t)=>bif Nat.beq sz sz'&&(Nat.beq off 0&&len.beq (.rlen t)) then some (.ts t,[b],[]) else none
   |_=>none
  else none
 |_=>none
theorem xI {n:Nat}{x:SV}{y:Ys}{rd:List Nat}{l:List Side}(ha:Dz ρ th ah)(h:LW pc th n x=some (y,rd,l))(hs:∀s∈l,s.holds P ρ){k:List (List AV)->List Nat->Prop}(hk:k (y.den ρ) rd) :
  ayB ah n (x.den ρ) k:=by
 unfold LW at h;split at h
 .simp only [aj,aJ] at h;obtain ⟨rfl,rfl,rfl⟩:=h;have b0:=hs (.Lh n _) (bT.2 rfl);exact ⟨b0,hk⟩
 .simp only [aj,aJ] at h;obtain ⟨rfl,rfl,rfl⟩:=h;have b0:=hs (.Lh n _) (bT.2 rfl);exact ⟨b0,hk⟩
 .rename_i l';cases h1:Nat.beq n 1
  .simp [h1] at h
  .simp only [h1,cond_true,aj,aJ] at h;obtain ⟨rfl,rfl,rfl⟩:=h;refine ⟨au h1,?_⟩;have e:∀l:List UInt8,fQ ρ (l.map fun b=>[SV.sc (.int .u8) (.li (.ofNat b.toNat))])=l.map fun b=>[AV.p (.int .u8 b.toNat)]:=by
    intro l;induction l with
    |nil=>rfl|cons b l ih=>simp only [aX,fQ,ih];rfl
   rw [<- e];exact hk
 .rename_i t _;cases h1:Nat.beq n 1
  .simp [h1] at h
  .simp only [h1,cond_true,aj,aJ] at h;obtain ⟨rfl,rfl,rfl⟩:=h;exact ⟨au h1,hk⟩
 .simp only [aj,aJ] at h;obtain ⟨rfl,rfl,rfl⟩:=h;exact ⟨KF,hk⟩
 .rename_i rows f;cases hc:rows.all (fun r=>Nat.beq r.length n)
  .simp [hc] at h
  .simp only [hc,cond_true,aj,aJ] at h;obtain ⟨rfl,rfl,rfl⟩:=h;exact ⟨EN hc,hk⟩
 .rename_i b sz off len;cases h1:Nat.beq sz n
  .simp [h1] at h
  .simp only [h1,cond_true] at h;refine ⟨au h1,?_⟩;split at h
   .rename_i sz' rs hb;split at h
    .rename_i m hm;cases h2:Nat.beq sz sz'&&Nat.ble (off+m) rs.length
     .simp [h2] at h
     .simp only [h2,cond_true,aj,aJ] at h;obtain ⟨rfl,rfl,rfl⟩:=h;simp only [ak] at h2;rw [ha _ _ hb];refine ⟨au h2.1,?_,?_⟩
      .rw [(eG hm).2,fC];exact aC h2.2
      .rw [(eG hm).2,xE,xG];exact hk
    .cases h
   .rename_i sz' t hb;cases h2:Nat.beq sz sz'&&(Nat.beq off 0&&len.beq (.rlen t))
    .simp [h2] at h
    .simp only [h2,cond_true,aj,aJ] at h;obtain ⟨rfl,rfl,rfl⟩:=h;simp only [ak] at h2;obtain ⟨c1,c2,c3⟩:=h2;have c2:=au c2;subst c2;have c3:=Tm.beq_eq c3;subst c3;rw [ha _ _ hb];have e:(Tm.den ρ t.rlen).I.toNat=(t.den ρ).R.length:=rfl;refine ⟨au c1,?_,?_⟩
     .rw [e];simp
     .rw [e];simpa [Ys.den] using hk
   .cases h
 .cases h
def Z_ (th:Tr SB)(nv id sz b off:Nat)(len:Tm)(ys:Ys)(rd:List Nat)(l:List Side):Option SR:=
 match th.get b with
 |some (.rows sz' rs)=>match uM len with
  |none=>none|some m=>bif Nat.beq sz sz'&&Nat.ble (off+m) rs.length then
    match ys with
    | .cs rows=>bif Nat.ble (m+rows.length) 4294967296 then some ⟨.os id sz 0 (.li (.ofNat (m+rows.length))),[(b,none),(id,some (.rows sz ((rs.drop off).take m++rows)))],b::rd,l,nv⟩ else none
    | .ts t=>bif Nat.beq m 0 then some ⟨.os id sz 0 (.rlen t),[(b,none),(id,some (.fZ sz t))],b::rd,l++[.len2 0 t],nv⟩
     else some ⟨.os id sz 0 (.rlen (.var nv [])),[(b,none),(id,some (.fZ sz (.var nv [])))],b::rd,l++[.agy sz ((rs.drop off).take m) t (.var nv [])],nv+1⟩
   else none
 |some (.fZ sz' xt)=>bif Nat.beq sz sz'&&Nat.beq off 0 then
   match ys with
   | .cs rows=>some ⟨.os id sz 0 (.rlen (.var nv [])),[(b,none),(id,some (.fZ sz (.var nv [])))],b::rd,l++(aiQ len xt++[.app sz xt rows (.var nv [])]),nv+1⟩| .ts yt=>some ⟨.os id sz 0 (.rlen (.var nv [])),[(b,none),(id,some (.fZ sz (.var nv [])))],b::rd,l++(aiQ len xt++[.ZQ sz xt yt (.var nv [])]),nv+1⟩
  else none
 |_=>none
theorem agQ {sz b off:Nat}{len:Tm}{ys:Ys}{rd:List Nat}{l:List Side}{r:SR}(h:Z_ th nv id sz b off len ys rd l=some r):∀s∈l,s∈r.sd:=by
 intro s hm;unfold Z_ at h;split at h
 .split at h
  .cases h
  .rename_i m hn;generalize (Nat.beq sz _&&Nat.ble (off+m) _)=g at h;cases g
   .cases h
   .simp only [cond_true] at h;split at h
    .rename_i rows;cases h1:Nat.ble (m+rows.length) 4294967296
     .simp [h1] at h
     .simp only [h1,cond_true,aj] at h;subst h;exact hm
    .cases h1:Nat.beq m 0
     .simp only [h1,cond_false,aj] at h;subst h;simp [hm]
     .simp only [h1,cond_true,aj] at h;subst h;simp [hm]
 .generalize (Nat.beq sz _&&Nat.beq off 0)=g at h;cases g
  .cases h
  .simp only [cond_true] at h;split at h<;>(simp only [aj] at h;subst h;simp [hm])
 .cases h
theorem ai8 {sz b off:Nat}{len:Tm}{ys:Ys}{rd:List Nat}{l:List Side}{r:SR}(ha:Dz ρ th ah)(h:Z_ th nv id sz b off len ys rd l=some r)(hs:∀s∈r.sd,s.holds P ρ)(hK:K (r.den ρ)) :
  match ah b with
  |some (.rows sz' rs)=>sz=sz'/\off+(len.den ρ).I.toNat<=rs.length/\(len.den ρ).I.toNat+(ys.den ρ).length<=4294967296/\
    K ⟨.os id sz 0 ((len.den ρ).I.toNat+(ys.den ρ).length),[(b,none),(id,some (.rows sz ((rs.drop off).take (len.den ρ).I.toNat++ys.den ρ)))],b::rd⟩
  |_=>False:=by
 unfold Z_ at h;split at h
 .rename_i sz' rs hb;rw [ha _ _ hb];split at h
  .cases h
  .rename_i m hn;cases h0:(Nat.beq sz sz'&&Nat.ble (off+m) rs.length)
   .simp [h0] at h
   .simp only [h0,cond_true] at h;simp only [ak] at h0;have e0:=au h0.1;have e1:=aC h0.2;subst e0;show sz=sz/\off+(len.den ρ).I.toNat<=(fQ ρ rs).length/\_;rw [(eG hn).2,fC,xE,xG];refine ⟨rfl,e1,?_⟩;split at h
    .rename_i rows;cases h1:Nat.ble (m+rows.length) 4294967296
     .simp [h1] at h
     .simp only [h1,cond_true,aj] at h;subst h;simp only [Ys.den,fC];refine ⟨aC h1,?_⟩;rw [<- vT];exact hK
    .rename_i t;cases h1:Nat.beq m 0
     .simp only [h1,cond_false,aj] at h;subst h;obtain ⟨b1,b2⟩:=hs (.agy sz ((rs.drop off).take m) t (.var nv [])) (by simp);have hlen:((rs.drop off).take m).length=m:=(by simp;omega);rw [hlen] at b1;refine ⟨b1,?_⟩;have:K ⟨.os id sz 0 ((Tm.var nv []).den ρ).R.length,[(b,none),(id,some (.rows sz ((Tm.var nv []).den ρ).R))],b::rd⟩:=hK;rw [b2] at this;simpa [Ys.den,fC,hlen] using this
     .simp only [h1,cond_true,aj] at h;subst h;have e2:=au h1;subst e2;have hl:0+(t.den ρ).R.length<=4294967296:=hs (.len2 0 t) (by simp);refine ⟨hl,?_⟩;have:K ⟨.os id sz 0 (t.den ρ).R.length,[(b,none),(id,some (.rows sz (t.den ρ).R))],b::rd⟩:=hK;simpa [Ys.den,fQ] using this
 .rename_i sz' xt hb;rw [ha _ _ hb];cases h0:(Nat.beq sz sz'&&Nat.beq off 0)
  .simp [h0] at h
  .simp only [h0,cond_true] at h;simp only [ak] at h0;have e0:=au h0.1;have e1:=au h0.2;subst e0;subst e1;split at h
   .rename_i rows;simp only [aj] at h;subst h;have e3:=X7 (P:=P) (ρ:=ρ) (l:=len) (t:=xt) (fun s hm=>hs s (by simp [hm]));rw [e3];obtain ⟨b1,b2,b3⟩:=hs (.app sz xt rows (.var nv [])) (by simp);refine ⟨rfl,by simp [SB.den],by simpa [Ys.den,fC] using b2,?_⟩;have:K ⟨.os id sz 0 ((Tm.var nv []).den ρ).R.length,[(b,none),(id,some (.rows sz ((Tm.var nv []).den ρ).R))],b::rd⟩:=hK;rw [b3] at this;simpa [Ys.den] using this
   .rename_i yt;simp only [aj] at h;subst h;have e3:=X7 (P:=P) (ρ:=ρ) (l:=len) (t:=xt) (fun s hm=>hs s (by simp [hm]));rw [e3];obtain ⟨b1,b1',b2,b3⟩:=hs (.ZQ sz xt yt (.var nv [])) (by simp);refine ⟨rfl,by simp [SB.den],by simpa [Ys.den] using b2,?_⟩;have:K ⟨.os id sz 0 ((Tm.var nv []).den ρ).R.length,[(b,none),(id,some (.rows sz ((Tm.var nv []).den ρ).R))],b::rd⟩:=hK;rw [b3] at this;simpa [Ys.den] using this
 .cases h
def Wp : SV->SV
 | .slc [] true=>.nil|x=>x
theorem Wq {x:SV}:(Wp x).den ρ=x.den ρ:=by unfold Wp;split<;>rfl
def LX (P:Program)(pc:Pc)(th:Tr SB)(nv id:Nat)(t t2:TypeId)(x y:SV):Option SR:=
 match iP P t with
 |none=>none|some e=>
  bif Nat.ble e.2 4096&&(!Nat.beq e.1 0)&&(match P.underlying t2 with|some (.int _)|none=>false|_=>true)&&
    (match (((P.underlying t).bind fun d=>match d with | .slice el=>ays P el|_=>none).map List.length) with|some n=>Nat.beq n e.1|none=>false) then
   match LW pc th e.1 y with
   |none=>none|some (ys,rd,l)=>
    match Wp x with
    | .nil=>match ys with
     | .cs rows=>bif Nat.ble rows.length 4294967296 then some ⟨.os id e.1 0 (.li (.ofNat rows.length)),[(id,some (.rows e.1 rows))],rd,l,nv⟩ else none
     | .ts t=>some ⟨.os id e.1 0 (.rlen t),[(id,some (.fZ e.1 t))],rd,l++[.len2 0 t],nv⟩
    | .sf xt=>match ys with
     | .cs rows=>bif Nat.beq rows.length 0 then none else some ⟨.os id e.1 0 (.rlen (.var nv [])),[(id,some (.fZ e.1 (.var nv [])))],rd,l++[.app e.1 xt rows (.var nv [])],nv+1⟩
     |_=>none
    | .os b sz off len=>bif Nat.beq sz e.1 then Z_ th nv id e.1 b off len ys rd l else none
    | .slc rs true=>match ys with
     | .cs rows=>bif (rs.all (fun r=>Nat.beq r.length e.1)&&!Nat.beq rows.length 0)&&Nat.ble (rs.length+rows.length) 4294967296 then some ⟨.os id e.1 0 (.li (.ofNat (rs.length+rows.length))),[(id,some (.rows e.1 (rs++rows)))],rd,l,nv⟩ else none
     |_=>none
    |_=>none
  else none
theorem KG {t t2:TypeId}{x y:SV}{r:SR}(ha:Dz ρ th ah)(h:LX P pc th nv id t t2 x y=some r)(hs:∀s∈r.sd,s.holds P ρ)(hK:K (r.den ρ)):vK P id ah t t2 (x.den ρ) (y.den ρ) K:=by
 unfold LX at h;split at h
 .cases h
 .rename_i e he;refine dG.2 ⟨e,he,?_⟩;generalize hg:(Nat.ble e.2 4096&&(!Nat.beq e.1 0)&&(match P.underlying t2 with|some (.int _)|none=>false|_=>true)&&
    (match (((P.underlying t).bind fun d=>match d with | .slice el=>ays P el|_=>none).map List.length) with|some n=>Nat.beq n e.1|none=>false))=g at h
  cases g
  .cases h
  .simp only [cond_true] at h;simp only [ak,Bool.not_eq_true'] at hg;obtain ⟨⟨⟨g1,g2⟩,g3⟩,g4⟩:=hg;refine ⟨aC g1,fun e0=>by rw [e0] at g2;simp at g2,?_,?_,?_⟩
   .split at g3<;>first|(cases g3;done)|skip
    rename_i n1 n2;split
    .exact n1 _ (by assumption)
    .exact n2 (by assumption)
    .trivial
   .generalize hq:((P.underlying t).bind fun d=>match d with | .slice el=>ays P el|_=>none).map List.length=q at g4 ⊢;cases q with
    |none=>cases g4
    |some n=>rw [au g4]
   split at h
   .cases h
   .rename_i ys rd l hys;have inl:(∀s∈l,s∈r.sd)->∀{k:List (List AV)->List Nat->Prop},k (ys.den ρ) rd->ayB ah e.1 (y.den ρ) k:=fun hsub k hk=>xI (P:=P) ha hys (fun s hm=>hs s (hsub s hm)) hk;rw [<- Wq (x:=x)];generalize Wp x=x' at h ⊢;split at h
    ·
     split at h
     .rename_i rows;cases h1:Nat.ble rows.length 4294967296
      .simp [h1] at h
      .simp only [h1,cond_true,aj] at h;subst h;refine inl (fun s hm=>hm) ⟨KF,rfl,.inl rfl,?_,?_⟩
       .simp only [Ys.den,fC,List.length_nil,Nat.zero_add];exact aC h1
       .have:K ⟨.os id e.1 0 rows.length,[(id,some (.rows e.1 (fQ ρ rows)))],rd⟩:=hK;simpa [Ys.den,fC] using this
     .rename_i t;simp only [aj] at h;subst h;have hl:0+(t.den ρ).R.length<=4294967296:=hs (.len2 0 t) (by simp);refine inl (fun s hm=>by simp [hm]) ⟨KF,rfl,.inl rfl,?_,?_⟩
      .simpa [Ys.den] using hl
      .have:K ⟨.os id e.1 0 (t.den ρ).R.length,[(id,some (.rows e.1 (t.den ρ).R))],rd⟩:=hK;simpa [Ys.den] using this
    .rename_i xt;split at h
     .rename_i rows;cases h1:Nat.beq rows.length 0
      .simp only [h1,cond_false,aj] at h;subst h;obtain ⟨b1,b2,b3⟩:=hs (.app e.1 xt rows (.var nv [])) (by simp);refine inl (fun s hm=>by simp [hm]) ⟨b1,rfl,.inr ?_,?_,?_⟩
       .intro e0;have:rows.length=0:=(by rw [<- fC (ρ:=ρ)];simp only [Ys.den] at e0;rw [e0];rfl);rw [this] at h1;simp at h1
       .simpa [Ys.den,fC] using b2
       .have:K ⟨.os id e.1 0 ((Tm.var nv []).den ρ).R.length,[(id,some (.rows e.1 ((Tm.var nv []).den ρ).R))],rd⟩:=hK;rw [b3] at this;simpa [Ys.den] using this
      .simp [h1] at h
     .cases h
    .rename_i b sz off len;cases h1:Nat.beq sz e.1
     .simp [h1] at h
     .simp only [h1,cond_true] at h;have e1:=au h1;subst e1;exact inl (agQ h) ⟨rfl,ai8 (P:=P) ha h hs hK⟩
    .rename_i rs;split at h
     .rename_i rows;cases h1:((rs.all (fun r=>Nat.beq r.length e.1)&&!Nat.beq rows.length 0)&&Nat.ble (rs.length+rows.length) 4294967296)
      .simp [h1] at h
      .simp only [h1,cond_true,aj] at h;subst h;simp only [ak,Bool.not_eq_true',aF] at h1;obtain ⟨⟨b1,b2⟩,b3⟩:=h1;refine inl (fun s hm=>hm) ⟨fun row hrow=>?_,rfl,.inr ?_,?_,?_⟩
       .rw [jd,aU] at hrow;obtain ⟨r,hr,rfl⟩:=hrow;rw [dX];exact au (b1 r hr)
       .intro e0;have:rows.length=0:=(by rw [<- fC (ρ:=ρ)];simp only [Ys.den] at e0;rw [e0];rfl);rw [this] at b2;simp at b2
       .simp only [Ys.den,fC];exact aC b3
       .have:K ⟨.os id e.1 0 (rs.length+rows.length),[(id,some (.rows e.1 (fQ ρ (rs++rows))))],rd⟩:=hK;simpa [Ys.den,fC,vT] using this
     .cases h
    .cases h
end
end Go.Fw
end
section
namespace Go.Fw
variable [iT]
 mutual
def AV.fz : AV->Bool
  | .p _ | .str _ | .nan=>true| .agg cs=>fU cs| .gW cs=>fU cs| .sl rows full=>!full&&EO rows| .vp row _=>fU row| .fn _ x y=>fU x&&fU y| .kY _ v=>v.fz| .os .. | .op .. | .mp _=>false
def fU : List AV->Bool
  |[]=>true|a::r=>a.fz&&fU r
def EO : List (List AV)->Bool
  |[]=>true|a::r=>fU a&&EO r
end
 mutual
theorem aac : ∀{a:AV},a.fz=true->a.clean=true
  | .p _,_=>rfl| .str _,_=>rfl| .nan,_=>rfl| .agg cs,h=>xJ (l:=cs) h| .gW cs,h=>xJ (l:=cs) h| .sl rows full,h=>by simp only [AV.fz,ak] at h;exact gQ h.2
  | .vp row _,h=>xJ (l:=row) h| .fn _ x y,h=>by simp only [AV.fz,ak] at h;simp only [AV.clean,xJ h.1,xJ h.2,Bool.and_self]
  | .kY _ v,h=>aac (a:=v) h| .os ..,h=>by simp [AV.fz] at h
  | .op ..,h=>by simp [AV.fz] at h
  | .mp _,h=>by simp [AV.fz] at h
theorem xJ : ∀{l:List AV},fU l=true->iO l=true
  |[],_=>rfl|a::r,h=>by simp only [fU,ak] at h;simp only [iO,aac h.1,xJ h.2,Bool.and_self]
theorem gQ : ∀{l:List (List AV)},EO l=true->fJ l=true
  |[],_=>rfl|a::r,h=>by simp only [EO,ak] at h;simp only [fJ,xJ h.1,gQ h.2,Bool.and_self]
end
 mutual
theorem acO {ah:AH}:∀{a:AV},a.fz=true->jE ah a=some a
  | .p _,_=>rfl| .str _,_=>rfl| .nan,_=>rfl| .agg cs,h=>by simp only [jE,vU (ah:=ah) (l:=cs) h];rfl
  | .gW cs,h=>by simp only [jE,vU (ah:=ah) (l:=cs) h];rfl
  | .sl rows full,h=>by
   simp only [AV.fz,ak,Bool.not_eq_true'] at h;simp only [jE,AX (ah:=ah) h.2,h.1];rfl
  | .vp row _,h=>by simp only [jE,vU (ah:=ah) (l:=row) h];rfl
  | .fn _ x y,h=>by simp only [AV.fz,ak] at h;simp only [jE,vU (ah:=ah) h.1,vU (ah:=ah) h.2];rfl
  | .kY _ v,h=>by simp only [jE,acO (ah:=ah) (a:=v) h];rfl
  | .os ..,h=>by simp [AV.fz] at h
  | .op ..,h=>by simp [AV.fz] at h
  | .mp _,h=>by simp [AV.fz] at h
theorem vU {ah:AH}:∀{l:List AV},fU l=true->lI ah l=some l
  |[],_=>rfl|a::r,h=>by simp only [fU,ak] at h;simp only [lI,acO (ah:=ah) h.1,vU (ah:=ah) h.2];rfl
theorem AX {ah:AH}:∀{l:List (List AV)},EO l=true->lK ah l=some l
  |[],_=>rfl|a::r,h=>by simp only [EO,ak] at h;simp only [lK,vU (ah:=ah) h.1,AX (ah:=ah) h.2];rfl
end
theorem QB : ∀{l:List AV} {j:Nat},fU l=true->(l.getD j eX).fz=true
 |[],j,_=>rfl|a::r,0,h=>by simp only [fU,ak] at h;exact h.1
 |a::r,j+1,h=>by simp only [fU,ak] at h;simpa using QB (j:=j) h.2
theorem Ol : ∀{p:List Nat} {a:AV},a.fz=true->(ayr a p).fz=true
 |[],a,h=>by cases a<;>exact h
 |j::p,.agg l,h=>Ol (p:=p) (QB (j:=j) h)|j::p,.gW l,h=>Ol (p:=p) (QB (j:=j) h)|j::p,.p _,_|j::p,.str _,_|j::p,.nan,_|j::p,.sl ..,_|j::p,.vp ..,_|j::p,.fn ..,_|j::p,.kY ..,_|j::p,.os ..,_|j::p,.op ..,_|j::p,.mp _,_=>rfl
theorem auc {a:AV}(h:a.fz=true):EO a.D.R=true:=by
 cases a with
 |sl rows full=>simp only [AV.fz,ak] at h;exact h.2|p v=>cases v<;>rfl
 |_=>rfl
theorem aud {d:D}(h:∀l,d≠.r l):d.R=[]:=by cases d<;>first|rfl|exact absurd rfl (h _)
theorem Ws : ∀{l:List (List AV)} {n:Nat},EO l=true->EO (l.drop n)=true
 |l,0,h=>h|[],n+1,h=>rfl|a::r,n+1,h=>by simp only [EO,ak] at h;simpa using Ws (n:=n) h.2
theorem Tm.kH {ρ:List AV}(hρ:fU ρ=true):∀t:Tm,EO (t.den ρ).R=true
 | .lb _ | .li _ | .lf _ | .ls _ | .nl=>rfl| .var i p=>auc (Ol (QB hρ))| .bin o k x y=>by simp only [Tm.den,aud (X4 o k _ _)];rfl
 | .not _ | .and _ _ | .or _ _ | .com _ _ | .conv _ _ | .toF _ | .ZJ _ | .slen _ | .rlen _ | .byte _ _ | .Gj _ _ _ | .bts _=>rfl| .sbs x=>by
  show EO ((x.den ρ).S.map azb)=true;induction (x.den ρ).S with
  |nil=>rfl|cons b l ih=>simp only [aX,EO,ih,Bool.and_true];rfl
 | .G9 n x=>Ws (n:=n) (Tm.kH hρ x)| .neg k x=>by cases k<;>rfl
 | .ite c x y=>by
  rw [Tm.oh];cases (c.den ρ).B
  .exact Tm.kH hρ y
  .exact Tm.kH hρ x
def Weak (a b:AV):Prop:=∀w E v,Rep w E a v->Rep w E b v
theorem Weak.refl (a:AV):Weak a a:=fun _ _ _ h=>h
theorem fG.weak {w:World}{E:Env}:∀{az bs:List AV} {vs:List Value},az.length=bs.length->(∀(i:Nat) (a b:AV),az[i]?=some a->bs[i]?=some b->Weak a b)->fG w E az vs->fG w E bs vs
 |az,bs,vs,hl,hw,h=>by
  refine ⟨by rw [<- hl,h.1],fun i b v hb hv=>?_⟩;have hi:i<az.length:=by rw [hl];exact (aA.1 hb).1
  have ha:az[i]?=some az[i]:=by simp [hi]
  exact hw i _ b ha hb _ _ _ (h.2 i _ v ha hv)
inductive tu : List AV->List AV->Prop
 |nil:tu [] []
 |cons {a b:AV} {r s:List AV} (h:Weak a b) (hs:b.iL=a.iL) (k:tu r s):tu (a::r) (b::s)
theorem tu.length {az bs:List AV}(h:tu az bs):az.length=bs.length:=by induction h<;>simp_all
theorem tu.get {az bs:List AV}(h:tu az bs):∀(i:Nat) (a b:AV),az[i]?=some a->bs[i]?=some b->Weak a b/\b.iL=a.iL:=by
 induction h with
 |nil=>intro i a b h;simp at h|cons h hs k ih=>
  intro i a b ha hb;cases i with
  |zero=>simp at ha hb;subst ha;subst hb;exact ⟨h,hs⟩|succ i=>simp at ha hb;exact ih i a b ha hb
theorem tu.refl : ∀l:List AV,tu l l
 |[]=>.nil|a::r=>.cons (Weak.refl a) rfl (tu.refl r)
inductive oM : List (List AV)->List (List AV)->Prop
 |nil:oM [] []
 |cons {a b:List AV} {r s:List (List AV)} (h:tu a b) (k:oM r s):oM (a::r) (b::s)
theorem oM.length {az bs:List (List AV)}(h:oM az bs):az.length=bs.length:=by induction h<;>simp_all
theorem oM.get {az bs:List (List AV)}(h:oM az bs):∀(i:Nat) (b:List AV),bs[i]?=some b->∃a,az[i]?=some a/\tu a b:=by
 induction h with
 |nil=>intro i b h;simp at h|cons h k ih=>
  intro i b hb;cases i with
  |zero=>simp at hb;subst hb;exact ⟨_,rfl,h⟩|succ i=>simp at hb;simpa using ih i b hb
theorem oM.refl : ∀l:List (List AV),oM l l
 |[]=>.nil|a::r=>.cons (tu.refl a) (oM.refl r)
theorem Weak.agg {az bs:List AV}(h:tu az bs):Weak (.agg az) (.agg bs):=by
 intro w E v hr;cases hr with
 |agg cs vs hl hs hc=>
  refine .agg bs vs (by rw [<- h.length,hl]) (fun c hm=>?_) (fun i c v hc' hv=>?_)
  .obtain ⟨i,hi⟩:=qP hm;have hlt:i<az.length:=(by rw [h.length];exact (aA.1 hi).1);have ha:az[i]?=some az[i]:=(by simp [hlt]);rw [(h.get i _ c ha hi).2];exact hs _ (aG ha)
  .have hlt:i<az.length:=(by rw [h.length];exact (aA.1 hc').1);have ha:az[i]?=some az[i]:=(by simp [hlt]);exact (h.get i _ c ha hc').1 _ _ _ (hc i _ v ha hv)
theorem Weak.gW {az bs:List AV}(h:tu az bs):Weak (.gW az) (.gW bs):=by
 intro w E v hr;cases hr with
 |gW cs vs hl hc=>
  refine .gW bs vs (by rw [<- h.length,hl]) (fun i c v hc' hv=>?_);have hlt:i<az.length:=by rw [h.length];exact (aA.1 hc').1
  have ha:az[i]?=some az[i]:=by simp [hlt]
  exact (h.get i _ c ha hc').1 _ _ _ (hc i _ v ha hv)
theorem Weak.kY {t:TypeId}{a b:AV}(h:Weak a b):Weak (.kY t a) (.kY t b):=by
 intro w E v hr;cases hr with
 |kY t a v hv=>exact .kY t b v (h _ _ _ hv)
theorem Weak.sl {az bs:List (List AV)}(h:oM az bs)(full:Bool):Weak (.sl az full) (.sl bs false):=by
 intro w E v hr;cases hr with
 |slnil=>
  have:=h.length;have:bs=[]:=by cases bs with|nil=>rfl|cons=>simp at this
  subst this;exact .slnil false _
 |sl rows full sz c o cap g hcap hfull hsz hfix hcell iQ hrep=>
  have key:∀{i j:Nat} {row:List AV} {x:AV},bs[i]?=some row->row[j]?=some x->∃row' x',az[i]?=some row'/\row'[j]?=some x'/\Weak x' x/\x.iL=x'.iL:=by
   intro i j row x hr hx;obtain ⟨row',hr',hw⟩:=h.get i row hr;have hlt:j<row'.length:=(by rw [hw.length];exact (aA.1 hx).1);have hx':row'[j]?=some row'[j]:=(by simp [hlt]);exact ⟨row',_,hr',hx',(hw.get j _ x hx' hx).1,(hw.get j _ x hx' hx).2⟩
  rw [h.length];refine .sl bs false sz c o cap g (by rw [<- h.length];exact hcap) (fun e=>by cases e) (fun i row hr=>?_) (fun i row j x hr hx=>?_) (fun i row j x hr hx=>?_) (fun row hm x hx=>?_) (fun i row j x hr hx=>?_)
  .obtain ⟨row',hr',hw⟩:=h.get i row hr;rw [<- hw.length];exact hsz i row' hr'
  .obtain ⟨row',x',q1,q2,-,-⟩:=key hr hx;exact hfix i row' j x' q1 q2
  .obtain ⟨row',x',q1,q2,-,-⟩:=key hr hx;exact hcell i row' j x' q1 q2
  .obtain ⟨i,hi⟩:=qP hm;obtain ⟨j,hj⟩:=qP hx;obtain ⟨row',x',q1,q2,-,q3⟩:=key hi hj;rw [q3];exact iQ row' (aG q1) x' (aG q2)
  .obtain ⟨row',x',q1,q2,q3,-⟩:=key hr hx;exact q3 _ _ _ (hrep i row' j x' q1 q2)
theorem Weak.vp {az bs:List AV}(h:tu az bs)(off:Nat):Weak (.vp az off) (.vp bs off):=by
 intro w E v hr;cases hr with
 |vp row off c o g hfix hcell iQ hrep=>
  have key:∀{j:Nat} {x:AV},bs[j]?=some x->∃x',az[j]?=some x'/\Weak x' x/\x.iL=x'.iL:=by
   intro j x hx;have hlt:j<az.length:=(by rw [h.length];exact (aA.1 hx).1);have hx':az[j]?=some az[j]:=(by simp [hlt]);exact ⟨_,hx',(h.get j _ x hx' hx).1,(h.get j _ x hx' hx).2⟩
  refine .vp bs off c o g (fun j x hx=>?_) (fun j x hx=>?_) (fun x hm=>?_) (fun j x hx=>?_)
  .obtain ⟨x',q1,-,-⟩:=key hx;exact hfix j x' q1
  .obtain ⟨x',q1,-,-⟩:=key hx;exact hcell j x' q1
  .obtain ⟨j,hj⟩:=qP hm;obtain ⟨x',q1,-,q3⟩:=key hj;rw [q3];exact iQ x' (aG q1)
  .obtain ⟨x',q1,q2,-⟩:=key hx;exact q2 _ _ _ (hrep j x' q1)
end Go.Fw
end
section
namespace Go.Fw
variable [iT]
 mutual
def SV.cln : SV->Bool
  | .agg l | .gW l=>DF l| .slc r _=>BU r| .vp row _=>DF row| .fn _ x y=>DF x&&DF y| .kY _ v=>v.cln| .os .. | .op .. | .mp _ | .ost ..=>false|_=>true
def DF : List SV->Bool
  |[]=>true|x::r=>x.cln&&DF r
def BU : List (List SV)->Bool
  |[]=>true|x::r=>DF x&&BU r
end
 mutual
def SV.zx : SV->List Nat
  | .agg l | .gW l=>zy l| .slc r _=>BX r| .vp row _=>zy row| .fn _ x y=>zy x++zy y| .kY _ v=>v.zx| .os b _ _ _=>[b]| .op b _ _ _=>[b]| .mp b=>[b]| .ost b _ _ _=>[b]|_=>[]
def zy : List SV->List Nat
  |[]=>[]|x::r=>x.zx++zy r
def BX : List (List SV)->List Nat
  |[]=>[]|x::r=>zy x++BX r
end
 mutual
def SV.jL : SV->Bool
  | .sc .sl _=>false| .sc _ _=>true| .c _=>true| .nil | .nan=>true| .agg l | .gW l=>acP l| .kY _ v=>v.jL| .slc [] _=>true| .sf .nl=>true|_=>false
def acP : List SV->Bool
  |[]=>true|x::r=>x.jL&&acP r
end
section
variable {ρ : List AV} (hρ:fU ρ=true)
 include hρ
 mutual
theorem Yi : ∀{x:SV},x.cln=true->(x.den ρ).clean=true
  | .sc k t,_=>by cases k<;>first|rfl|exact gQ (Tm.kH hρ t)
  | .c v,_=>rfl| .nil,_=>rfl| .nan,_=>rfl| .sf t,_=>gQ (Tm.kH hρ t)| .agg l,h=>vV (l:=l) h| .gW l,h=>vV (l:=l) h| .slc r _,h=>Ac (l:=r) h| .vp row _,h=>vV (l:=row) h| .fn _ x y,h=>by simp only [SV.cln,ak] at h;simp only [SV.den,AV.clean,vV h.1,vV h.2,Bool.and_self]
  | .kY _ v,h=>Yi (x:=v) h| .os ..,h=>by simp [SV.cln] at h
  | .op ..,h=>by simp [SV.cln] at h
  | .mp _,h=>by simp [SV.cln] at h
  | .ost ..,h=>by simp [SV.cln] at h
theorem vV : ∀{l:List SV},DF l=true->iO (dK ρ l)=true
  |[],_=>rfl|x::r,h=>by simp only [DF,ak] at h;simp only [dK,iO,Yi h.1,vV h.2,Bool.and_self]
theorem Ac : ∀{l:List (List SV)},BU l=true->fJ (fQ ρ l)=true
  |[],_=>rfl|x::r,h=>by simp only [BU,ak] at h;simp only [fQ,fJ,vV h.1,Ac h.2,Bool.and_self]
end
 mutual
theorem qm : ∀{x:SV},(x.den ρ).refs=x.zx
  | .sc k t=>by cases k<;>first|rfl|exact kZ (gQ (Tm.kH hρ t))
  | .c v=>rfl| .nil=>rfl| .nan=>rfl| .sf t=>kZ (gQ (Tm.kH hρ t))| .agg l=>oz (l:=l)| .gW l=>oz (l:=l)| .slc r _=>xK (l:=r)| .vp row _=>oz (l:=row)| .fn _ x y=>by simp only [SV.den,AV.refs,oz,SV.zx]
  | .kY _ v=>qm (x:=v)| .os ..=>rfl| .op ..=>rfl| .mp _=>rfl| .ost ..=>rfl
theorem oz : ∀{l:List SV},jf (dK ρ l)=zy l
  |[]=>rfl|x::r=>by simp only [dK,jf,qm,oz,zy]
theorem xK : ∀{l:List (List SV)},jo (fQ ρ l)=BX l
  |[]=>rfl|x::r=>by simp only [fQ,jo,oz,xK,BX]
end
 omit hρ in
 mutual
theorem I5 : ∀{x:SV},x.jL=true->(x.den ρ).flat=true
  | .sc k t,h=>by cases k<;>first|rfl|(simp [SV.jL] at h)
  | .c v,_=>rfl| .nil,_=>rfl| .nan,_=>rfl| .agg l,h=>Hq (l:=l) h| .gW l,h=>Hq (l:=l) h| .kY _ v,h=>I5 (x:=v) h| .sf t,h=>by cases t<;>first|rfl|(simp [SV.jL] at h)
  | .slc [] _,h=>rfl| .slc (_::_) _,h=>by simp [SV.jL] at h
  | .vp ..,h=>by simp [SV.jL] at h
  | .fn ..,h=>by simp [SV.jL] at h
  | .os ..,h=>by simp [SV.jL] at h
  | .op ..,h=>by simp [SV.jL] at h
  | .mp _,h=>by simp [SV.jL] at h
  | .ost ..,h=>by simp [SV.jL] at h
theorem Hq : ∀{l:List SV},acP l=true->y8 (dK ρ l)=true
  |[],_=>rfl|x::r,h=>by simp only [acP,ak] at h;simp only [dK,y8,I5 h.1,Hq h.2,Bool.and_self]
end
end
 mutual
def SV.nrm : SV->SV
  | .nil=>.slc [] false| .sf t=>.sc .sl t| .agg l=>.agg (jK l)| .gW l=>.gW (jK l)| .slc r _=>.slc (aad r) false| .vp row off=>.vp (jK row) off| .kY t v=>.kY t v.nrm|x=>x
def jK : List SV->List SV
  |[]=>[]|x::r=>x.nrm::jK r
def aad : List (List SV)->List (List SV)
  |[]=>[]|x::r=>jK x::aad r
end
section
variable {ρ : List AV}
 mutual
theorem aae : ∀{x:SV},(x.nrm.den ρ).iL=(x.den ρ).iL
  | .sc .. | .c _ | .nil | .nan | .sf _ | .agg _ | .gW _ | .slc .. | .vp .. | .fn .. | .kY .. | .os .. | .op .. | .mp _ | .ost ..=>rfl
theorem AY : ∀{x:SV},Weak (x.den ρ) (x.nrm.den ρ)
  | .sc k t=>Weak.refl _| .c v=>Weak.refl _| .nil=>Weak.sl .nil true| .nan=>Weak.refl _| .sf t=>Weak.sl (oM.refl _) true| .agg l=>Weak.agg (lS (l:=l))| .gW l=>Weak.gW (lS (l:=l))| .slc r f=>Weak.sl (xM (l:=r)) f| .vp row off=>Weak.vp (lS (l:=row)) off| .fn ..=>Weak.refl _| .kY t v=>Weak.kY (AY (x:=v))| .os ..=>Weak.refl _| .op ..=>Weak.refl _| .mp _=>Weak.refl _| .ost ..=>Weak.refl _
theorem lS : ∀{l:List SV},tu (dK ρ l) (dK ρ (jK l))
  |[]=>.nil|x::r=>.cons AY aae lS
theorem xM : ∀{l:List (List SV)},oM (fQ ρ l) (fQ ρ (aad l))
  |[]=>.nil|x::r=>.cons lS xM
end
end
def AhG (ρ:List AV)(g:Nat->Option SB)(ah:AH):Prop:=∀b k,g b=some k->ah b=some (k.den ρ)
def apH (th:Nat->Option SB)(b sz off:Nat)(len:Tm):Option SV:=
 match th b with
 |some (.rows sz' rs)=>match uM len with
  |some m=>bif Nat.beq sz sz'&&(Nat.ble (off+m) rs.length&&BU rs) then some (.slc ((rs.drop off).take m) false) else none
  |none=>none
 |some (.fZ sz' t)=>bif Nat.beq sz sz'&&(Nat.beq off 0&&len.beq (.rlen t)) then some (.sc .sl t) else none
 |_=>none
def apI (th:Nat->Option SB)(b sz:Nat)(i:Tm)(off:Nat):Option SV:=
 match th b with
 |some (.rows sz' rs)=>match uM i with
  |some m=>bif Nat.beq sz sz'&&BU rs then (zu rs m).map fun row=>.vp row off else none
  |none=>none
 |_=>none
 mutual
def SV.jE (th:Nat->Option SB):SV->Option SV
  | .sc k t=>some (.sc k t)| .c v=>some (.c v)| .nil=>some (.slc [] false)| .nan=>some .nan| .sf t=>some (.sc .sl t)| .agg l=>match BZ th l with|some l=>some (.agg l)|none=>none
  | .gW l=>match BZ th l with|some l=>some (.gW l)|none=>none
  | .slc r _=>match KH th r with|some r=>some (.slc r false)|none=>none
  | .vp row off=>match BZ th row with|some l=>some (.vp l off)|none=>none
  | .fn f x y=>match BZ th x,BZ th y with|some x,some y=>some (.fn f x y)|_,_=>none
  | .kY t v=>match v.jE th with|some v=>some (.kY t v)|none=>none
  | .os b sz off len=>apH th b sz off len| .op b sz i off=>apI th b sz i off| .mp _=>none| .ost ..=>none
def BZ (th:Nat->Option SB):List SV->Option (List SV)
  |[]=>some []|x::r=>match x.jE th,BZ th r with|some a,some l=>some (a::l)|_,_=>none
def KH (th:Nat->Option SB):List (List SV)->Option (List (List SV))
  |[]=>some []|x::r=>match BZ th x,KH th r with|some a,some l=>some (a::l)|_,_=>none
end
section
variable {ρ : List AV} (hρ:fU ρ=true) {th:Nat->Option SB} {ah:AH} (ha:AhG ρ th ah)
 include hρ ha
theorem ai9 {b sz off:Nat}{len:Tm}{y:SV}(h:apH th b sz off len=some y):Go.Fw.jE ah (.os b sz off (len.den ρ).I.toNat)=some (y.den ρ):=by
 unfold apH at h;split at h
 .rename_i sz' rs hb;split at h
  .rename_i m hm;cases h0:Nat.beq sz sz'&&(Nat.ble (off+m) rs.length&&BU rs)
   .simp [h0] at h
   .simp only [h0,cond_true,aj] at h;subst h;simp only [ak] at h0;simp only [Go.Fw.jE,ha _ _ hb,SB.den];rw [if_pos ⟨au h0.1,by rw [(eG hm).2,fC];exact aC h0.2.1,Ac hρ h0.2.2⟩,(eG hm).2,xE,xG];rfl
  .cases h
 .rename_i sz' t hb;cases h0:Nat.beq sz sz'&&(Nat.beq off 0&&len.beq (.rlen t))
  .simp [h0] at h
  .simp only [h0,cond_true,aj] at h;subst h;simp only [ak] at h0;have e1:=au h0.2.1;have e2:=Tm.beq_eq h0.2.2;subst e1;subst e2;have e3:(Tm.den ρ t.rlen).I.toNat=(t.den ρ).R.length:=rfl;simp only [Go.Fw.jE,ha _ _ hb,SB.den,e3];rw [if_pos ⟨au h0.1,by simp,gQ (Tm.kH hρ t)⟩];simp [SV.den,Kd.av]
 .cases h
theorem ai_ {b sz off:Nat}{i:Tm}{y:SV}(h:apI th b sz i off=some y):Go.Fw.jE ah (.op b sz (i.den ρ).I.toNat off)=some (y.den ρ):=by
 unfold apI at h;split at h
 .rename_i sz' rs hb;split at h
  .rename_i m hm;cases h0:Nat.beq sz sz'&&BU rs
   .simp [h0] at h
   .simp only [h0,cond_true,ay] at h;obtain ⟨row,hrow,rfl⟩:=h;simp only [ak] at h0;simp only [Go.Fw.jE,ha _ _ hb,SB.den];rw [if_pos ⟨au h0.1,Ac hρ h0.2⟩,(eG hm).2,Aa hrow];rfl
  .cases h
 .cases h
 mutual
theorem I7 : ∀{x y:SV},x.jE th=some y->Go.Fw.jE ah (x.den ρ)=some (y.den ρ)
  | .sc k t,y,h=>by
   simp only [SV.jE,aj] at h;subst h;cases k<;>first|rfl|(simp only [SV.den,Kd.av,Go.Fw.jE,AX (ah:=ah) (Tm.kH hρ t)];rfl)
  | .c v,y,h=>by simp only [SV.jE,aj] at h;subst h;rfl
  | .nil,y,h=>by simp only [SV.jE,aj] at h;subst h;rfl
  | .nan,y,h=>by simp only [SV.jE,aj] at h;subst h;rfl
  | .sf t,y,h=>by
   simp only [SV.jE,aj] at h;subst h;simp only [SV.den,Kd.av,Go.Fw.jE,AX (ah:=ah) (Tm.kH hρ t)];rfl
  | .agg l,y,h=>by
   simp only [SV.jE] at h;split at h
   .rename_i m hm;simp only [aj] at h;subst h;simp only [SV.den,Go.Fw.jE,rM hm];rfl
   .cases h
  | .gW l,y,h=>by
   simp only [SV.jE] at h;split at h
   .rename_i m hm;simp only [aj] at h;subst h;simp only [SV.den,Go.Fw.jE,rM hm];rfl
   .cases h
  | .slc r f,y,h=>by
   simp only [SV.jE] at h;split at h
   .rename_i m hm;simp only [aj] at h;subst h;simp only [SV.den,Go.Fw.jE,I8 hm];rfl
   .cases h
  | .vp row off,y,h=>by
   simp only [SV.jE] at h;split at h
   .rename_i m hm;simp only [aj] at h;subst h;simp only [SV.den,Go.Fw.jE,rM hm];rfl
   .cases h
  | .fn f x z,y,h=>by
   simp only [SV.jE] at h;split at h
   .rename_i m n hm hn;simp only [aj] at h;subst h;simp only [SV.den,Go.Fw.jE,rM hm,rM hn];rfl
   .cases h
  | .kY t v,y,h=>by
   simp only [SV.jE] at h;split at h
   .rename_i m hm;simp only [aj] at h;subst h;simp only [SV.den,Go.Fw.jE,I7 hm];rfl
   .cases h
  | .os b sz off len,y,h=>ai9 hρ ha h| .op b sz i off,y,h=>ai_ hρ ha h| .mp _,y,h=>by simp [SV.jE] at h
  | .ost ..,y,h=>by simp [SV.jE] at h
theorem rM : ∀{l m:List SV},BZ th l=some m->lI ah (dK ρ l)=some (dK ρ m)
  |[],m,h=>by simp only [BZ,aj] at h;subst h;rfl
  |x::r,m,h=>by
   simp only [BZ] at h;split at h
   .rename_i a l ha' hl;simp only [aj] at h;subst h;simp only [dK,lI,I7 ha',rM hl];rfl
   .cases h
theorem I8 : ∀{l m:List (List SV)},KH th l=some m->lK ah (fQ ρ l)=some (fQ ρ m)
  |[],m,h=>by simp only [KH,aj] at h;subst h;rfl
  |x::r,m,h=>by
   simp only [KH] at h;split at h
   .rename_i a l ha' hl;simp only [aj] at h;subst h;simp only [fQ,lK,rM ha',I8 hl];rfl
   .cases h
end
end
def thN (th:Tr SB):Nat->Nat->Option SB
 |0=>th.get|n+1=>fun b=>match th.get b with
  |some (.rows sz rs)=>bif BU rs then some (.rows sz rs) else match KH (thN th n) rs with
   |some r=>some (.rows sz r)|none=>none
  |some (.mQ ..)=>none|k=>k
 mutual
theorem aeO {ρ:List AV}(hρ:fU ρ=true):∀{x:SV},(x.den ρ).clean=x.cln
  | .sc k t=>by cases k<;>first|rfl|exact gQ (Tm.kH hρ t)
  | .c v=>rfl| .nil=>rfl| .nan=>rfl| .sf t=>gQ (Tm.kH hρ t)| .agg l=>DI hρ (l:=l)| .gW l=>DI hρ (l:=l)| .slc r _=>Om hρ (l:=r)| .vp row _=>DI hρ (l:=row)| .fn _ x y=>by simp only [SV.den,AV.clean,SV.cln,DI hρ]
  | .kY _ v=>aeO hρ (x:=v)| .os ..=>rfl| .op ..=>rfl| .mp _=>rfl| .ost ..=>rfl
theorem DI {ρ:List AV}(hρ:fU ρ=true):∀{l:List SV},iO (dK ρ l)=DF l
  |[]=>rfl|x::r=>by simp only [dK,iO,DF,aeO hρ,DI hρ]
theorem Om {ρ:List AV}(hρ:fU ρ=true):∀{l:List (List SV)},fJ (fQ ρ l)=BU l
  |[]=>rfl|x::r=>by simp only [fQ,fJ,BU,DI hρ,Om hρ]
end
theorem yD {ρ:List AV}(hρ:fU ρ=true){th:Tr SB}{ah:AH}(ha:Dz ρ th ah):∀n,AhG ρ (thN th n) (nR ah n)
 |0=>ha|n+1=>fun b k h=>by
  have ih:=yD hρ ha n;simp only [thN] at h;cases hb:th.get b with
  |none=>rw [hb] at h;cases h
  |some sb=>
   have hab:=ha b sb hb;cases sb with
   |rows sz rs=>
    simp only [hb] at h;simp only [nR,hab,SB.den,Om hρ];cases hc:BU rs
    .simp only [hc,cond_false] at h;split at h
     .rename_i r hr;simp only [aj] at h;subst h;simp only [cond_false,I8 hρ ih hr];rfl
     .cases h
    .simp only [hc,cond_true,aj] at h;subst h;rfl
   |fZ sz t=>
    simp only [hb,aj] at h;subst h;simp only [nR,hab,SB.den,gQ (Tm.kH hρ t),cond_true]
   |map es=>simp only [hb,aj] at h;subst h;simp only [nR,hab,SB.den]|xC m t=>simp only [hb,aj] at h;subst h;simp only [nR,hab,SB.den]|it m n k=>simp only [hb,aj] at h;subst h;simp only [nR,hab,SB.den]|iD ty sz rs=>simp only [hb,aj] at h;subst h;simp only [nR,hab,SB.den]|mQ sz t i off x=>simp only [hb] at h;cases h
def rfT (th:Tr SB):List Nat->Option (List Nat)
 |[]=>some []|b::r=>match th.get b with
  |none=>none|some k=>match rfT th r with
   |none=>none|some l=>some ((match k with | .rows _ rs=>BX rs | .mQ _ _ _ _ x=>x.zx|_=>[])++l)
def acQ (th:Tr SB):Nat->List Nat->Option (List Nat)
 |0,l=>some l|n+1,l=>match l with
  |[]=>some []|_::_=>match rfT th l with
   |none=>none|some m=>match acQ th n m with
    |none=>none|some r=>some (l++r)
theorem aaf {a b:List AV}:jf (a++b)=jf a++jf b:=by
 induction a with
 |nil=>rfl|cons x a ih=>simp [jf,ih]
theorem LY {a b:List (List AV)}:jo (a++b)=jo a++jo b:=by
 induction a with
 |nil=>rfl|cons x a ih=>simp [jo,ih]
theorem zA {l:List AV}:iO l=true↔∀x∈l,x.clean=true:=by
 induction l with
 |nil=>simp [iO]|cons x l ih=>simp [iO,ih]
theorem ug {l:List (List AV)}:fJ l=true↔∀x∈l,iO x=true:=by
 induction l with
 |nil=>simp [fJ]|cons x l ih=>simp [fJ,ih]
theorem SN {rs:List (List AV)}{i off:Nat}{x:AV}(h:fJ rs=true):jo (Za rs i off x)=x.refs:=by
 have h0:=ug.1 h;have hrow:iO (rs.getD i [])=true:=by
  rw [aB];cases hi:rs[i]? with
  |none=>rfl|some r=>exact h0 r (aG hi)
 have h1:∀l:List AV,(∀y∈l,y∈rs.getD i [])->jf l=[]:=fun l hl=>iM (zA.2 fun y hy=>zA.1 hrow y (hl y hy));have h2:∀l:List (List AV),(∀y∈l,y∈rs)->jo l=[]:=fun l hl=>kZ (ug.2 fun y hy=>h0 y (hl y hy));unfold Za lay;rw [LY,LY,h2 _ (fun y hy=>bJ hy),h2 _ (fun y hy=>List.mem_of_mem_drop hy)];simp only [jo,aaf,h1 _ (fun y hy=>bJ hy),h1 _ (fun y hy=>List.mem_of_mem_drop hy),jf,List.nil_append,cu]
theorem aeP {ρ:List AV}(hρ:fU ρ=true){th:Tr SB}{ah:AH}(ha:Dz ρ th ah):∀{l m:List Nat},rfT th l=some m->l.flatMap (vM ah)=m
 |[],m,h=>by simp only [rfT,aj] at h;subst h;rfl
 |b::r,m,h=>by
  simp only [rfT] at h;split at h
  .cases h
  .rename_i k hk;split at h
   .cases h
   .rename_i q hq;simp only [aj] at h;subst h;rw [List.flatMap_cons,aeP hρ ha hq];simp only [vM,ha b k hk];cases k with
    |rows sz rs=>simp only [SB.den,xK hρ]|fZ sz t=>simp only [SB.den,kZ (gQ (Tm.kH hρ t))]|map es=>rfl|xC m t=>rfl|it m n k=>rfl|iD ty sz rs=>rfl|mQ sz t i off x=>simp only [SB.den,SN (gQ (Tm.kH hρ t)),qm hρ]
theorem aeQ {ah:AH}:∀n,rch ah n []=[]
 |0=>rfl|n+1=>by simp only [rch,List.flatMap_nil,aeQ n,cu]
theorem LZ {ρ:List AV}(hρ:fU ρ=true){th:Tr SB}{ah:AH}(ha:Dz ρ th ah):∀(n:Nat) {l m:List Nat},acQ th n l=some m->rch ah n l=m
 |0,l,m,h=>by simp only [acQ,aj] at h;exact h
 |n+1,l,m,h=>by
  simp only [acQ] at h;split at h
  .simp only [aj] at h;subst h;exact aeQ _
  .split at h
   .cases h
   .rename_i q hq;split at h
    .cases h
    .rename_i r hr;simp only [aj] at h;subst h;simp only [rch];rw [aeP hρ ha hq,LZ hρ ha n hr]
end Go.Fw
end
section
namespace Go.Fw
variable [iT]
section
variable {P : Program} {ρ:List AV} {pc:Pc} {id nv:Nat} {fr:jB} {ah:AH} {tr:Tr oq} {th:Tr SB} {K:mP->Prop}
def aeR (P:Program)(kv:TypeId->SV->Bool)(cs:List SV):List Field->Bool
 |[]=>true|f::fs=>(bif decide (f.name≠ "_") then (match xg P f.type with|some ty=>(match AP ty cs f.offset with|some a=>kv f.type a|none=>false)|none=>false) else true)&&aeR P kv cs fs
def EP (P:Program):Nat->TypeId->SV->Bool
 |0,_,_=>false|d+1,t,a=>match P.underlying t with
  |none=>false|some u=>match u,a with
   | .bool,.sc .bool _=>true| .int _,.sc (.int _) _=>true| .string,.sc .str _=>true| .struct fs,.agg cs=>aeR P (EP P d) cs fs.toList|_,_=>false
theorem aag {kv:TypeId->SV->Bool}{ka:TypeId->AV->Bool}(hk:∀t x,kv t x=true->ka t (x.den ρ)=true){cs:List SV}:∀{fs:List Field},aeR P kv cs fs=true->aie P ka (dK ρ cs) fs=true
 |[],_=>rfl|f::fs,h=>by
  simp only [aeR,ak] at h;simp only [aie,ak];refine ⟨?_,aag hk h.2⟩;have h1:=h.1;by_cases hn:f.name≠ "_"
  .rw [if_pos hn];simp only [hn,not_false_eq_true,ne_eq,decide_true,cond_true] at h1;split at h1
   .rename_i ty hty;rw [hty];split at h1
    .rename_i a ha;dsimp only;rw [SE ha];exact hk _ _ h1
    .cases h1
   .cases h1
  .rw [if_neg hn]
theorem Oo : ∀{d:Nat} {t:TypeId} {x:SV},EP P d t x=true->Ap P d t (x.den ρ)=true
 |0,t,x,h=>by simp [EP] at h
 |d+1,t,x,h=>by
  unfold EP at h;unfold Ap;split at h
  .cases h
  .rename_i u hu;rw [hu];split at h
   .rfl
   .rfl
   .rfl
   .exact aag (kv:=EP P d) (ka:=Ap P d) (fun t x=>Oo) h
   .cases h
def aeS : SV->Bool
 | .sc .bool _ | .sc (.int _) _ | .sc .str _=>true|_=>false
def amo : SV->Bool
 | .agg cs=>cs.all aeS|a=>aeS a
theorem aah {x:SV}(h:aeS x=true):ab9 (x.den ρ)=true:=by
 unfold aeS at h;split at h
 .rfl
 .rfl
 .rfl
 .cases h
theorem amq {x:SV}(h:amo x=true):aif (x.den ρ)=true:=by
 unfold amo at h;split at h
 .rename_i cs;show (dK ρ cs).all ab9=true;rw [agl,List.all_map,aF];intro y hy;exact aah (aF.1 h y hy)
 .rename_i hx;have h1:=aah (ρ:=ρ) h;unfold aif;split
  .rename_i cs e;rw [e] at h1;simp [ab9] at h1
  .exact h1
def SS (P:Program)(t:TypeId):Option SV:=((P.info? t).bind (·.zero)).bind amd
theorem Oq {t:TypeId}{z:SV}(h:SS P t=some z):GH P t=some (z.den ρ):=by
 unfold SS at h;simp only [aQ] at h;obtain ⟨v,hv,hz⟩:=h;unfold GH;simp only [aQ];exact ⟨v,hv,ZT hz⟩
def Wu (P:Program)(pc:Pc)(kt:TypeId)(k:SV):List (SV×SV)->Option (Option (Nat×SV))
 |[]=>some none|e::r=>match yEq P 10000 kt k e.1 with
  |none=>none|some t=>match pc.known t with
   |none=>none|some true=>some (some (0,e.2))|some false=>match Wu P pc kt k r with
    |none=>none|some none=>some none|some (some q)=>some (some (q.1+1,q.2))
def Yj (ρ:List AV)(es:List (SV×SV)):List (AV×AV):=es.map fun e=>(e.1.den ρ,e.2.den ρ)
theorem asi (hp:pc.holds ρ){kt:TypeId}{k:SV}:∀{es:List (SV×SV)} {r:Option (Nat×SV)},Wu P pc kt k es=some r->wV P kt (k.den ρ) (Yj ρ es)=some (r.map fun q=>(q.1,q.2.den ρ))
 |[],r,h=>by simp only [Wu,aj] at h;subst h;rfl
 |e::es,r,h=>by
  simp only [Wu] at h;split at h
  .cases h
  .rename_i t ht;have ht:=Oi (P:=P) (ρ:=ρ) ht;simp only [Yj,aX,wV,ht];split at h
   .cases h
   .rename_i hk;simp only [aj] at h;subst h;rw [Pc.fM hp hk];rfl
   .rename_i hk;rw [Pc.fM hp hk];dsimp only;split at h
    .cases h
    .rename_i hf;simp only [aj] at h;subst h;have:=asi hp hf;unfold Yj at this;rw [this];rfl
    .rename_i q hf;simp only [aj] at h;subst h;have:=asi hp hf;unfold Yj at this;rw [this];rfl
def lkS (c:Bool)(v:SV)(ok:Bool):SV:=bif c then .gW [v,.sc .bool (.lb ok)] else v
theorem ER {c ok:Bool}{v:SV}:(lkS c v ok).den ρ=GI c (v.den ρ) ok:=by cases c<;>rfl
def L8 (P:Program)(t:TypeId)(id nv:Nat)(r:Option SV):Option SR:=
 match r with
 |none=>some ⟨.mp id,[(id,some (.map []))],[],[],nv⟩|some (.sc (.int _) _)=>match P.underlying t with
  |some (.map _ _)=>some ⟨.mp id,[(id,some (.map []))],[],[],nv⟩|_=>none
 |_=>none
theorem PN {t:TypeId}{x:Option SV}{r:SR}(h:L8 P t id nv x=some r)(hK:K (r.den ρ)):Dp P t id (x.map (SV.den ρ)) K:=by
 unfold L8 at h;split at h
 .simp only [aj] at h;subst h;exact ⟨trivial,hK⟩
 .split at h
  .rename_i hu;simp only [aj] at h;subst h;refine ⟨?_,hK⟩;simp only [Option.map_some,SV.den,Kd.av,hu]
  .cases h
 .cases h
def lkT (c:Bool)(v:SV)(f:Tm):SV:=bif c then .gW [v,.sc .bool f] else v
theorem amr {c:Bool}{v:SV}{f:Tm}:(lkT c v f).den ρ=GI c (v.den ρ) (f.den ρ).B:=by cases c<;>rfl
def arE (P:Program)(nv:Nat)(et:TypeId):Option SV:=
 match BR P 20 et,P.underlying et with
 |some l,some d=>bif l.any (fun k=>decide (k=.sl)) then none else bif Gz d then some (.agg (kG nv [] 1 l)) else match l with | [k]=>some (.sc k (.var nv [1]))|_=>none
 |_,_=>none
def arF (P:Program)(pc:Pc)(th:Tr SB)(nv:Nat)(kt et:TypeId)(z m k:SV)(c:Bool):Option SR:=
 match m with
 | .c .mp=>some (.val nv (lkS c z false))| .mp b=>match th.get b with
  |some (.map es)=>match Wu P pc kt k es with
   |none=>none|some none=>some ⟨lkS c z false,[],[b],[],nv⟩|some (some q)=>some ⟨lkS c q.2 true,[],[b],[],nv⟩
  |some (.xC sh t)=>match arE P nv et with
   |none=>none|some v=>some ⟨lkT c v (.var nv [0]),[],[b],[.look kt sh t k z (.var nv [0]) v],nv+1⟩
  |_=>none
 |_=>none
def Yk (P:Program)(pc:Pc)(th:Tr SB)(nv:Nat)(t:TypeId)(m k:SV)(c:Bool):Option SR:=
 match P.underlying t with
 |some (.map kt et)=>bif EP P 10000 kt k then (match SS P et with|some z=>arF P pc th nv kt et z m k c|none=>none) else none
 |_=>none
theorem acR {t:TypeId}{m k:SV}{c:Bool}{r:SR}(hp:pc.holds ρ)(ha:Dz ρ th ah)(h:Yk P pc th nv t m k c=some r)(hs:∀s∈r.sd,s.holds P ρ)(hK:K (r.den ρ)):BI P ah t (m.den ρ) (k.den ρ) c K:=by
 unfold Yk at h;unfold BI;split at h
 .rename_i kt et hu;rw [hu];cases hk:EP P 10000 kt k
  .simp [hk] at h
  .simp only [hk,cond_true] at h;refine ⟨Oo hk,?_⟩;split at h
   .rename_i z hz;refine dG.2 ⟨_,Oq (ρ:=ρ) hz,?_⟩;unfold arF at h;split at h
    .simp only [aj] at h;subst h;rw [SR.qQ,ER] at hK;exact hK
    .rename_i b;split at h
     .rename_i es hb;show (match ah b with|some (.map es)=>_|_=>False);rw [ha _ _ hb];have hf:=fun r h=>asi (ρ:=ρ) (P:=P) hp (r:=r) (kt:=kt) (k:=k) (es:=es) h;split at h
      .cases h
      .rename_i hq;simp only [aj] at h;subst h;refine dG.2 ⟨_,hf _ hq,?_⟩;simp only [SR.den,ER] at hK;exact hK
      .rename_i q hq;simp only [aj] at h;subst h;refine dG.2 ⟨_,hf _ hq,?_⟩;simp only [SR.den,ER] at hK;exact hK
     .rename_i sh t hb;show (match ah b with|some (.map es)=>_|_=>False);rw [ha _ _ hb];split at h
      .cases h
      .rename_i v hv;simp only [aj] at h;subst h;obtain ⟨r,r1,r2,r3⟩:=hs _ aZ;refine dG.2 ⟨_,r1,?_⟩;simp only [SR.den,amr,r2,r3] at hK;cases r with
       |none=>exact hK|some q=>exact hK
     .cases h
    .cases h
   .cases h
 .cases h
def aoh (P:Program)(pc:Pc)(th:Tr SB)(nv:Nat)(kt:TypeId)(m k v:SV):Option SR:=
 match m with
 | .mp b=>match th.get b with
  |some (.map es)=>match Wu P pc kt k es with
   |none=>none|some none=>some ⟨.c .undef,[(b,some (.map (es++[(k,v)])))],[b],[],nv⟩|some (some q)=>match zu es q.1 with
    |some e=>bif e.1.beq k then some ⟨.c .undef,[(b,some (.map (es.set q.1 (k,v))))],[b],[],nv⟩ else none
    |none=>none
  |some (.xC sh t)=>some ⟨.c .undef,[(b,some (.xC sh (.var nv [])))],[b],[.put kt sh t k v (.var nv [])],nv+1⟩|_=>none
 |_=>none
def Yl (P:Program)(pc:Pc)(th:Tr SB)(nv:Nat)(t:TypeId)(m k v:SV):Option SR:=
 match P.underlying t with
 |some (.map kt _)=>bif EP P 10000 kt k&&amo k then aoh P pc th nv kt m k v else none
 |_=>none
theorem SX {t:TypeId}{m k v:SV}{r:SR}(hp:pc.holds ρ)(ha:Dz ρ th ah)(h:Yl P pc th nv t m k v=some r)(hs:∀s∈r.sd,s.holds P ρ)(hK:K (r.den ρ)):BJ P ah t (m.den ρ) (k.den ρ) (v.den ρ) K:=by
 unfold Yl at h;unfold BJ;split at h
 .rename_i kt et hu;rw [hu];cases hk:EP P 10000 kt k&&amo k
  .simp [hk] at h
  .simp only [hk,cond_true] at h;simp only [ak] at hk;refine ⟨Oo hk.1,amq hk.2,?_⟩;unfold aoh at h;split at h
   .rename_i b;split at h
    .rename_i es hb;show (match ah b with|some (.map es)=>_|_=>False);rw [ha _ _ hb];have hf:=fun r h=>asi (ρ:=ρ) (P:=P) hp (r:=r) (kt:=kt) (k:=k) (es:=es) h;split at h
     .cases h
     .rename_i hq;simp only [aj] at h;subst h;refine dG.2 ⟨_,hf _ hq,by simp,?_⟩;simp only [SR.den,SB.den,SV.den,Cv.val,aX,List.map_nil,Option.map_some,List.map_append] at hK;exact hK
     .rename_i q hq;split at h
      .rename_i e he;cases hc:e.1.beq k
       .simp [hc] at h
       .simp only [hc,cond_true,aj] at h;subst h;have he':=SV.beq_eq hc;rw [vS] at he;refine dG.2 ⟨_,hf _ hq,?_,?_⟩
        .intro q' hq';simp only [Option.map_some,aj] at hq';subst hq';simp [he,he']
        .simp only [SR.den,SB.den,SV.den,Cv.val,aX,List.map_nil,Option.map_some,List.map_set] at hK;exact hK
      .cases h
    .rename_i sh t hb;show (match ah b with|some (.map es)=>_|_=>False);rw [ha _ _ hb];simp only [aj] at h;subst h;obtain ⟨r,r1,r2,r3⟩:=hs _ aZ;refine dG.2 ⟨_,r1,r2,?_⟩;simp only [SR.den,SB.den,SV.den,Cv.val,aX,List.map_nil,Option.map_some,r3] at hK;exact hK
    .cases h
   .cases h
 .cases h
def aja (P:Program)(pc:Pc)(th:Tr SB)(nv:Nat)(t:TypeId)(x y:SV):Option SR:=
 match iP P t with
 |none=>none|some e=>bif Nat.beq e.1 0 then none else
  match LW pc th e.1 y with
  |none=>none|some (ys,rd,l)=>
   match x with
   | .nil=>some ⟨.sc (.int .i64) (.li 0),[],rd,l,nv⟩| .os b sz off len=>bif Nat.beq sz e.1 then
     match th.get b with
     |some (.rows sz' rs)=>match uM len,ys with
      |some m,.cs rows=>bif Nat.beq sz sz'&&Nat.ble (off+m) rs.length then
       some ⟨.sc (.int .i64) (.li (.ofNat (min rows.length m))),[(b,some (.rows e.1 (rs.take off++rows.take m++rs.drop (off+min rows.length m))))],b::rd,l,nv⟩ else none
      |_,_=>none
     |some (.fZ sz' xt)=>match ys,ay3 pc len with
      | .ts yt,some l'=>bif Nat.beq sz sz'&&Nat.beq off 0 then
       some ⟨.sc (.int .i64) (ayP (ltT (.rlen yt) len) (.rlen yt) len),[(b,some (.fZ e.1 (.var nv [])))],b::rd,l++(l'++[.cpy xt len yt (.var nv [])]),nv+1⟩ else none
      |_,_=>none
     |_=>none
    else none
   |_=>none
theorem ajb {t:TypeId}{x y:SV}{r:SR}(hp:pc.holds ρ)(ha:Dz ρ th ah)(h:aja P pc th nv t x y=some r)(hs:∀s∈r.sd,s.holds P ρ)(hK:K (r.den ρ)):VO P ah t (x.den ρ) (y.den ρ) K:=by
 unfold aja at h;split at h
 .cases h
 .rename_i e he;cases h0:Nat.beq e.1 0
  .simp only [h0,cond_false] at h;refine dG.2 ⟨e,he,?_⟩;refine And.intro (fun e0=>by rw [e0] at h0;exact absurd h0 (by decide)) ?_;split at h
   .cases h
   .rename_i ys rd l hy;split at h
    .simp only [aj] at h;subst h;exact xI ha hy hs hK
    .rename_i b sz off len;cases h1:Nat.beq sz e.1
     .simp [h1] at h
     .simp only [h1,cond_true] at h;have e1:=au h1;split at h
      .rename_i sz' rs hb;split at h
       .rename_i m rows hm;cases h2:Nat.beq sz sz'&&Nat.ble (off+m) rs.length
        .simp [h2] at h
        .simp only [h2,cond_true,aj] at h;subst h;simp only [ak] at h2;refine xI ha hy hs ?_;show sz=e.1/\_;refine ⟨e1,?_⟩;rw [ha _ _ hb];refine ⟨au h2.1,?_,?_⟩
         .rw [(eG hm).2,fC];exact aC h2.2
         .rw [(eG hm).2];simp only [Ys.den,fC,xG,xE,<- vT];exact hK
       .cases h
      .rename_i sz' xt hb;split at h
       .rename_i yt l' hn;cases h2:Nat.beq sz sz'&&Nat.beq off 0
        .simp [h2] at h
        .simp only [h2,cond_true,aj] at h;subst h;simp only [ak] at h2;have e2:=au h2.2;subst e2;refine xI ha hy (fun s hm=>hs s (by simp [hm])) ?_;have hl0:=Wn hp hn (fun s hm=>hs s (by simp [hm]));obtain ⟨c1,c2⟩:=hs (.cpy xt len yt (.var nv [])) (by simp);show sz=e.1/\_;refine ⟨e1,?_⟩;rw [ha _ _ hb];refine ⟨au h2.1,by simpa using c1,?_⟩;have hv2:((ayP (ltT (.rlen yt) len) (.rlen yt) len).den ρ).I=((min (yt.den ρ).R.length (len.den ρ).I.toNat:Nat):Int):=by
          rw [xB];have e3:((ltT (.rlen yt) len).den ρ).B=decide (((yt.den ρ).R.length:Int)<(len.den ρ).I):=by
           rw [ltT,mW];rfl
          rw [e3];by_cases hlt:((yt.den ρ).R.length:Int)<(len.den ρ).I
          .rw [decide_eq_true hlt];show ((yt.den ρ).R.length:Int)=_;omega
          .rw [decide_eq_false hlt];show (len.den ρ).I=_;omega
         have:K ⟨.p (.int .i64 ((ayP (ltT (.rlen yt) len) (.rlen yt) len).den ρ).I),[(b,some (.rows e.1 ((Tm.var nv []).den ρ).R))],b::rd⟩:=hK;rw [hv2,c2] at this;simpa [Ys.den] using this
       .cases h
      .cases h
    .cases h
  .simp [h0] at h
def aai : List SV->Option UInt8
 |[.sc (.int .u8) (.li (.ofNat n))]=>bif Nat.blt n 256 then some (UInt8.ofNat n) else none
 |_=>none
def Dc : List (List SV)->Option (List UInt8)
 |[]=>some []|x::r=>match aai x with|none=>none|some b=>match Dc r with|none=>none|some l=>some (b::l)
theorem ajc {row:List SV}{b:UInt8}(h:aai row=some b):ayD (dK ρ row)=some b:=by
 unfold aai at h;split at h
 .rename_i n;cases hn:Nat.blt n 256
  .simp [hn] at h
  .simp only [hn,cond_true,aj] at h;subst h;have:=KC hn;show (bif decide (0<=(n:Int)/\(n:Int)<256) then some (UInt8.ofNat (n:Int).toNat) else none)=_;have e:decide (0<=(n:Int)/\(n:Int)<256)=true:=(by simp;omega);rw [e];rfl
 .cases h
theorem Wv : ∀{rows:List (List SV)} {l:List UInt8},Dc rows=some l->(fQ ρ rows).mapM ayD=some l
 |[],l,h=>by simp only [Dc,aj] at h;subst h;rfl
 |x::r,l,h=>by
  simp only [Dc] at h;split at h
  .cases h
  .rename_i b hb;split at h
   .cases h
   .rename_i l' hl;simp only [aj] at h;subst h;simp only [fQ,List.mapM_cons,ajc hb,Wv hl,Option.pure_def,Option.bind_eq_bind,Option.bind_some]
def azt : SV->Bool | .sc .str _=>true|_=>false
def acS (P:Program)(pc:Pc)(th:Tr SB)(nv:Nat)(s:TypeId)(x:SV):Option SR:=
 bif (match P.underlying s with|some (.slice e)=>(match P.underlying e with|some (.int k)=>decide (k=.u8)|_=>false)|_=>false)&&!azt x then
  match LW pc th 1 x with
  |none=>none|some (.cs rows,rd,l)=>(Dc rows).map fun b=>⟨.sc .str (.ls b),[],rd,l,nv⟩
  |some (.ts t,rd,l)=>some ⟨.sc .str (.bts t),[],rd,l++[.apv t],nv⟩
 else none
theorem Wx : ∀{ys:List (List AV)},(ys.mapM ayD).isSome=true->ys.mapM ayD=some (ys.map X3)
 |[],_=>rfl|y::ys,h=>by
  cases hb:ayD y with
  |none=>simp [hb] at h|some b=>
   cases hr:ys.mapM ayD with
   |none=>simp [hb,hr] at h|some r=>
    have ih:=Wx (ys:=ys) (by rw [hr];rfl);rw [hr] at ih;simp only [aj] at ih;simp [hb,hr,ih,X3]
theorem agR {s d:TypeId}{x:SV}{r:SR}(hd:P.underlying d=some .string)(ha:Dz ρ th ah)(h:acS P pc th nv s x=some r)(hs:∀s∈r.sd,s.holds P ρ)(hK:K (r.den ρ)):ab_ P ah s d (x.den ρ) K:=by
 unfold acS at h;generalize hg:((match P.underlying s with|some (.slice e)=>(match P.underlying e with|some (.int k)=>decide (k=.u8)|_=>false)|_=>false)&&!azt x)=g at h;cases g
 .cases h
 .simp only [cond_true] at h;simp only [ak] at hg;obtain ⟨h1,h2⟩:=hg;refine ⟨hd,?_,?_,?_⟩
  .split at h1
   .rename_i e hu;split at h1
    .rename_i k hk;rw [hu];show P.underlying e=_;rw [hk,of_decide_eq_true h1]
    .cases h1
   .cases h1
  .cases x with
   |sc k t=>cases k<;>first|trivial|(simp [azt] at h2)
   |_=>trivial
  .split at h
   .cases h
   .rename_i rows rd l hy;cases hb:Dc rows with
    |none=>simp [hb] at h|some b=>
     simp only [hb,Option.map_some,aj] at h;subst h;exact xI ha hy hs (dG.2 ⟨_,Wv hb,hK⟩)
   .rename_i t rd l hy;simp only [aj] at h;subst h;refine xI ha hy (fun s hm=>hs s (by simp [hm])) ?_;have hb:=hs (.apv t) (by simp);exact dG.2 ⟨_,Wx hb,hK⟩
def ajd (P:Program)(pc:Pc)(th:Tr SB)(nv:Nat)(s d:TypeId)(x:SV):Option SR:=
 match P.underlying s,P.underlying d with
 |some (.slice _),some .string=>acS P pc th nv s x|_,_=>SG P nv s d x
theorem aje {s d:TypeId}{x:SV}{r:SR}(ha:Dz ρ th ah)(h:ajd P pc th nv s d x=some r)(hs:∀s∈r.sd,s.holds P ρ)(hK:K (r.den ρ)):Pn P ah s d (x.den ρ) K:=by
 unfold ajd at h;unfold Pn;split at h
 .rename_i hu hd;rw [hu,hd];exact agR hd ha h hs hK
 .rename_i hno;have:=Z8 (P:=P) h hs hK;split
  .rename_i h1 h2;exact (hno _ h1 h2).elim
  .exact this
def SY (P:Program)(nv:Nat)(t:TypeId)(x:SV):Option SR:=
 match P.underlying t with
 |none=>none|some (.interface _)=>none|some _=>some (.val nv (.kY t x))
theorem aaj {t:TypeId}{x:SV}{r:SR}(h:SY P nv t x=some r)(hK:K (r.den ρ)):GN P t (x.den ρ) K:=by
 unfold SY at h;split at h
 .cases h
 .cases h
 .rename_i d hn hu;simp only [aj] at h;subst h;refine ⟨?_,hK⟩;rw [hu];cases d with
  |interface l=>exact hn l rfl|_=>trivial
def sAs (P:Program)(nv:Nat)(w?:Option (Array (String×TypeId)))(x:SV)(a:TypeId)(c:Bool):Option SR:=
 match w?,x with
 |some want,.kY t v=>match P.info? t with
  |none=>none|some i=>match Instr.missingMethod want i.methods with|none=>some (.val nv (lkS c (.kY t v) true))|some _=>none
 |none,.kY t v=>bif Nat.beq t a then some (.val nv (lkS c v true)) else bif c then (SS P a).map fun z=>.val nv (lkS c z false) else none
 |_,.c .kY=>bif c then (SS P a).map fun z=>.val nv (lkS c z false) else none
 |_,_=>none
def Ym (P:Program)(nv:Nat)(x:SV)(a:TypeId)(c:Bool):Option SR:=
 match P.underlying a with
 |none=>none|some d=>sAs P nv (EC d) x a c
theorem acT {x:SV}{a:TypeId}{c:Bool}{r:SR}(h:Ym P nv x a c=some r)(hK:K (r.den ρ)):ED P (x.den ρ) a c K:=by
 unfold Ym at h;split at h
 .cases h
 .rename_i d hd;refine dG.2 ⟨d,hd,?_⟩;unfold sAs at h;split at h
  .rename_i want t v hq;split at h
   .cases h
   .rename_i i hi;split at h
    .rename_i hm;simp only [aj] at h;subst h;rw [hq];rw [SR.qQ,ER] at hK;exact dG.2 ⟨i,hi,hm,hK⟩
    .cases h
  .rename_i t v hq;rw [hq];cases h1:Nat.beq t a
   .simp only [h1,cond_false] at h;cases c
    .cases h
    .simp only [cond_true,ay] at h;obtain ⟨z,hz,rfl⟩:=h;rw [SR.qQ,ER] at hK;exact .inr ⟨fun e=>by subst e;simp at h1,rfl,dG.2 ⟨_,Oq hz,hK⟩⟩
   .simp only [h1,cond_true,aj] at h;subst h;rw [SR.qQ,ER] at hK;exact .inl ⟨au h1,hK⟩
  .cases c
   .cases h
   .simp only [cond_true,ay] at h;obtain ⟨z,hz,rfl⟩:=h;rw [SR.qQ,ER] at hK;have:true=true/\fD (GH P a) fun z=>K (.val (GI true z false)):=⟨rfl,dG.2 ⟨_,Oq hz,hK⟩⟩;cases EC d<;>exact this
  .cases h
def Ot (nv:Nat)(x:SV):Option SR:=
 match x with
 | .vp _ _ | .op _ _ _ _ | .fn _ _ _=>some (.val nv x)|_=>none
theorem Yn {x:SV}{r:SR}(h:Ot nv x=some r)(hK:K (r.den ρ)):xq (x.den ρ) K:=by
 unfold Ot at h;split at h
 .simp only [aj] at h;subst h;exact hK
 .simp only [aj] at h;subst h;exact hK
 .simp only [aj] at h;subst h;exact hK
 .cases h
def acU (P:Program)(th:Tr SB)(id nv:Nat)(t:TypeId)(m:SV):Option SR:=
 match P.underlying t with
 |some (.map _ _)=>(match m with
  | .mp b=>(match th.get b with
   |some (.map es)=>some ⟨.op id 1 (.li 0) 0,[(id,some (.it b (.li es.length) 0))],[b],[],nv⟩|some (.xC _ t)=>some ⟨.op id 1 (.li 0) 0,[(id,some (.it b (.rlen t) 0))],[b],[],nv⟩|_=>none)
  |_=>none)
 |_=>none
theorem agS {t:TypeId}{m:SV}{r:SR}(ha:Dz ρ th ah)(h:acU P th id nv t m=some r)(hK:K (r.den ρ)):GK P ah id t (m.den ρ) K:=by
 unfold acU at h;unfold GK;split at h
 .rename_i kt et hu;rw [hu];split at h
  .rename_i b;split at h
   .rename_i es hb;simp only [aj] at h;subst h;show (match ah b with|some (.map es)=>_|_=>False);rw [ha _ _ hb];simpa [SR.den,SB.den,SV.den,Tm.den,D.I] using hK
   .rename_i mk t hb;simp only [aj] at h;subst h;show (match ah b with|some (.map es)=>_|_=>False);rw [ha _ _ hb];simpa [SR.den,SB.den,SV.den,Tm.den,D.I,nM] using hK
   .cases h
  .cases h
 .cases h
def ajf (th:Tr SB)(nv:Nat)(x:SV)(str:Bool):Option SR:=
 bif str then none else
 match x with
 | .op q _ (.li 0) 0=>(match th.get q with
  |some (.it b n k)=>(match th.get b with
   |some (.map es)=>bif n.beq (.li es.length) then (match Nat.beq k es.length with
    |true=>some ⟨.gW [.sc .bool (.lb false)],[],[q,b],[],nv⟩|false=>bif Nat.beq (k+1) es.length then (match es[k]? with
     |some e=>some ⟨.gW [.sc .bool (.lb true),e.1,e.2],[(q,some (.it b n (k+1)))],[q,b],[],nv⟩|none=>none) else none) else none
   |_=>none)
  |_=>none)
 |_=>none
theorem ajg {x:SV}{str:Bool}{r:SR}(ha:Dz ρ th ah)(h:ajf th nv x str=some r)(hK:K (r.den ρ)):Rh ah (x.den ρ) str K:=by
 unfold ajf at h;cases str with
 |true=>cases h
 |false=>
  simp only [cond_false] at h;split at h
  .rename_i q sz;split at h
   .rename_i b n k hq;split at h
    .rename_i es hb;cases hn:n.beq (.li es.length)
     .simp [hn] at h
     .simp only [hn,cond_true] at h;have hn:=Tm.beq_eq hn;subst hn;show (match ah q with|some (.it b n k)=>GL ah q b n k K|_=>False);rw [ha _ _ hq];show GL ah q b es.length k K;unfold GL;rw [ha _ _ hb];refine ⟨by simp,?_⟩;split at h
      .rename_i hk;simp only [aj] at h;subst h;rw [hk];exact hK
      .rename_i hk;rw [hk];cases hk1:Nat.beq (k+1) es.length
       .simp [hk1] at h
       .simp only [hk1,cond_true] at h;split at h
        .rename_i e he;simp only [aj] at h;subst h;exact ⟨au hk1,dG.2 ⟨(e.1.den ρ,e.2.den ρ),by rw [bP,he];rfl,hK⟩⟩
        .cases h
    .cases h
   .cases h
  .cases h
def acV (th:Tr SB)(nv:Nat)(x:SV):Option SR:=
 match x with
 | .op q _ (.li 0) 0=>(match th.get q with
  |some (.it b n (k+1))=>(match th.get b with
   |some (.map es)=>bif n.beq (.li es.length) then (match es[k]? with
    |some e=>some ⟨.gW [e.1,e.2],[],[q,b],[],nv⟩|none=>none) else none
   |_=>none)
  |_=>none)
 |_=>none
theorem agT {x:SV}{r:SR}(ha:Dz ρ th ah)(h:acV th nv x=some r)(hK:K (r.den ρ)):JX ah (x.den ρ) K:=by
 unfold acV at h;split at h
 .rename_i q sz;split at h
  .rename_i b n k hq;split at h
   .rename_i es hb;cases hn:n.beq (.li es.length)
    .simp [hn] at h
    .simp only [hn,cond_true] at h;have hn:=Tm.beq_eq hn;subst hn;show (match ah q with|some (.it b n (k+1))=>Ez ah q b n k K|_=>False);rw [ha _ _ hq];show Ez ah q b es.length k K;unfold Ez;rw [ha _ _ hb];refine ⟨by simp,?_⟩;split at h
     .rename_i e he;simp only [aj] at h;subst h;exact dG.2 ⟨(e.1.den ρ,e.2.den ρ),by rw [bP,he];rfl,hK⟩
     .cases h
   .cases h
  .cases h
 .cases h
def acW (P:Program)(th:Tr SB)(nv:Nat)(t:TypeId)(x:SV):Option SR:=
 match iP P t with
 |none=>none|some e=>match (match P.underlying t with|some (.slice el)=>ay0 P el|_=>none) with
  |none=>none|some z=>bif Nat.beq e.1 0||!Nat.beq z.length e.1 then none else
   match x with
   | .os b sz off len=>bif Nat.beq sz e.1 then
     match th.get b with
     |some (.rows sz' rs)=>match uM len with
      |some m=>bif Nat.beq sz sz'&&Nat.ble (off+m) rs.length then
        some ⟨.gW [],[(b,some (.rows e.1 (rs.take off++List.replicate m z++rs.drop (off+m))))],[b],[],nv⟩ else none
      |none=>none
     |_=>none
    else none
   | .ost b sz o len=>bif Nat.beq sz e.1 then
     match th.get b with
     |some (.fZ sz' y)=>bif Nat.beq sz sz' then
       some ⟨.gW [],[(b,some (.fZ e.1 (.var (nv+2) [])))],[b],[.len2 0 y,.tm (.bin .eql (.int .i64) (.bin .add (.int .i64) o len) (.rlen y)),.sub sz y none (some o) (.var nv []),.mk len len z (.var (nv+1) []),.ZQ sz (.var nv []) (.var (nv+1) []) (.var (nv+2) [])],nv+3⟩ else none
     |_=>none
    else none
   |_=>none
theorem agU {t:TypeId}{x:SV}{r:SR}(ha:Dz ρ th ah)(h:acW P th nv t x=some r)(hs:∀s∈r.sd,s.holds P ρ)(hK:K (r.den ρ)):Ri P ah t (x.den ρ) K:=by
 unfold acW at h;split at h
 .cases h
 .rename_i e he;split at h
  .cases h
  .rename_i z hz;cases h0:Nat.beq e.1 0||!Nat.beq z.length e.1
   .simp only [h0,cond_false] at h;simp only [aO,Bool.not_eq_false'] at h0
    have hz':((P.underlying t).bind fun d=>match d with | .slice el=>ays P el|_=>none)=some (dK ρ z):=by
     split at hz
     .rename_i el hu;rw [hu];exact xH hz
     .cases hz
    refine dG.2 ⟨e,he,fun e0=>by rw [e0] at h0;exact absurd h0.1 (by decide),dG.2 ⟨_,hz',by rw [dX];exact au h0.2,?_⟩⟩;split at h
    .rename_i b sz off len;cases h1:Nat.beq sz e.1
     .simp [h1] at h
     .simp only [h1,cond_true] at h;split at h
      .rename_i sz' rs hb;split at h
       .rename_i m hm;cases h2:Nat.beq sz sz'&&Nat.ble (off+m) rs.length
        .simp [h2] at h
        .simp only [h2,cond_true,aj] at h;subst h;simp only [ak] at h2;refine ⟨au h1,?_⟩;rw [ha _ _ hb];refine ⟨au h2.1,by rw [(eG hm).2,fC];exact aC h2.2,?_⟩;rw [(eG hm).2];have:K ⟨.gW [],[(b,some (.rows e.1 (fQ ρ (rs.take off++List.replicate m z++rs.drop (off+m)))))],[b]⟩:=hK;rw [vT,vT,<- xG,<- xE] at this;have e2:fQ ρ (List.replicate m z)=List.replicate m (dK ρ z):=(by rw [jd,List.map_replicate]);rw [e2] at this;exact this
       .cases h
      .cases h
    .rename_i b sz o len;cases h1:Nat.beq sz e.1
     .simp [h1] at h
     .simp only [h1,cond_true] at h;split at h
      .rename_i sz' y hb;cases h2:Nat.beq sz sz'
       .simp [h2] at h
       .simp only [h2,cond_true,aj] at h;subst h;have s1:0+(y.den ρ).R.length<=4294967296:=hs (.len2 0 y) (by simp);have s2:=hs (.tm (.bin .eql (.int .i64) (.bin .add (.int .i64) o len) (.rlen y))) (by simp);obtain ⟨s3a,s3b,s3c,s3d,s3e⟩:=hs (.sub sz y none (some o) (.var nv [])) (by simp);obtain ⟨s4a,s4b,s4c,s4d⟩:=hs (.mk len len z (.var (nv+1) [])) (by simp);obtain ⟨s5a,s5b,s5c,s5d⟩:=hs (.ZQ sz (.var nv []) (.var (nv+1) []) (.var (nv+2) [])) (by simp);simp only [X6] at s3b s3c s3d s3e;have s2':fK .i64 (o.den ρ).I (len.den ρ).I=((y.den ρ).R.length:Int):=by
         have:dU (fK .i64 (o.den ρ).I (len.den ρ).I) ((y.den ρ).R.length:Int)=true:=s2;simpa [dU] using this
        rw [G_ (by omega) (by omega)] at s2';refine ⟨au h1,?_⟩;rw [ha _ _ hb];refine ⟨au h2,by omega,?_⟩;have:K ⟨.gW [],[(b,some (.rows e.1 (Tm.den ρ (.var (nv+2) [])).R))],[b]⟩:=hK;rw [s5d,s3e,s4d] at this;rw [List.drop_eq_nil_iff.2 (by omega),cu];simpa using this
      .cases h
    .cases h
   .simp [h0] at h
end
end Go.Fw
end
section
namespace Go.Fw
variable [iT]
abbrev oN :=Pc->Nat->FuncId->List SV->Option (SV×Nat×List (Pc×Side)×Bool)
def qR (P:Program)(ρ:List AV)(l:List (Pc×Side)):Prop:=∀x∈l,Pc.holds ρ x.1->x.2.holds P ρ
def S9 : List (Pc×Side)->List Side
 |[]=>[]|x::r=>.under x.1 x.2::S9 r
theorem Wy {P:Program}{ρ:List AV}:∀{l:List (Pc×Side)},(∀s∈S9 l,s.holds P ρ)->qR P ρ l
 |[],_,x,hx=>by simp at hx
 |y::r,h,x,hx=>by
  rcases bC.1 hx with rfl|hx
  .exact h (.under x.1 x.2) (by simp [S9])
  .exact Wy (l:=r) (fun s hs=>h s (by simp [S9,hs])) x hx
def ny (P:Program)(ρ:List AV)(X:oN):Prop:=∀pc nv f args r,X pc nv f args=some r->Pc.holds ρ pc->qR P ρ r.2.2.1->PC P f (dK ρ args) (r.1.den ρ)/\(r.2.2.2=true->PCa P f (dK ρ args) (r.1.den ρ))
def ayS (th:Tr SB)(nv b sz off:Nat)(len:Tm):SV×Nat×List Side:=
 match th.get b with
 |some (.fZ sz' t)=>bif Nat.beq sz sz'&&(Nat.beq off 0&&!(len.beq (.rlen t))) then (.sc .sl (.var nv []),nv+1,[.sub sz t none (some len) (.var nv [])]) else (.os b sz off len,nv,[])
 |_=>(.os b sz off len,nv,[])
def ajh (th:Tr SB)(nv b sz off:Nat)(len:Tm)(sz':Nat)(t i:Tm)(o:Nat)(x:SV):SV×Nat×List Side:=
 match x with
 | .os b2 z2 o2 l2=>match (ayS th nv b2 z2 o2 l2).1.jE (thN th 2) with
  |some z=>bif Nat.beq sz sz'&&(Nat.beq off 0&&(z.cln&&z.iL)) then
    (.sc .sl (.var ((ayS th nv b2 z2 o2 l2).2.1+1) []),(ayS th nv b2 z2 o2 l2).2.1+2,
     (ayS th nv b2 z2 o2 l2).2.2++[.st t i o [z] (.var (ayS th nv b2 z2 o2 l2).2.1 []),.sub sz (.var (ayS th nv b2 z2 o2 l2).2.1 []) none (some len) (.var ((ayS th nv b2 z2 o2 l2).2.1+1) [])])
   else (.os b sz off len,nv,[])
  |none=>(.os b sz off len,nv,[])
 |_=>(.os b sz off len,nv,[])
 mutual
def ES (th:Tr SB):Nat->SV->SV×Nat×List Side
  |nv,.os b sz off len=>match th.get b with
   |some (.mQ sz' t i o x)=>ajh th nv b sz off len sz' t i o x|_=>ayS th nv b sz off len
  |nv,.agg l=>(.agg (vW th nv l).1,(vW th nv l).2.1,(vW th nv l).2.2)|nv,.gW l=>(.gW (vW th nv l).1,(vW th nv l).2.1,(vW th nv l).2.2)|nv,.sc k t=>(.sc k t,nv,[])|nv,.c v=>(.c v,nv,[])|nv,.nil=>(.nil,nv,[])|nv,.nan=>(.nan,nv,[])|nv,.sf t=>(.sf t,nv,[])|nv,.slc r f=>(.slc r f,nv,[])|nv,.vp r o=>(.vp r o,nv,[])|nv,.fn f x y=>(.fn f x y,nv,[])|nv,.kY t v=>(.kY t v,nv,[])|nv,.op b sz i o=>(.op b sz i o,nv,[])|nv,.mp b=>(.mp b,nv,[])|nv,.ost b sz o l=>(.ost b sz o l,nv,[])
def vW (th:Tr SB):Nat->List SV->List SV×Nat×List Side
  |nv,[]=>([],nv,[])|nv,x::r=>((ES th nv x).1::(vW th (ES th nv x).2.1 r).1,(vW th (ES th nv x).2.1 r).2.1,(ES th nv x).2.2++(vW th (ES th nv x).2.1 r).2.2)
end
theorem KI {ah:AH}:∀{a b:List AV},lI ah (a++b)=(lI ah a).bind fun x=>(lI ah b).map fun y=>x++y
 |[],b=>by simp [lI]
 |x::a,b=>by
  simp only [bV,lI,KI (a:=a)];cases jE ah x<;>cases lI ah a<;>cases lI ah b<;>rfl
theorem Hr {ah:AH}:∀{a b:List (List AV)},lK ah (a++b)=(lK ah a).bind fun x=>(lK ah b).map fun y=>x++y
 |[],b=>by simp [lK]
 |x::a,b=>by
  simp only [bV,lK,Hr (a:=a)];cases lI ah x<;>cases lK ah a<;>cases lK ah b<;>rfl
theorem Ad {l:List AV}:fU l=true↔∀x∈l,x.fz=true:=by
 induction l with
 |nil=>simp [fU]|cons x l ih=>simp [fU,ih]
theorem S_ {l:List (List AV)}:EO l=true↔∀x∈l,fU x=true:=by
 induction l with
 |nil=>simp [EO]|cons x l ih=>simp [EO,ih]
theorem ams {ah:AH}{rs:List (List AV)}{i o:Nat}{x z:AV}{row:List AV}(h:EO rs=true)(hr:rs[i]?=some row)(hx:jE ah x=some z):lK ah (Za rs i o x)=some (Za rs i o z):=by
 have h0:=S_.1 h;have hrow:fU row=true:=h0 row (aG hr);have he:rs.getD i []=row:=by simp [aB,hr]
 have h1:∀l:List AV,(∀y∈l,y∈row)->lI ah l=some l:=fun l hl=>vU (Ad.2 fun y hy=>Ad.1 hrow y (hl y hy));have h2:∀l:List (List AV),(∀y∈l,y∈rs)->lK ah l=some l:=fun l hl=>AX (S_.2 fun y hy=>h0 y (hl y hy));unfold Za lay;rw [he,Hr,Hr,h2 _ (fun y hy=>bJ hy),h2 _ (fun y hy=>List.mem_of_mem_drop hy)];simp only [lK,KI,h1 _ (fun y hy=>bJ hy),lI,hx,Option.bind_some,Option.map_some,dw,List.length_nil];rw [h1 _ (fun y hy=>List.mem_of_mem_drop hy)];rfl
section
variable {P : Program} {ρ:List AV} {ah:AH} {th:Tr SB} (hρ:fU ρ=true) (ha:Dz ρ th ah)
 include hρ ha
theorem aeT {nv b sz off n:Nat}{len:Tm}(hs:∀s∈(ayS th nv b sz off len).2.2,s.holds P ρ):Go.Fw.jE (nR ah n) ((SV.os b sz off len).den ρ)=Go.Fw.jE (nR ah n) ((ayS th nv b sz off len).1.den ρ):=by
 simp only [ayS] at hs ⊢;split
 .rename_i sz' t hb;rw [hb] at hs;dsimp only at hs;cases h0:Nat.beq sz sz'&&(Nat.beq off 0&&!(len.beq (.rlen t)))
  .rfl
  .simp only [h0,cond_true] at hs ⊢;simp only [ak] at h0;obtain ⟨h1,h2,-⟩:=h0;have h1:=au h1;have h2:=au h2;subst h1;subst h2;obtain ⟨-,q1,q2,q3,q4⟩:=hs (.sub sz t none (some len) (.var nv [])) (by simp);simp only [X6] at q1 q2 q3 q4;have hcl:=gQ (Tm.kH hρ t);show (match nR ah n b with|some (.rows sz' rs)=>if sz=sz'/\0+(len.den ρ).I.toNat<=rs.length/\fJ rs=true then some (AV.sl ((rs.drop 0).take (len.den ρ).I.toNat) false) else none|_=>none)=(lK (nR ah n) ((Tm.var nv []).den ρ).R).map fun r=>AV.sl r false;rw [IW (ha _ _ hb) hcl n,AX (Tm.kH hρ _),q4];dsimp only;rw [if_pos ⟨rfl,by omega,hcl⟩];simp
 .rfl
theorem amu {nv b sz off sz' o:Nat}{len t i:Tm}{x:SV}(hb:th.get b=some (.mQ sz' t i o x))(hs:∀s∈(ajh th nv b sz off len sz' t i o x).2.2,s.holds P ρ) :
  Go.Fw.jE (nR ah ayw) ((SV.os b sz off len).den ρ)=Go.Fw.jE (nR ah ayw) ((ajh th nv b sz off len sz' t i o x).1.den ρ):=by
 unfold ajh at hs ⊢;split
 .rename_i b2 z2 o2 l2;dsimp only at hs;split
  .rename_i z hz;rw [hz] at hs;dsimp only at hs;cases h0:Nat.beq sz sz'&&(Nat.beq off 0&&(z.cln&&z.iL))
   .rfl
   .simp only [h0,cond_true] at hs ⊢;simp only [ak] at h0;obtain ⟨h1,h2,-⟩:=h0;have h1:=au h1;have h2:=au h2;subst h1;subst h2;have hq:=(aeT (P:=P) hρ ha (n:=2) (nv:=nv) (b:=b2) (sz:=z2) (off:=o2) (len:=l2) (fun s hm=>hs s (b_ _ hm))).trans (I7 hρ (yD hρ ha 2) hz);obtain ⟨row,r1,r2,r3⟩:=hs (.st t i o [z] (.var (ayS th nv b2 z2 o2 l2).2.1 [])) (by simp);obtain ⟨-,q1,q2,q3,q4⟩:=hs (.sub sz (.var (ayS th nv b2 z2 o2 l2).2.1 []) none (some len) (.var ((ayS th nv b2 z2 o2 l2).2.1+1) [])) (by simp);simp only [X6] at q1 q2 q3 q4;have hR:=Tm.kH hρ t;have hN:=Tm.kH hρ (.var (ayS th nv b2 z2 o2 l2).2.1 []);have hab:=ha b _ hb;have e1:nR ah ayw b=some (.rows sz ((Tm.var (ayS th nv b2 z2 o2 l2).2.1 []).den ρ).R):=by
     show nR ah (2+1) b=_;have e2:lK (nR ah 2) (Za (t.den ρ).R (i.den ρ).I.toNat o ((SV.os b2 z2 o2 l2).den ρ))=some ((Tm.var (ayS th nv b2 z2 o2 l2).2.1 []).den ρ).R:=by
      rw [r3,ams hR r1 hq];rw [zq r1];rfl
     have e3:fJ (Za (t.den ρ).R (i.den ρ).I.toNat o ((SV.os b2 z2 o2 l2).den ρ))=false:=by
      cases hc:fJ (Za (t.den ρ).R (i.den ρ).I.toNat o ((SV.os b2 z2 o2 l2).den ρ)) with
      |false=>rfl|true=>
       have:=zA.1 (ug.1 hc (lay ((t.den ρ).R.getD (i.den ρ).I.toNat []) o [(SV.os b2 z2 o2 l2).den ρ]) (by simp [Za])) ((SV.os b2 z2 o2 l2).den ρ) (by simp [lay]);simp [SV.den,AV.clean] at this
     have e4:nR ah (2+1) b=(match ah b with|some (.rows sz rs)=>bif fJ rs then some (.rows sz rs) else (lK (nR ah 2) rs).map (qO.rows sz)|k=>k):=rfl;rw [e4,hab];simp only [SB.den,e3,cond_false];rw [e2];rfl
    show (match nR ah ayw b with|some (.rows sz' rs)=>if sz=sz'/\0+(len.den ρ).I.toNat<=rs.length/\fJ rs=true then some (AV.sl ((rs.drop 0).take (len.den ρ).I.toNat) false) else none|_=>none)=(lK (nR ah ayw) ((Tm.var ((ayS th nv b2 z2 o2 l2).2.1+1) []).den ρ).R).map fun r=>AV.sl r false;rw [e1,AX (Tm.kH hρ _),q4];dsimp only;rw [if_pos ⟨rfl,by omega,gQ hN⟩];simp
  .rfl
 .rfl
theorem amv {nv b sz off:Nat}{len:Tm}(hs:∀s∈(ES th nv (.os b sz off len)).2.2,s.holds P ρ):Go.Fw.jE (nR ah ayw) ((SV.os b sz off len).den ρ)=Go.Fw.jE (nR ah ayw) ((ES th nv (.os b sz off len)).1.den ρ):=by
 simp only [ES] at hs ⊢;split
 .rename_i sz' t i o x hb;rw [hb] at hs;exact amu hρ ha hb hs
 .rename_i hne
  have e:(match th.get b with|some (.mQ sz' t i o x)=>ajh th nv b sz off len sz' t i o x|_=>ayS th nv b sz off len)=ayS th nv b sz off len:=by
   split
   .rename_i sz' t i o x hb;exact absurd hb (hne sz' t i o x)
   .rfl
  rw [e] at hs;exact aeT hρ ha hs
 mutual
theorem Tc : ∀{x:SV} {nv:Nat},(∀s∈(ES th nv x).2.2,s.holds P ρ)->Go.Fw.jE (nR ah ayw) (x.den ρ)=Go.Fw.jE (nR ah ayw) ((ES th nv x).1.den ρ)
  | .os b sz off len,nv,hs=>amv hρ ha hs| .agg l,nv,hs=>by
   simp only [ES] at hs ⊢;simp only [SV.den,Go.Fw.jE,AZ (l:=l) hs]
  | .gW l,nv,hs=>by
   simp only [ES] at hs ⊢;simp only [SV.den,Go.Fw.jE,AZ (l:=l) hs]
  | .sc ..,nv,hs=>rfl| .c ..,nv,hs=>rfl| .nil,nv,hs=>rfl| .nan,nv,hs=>rfl| .sf ..,nv,hs=>rfl| .slc ..,nv,hs=>rfl| .vp ..,nv,hs=>rfl| .fn ..,nv,hs=>rfl| .kY ..,nv,hs=>rfl| .op ..,nv,hs=>rfl| .mp ..,nv,hs=>rfl| .ost ..,nv,hs=>rfl
theorem AZ : ∀{l:List SV} {nv:Nat},(∀s∈(vW th nv l).2.2,s.holds P ρ)->lI (nR ah ayw) (dK ρ l)=lI (nR ah ayw) (dK ρ (vW th nv l).1)
  |[],nv,hs=>rfl|x::r,nv,hs=>by
   simp only [vW] at hs ⊢;simp only [dK,lI,Tc (x:=x) (fun s h=>hs s (b_ _ h)),AZ (l:=r) (fun s h=>hs s (cO _ h))]
end
end
def DJ (rd:List Nat):List (Nat×Option SB):=rd.map fun b=>(b,none)
def aeU (P:Program)(X:oN)(pc:Pc)(nv:Nat)(f:FuncId)(args az:List SV)(rd:List Nat)(sd:List Side):Option SR:=
 match X pc nv f (jK az) with
 |some r=>some ⟨r.1,bif DF args||(r.1.jL||r.2.2.2) then [] else DJ rd,rd,sd++S9 r.2.2.1,r.2.1⟩|none=>match aiS P nv f with
  |none=>none|some r=>some ⟨r,bif DF args||r.jL then [] else DJ rd,rd,sd++[.call f (jK az) r],nv+1⟩
def acX (P:Program)(X:oN)(pc:Pc)(th:Tr SB)(nv:Nat)(f:FuncId)(args:List SV):Option SR:=
 match BZ (thN th ayw) (vW th nv args).1 with
 |none=>none|some az=>match acQ th ayw (zy args) with
  |none=>none|some rd=>aeU P X pc (vW th nv args).2.1 f args az rd (vW th nv args).2.2
section
variable {P : Program} {ρ:List AV} {pc:Pc} {id nv:Nat} {fr:jB} {ah:AH} {tr:Tr oq} {th:Tr SB} {K:mP->Prop} {X:oN}
theorem agV {f:FuncId}{args:List SV}{r:SR}(hρ:fU ρ=true)(hX:ny P ρ X)(hp:pc.holds ρ)(ha:Dz ρ th ah)(h:acX P X pc th nv f args=some r)(hs:∀s∈r.sd,s.holds P ρ)(hK:K (r.den ρ)):VP P ah f (dK ρ args) K:=by
 unfold acX at h;split at h
 .cases h
 .rename_i az has;split at h
  .cases h
  rename_i rd hrd;unfold aeU at h;have hw:∀w E vs,fG w E (dK ρ az) vs->fG w E (dK ρ (jK az)) vs:=fun w E vs hr=>
   fG.weak (lS (ρ:=ρ)).length (fun i a b h1 h2=>((lS (ρ:=ρ)).get i a b h1 h2).1) hr
  have fin:∀(v:SV) (b:Bool),(∀s∈(vW th nv args).2.2,s.holds P ρ)->PC P f (dK ρ (jK az)) (v.den ρ)->(b=true->PCa P f (dK ρ (jK az)) (v.den ρ))->K ⟨v.den ρ,(bif DF args||(v.jL||b) then [] else DJ rd).map (fun x=>(x.1,x.2.map (SB.den ρ))),rd⟩->VP P ah f (dK ρ args) K:=by
   intro v b hpre hp hpa hk;refine dG.2 ⟨_,(AZ hρ ha hpre).trans (rM hρ (yD hρ ha ayw) has),dK ρ (jK az),v.den ρ,hw,hp,?_⟩;rw [oz hρ,LZ hρ ha ayw hrd];cases hc:DF args||(v.jL||b)
   .rw [hc] at hk;refine .inr ?_;have e:(DJ rd).map (fun x=>(x.1,x.2.map (SB.den ρ)))=JE rd:=by
     unfold DJ JE;rw [List.map_map];rfl
    rw [<- e];exact hk
   .rw [hc] at hk;refine .inl ⟨?_,hk⟩;simp only [aY] at hc;rcases hc with hc|hc|hc
    .exact .inl (vV hρ hc)
    .exact .inr (.inl (I5 hc))
    .exact .inr (.inr (hpa hc))
  split at h
  .rename_i v hv;simp only [aj] at h;subst h;have hu:=Wy (P:=P) (ρ:=ρ) (l:=v.2.2.1) fun s hm=>hs s (cO _ hm);exact fin v.1 v.2.2.2 (fun s hm=>hs s (b_ _ hm)) (hX _ _ f _ v hv hp hu).1 (hX _ _ f _ v hv hp hu).2 hK
  .split at h
   .cases h
   .rename_i v hv;simp only [aj] at h;subst h;refine fin v false (fun s hm=>hs s (b_ _ hm)) (hs (.call f (jK az) v) (by simp)) (fun h=>by cases h) ?_;rw [Bool.or_false];exact hK
def acY (b:UInt8):List SV:=[.sc (.int .u8) (.li (.ofNat b.toNat))]
theorem Td {l:List UInt8}:fQ ρ (l.map acY)=l.map Dl:=by
 rw [jd,List.map_map];rfl
theorem agW {row:List SV}{b:UInt8}(h:aai row=some b):dK ρ row=Dl b:=by
 unfold aai at h;split at h
 .rename_i n;cases hn:Nat.blt n 256
  .simp [hn] at h
  .simp only [hn,cond_true,aj] at h;subst h;have:=KC hn;have e:(UInt8.ofNat n).toNat=n:=(by simp;omega);simp only [Dl,e];rfl
 .cases h
theorem PO : ∀{rows:List (List SV)} {l:List UInt8},Dc rows=some l->fQ ρ rows=l.map Dl
 |[],l,h=>by simp only [Dc,aj] at h;subst h;rfl
 |x::r,l,h=>by
  simp only [Dc] at h;split at h
  .cases h
  .rename_i b hb;split at h
   .cases h
   .rename_i l' hl;simp only [aj] at h;subst h;simp only [fQ,aX,agW (ρ:=ρ) hb,PO hl]
def Yo (id:Nat)(el:TypeId)(pre:List (Nat×Option SB))(r:SR):Option SR:=
 match r with
 |⟨.os i sz 0 (.li (.ofNat n)),wr,rd,sd,nv⟩=>match wr.getLast? with
  |some (i',some (.rows sz' rows))=>match Dc rows with
   |some l=>bif (Nat.beq i id&&Nat.beq i' id)&&(Nat.beq sz 1&&(Nat.beq sz' 1&&Nat.beq n l.length)) then some ⟨.os id 1 0 (.li (.ofNat l.length)),pre++[(id,some (.iD el 1 (l.map acY)))],rd,sd,nv⟩ else none
   |none=>none
  |_=>none
 |_=>none
def aji (P:Program)(pc:Pc)(th:Tr SB)(nv id:Nat)(t t2:TypeId)(x y:SV):Option SR:=
 match P.underlying t with
 |some (.slice el)=>match Wp x with
  | .nil=>match LX P pc th nv id t t2 .nil y with
   |some ⟨v,[(i',k)],rd,sd,tJ⟩=>Yo id el [] ⟨v,[(i',k)],rd,sd,tJ⟩|_=>none
  | .os b sz off len=>match th.get b with
   |some (.iD ty sz' rs)=>bif Nat.beq ty el&&Nat.beq off 0 then
     match LX P pc (th.upd uf b (some (.rows sz' rs))) nv id t t2 (.os b sz off len) y with
     |some ⟨v,[(b',none),(i',k)],rd,sd,tJ⟩=>bif Nat.beq b' b&&rd.any (Nat.beq b) then Yo id el [(b,none)] ⟨v,[(b',none),(i',k)],rd,sd,tJ⟩ else none
     |_=>none
    else none
   |_=>none
  |_=>none
 |_=>none
theorem WA {id:Nat}{el:TypeId}{pre:List (Nat×Option SB)}{r r':SR}(h:Yo id el pre r=some r'):∃(l:List UInt8) (rows:List (List SV)),r.v=.os id 1 0 (.li (.ofNat l.length))/\r.wr.getLast?=some (id,some (.rows 1 rows))/\fQ ρ rows=l.map Dl/\
  r'=⟨.os id 1 0 (.li (.ofNat l.length)),pre++[(id,some (.iD el 1 (l.map acY)))],r.rd,r.sd,r.nv⟩:=by
 unfold Yo at h;split at h
 .rename_i i sz n wr rd sd nv;split at h
  .rename_i i' sz' rows hw;split at h
   .rename_i l hl;cases h0:(Nat.beq i id&&Nat.beq i' id)&&(Nat.beq sz 1&&(Nat.beq sz' 1&&Nat.beq n l.length))
    .simp [h0] at h
    .simp only [h0,cond_true,aj] at h;simp only [ak] at h0;obtain rfl:=au h0.1.1;obtain rfl:=au h0.1.2;obtain rfl:=au h0.2.1;obtain rfl:=au h0.2.2.1;obtain rfl:=au h0.2.2.2;exact ⟨l,rows,rfl,hw,PO hl,h.symm⟩
   .cases h
  .cases h
 .cases h
theorem ajj {t t2:TypeId}{x y:SV}{r:SR}(ha:Dz ρ th ah)(h:aji P pc th nv id t t2 x y=some r)(hs:∀s∈r.sd,s.holds P ρ)(hK:K (r.den ρ)):Zi P id ah t t2 (x.den ρ) (y.den ρ) K:=by
 unfold aji at h;split at h
 .rename_i el hu;rw [<- Wq (x:=x)];generalize Wp x=x' at h ⊢;split at h
  .split at h
   .rename_i v i' k rd sd tJ hq;obtain ⟨l,rows,h1,h2,h3,rfl⟩:=WA (ρ:=ρ) h;refine ⟨el,l,rd,hu,?_⟩;refine ⟨KG (K:=fun r=>r=_) ha hq hs ?_,?_⟩
    .simp only at h1;subst h1;simp only [List.getLast?_singleton,aj,aJ] at h2;obtain ⟨rfl,rfl⟩:=h2;simp only [SR.den,SV.den,aX,List.map_nil,Option.map_some,SB.den,h3];rfl
    .simp only [SR.den,aX,List.map_nil,List.nil_append,Option.map_some,SB.den,Td] at hK;exact hK
   .cases h
  .rename_i b sz off len;split at h
   .rename_i ty sz' rs hb;cases h0:Nat.beq ty el&&Nat.beq off 0
    .simp [h0] at h
    .simp only [h0,cond_true] at h;simp only [ak] at h0;have hof:=au h0.2;obtain rfl:=au h0.1;split at h
     .rename_i v b' i' k rd sd tJ hq;cases h4:Nat.beq b' b&&rd.any (Nat.beq b)
      .simp [h4] at h
      .simp only [h4,cond_true] at h;simp only [ak,List.any_eq_true] at h4;obtain rfl:=au h4.1;obtain ⟨b2,hb2,hb3⟩:=h4.2;obtain rfl:=au hb3;obtain ⟨l',rows,h1,h2,h3,rfl⟩:=WA (ρ:=ρ) h;refine ⟨ty,l',rd,hu,?_⟩;show (match ah b' with|some (.iD ty' awe awf)=>_|_=>False);rw [ha _ _ hb];refine ⟨rfl,hof,hb2,KG (K:=fun r=>r=_) (ah:=upd ah b' (some (.rows sz' (fQ ρ rs)))) ?_ hq hs ?_,?_⟩
       .intro b3 k3 hk3;rcases Tr.kW _ _ _ _ _ _ hk3 with ⟨rfl,e⟩|⟨hne,e⟩
        .simp only [aj] at e;subst e;rw [gX rfl];rfl
        .rw [ayp hne];exact ha _ _ e
       .simp only at h1;subst h1;simp only [List.getLast?_cons_cons,List.getLast?_singleton,aj,aJ] at h2;obtain ⟨rfl,rfl⟩:=h2;simp only [SR.den,SV.den,aX,List.map_nil,Option.map_some,Option.map_none,SB.den,h3];rfl
       .simp only [SR.den,aX,List.map_nil,bV,List.nil_append,Option.map_some,Option.map_none,SB.den,Td] at hK;exact hK
     .cases h
   .cases h
  .cases h
 .cases h
def ajk (P:Program)(pc:Pc)(th:Tr SB)(nv id:Nat)(t t2:TypeId)(x y:SV):Option SR:=
 match aji P pc th nv id t t2 x y with
 |some r=>some r|none=>LX P pc th nv id t t2 x y
theorem ajl {t t2:TypeId}{x y:SV}{r:SR}(ha:Dz ρ th ah)(h:ajk P pc th nv id t t2 x y=some r)(hs:∀s∈r.sd,s.holds P ρ)(hK:K (r.den ρ)):Zj P id ah t t2 (x.den ρ) (y.den ρ) K:=by
 unfold ajk at h;split at h
 .rename_i r' hr;simp only [aj] at h;subst h;exact .inr (ajj ha hr hs hK)
 .exact .inl (KG ha h hs hK)
def Yp (c:Tm):SV->SV->Option SV
 | .sc k x,.sc k' y=>bif decide (k=k') then some (.sc k (Sv k c x y)) else none
 |x,y=>bif x.beq y then some x else none
theorem Tf {c:Tm}{x y z:SV}(h:Yp c x y=some z):z.den ρ=bif (c.den ρ).B then x.den ρ else y.den ρ:=by
 unfold Yp at h;split at h
 .rename_i k x k' y;by_cases hk:k=k'
  .subst hk;simp only [decide_true,cond_true,aj] at h;subst h;exact Sz
  .simp [hk] at h
 .cases hb:x.beq y
  .simp [hb] at h
  .simp only [hb,cond_true,aj] at h;subst h;rw [SV.beq_eq hb];simp
def PS (c:Tm):List SV->List SV->Option (List SV)
 |[],[]=>some []|x::r,y::s=>match Yp c x y,PS c r s with|some z,some l=>some (z::l)|_,_=>none
 |_,_=>none
theorem Ou {c:Tm}:∀{x y z:List SV},PS c x y=some z->dK ρ z=bif (c.den ρ).B then dK ρ x else dK ρ y
 |[],[],z,h=>by simp only [PS,aj] at h;subst h;simp [dK]
 |x::r,y::s,z,h=>by
  simp only [PS] at h;split at h
  .rename_i z l hz hl;simp only [aj] at h;subst h;simp only [dK,Tf hz,Ou hl];cases (c.den ρ).B<;>rfl
  .cases h
 |[],_::_,z,h=>by simp [PS] at h
 |_::_,[],z,h=>by simp [PS] at h
def ajm (c:Tm):SV->SV->Option SV
 | .agg x,.agg y=>match PS c x y with|some z=>some (.agg z)|none=>none
 | .gW x,.gW y=>match PS c x y with|some z=>some (.gW z)|none=>none
 |x,y=>Yp c x y
theorem agX {c:Tm}{x y z:SV}(h:ajm c x y=some z):z.den ρ=bif (c.den ρ).B then x.den ρ else y.den ρ:=by
 unfold ajm at h;split at h
 .split at h
  .rename_i z hz;simp only [aj] at h;subst h;simp only [SV.den,Ou hz];cases (c.den ρ).B<;>rfl
  .cases h
 .split at h
  .rename_i z hz;simp only [aj] at h;subst h;simp only [SV.den,Ou hz];cases (c.den ρ).B<;>rfl
  .cases h
 .exact Tf h
def Ti (pc:Pc)(tr:Tr oq):Option Operand->Option (Option SV)
 |none=>some none|some x=>match zf pc tr x with|some v=>some (some v)|none=>none
theorem Ov {x:Option Operand}{v:Option SV}(hp:pc.holds ρ)(hf:Vs ρ tr fr)(h:Ti pc tr x=some v) :
  ∃l,Q8 fr (x.toList.map fun y=>((),y))=some l/\l.head?.map (·.2)=v.map (SV.den ρ):=by
 unfold Ti at h;split at h
 .simp only [aj] at h;subst h;exact ⟨[],rfl,rfl⟩
 .rename_i x;split at h
  .rename_i v hv;simp only [aj] at h;subst h;exact ⟨[((),v.den ρ)],by simp [Q8,gK hp hf hv],rfl⟩
  .cases h
def QC (mx:Bool)(nv:Nat):List SV->Option SR
 |[.sc (.int k) a,.sc (.int k') b]=>bif decide (k=k') then some (.val nv (.sc (.int k) (bif mx then ayP (ayA .lss (.int k) a b) b a else ayP (ayA .lss (.int k) b a) b a))) else none
 |_=>none
theorem Tj {mx:Bool}{l:List SV}{r:SR}(h:QC mx nv l=some r)(hK:K (r.den ρ)):BH mx (dK ρ l) fun a=>K (.val a):=by
 unfold QC at h;split at h
 .rename_i k a k' b;by_cases hk:k=k'
  .subst hk;simp only [decide_true,cond_true,aj] at h;subst h;refine ⟨rfl,?_⟩;cases mx
   .simp only [cond_false,SR.qQ,SV.den,Kd.av,xB,mW,oL,D.BP] at hK;by_cases hlt:(b.den ρ).I<(a.den ρ).I
    .simp only [hlt,decide_true,cond_true] at hK;simpa [hlt] using hK
    .simp only [hlt,decide_false,cond_false] at hK;simpa [hlt] using hK
   .simp only [cond_true,SR.qQ,SV.den,Kd.av,xB,mW,oL,D.BP] at hK;by_cases hlt:(a.den ρ).I<(b.den ρ).I
    .simp only [hlt,decide_true,cond_true] at hK;simpa [hlt] using hK
    .simp only [hlt,decide_false,cond_false] at hK;simpa [hlt] using hK
  .simp [hk] at h
 .cases h
def sOp (P:Program)(X:oN)(pc:Pc)(tr:Tr oq)(th:Tr SB)(id nv:Nat)(op:Op):Option SR:=
 match op with
 | .move x | .assign x=>match zf pc tr x with|some v=>some (.val nv v)|none=>none
 | .pick c a b=>match zf pc tr c with
  |some (.sc .bool t)=>match pc.known t with
   |some true=>match zf pc tr a with|some v=>some (.val nv v)|none=>none
   |some false=>match zf pc tr b with|some v=>some (.val nv v)|none=>none
   |none=>match zf ((t,true)::pc) tr a,zf ((t,false)::pc) tr b with
    |some x,some y=>match ajm t x y with|some z=>some (.val nv z)|none=>none
    |_,_=>none
  |_=>none
 | .load t a=>match zf pc tr a with|some a=>aeI P pc th nv t a|none=>none
 | .store t a v=>match zf pc tr a,zf pc tr v with|some a,some v=>acC P pc th nv t a v|_,_=>none
 | .fieldAddr s x k=>match zf pc tr x with|some a=>Kz P nv s a k|none=>none
 | .field s x k=>match zf pc tr x with|some a=>acD P nv s a k|none=>none
 | .indexAddr t x i=>match zf pc tr x,zf pc tr i with|some x,some i=>KA P pc nv t x i|_,_=>none
 | .index t x i=>match zf pc tr x,zf pc tr i with|some x,some i=>acE P pc nv t x i|_,_=>none
 | .extract x k=>match zf pc tr x with|some x=>SC nv x k|none=>none
 | .binOp o t x y _=>match zf pc tr x,zf pc tr y with|some x',some y'=>(match apz nv o x' y' with|some r=>some r|none=>apy P pc nv o t (isC x||isC y) x' y')|_,_=>none
 | .unOp o _ x=>match zf pc tr x with|some x=>sUn nv o x|none=>none
 | .convert s d x=>match zf pc tr x with|some x=>ajd P pc th nv s d x|none=>none
 | .makeMap t none=>L8 P t id nv none| .makeMap t (some r)=>match zf pc tr r with|some r=>L8 P t id nv (some r)|none=>none
 | .lookup t m k c=>match zf pc tr m,zf pc tr k with|some m,some k=>Yk P pc th nv t m k c|_,_=>none
 | .mapUpdate t m k v | .insert t m k v=>match zf pc tr m,zf pc tr k,zf pc tr v with|some m,some k,some v=>Yl P pc th nv t m k v|_,_,_=>none
 | .range t x=>match zf pc tr x with|some x=>acU P th id nv t x|none=>none
 | .next x str=>match zf pc tr x with|some x=>ajf th nv x str|none=>none
 | .entry x=>match zf pc tr x with|some x=>acV th nv x|none=>none
 | .makeInterface t x=>match zf pc tr x with|some x=>SY P nv t x|none=>none
 | .typeAssert x _ a c=>match zf pc tr x with|some x=>Ym P nv x a c|none=>none
 | .nilCheck x=>match zf pc tr x with|some x=>Ot nv x|none=>none
 | .slice t x lo hi mx=>match zf pc tr x,Ti pc tr lo,Ti pc tr hi,Ti pc tr mx with
  |some x,some lo,some hi,some mx=>Yg P pc th nv t x lo hi mx|_,_,_,_=>none
 | .build t parts=>match agz pc tr parts.toList with|some ps=>acM P nv t ps|none=>none
 | .buildSlice t len parts=>match agz pc tr parts.toList with|some ps=>Ho P nv t id len ps|none=>none
 | .box _ v=>match zf pc tr v with|some v=>apF nv id v|none=>none
 | .alloc t=>acN P nv id t| .makeSlice t l c=>match zf pc tr l,zf pc tr c with|some l,some c=>KE P nv id t l c|_,_=>none
 | .makeFunc f first captured=>match Ky pc tr first.toList,Ky pc tr captured.toList with|some x,some y=>Wl nv f x y|_,_=>none
 | .call ⟨.builtin .len,args,ts⟩=>match Ky pc tr args.toList,ts[0]? with|some [x],some t=>sLn P pc th nv t x|_,_=>none
 | .call ⟨.builtin .append,args,ts⟩=>match Ky pc tr args.toList,ts[0]?,ts[1]? with|some [x,y],some t,some t2=>ajk P pc th nv id t t2 x y|_,_,_=>none
 | .call ⟨.builtin .copy,args,ts⟩=>match Ky pc tr args.toList,ts[0]? with|some [x,y],some t=>aja P pc th nv t x y|_,_=>none
 | .call ⟨.builtin .clear,args,ts⟩=>match Ky pc tr args.toList,ts[0]? with|some [x],some t=>acW P th nv t x|_,_=>none
 | .call ⟨.builtin .min,args,_⟩=>match Ky pc tr args.toList with|some l=>QC false nv l|none=>none
 | .call ⟨.builtin .max,args,_⟩=>match Ky pc tr args.toList with|some l=>QC true nv l|none=>none
 | .call ⟨.value (.func f),args,_⟩=>match Ky pc tr args.toList with|some l=>acX P X pc th nv f l|none=>none
 |_=>none
theorem Ox {op:Op}{r:SR}(hρ:fU ρ=true)(hX:ny P ρ X)(hp:pc.holds ρ)(hf:Vs ρ tr fr)(ha:Dz ρ th ah)(h:sOp P X pc tr th id nv op=some r)(hs:∀s∈r.sd,s.holds P ρ)(hK:K (r.den ρ)) :
  Qi P id fr ah op K:=by
 unfold sOp at h;split at h
 .split at h
  .rename_i v hv;simp only [aj] at h;subst h;exact dG.2 ⟨_,gK hp hf hv,hK⟩
  .cases h
 .split at h
  .rename_i v hv;simp only [aj] at h;subst h;exact dG.2 ⟨_,gK hp hf hv,hK⟩
  .cases h
 .split at h
  .rename_i t ht;refine dG.2 ⟨_,gK hp hf ht,?_⟩;show VN (t.den ρ).B _ _;rw [uy];split at h
   .rename_i hk;rw [if_pos (Pc.fM hp hk)];split at h
    .rename_i v hv;simp only [aj] at h;subst h;exact dG.2 ⟨_,gK hp hf hv,hK⟩
    .cases h
   .rename_i hk;rw [if_neg (by rw [Pc.fM hp hk];simp)];split at h
    .rename_i v hv;simp only [aj] at h;subst h;exact dG.2 ⟨_,gK hp hf hv,hK⟩
    .cases h
   .split at h
    .rename_i x y hx hy;split at h
     .rename_i z hz;simp only [aj] at h;subst h;have hz':K (.val (z.den ρ)):=hK;rw [agX hz] at hz';cases hb:(t.den ρ).B
      .rw [hb] at hz';rw [if_neg (by simp)];exact dG.2 ⟨_,gK (Pc.iw hb hp) hf hy,hz'⟩
      .rw [hb] at hz';rw [if_pos rfl];exact dG.2 ⟨_,gK (Pc.iw hb hp) hf hx,hz'⟩
     .cases h
    .cases h
  .cases h
 .split at h
  .rename_i a hv;exact dG.2 ⟨_,gK hp hf hv,ZV ha h hs hK⟩
  .cases h
 .split at h
  .rename_i a v h1 h2;exact dG.2 ⟨_,gK hp hf h1,dG.2 ⟨_,gK hp hf h2,agB ha h hs hK⟩⟩
  .cases h
 .split at h
  .rename_i a hv;exact dG.2 ⟨_,gK hp hf hv,Vt h hK⟩
  .cases h
 .split at h
  .rename_i a hv;exact dG.2 ⟨_,gK hp hf hv,agC h hK⟩
  .cases h
 .split at h
  .rename_i a v h1 h2;exact dG.2 ⟨_,gK hp hf h1,dG.2 ⟨_,gK hp hf h2,Vu hp h hs hK⟩⟩
  .cases h
 .split at h
  .rename_i a v h1 h2;exact dG.2 ⟨_,gK hp hf h1,dG.2 ⟨_,gK hp hf h2,agE hp h hs hK⟩⟩
  .cases h
 .split at h
  .rename_i a hv;exact dG.2 ⟨_,gK hp hf hv,ZW h hK⟩
  .cases h
 .split at h
  .rename_i a v h1 h2;exact dG.2 ⟨_,gK hp hf h1,dG.2 ⟨_,gK hp hf h2,by
    split at h
    .rename_i hz;obtain rfl:=Option.some.inj h;exact .inr (amh hz hK)
    .exact .inl (amj hp h hs hK)⟩⟩
  .cases h
 .split at h
  .rename_i a hv;exact dG.2 ⟨_,gK hp hf hv,apC h hK⟩
  .cases h
 .split at h
  .rename_i a hv;exact dG.2 ⟨_,gK hp hf hv,aje ha h hs hK⟩
  .cases h
 .exact PN h hK
 .split at h
  .rename_i a hv;exact dG.2 ⟨_,gK hp hf hv,PN h hK⟩
  .cases h
 .split at h
  .rename_i a v h1 h2;exact dG.2 ⟨_,gK hp hf h1,dG.2 ⟨_,gK hp hf h2,acR hp ha h hs hK⟩⟩
  .cases h
 .split at h
  .rename_i a v u h1 h2 h3;exact dG.2 ⟨_,gK hp hf h1,dG.2 ⟨_,gK hp hf h2,dG.2 ⟨_,gK hp hf h3,SX hp ha h hs hK⟩⟩⟩
  .cases h
 .split at h
  .rename_i a v u h1 h2 h3;exact dG.2 ⟨_,gK hp hf h1,dG.2 ⟨_,gK hp hf h2,dG.2 ⟨_,gK hp hf h3,SX hp ha h hs hK⟩⟩⟩
  .cases h
 .split at h
  .rename_i a hv;exact dG.2 ⟨_,gK hp hf hv,agS ha h hK⟩
  .cases h
 .split at h
  .rename_i a hv;exact dG.2 ⟨_,gK hp hf hv,ajg ha h hK⟩
  .cases h
 .split at h
  .rename_i a hv;exact dG.2 ⟨_,gK hp hf hv,agT ha h hK⟩
  .cases h
 .split at h
  .rename_i a hv;exact dG.2 ⟨_,gK hp hf hv,aaj h hK⟩
  .cases h
 .split at h
  .rename_i a hv;exact dG.2 ⟨_,gK hp hf hv,acT h hK⟩
  .cases h
 .split at h
  .rename_i a hv;exact dG.2 ⟨_,gK hp hf hv,Yn h hK⟩
  .cases h
 .split at h
  .rename_i x lo hi mx h1 h2 h3 h4;obtain ⟨l,l1,l2⟩:=Ov hp hf h2;obtain ⟨j,j1,j2⟩:=Ov hp hf h3;obtain ⟨m,m1,m2⟩:=Ov hp hf h4;refine dG.2 ⟨_,gK hp hf h1,dG.2 ⟨l,l1,dG.2 ⟨j,j1,dG.2 ⟨m,m1,?_⟩⟩⟩⟩;rw [l2,j2,m2];exact acL hp ha h hs hK
  .cases h
 .split at h
  .rename_i ps h1;exact dG.2 ⟨_,X8 hp hf h1,agN h hK⟩
  .cases h
 .split at h
  .rename_i ps h1;exact dG.2 ⟨_,X8 hp hf h1,SL h hK⟩
  .cases h
 .split at h
  .rename_i a hv;exact dG.2 ⟨_,gK hp hf hv,amn h hK⟩
  .cases h
 .exact agO h hK
 .split at h
  .rename_i a v h1 h2;exact dG.2 ⟨_,gK hp hf h1,dG.2 ⟨_,gK hp hf h2,Vw h hs hK⟩⟩
  .cases h
 .split at h
  .rename_i x y h1 h2;refine dG.2 ⟨_,uD hp hf h1,dG.2 ⟨_,uD hp hf h2,?_⟩⟩;unfold Wl at h;split at h
   .simp only [aj] at h;subst h;exact hK
   .cases h
  .cases h
 .split at h
  .rename_i x t h1 h2;refine dG.2 ⟨_,uD hp hf h1,?_⟩;exact dG.2 ⟨_,h2,apG hp ha h hs hK⟩
  .cases h
 .split at h
  .rename_i x y t t2 h1 h2 h3;refine dG.2 ⟨_,uD hp hf h1,?_⟩;exact dG.2 ⟨_,h2,dG.2 ⟨_,h3,ajl ha h hs hK⟩⟩
  .cases h
 .split at h
  .rename_i x y t h1 h2;refine dG.2 ⟨_,uD hp hf h1,?_⟩;exact dG.2 ⟨_,h2,ajb hp ha h hs hK⟩
  .cases h
 .split at h
  .rename_i x t h1 h2;refine dG.2 ⟨_,uD hp hf h1,?_⟩;exact dG.2 ⟨_,h2,agU ha h hs hK⟩
  .cases h
 .split at h
  .rename_i l h1;exact dG.2 ⟨_,uD hp hf h1,Tj h hK⟩
  .cases h
 .split at h
  .rename_i l h1;exact dG.2 ⟨_,uD hp hf h1,Tj h hK⟩
  .cases h
 .split at h
  .rename_i l h1;exact dG.2 ⟨_,uD hp hf h1,agV hρ hX hp ha h hs hK⟩
  .cases h
 .cases h
end
end Go.Fw
end
section
namespace Go.Fw
variable [iT]
def acZ (b:Nat)(l:List Nat):Bool:=l.any (fun c=>Nat.beq c b)
theorem Tn {b:Nat}{l:List Nat}(h:acZ b l=false):b∉l:=by
 intro hm;unfold acZ at h;rw [List.any_eq_false] at h;exact h b hm (by simp)
def ayJ (M:List Nat)(i:Nat)(rd wr:List Nat)(f:zl):Bool:=
 (M.getD i 0).testBit f.i||(f.wr.all (fun b=>!acZ b rd&&!acZ b wr)&&f.rd.all fun b=>!acZ b wr)
theorem WB {M:List Nat}{i:Nat}{rd wr:List Nat}{f:zl}(h1:ayJ M i rd wr f=true):Kq M i rd wr f:=by
 unfold ayJ at h1;unfold Kq;simp only [aY,ak,aF,Bool.not_eq_true'] at h1;rcases h1 with h1|⟨h1,h2⟩
 .exact .inl h1
 .exact .inr ⟨fun b hb=>⟨Tn (h1 b hb).1,Tn (h1 b hb).2⟩,fun b hb=>Tn (h2 b hb)⟩
def wrT (th:Tr SB):List (Nat×Option SB)->Tr SB
 |[]=>th|(b,k)::r=>wrT (th.upd uf b k) r
theorem Ht {ρ:List AV}:∀{wr:List (Nat×Option SB)} {th:Tr SB} {ah:AH},Dz ρ th ah->Dz ρ (wrT th wr) (lZ ah (wr.map fun x=>(x.1,x.2.map (SB.den ρ))))
 |[],th,ah,h=>h|(b,k)::r,th,ah,h=>by
  refine Ht (wr:=r) (th:=th.upd uf b k) fun j y hj=>?_;rcases Tr.kW _ _ _ _ _ _ hj with ⟨rfl,e⟩|⟨hne,e⟩
  .subst e;rw [gX rfl];rfl
  .rw [ayp hne];exact h j y e
inductive When where
 |yes
 |no
 |maybe (l:Pc)
def aeV (ops:Array Oper)(pc:Pc)(tr:Tr oq)(o:Oper):Option When:=
 match o.guard with
 |none=>some .yes|some (j,want)=>match (ops[j]?).bind (·.dst) with
  |none=>none|some d=>match tr.get d with
   |none=>none|some e=>match e.v with
    | .sc .bool t=>match e.h with
     |[]=>match pc.known t with
      |some b=>some (bif b == want then .yes else .no)|none=>some (.maybe [(t,want)])
     |h=>match Pc.known (h++pc) t with
      |some b=>some (bif b == want then .maybe h else .no)|none=>some (.maybe ((t,want)::h))
    | .c .undef=>some .no|_=>none
def Gm (tr:Tr oq)(d:Option Nat)(e:oq):Tr oq:=match d with|some d=>tr.upd uf d (some e)|none=>tr
def Tq (N:Nat):Option Nat->Bool|some d=>Nat.blt d N|none=>true
section
variable {P : Program} {ρ:List AV} {pc:Pc} {fr:jB} {ah:AH} {tr:Tr oq} {th:Tr SB} {X:oN}
theorem qo {N:Nat}{d:Option Nat}{e:oq}(hf:Vs ρ tr fr)(hd:Tq N d=true)(hN:fr.length=N):Vs ρ (Gm tr d e) (lH fr d (e.den ρ)):=by
 cases d with
 |none=>exact hf|some d=>
  intro t x hx;have hlt:d<fr.length:=by rw [hN];exact KC hd
  simp only [lH,lM];rcases Tr.kW _ _ _ _ _ _ hx with ⟨rfl,e1⟩|⟨hne,e1⟩
  .simp only [aj] at e1;subst e1;rw [if_pos ⟨rfl,hlt⟩]
  .rw [if_neg (fun h=>hne h.1)];exact hf t x e1
theorem jg {d:Option Nat}{a:AV}:(lH fr d a).length=fr.length:=by cases d<;>simp [lH,fB]
theorem Pc.ET {l:Pc}(h:l.all (fun x=>(x.1.den ρ).B == x.2)=true)(hp:pc.holds ρ):Pc.holds ρ (l++pc):=by
 intro x hx;rw [aH] at hx;rcases hx with hx|hx
 .rw [aF] at h;simpa using h x hx
 .exact hp x hx
def When.sem (ρ:List AV):When->Bool->Prop
 | .yes,b=>b=true| .no,b=>b=false| .maybe l,b=>b=l.all (fun x=>(x.1.den ρ).B == x.2)
theorem vX {ops:Array Oper}{o:Oper}{wn:When}(hp:pc.holds ρ)(hf:Vs ρ tr fr)(h:aeV ops pc tr o=some wn){k:Bool->Prop}(hk:∀b,wn.sem ρ b->k b):jc ops fr o k:=by
 unfold aeV at h;unfold jc;split at h
 .rename_i hg;simp only [aj] at h;subst h;rw [hg];exact hk _ rfl
 .rename_i j want hg;rw [hg];split at h
  .cases h
  .rename_i d hd;refine dG.2 ⟨d,hd,?_⟩;split at h
   .cases h
   .rename_i e he;refine dG.2 ⟨_,hf d e he,?_⟩;obtain ⟨eh,ev⟩:=e;dsimp only at h;split at h
    .rename_i t;split at h
     .split at h
      .rename_i b hb;simp only [aj] at h;subst h;have hb':=Pc.fM hp hb;show k ((t.den ρ).B == want);rw [hb'];refine hk _ ?_;cases hbw:b == want<;>rfl
      .simp only [aj] at h;subst h;show k ((t.den ρ).B == want);exact hk _ (by simp [When.sem])
     .split at h
      .rename_i b hb;simp only [aj] at h;subst h;simp only [oq.den];cases ha:eh.all (fun x=>(x.1.den ρ).B == x.2)
       .refine hk false ?_;cases hbw:b == want
        .simp [When.sem]
        .simp [When.sem,ha]
       .have hb':=Pc.fM (Pc.ET ha hp) hb;refine hk ((t.den ρ).B == want) ?_;rw [hb'];cases hbw:b == want
        .simp [When.sem]
        .simp [When.sem,ha]
      .simp only [aj] at h;subst h;simp only [oq.den];cases ha:eh.all (fun x=>(x.1.den ρ).B == x.2)
       .exact hk false (by simp [When.sem,ha])
       .exact hk _ (by simp [When.sem,ha])
    .simp only [aj] at h;subst h;simp only [oq.den];cases ha:eh.all (fun x=>(x.1.den ρ).B == x.2)<;>exact hk false rfl
    .cases h
end
end Go.Fw
end
