
import Derived.Test.YtookhagokgenhaaGreatFwB
set_option linter.unusedVariables false
set_option linter.unusedSimpArgs false
set_option linter.unusedSectionVars false
set_option linter.unnecessarySimpa false
section
namespace Go.Fw
variable [jU]
inductive D where
 |b (v:Bool)
 |i (v:Int)
 |f (v:Nat)
 |s (v:List UInt8)
 |r (v:List (List AV))
def D.B : D->Bool | .b v=>v|_=>false
def D.I : D->Int | .i v=>v|_=>0
def D.F : D->Nat | .f v=>v|_=>0
def D.S : D->List UInt8 | .s v=>v|_=>[]
def D.R : D->List (List AV) | .r v=>v|_=>[]
def AV.D : AV->D
 | .p (.bool v)=>.b v
 | .p (.int _ n)=>.i n
 | .p (.float _ n)=>.f n
 | .str l=>.s l
 | .sl rows _=>.r rows
 |_=>.b false
inductive Kd where
 |bool
 |int (k:IntKind)
 |kS
 |str
 |sl
 deriving DecidableEq
def Kd.av : Kd->D->AV
 | .bool,d=>.p (.bool d.B)
 | .int k,d=>.p (.int k d.I)
 | .kS,d=>.p (.float .f64 d.F)
 | .str,d=>.str d.S
 | .sl,d=>.sl d.R false
inductive Tm where
 |lb (v:Bool)
 |li (v:Int)
 |lf (v:Nat)
 |ls (v:List UInt8)
 |nl
 |var (i:Nat) (p:List Nat)
 |bin (o:BinOp) (k:Kd) (x y:Tm)
 |not (x:Tm)
 |and (x y:Tm)
 |or (x y:Tm)
 |ite (c x y:Tm)
 |neg (k:Kd) (x:Tm)
 |com (k:IntKind) (x:Tm)
 |conv (k:IntKind) (x:Tm)
 |toF (x:Tm)
 |ZL (x:Tm)
 |slen (x:Tm)
 |rlen (x:Tm)
 |byte (x i:Tm)
 |ah5 (x lo hi:Tm)
 |bts (x:Tm)
 |sbs (x:Tm)
def Ye (row:List AV):UInt8:=(ayj row).getD 0
def ayT (b:UInt8):List AV:=[.p (.int .u8 b.toNat)]
def eX : AV:=.p undef
def ax8 : AV->List Nat->AV
 |a,[]=>a
 | .agg l,j::p=>ax8 (l.getD j eX) p
 | .fA l,j::p=>ax8 (l.getD j eX) p
 |_,_=>eX
def qh (o:BinOp)(k:Kd)(x y:D):D:=
 match k with
 | .int k=>
  match o with
  | .add=>.i (dZ k x.I y.I)
  | .sub=>.i (iU k x.I y.I)
  | .mul=>.i (OV k x.I y.I)
  | .quo=>.i (Nj k x.I y.I)
  | .rem=>.i (Nk k x.I y.I)
  | .and=>.i (jK k x.I y.I)
  | .or=>.i (Wu k x.I y.I)
  | .xor=>.i (atb k x.I y.I)
  | .andNot=>.i (nI k x.I y.I)
  | .shl=>.i (atc k x.I y.I)
  | .shr=>.i (jf k x.I y.I)
  | .eql=>.b (dW x.I y.I)
  | .neq=>.b (je x.I y.I)
  | .lss=>.b (decide (x.I<y.I))
  | .leq=>.b (decide (x.I<=y.I))
  | .gtr=>.b (decide (x.I > y.I))
  | .geq=>.b (decide (x.I>=y.I))
 | .kS=>
  match o with
  | .add=>.f ((FloatKind.f64.format.add x.F y.F).getD 0)
  | .sub=>.f ((FloatKind.f64.format.sub x.F y.F).getD 0)
  | .mul=>.f ((FloatKind.f64.format.mul x.F y.F).getD 0)
  | .quo=>.f ((FloatKind.f64.format.div x.F y.F).getD 0)
  | .eql=>.b (fEq x.F y.F)
  | .neq=>.b (LP x.F y.F)
  | .lss=>.b (fLt x.F y.F)
  | .leq=>.b (Yd x.F y.F)
  | .gtr=>.b (fGt x.F y.F)
  | .geq=>.b (ZK x.F y.F)
  |_=>.b false
 | .str=>
  match o with
  | .add=>.s (x.S++y.S)
  | .eql=>.b (BF x.S y.S)
  | .neq=>.b (sNe x.S y.S)
  | .lss=>.b (Op.bytesLess x.S y.S)
  | .leq=>.b (Op.bytesLess x.S y.S||decide (x.S=y.S))
  | .gtr=>.b (!(Op.bytesLess x.S y.S||decide (x.S=y.S)))
  | .geq=>.b (!Op.bytesLess x.S y.S)
  |_=>.b false
 | .bool=>
  match o with
  | .eql=>.b (JL x.B y.B)
  | .neq=>.b (bNe x.B y.B)
  |_=>.b false
 | .sl=>.b false
def Tm.den (ρ:List AV):Tm->D
 | .lb v=>.b v
 | .li v=>.i v
 | .lf v=>.f v
 | .ls v=>.s v
 | .nl=>.r []
 | .var i p=>(ax8 (ρ.getD i eX) p).D
 | .bin o k x y=>qh o k (x.den ρ) (y.den ρ)
 | .not x=>.b (!(x.den ρ).B)
 | .and x y=>.b ((x.den ρ).B&&(y.den ρ).B)
 | .or x y=>.b ((x.den ρ).B||(y.den ρ).B)
 | .ite c x y=>match x.den ρ,y.den ρ with
  | .b x,.b y=>.b (bif (c.den ρ).B then x else y)
  | .i x,.i y=>.i (bif (c.den ρ).B then x else y)
  | .f x,.f y=>.f (bif (c.den ρ).B then x else y)
  | .s x,.s y=>.s (bif (c.den ρ).B then x else y)
  | .r x,.r y=>.r (bif (c.den ρ).B then x else y)
  |x,y=>bif (c.den ρ).B then x else y
 | .neg k x=>match k with | .int k=>.i (iU k 0 (x.den ρ).I)|_=>.f (Op.negFloat .f64 (x.den ρ).F)
 | .com k x=>.i (FU k (x.den ρ).I)
 | .conv k x=>.i (k.wrap (x.den ρ).I)
 | .toF x=>.f (FloatKind.f64.nearest (x.den ρ).I)
 | .ZL x=>.i (((FloatKind.f64.decode (x.den ρ).F).toInt .zero).getD 0)
 | .slen x=>.i (sLen (x.den ρ).S)
 | .rlen x=>.i (m_ (x.den ρ).R)
 | .byte x i=>.i (((x.den ρ).S.getD (i.den ρ).I.toNat 0).toNat:Int)
 | .ah5 x lo hi=>.s (((x.den ρ).S.drop (lo.den ρ).I.toNat).take ((hi.den ρ).I.toNat-(lo.den ρ).I.toNat))
 | .bts x=>.s ((x.den ρ).R.map Ye)
 | .sbs x=>.r ((x.den ρ).S.map ayT)
theorem Tm.pG (ρ:List AV)(c x y:Tm):(Tm.ite c x y).den ρ=bif (c.den ρ).B then x.den ρ else y.den ρ:=by
 simp only [Tm.den]
 cases hc:(c.den ρ).B<;>cases hx:x.den ρ<;>cases hy:y.den ρ<;>rfl
def Tm.beq : Tm->Tm->Bool
 | .lb v,.lb w=>v == w
 | .li v,.li w=>decide (v=w)
 | .lf v,.lf w=>Nat.beq v w
 | .ls v,.ls w=>decide (v=w)
 | .nl,.nl=>true
 | .var i p,.var j q=>Nat.beq i j&&decide (p=q)
 | .bin o k x y,.bin o' k' x' y'=>decide (o=o')&&(decide (k=k')&&(x.beq x'&&y.beq y'))
 | .not x,.not x'=>x.beq x'
 | .and x y,.and x' y'=>x.beq x'&&y.beq y'
 | .or x y,.or x' y'=>x.beq x'&&y.beq y'
 | .ite c x y,.ite c' x' y'=>c.beq c'&&(x.beq x'&&y.beq y')
 | .neg k x,.neg k' x'=>decide (k=k')&&x.beq x'
 | .com k x,.com k' x'=>decide (k=k')&&x.beq x'
 | .conv k x,.conv k' x'=>decide (k=k')&&x.beq x'
 | .toF x,.toF x'=>x.beq x'
 | .ZL x,.ZL x'=>x.beq x'
 | .slen x,.slen x'=>x.beq x'
 | .rlen x,.rlen x'=>x.beq x'
 | .byte x i,.byte x' i'=>x.beq x'&&i.beq i'
 | .ah5 x l h,.ah5 x' l' h'=>x.beq x'&&(l.beq l'&&h.beq h')
 | .bts x,.bts x'=>x.beq x'
 | .sbs x,.sbs x'=>x.beq x'
 |_,_=>false
theorem Tm.beq_eq : ∀{x y:Tm},x.beq y=true->x=y:=by
 intro x
 induction x with
 |lb|li|lf|ls|nl|var=>intro y h;cases y<;>simp_all [Tm.beq]
 |bin o k x y rU ihy=>intro z h;cases z<;>simp [Tm.beq] at h;obtain ⟨rfl,rfl,h1,h2⟩:=h;rw [rU h1,ihy h2]
 |not x ih|toF x ih|ZL x ih|slen x ih|rlen x ih|bts x ih|sbs x ih=>intro z h;cases z<;>simp [Tm.beq] at h;rw [ih h]
 |and x y rU ihy|or x y rU ihy|byte x y rU ihy=>intro z h;cases z<;>simp [Tm.beq] at h;rw [rU h.1,ihy h.2]
 |ite x y z i1 i2 i3|ah5 x y z i1 i2 i3=>intro u h;cases u<;>simp [Tm.beq] at h;rw [i1 h.1,i2 h.2.1,i3 h.2.2]
 |neg k x ih|com k x ih|conv k x ih=>intro z h;cases z<;>simp [Tm.beq] at h;obtain ⟨rfl,h1⟩:=h;rw [ih h1]
def OW {α:Type}(n:Nat)(k:Nat->α):α:=match n with|0=>k 0|m+1=>k (m+1)
theorem xE {α:Type}(n:Nat)(k:Nat->α):OW n k=k n:=by cases n<;>rfl
def ZM {α:Type}(n:Int)(k:Int->α):α:=match n with | .ofNat m=>OW m fun m=>k (.ofNat m) | .negSucc m=>OW m fun m=>k (.negSucc m)
theorem S_ {α:Type}(n:Int)(k:Int->α):ZM n k=k n:=by cases n<;>simp [ZM,xE]
def Tm.KD : Tm->Option D
 | .lb v=>some (.b v)
 | .li v=>some (.i v)
 | .lf v=>some (.f v)
 | .ls v=>some (.s v)
 |_=>none
def Tm.ofD : D->Tm
 | .b v=>match v with|true=>.lb true|false=>.lb false
 | .i v=>ZM v .li
 | .f v=>OW v .lf
 | .s v=>.ls v
 | .r _=>.nl
theorem Tm.Em {ρ:List AV}{t:Tm}{d:D}(h:t.KD=some d):t.den ρ=d:=by
 cases t<;>simp_all [Tm.KD,Tm.den]
theorem Tm.JM {ρ:List AV}{d:D}(h:∀l,d≠.r l):(Tm.ofD d).den ρ=d:=by
 cases d with
 |b v=>cases v<;>rfl
 |i v=>simp [Tm.ofD,S_,Tm.den]
 |f v=>simp [Tm.ofD,xE,Tm.den]
 |s v=>rfl
 |r l=>exact absurd rfl (h l)
theorem Yf (o:BinOp)(k:Kd)(x y:D)(l:List (List AV)):qh o k x y≠.r l:=by
 cases k<;>cases o<;>simp [qh]
def ayd (o:BinOp)(k:Kd)(x y:Tm):Tm:=
 match x.KD,y.KD with
 |some a,some b=>Tm.ofD (qh o k a b)
 |_,_=>.bin o k x y
theorem ou {ρ:List AV}{o k x y}:(ayd o k x y).den ρ=qh o k (x.den ρ) (y.den ρ):=by
 unfold ayd
 split
 .rename_i a b ha hb
  rw [Tm.JM (Yf o k a b),Tm.Em ha,Tm.Em hb]
 .rfl
theorem D.Di (v:Bool):(D.b v).B=v:=rfl
def ayp : Tm->Tm
 | .lb v=>.lb (!v)
 | .not x=>match x with
  | .bin o k a b=>.bin o k a b
  | .and a b=>.and a b
  | .or a b=>.or a b
  | .not a=>.not a
  |x=>.not (.not x)
 |x=>.not x
theorem oz {ρ:List AV}{x:Tm}:((ayp x).den ρ).B=!(x.den ρ).B:=by
 unfold ayp
 split
 .rfl
 .split<;>simp [Tm.den,D.Di]
 .simp [Tm.den,D.Di]
def ao7 (x y:Tm):Tm:=bif x.beq y then x else .and x y
def or2 (x y:Tm):Tm:=bif x.beq y then x else .or x y
theorem aiE {ρ:List AV}{x y:Tm}:((ao7 x y).den ρ).B=((x.den ρ).B&&(y.den ρ).B):=by
 unfold ao7
 cases h:x.beq y
 .rfl
 .rw [Tm.beq_eq h];simp
theorem alU {ρ:List AV}{x y:Tm}:((or2 x y).den ρ).B=((x.den ρ).B||(y.den ρ).B):=by
 unfold or2
 cases h:x.beq y
 .rfl
 .rw [Tm.beq_eq h];simp
def ayB (x y:Tm):Tm:=
 match x,y with
 | .lb true,y=>y
 | .lb false,_=>.lb false
 |x,.lb true=>x
 |x,.lb false=>.lb false
 |x,y=>ao7 x y
theorem wG {ρ:List AV}{x y:Tm}:((ayB x y).den ρ).B=((x.den ρ).B&&(y.den ρ).B):=by
 unfold ayB
 split<;>simp [Tm.den,D.Di,aiE]
def azg (x y:Tm):Tm:=
 match x,y with
 | .lb true,_=>.lb true
 | .lb false,y=>y
 |x,.lb true=>.lb true
 |x,.lb false=>x
 |x,y=>or2 x y
theorem II {ρ:List AV}{x y:Tm}:((azg x y).den ρ).B=((x.den ρ).B||(y.den ρ).B):=by
 unfold azg
 split<;>simp [Tm.den,D.Di,alU]
def ao8 (c x y:Tm):Tm:=bif x.beq c then azg c y else bif y.beq c then ayB c x else .ite c x y
theorem aiF {ρ:List AV}{c x y:Tm}:((ao8 c x y).den ρ).B=bif (c.den ρ).B then (x.den ρ).B else (y.den ρ).B:=by
 unfold ao8
 cases h1:x.beq c
 .simp only [cond_false]
  cases h2:y.beq c
  .simp only [cond_false,Tm.pG];cases (c.den ρ).B<;>rfl
  .simp only [cond_true];rw [Tm.beq_eq h2,wG];cases (c.den ρ).B<;>simp
 .simp only [cond_true];rw [Tm.beq_eq h1,II];cases (c.den ρ).B<;>simp
def Tc (c x y:Tm):Tm:=
 match c with
 | .lb true=>x
 | .lb false=>y
 |c=>
 bif x.beq y then x else
 match x,y with
 | .lb true,.lb false=>c
 | .lb false,.lb true=>ayp c
 |x,.lb false=>ayB c x
 |x,.lb true=>azg (ayp c) x
 | .lb true,y=>azg c y
 | .lb false,y=>ayB (ayp c) y
 |x,y=>ao8 c x y
theorem LQ {ρ:List AV}{c x y:Tm}:((Tc c x y).den ρ).B=bif (c.den ρ).B then (x.den ρ).B else (y.den ρ).B:=by
 unfold Tc
 split
 .rfl
 .rfl
 .cases h:x.beq y
  .simp only [cond_false]
   split
   .simp [Tm.den,D.Di]
   .simp [oz,Tm.den,D.Di]
   .simp [wG,Tm.den,D.Di]
   .simp [II,oz,Tm.den,D.Di]
   .simp [II,oz,Tm.den,D.Di]
   .simp [wG,oz,Tm.den,D.Di]
   .exact aiF
  .simp only [cond_true];rw [Tm.beq_eq h];simp
def agq (c:Tm):Tm->Tm
 | .ite d x y=>bif d.beq c then x else .ite d x y
 |t=>t
def aiG (c:Tm):Tm->Tm
 | .ite d x y=>bif d.beq c then y else .ite d x y
 |t=>t
theorem ZN {ρ:List AV}{c t:Tm}(h:(c.den ρ).B=true):(agq c t).den ρ=t.den ρ:=by
 unfold agq
 split
 .rename_i d x y
  cases hb:d.beq c
  .rfl
  .simp only [cond_true,Tm.pG];rw [Tm.beq_eq hb,h];rfl
 .rfl
theorem ZO {ρ:List AV}{c t:Tm}(h:(c.den ρ).B=false):(aiG c t).den ρ=t.den ρ:=by
 unfold aiG
 split
 .rename_i d x y
  cases hb:d.beq c
  .rfl
  .simp only [cond_true,Tm.pG];rw [Tm.beq_eq hb,h];rfl
 .rfl
def alV (c x y:Tm):Tm:=bif (agq c x).beq (aiG c y) then agq c x else .ite c (agq c x) (aiG c y)
theorem ZP {ρ:List AV}{c x y:Tm}:(alV c x y).den ρ=bif (c.den ρ).B then x.den ρ else y.den ρ:=by
 unfold alV
 cases h:(agq c x).beq (aiG c y)
 .simp only [cond_false,Tm.pG]
  cases hc:(c.den ρ).B
  .simp only [cond_false,ZO hc]
  .simp only [cond_true,ZN hc]
 .simp only [cond_true]
  have e:=Tm.beq_eq h
  cases hc:(c.den ρ).B
  .simp only [cond_false];rw [e,ZO hc]
  .simp only [cond_true];rw [ZN hc]
def ays (c x y:Tm):Tm:=
 match c with
 | .lb true=>x
 | .lb false=>y
 | .not c=>alV c y x
 |c=>alV c x y
theorem yR {ρ:List AV}{c x y:Tm}:(ays c x y).den ρ=bif (c.den ρ).B then x.den ρ else y.den ρ:=by
 unfold ays
 split
 .rfl
 .rfl
 .rename_i c
  rw [ZP]
  simp only [Tm.den,D.Di]
  cases (c.den ρ).B<;>rfl
 .exact ZP
def acH (o:BinOp)(k:Kd)(a b:D):Tm:=Tm.ofD (qh o k a b)
def azh (o:BinOp)(k:Kd)(y:Tm)(b:D):Tm->Tm
 | .ite c u v=>Tc c (azh o k y b u) (azh o k y b v)
 |x=>match x.KD with
  |some a=>acH o k a b
  |none=>.bin o k x y
def agr (o:BinOp)(k:Kd)(x:Tm)(a:D):Tm->Tm
 | .ite c u v=>Tc c (agr o k x a u) (agr o k x a v)
 |y=>match y.KD with
  |some b=>acH o k a b
  |none=>.bin o k x y
theorem Td {ρ:List AV}{o k a b}:(acH o k a b).den ρ=qh o k a b:=Tm.JM (Yf o k a b)
theorem aiH {ρ:List AV}{o k y b}(hy:y.den ρ=b){x:Tm}:((azh o k y b x).den ρ).B=(qh o k (x.den ρ) b).B:=by
 induction x with
 |ite c u v _ ihu ihv=>
  simp only [azh,LQ,Tm.pG,ihu,ihv]
  cases (c.den ρ).B<;>rfl
 |_=>
  simp only [azh,Tm.KD]
  first
  |(rw [Td];rfl)
  |(simp only [Tm.den,hy])
theorem aiI {ρ:List AV}{o k x a}(hx:x.den ρ=a){y:Tm}:((agr o k x a y).den ρ).B=(qh o k a (y.den ρ)).B:=by
 induction y with
 |ite c u v _ ihu ihv=>
  simp only [agr,LQ,Tm.pG,ihu,ihv]
  cases (c.den ρ).B<;>rfl
 |_=>
  simp only [agr,Tm.KD]
  first
  |(rw [Td];rfl)
  |(simp only [Tm.den,hx])
def KN (o:BinOp)(k:Kd)(x y:Tm):Tm:=
 match y.KD with
 |some b=>match o,k,b with
  | .eql,.bool,.b true=>x
  | .eql,.bool,.b false=>ayp x
  | .neq,.bool,.b true=>ayp x
  | .neq,.bool,.b false=>x
  |o,k,b=>azh o k y b x
 |none=>match x.KD with
  |some a=>agr o k x a y
  |none=>.bin o k x y
theorem uI {ρ:List AV}{o k x y}:((KN o k x y).den ρ).B=(qh o k (x.den ρ) (y.den ρ)).B:=by
 unfold KN
 split
 .rename_i b hb
  have e:=Tm.Em (ρ:=ρ) hb
  split
  .rw [e];simp [qh,D.Di,JL]
  .rw [e,oz];simp [qh,D.Di,JL]
  .rw [e,oz];simp [qh,D.Di,bNe]
  .rw [e];simp [qh,D.Di,bNe]
  .rw [aiH e,e]
 .split
  .rename_i a ha
   have e:=Tm.Em (ρ:=ρ) ha
   rw [aiI e,e]
  .rfl
def Tf (k:Kd)(c x y:Tm):Tm:=match k with | .bool=>Tc c x y|_=>ays c x y
theorem Ti {ρ:List AV}{k:Kd}{c x y:Tm}:k.av ((Tf k c x y).den ρ)=bif (c.den ρ).B then k.av (x.den ρ) else k.av (y.den ρ):=by
 cases k with
 |bool=>simp only [Tf,Kd.av,LQ];cases (c.den ρ).B<;>rfl
 |_=>simp only [Tf,yR];cases (c.den ρ).B<;>rfl
end Go.Fw
end
section
namespace Go.Fw
variable [jU]
inductive Cv where
 |ptr|fn|mP|mp|undef
 |at (c o:Nat)
 deriving DecidableEq
def Cv.val : Cv->Value
 | .ptr=>.pointer none
 | .fn=>.nilFunc
 | .mP=>.nilIface
 | .mp=>.map none
 | .undef=>Go.undef
 | .at c o=>.pointer (some ⟨c,o,none⟩)
inductive SV where
 |sc (k:Kd) (t:Tm)
 |c (v:Cv)
 |nil
 |sf (t:Tm)
 |agg (l:List SV)
 |fA (l:List SV)
 |slc (rows:List (List SV)) (full:Bool)
 |vp (row:List SV) (off:Nat)
 |os (b sz off:Nat) (len:Tm)
 |op (b sz:Nat) (row:Tm) (off:Nat)
 |fn (f:Nat) (first captured:List SV)
 |mP (t:TypeId) (v:SV)
 |mp (b:Nat)
 mutual
def SV.den (ρ:List AV):SV->AV
  | .sc k t=>k.av (t.den ρ)
  | .c v=>.p v.val
  | .nil=>.sl [] true
  | .sf t=>.sl (t.den ρ).R true
  | .agg l=>.agg (dQ ρ l)
  | .fA l=>.fA (dQ ρ l)
  | .slc rows full=>.sl (iL ρ rows) full
  | .vp row off=>.vp (dQ ρ row) off
  | .os b sz off len=>.os b sz off (len.den ρ).I.toNat
  | .op b sz row off=>.op b sz (row.den ρ).I.toNat off
  | .fn f first captured=>.fn (.func f) (dQ ρ first) (dQ ρ captured)
  | .mP t v=>.mP t (v.den ρ)
  | .mp b=>.mp b
def dQ (ρ:List AV):List SV->List AV
  |[]=>[]
  |x::r=>x.den ρ::dQ ρ r
def iL (ρ:List AV):List (List SV)->List (List AV)
  |[]=>[]
  |x::r=>dQ ρ x::iL ρ r
end
theorem nN {ρ:List AV}:∀{l:List SV},dQ ρ l=l.map (SV.den ρ)
 |[]=>rfl
 |x::r=>by simp [dQ,nN (l:=r)]
theorem lV {ρ:List AV}:∀{l:List (List SV)},iL ρ l=l.map (dQ ρ)
 |[]=>rfl
 |x::r=>by simp [iL,lV (l:=r)]
 mutual
def SV.beq : SV->SV->Bool
  | .sc k t,.sc k' t'=>decide (k=k')&&t.beq t'
  | .c v,.c v'=>decide (v=v')
  | .nil,.nil=>true
  | .sf t,.sf t'=>t.beq t'
  | .agg l,.agg l'=>OX l l'
  | .fA l,.fA l'=>OX l l'
  | .slc r f,.slc r' f'=>Qo r r'&&f == f'
  | .vp r o,.vp r' o'=>OX r r'&&Nat.beq o o'
  | .os b s o l,.os b' s' o' l'=>Nat.beq b b'&&(Nat.beq s s'&&(Nat.beq o o'&&l.beq l'))
  | .op b s r o,.op b' s' r' o'=>Nat.beq b b'&&(Nat.beq s s'&&(r.beq r'&&Nat.beq o o'))
  | .fn f x y,.fn f' x' y'=>Nat.beq f f'&&(OX x x'&&OX y y')
  | .mP t v,.mP t' v'=>Nat.beq t t'&&v.beq v'
  | .mp b,.mp b'=>Nat.beq b b'
  |_,_=>false
def OX : List SV->List SV->Bool
  |[],[]=>true
  |x::r,y::s=>x.beq y&&OX r s
  |_,_=>false
def Qo : List (List SV)->List (List SV)->Bool
  |[],[]=>true
  |x::r,y::s=>OX x y&&Qo r s
  |_,_=>false
end
 mutual
theorem SV.beq_eq : ∀{x y:SV},x.beq y=true->x=y:=fun {x y} h=>by
  match x,y with
  | .sc k t,.sc k' t'=>simp [SV.beq] at h;rw [h.1,Tm.beq_eq h.2]
  | .c v,.c v'=>simp [SV.beq] at h;rw [h]
  | .nil,.nil=>rfl
  | .sf t,.sf t'=>simp [SV.beq] at h;rw [Tm.beq_eq h]
  | .agg l,.agg l'=>simp [SV.beq] at h;rw [Aj h]
  | .fA l,.fA l'=>simp [SV.beq] at h;rw [Aj h]
  | .slc r f,.slc r' f'=>simp [SV.beq] at h;rw [IJ h.1,h.2]
  | .vp r o,.vp r' o'=>simp [SV.beq] at h;rw [Aj h.1,h.2]
  | .os b s o l,.os b' s' o' l'=>simp [SV.beq] at h;rw [h.1,h.2.1,h.2.2.1,Tm.beq_eq h.2.2.2]
  | .op b s r o,.op b' s' r' o'=>simp [SV.beq] at h;rw [h.1,h.2.1,Tm.beq_eq h.2.2.1,h.2.2.2]
  | .fn f x y,.fn f' x' y'=>simp [SV.beq] at h;rw [h.1,Aj h.2.1,Aj h.2.2]
  | .mP t v,.mP t' v'=>simp [SV.beq] at h;rw [h.1,SV.beq_eq h.2]
  | .mp b,.mp b'=>simp [SV.beq] at h;rw [h]
theorem Aj : ∀{x y:List SV},OX x y=true->x=y:=fun {x y} h=>by
  match x,y with
  |[],[]=>rfl
  |x::r,y::s=>simp [OX] at h;rw [SV.beq_eq h.1,Aj h.2]
theorem IJ : ∀{x y:List (List SV)},Qo x y=true->x=y:=fun {x y} h=>by
  match x,y with
  |[],[]=>rfl
  |x::r,y::s=>simp [Qo] at h;rw [Aj h.1,IJ h.2]
end
def SV.cells : SV->List SV
 | .agg l=>l
 |a=>[a]
def SV.jM : SV->Bool
 | .agg _ | .fA _ | .c .undef=>false
 |_=>true
def SV.D9 : SV->Bool
 | .fA _ | .c .undef=>false
 |_=>true
structure MSh where
 ka:Bool
 kn:Nat
 va:Bool
 vn:Nat
 deriving DecidableEq
def nJ (a:Bool)(l:List AV):AV:=bif a then .agg l else match l with|x::_=>x | []=>eX
def qY (m:MSh)(row:List AV):AV×AV:=(nJ m.ka (row.take m.kn),nJ m.va (row.drop m.kn))
inductive SB where
 |rows (sz:Nat) (rs:List (List SV))
 |fO (sz:Nat) (t:Tm)
 |Ad (m:MSh) (t:Tm)
 |map (es:List (SV×SV))
 |it (m:Nat) (n:Tm) (k:Nat)
 |kL (ty:TypeId) (sz:Nat) (rs:List (List SV))
def SB.den (ρ:List AV):SB->vH
 | .rows sz rs=>.rows sz (iL ρ rs)
 | .fO sz t=>.rows sz (t.den ρ).R
 | .Ad m t=>.map ((t.den ρ).R.map (qY m))
 | .map es=>.map (es.map fun e=>(e.1.den ρ,e.2.den ρ))
 | .it m n k=>.it m (n.den ρ).I.toNat k
 | .kL ty sz rs=>.kL ty sz (iL ρ rs)
inductive Tr (α:Type) where
 |e
 |n (l:Tr α) (x:Option α) (r:Tr α)
def Tr.get {α:Type}:Tr α->Nat->Option α
 | .e,_=>none
 | .n l x r,k=>bif Nat.beq k 0 then x else bif Nat.beq (k % 2) 1 then l.get ((k-1) / 2) else r.get ((k-1) / 2)
def Tr.upd {α:Type}:Nat->Tr α->Nat->Option α->Tr α
 |0,_,_,_=>.e
 |m+1,.e,k,f=>bif Nat.beq k 0 then .n .e f .e else bif Nat.beq (k % 2) 1 then .n (Tr.upd m .e ((k-1) / 2) f) none .e else .n .e none (Tr.upd m .e ((k-1) / 2) f)
 |m+1,.n l x r,k,f=>bif Nat.beq k 0 then .n l f r else bif Nat.beq (k % 2) 1 then .n (Tr.upd m l ((k-1) / 2) f) x r else .n l x (Tr.upd m r ((k-1) / 2) f)
theorem Tr.o7 {α:Type}:∀(m:Nat) (t:Tr α) (k:Nat) (f:Option α) (j:Nat) (y:α),(Tr.upd m t k f).get j=some y->(j=k/\f=some y)\/(j≠k/\t.get j=some y)
 |0,t,k,f,j,y,h=>by simp [Tr.upd,Tr.get] at h
 |m+1,.e,k,f,j,y,h=>by
  have ih:=Tr.o7 m (.e:Tr α) ((k-1) / 2) f ((j-1) / 2) y
  simp only [Tr.get] at ih
  unfold Tr.upd at h
  cases h1:Nat.beq k 0
  .simp only [h1,cond_false] at h
   have hk:k≠0:=by intro e;subst e;simp at h1
   cases h2:Nat.beq (k % 2) 1
   .simp only [h2,cond_false,Tr.get] at h
    cases h3:Nat.beq j 0
    .simp only [h3,cond_false] at h
     cases h4:Nat.beq (j % 2) 1
     .simp only [h4,cond_false] at h
      rcases ih h with ⟨e,q⟩|⟨_,q⟩
      .left;refine ⟨?_,q⟩
       have hj:j≠0:=by intro e;subst e;simp at h3
       have a1:k % 2≠1:=by intro e;rw [e] at h2;simp at h2
       have a2:j % 2≠1:=by intro e;rw [e] at h4;simp at h4
       omega
      .cases q
     .simp [h4] at h
    .simp [h3] at h
   .simp only [h2,cond_true,Tr.get] at h
    cases h3:Nat.beq j 0
    .simp only [h3,cond_false] at h
     cases h4:Nat.beq (j % 2) 1
     .simp [h4] at h
     .simp only [h4,cond_true] at h
      rcases ih h with ⟨e,q⟩|⟨_,q⟩
      .left;refine ⟨?_,q⟩
       have hj:j≠0:=by intro e;subst e;simp at h3
       have a1:=Nat.eq_of_beq_eq_true h2
       have a2:=Nat.eq_of_beq_eq_true h4
       omega
      .cases q
    .simp [h3] at h
  .simp only [h1,cond_true,Tr.get] at h
   have hk:=Nat.eq_of_beq_eq_true h1
   cases h3:Nat.beq j 0
   .simp [h3] at h
   .simp only [h3,cond_true] at h
    exact .inl ⟨by rw [hk,Nat.eq_of_beq_eq_true h3],h⟩
 |m+1,.n l x r,k,f,j,y,h=>by
  have ihl:=Tr.o7 m l ((k-1) / 2) f ((j-1) / 2) y
  have ihr:=Tr.o7 m r ((k-1) / 2) f ((j-1) / 2) y
  unfold Tr.upd at h
  cases h1:Nat.beq k 0
  .simp only [h1,cond_false] at h
   have hk:k≠0:=by intro e;subst e;simp at h1
   cases h2:Nat.beq (k % 2) 1
   .simp only [h2,cond_false,Tr.get] at h
    have a1:k % 2≠1:=by intro e;rw [e] at h2;simp at h2
    cases h3:Nat.beq j 0
    .simp only [h3,cond_false] at h
     have hj:j≠0:=by intro e;subst e;simp at h3
     cases h4:Nat.beq (j % 2) 1
     .simp only [h4,cond_false] at h
      have a2:j % 2≠1:=by intro e;rw [e] at h4;simp at h4
      rcases ihr h with ⟨e,q⟩|⟨e,q⟩
      .exact .inl ⟨by omega,q⟩
      .exact .inr ⟨by intro e';exact e (by rw [e']),by simpa [Tr.get,h3,h4] using q⟩
     .simp only [h4,cond_true] at h
      have a2:=Nat.eq_of_beq_eq_true h4
      exact .inr ⟨by intro e;subst e;exact a1 a2,by simpa [Tr.get,h3,h4] using h⟩
    .simp only [h3,cond_true] at h
     exact .inr ⟨by intro e;subst e;exact hk (Nat.eq_of_beq_eq_true h3),by simpa [Tr.get,h3] using h⟩
   .simp only [h2,cond_true,Tr.get] at h
    have a1:=Nat.eq_of_beq_eq_true h2
    cases h3:Nat.beq j 0
    .simp only [h3,cond_false] at h
     have hj:j≠0:=by intro e;subst e;simp at h3
     cases h4:Nat.beq (j % 2) 1
     .simp only [h4,cond_false] at h
      have a2:j % 2≠1:=by intro e;rw [e] at h4;simp at h4
      exact .inr ⟨by intro e;subst e;exact a2 a1,by simpa [Tr.get,h3,h4] using h⟩
     .simp only [h4,cond_true] at h
      have a2:=Nat.eq_of_beq_eq_true h4
      rcases ihl h with ⟨e,q⟩|⟨e,q⟩
      .exact .inl ⟨by omega,q⟩
      .exact .inr ⟨by intro e';exact e (by rw [e']),by simpa [Tr.get,h3,h4] using q⟩
    .simp only [h3,cond_true] at h
     exact .inr ⟨by intro e;subst e;exact hk (Nat.eq_of_beq_eq_true h3),by simpa [Tr.get,h3] using h⟩
  .simp only [h1,cond_true,Tr.get] at h
   have hk:=Nat.eq_of_beq_eq_true h1
   cases h3:Nat.beq j 0
   .simp only [h3,cond_false] at h
    have hj:j≠0:=by intro e;subst e;simp at h3
    exact .inr ⟨by omega,by simpa [Tr.get,h3] using h⟩
   .simp only [h3,cond_true] at h
    exact .inl ⟨by rw [hk,Nat.eq_of_beq_eq_true h3],h⟩
abbrev Pc :=List (Tm×Bool)
def Pc.holds (ρ:List AV)(pc:Pc):Prop:=∀x∈pc,(x.1.den ρ).B=x.2
def Pc.has (pc:Pc)(x:Tm×Bool):Bool:=pc.any fun y=>y.2 == x.2&&y.1.beq x.1
theorem Pc.Wv {ρ:List AV}{pc:Pc}{x:Tm×Bool}(h:pc.has x=true)(hp:pc.holds ρ):(x.1.den ρ).B=x.2:=by
 unfold Pc.has at h
 rw [List.any_eq_true] at h
 obtain ⟨y,hy,h⟩:=h
 simp at h
 rw [<- Tm.beq_eq h.2,<- h.1]
 exact hp y hy
def Pc.QM (pc:Pc)(t:Tm):Option Bool:=bif pc.has (t,true) then some true else bif pc.has (t,false) then some false else none
theorem Pc.oH {ρ:List AV}{pc:Pc}(hp:pc.holds ρ){t:Tm}{b:Bool}(h:pc.QM t=some b):(t.den ρ).B=b:=by
 unfold Pc.QM at h
 cases h1:pc.has (t,true)
 .simp only [h1,cond_false] at h
  cases h2:pc.has (t,false)
  .simp [h2] at h
  .simp [h2] at h;subst h;exact Pc.Wv h2 hp
 .simp [h1] at h;subst h;exact Pc.Wv h1 hp
def Pc.Wx (x:Tm):Pc->Option Int
 |[]=>none
 |(.bin .eql (.int _) y (.li a),true)::r=>bif y.beq x then some a else Pc.Wx x r
 |_::r=>Pc.Wx x r
theorem Pc.IK {ρ:List AV}{x:Tm}{a:Int}:∀{pc:Pc},pc.holds ρ->Pc.Wx x pc=some a->(x.den ρ).I=a
 |[],_,h=>by simp [Pc.Wx] at h
 |e::r,hp,h=>by
  have hr:Pc.holds ρ r:=fun y hy=>hp y (List.mem_cons_of_mem _ hy)
  unfold Pc.Wx at h
  split at h
  .cases h
  .rename_i k y a' r' heq
   simp only [List.cons.injEq] at heq
   obtain ⟨rfl,rfl⟩:=heq
   cases hb:y.beq x
   .simp only [hb,cond_false] at h;exact Pc.IK hr h
   .simp only [hb,cond_true,Option.some.injEq] at h;subst h
    have:=hp _ List.mem_cons_self
    rw [Tm.beq_eq hb] at this
    have h2:(x.den ρ).I=(D.i a').I:=by simpa [Tm.den,qh,D.Di,dW] using this
    exact h2
  .rename_i heq
   simp only [List.cons.injEq] at heq
   obtain ⟨rfl,rfl⟩:=heq
   exact Pc.IK hr h
theorem aiK {o:BinOp}{k:IntKind}{d d' e:D}(h:d.I=d'.I):qh o (.int k) d e=qh o (.int k) d' e:=by
 cases o<;>simp only [qh,h]
def orE (a b:Option Bool):Option Bool:=match a with|some v=>some v|none=>b
theorem Yg {a b:Option Bool}{v:Bool}(h:orE a b=some v):a=some v\/b=some v:=by
 unfold orE at h
 cases a
 .exact .inr h
 .exact .inl h
def Pc.known (pc:Pc):Tm->Option Bool
 | .lb v=>some v
 | .not x=>match Pc.known pc x with
  |some b=>some (!b)
  |none=>pc.QM (.not x)
 | .and x y=>match Pc.known pc x with
  |some false=>some false
  |some true=>orE (Pc.known pc y) (pc.QM (.and x y))
  |none=>match Pc.known pc y with
   |some false=>some false
   |_=>pc.QM (.and x y)
 | .or x y=>match Pc.known pc x with
  |some true=>some true
  |some false=>orE (Pc.known pc y) (pc.QM (.or x y))
  |none=>match Pc.known pc y with
   |some true=>some true
   |_=>pc.QM (.or x y)
 | .ite c x y=>match Pc.known pc c with
  |some true=>orE (Pc.known pc x) (pc.QM (.ite c x y))
  |some false=>orE (Pc.known pc y) (pc.QM (.ite c x y))
  |none=>pc.QM (.ite c x y)
 | .bin o (.int k) x (.li b)=>match pc.QM (.bin o (.int k) x (.li b)) with
  |some v=>some v
  |none=>match Pc.Wx x pc with
   |some a=>some (qh o (.int k) (.i a) (.i b)).B
   |none=>none
 |t=>pc.QM t
theorem Pc.gV {ρ:List AV}{pc:Pc}(hp:pc.holds ρ):∀{t:Tm} {b:Bool},pc.known t=some b->(t.den ρ).B=b:=by
 intro t
 induction t with
 |lb v=>intro b h;simp [Pc.known] at h;subst h;rfl
 |not x ih=>
  intro b h
  simp only [Pc.known] at h
  split at h
  .rename_i c hc
   simp only [Option.some.injEq] at h;subst h
   simp only [Tm.den,D.Di,ih hc]
  .exact Pc.oH hp h
 |and x y rU ihy=>
  intro b h
  simp only [Pc.known] at h
  split at h
  .rename_i hx
   simp only [Option.some.injEq] at h;subst h
   simp only [Tm.den,D.Di,rU hx];rfl
  .rename_i hx
   rcases Yg h with h|h
   .simp only [Tm.den,D.Di,rU hx,ihy h];rfl
   .exact Pc.oH hp h
  .split at h
   .rename_i hy
    simp only [Option.some.injEq] at h;subst h
    simp only [Tm.den,D.Di,ihy hy,Bool.and_false]
   .exact Pc.oH hp h
 |or x y rU ihy=>
  intro b h
  simp only [Pc.known] at h
  split at h
  .rename_i hx
   simp only [Option.some.injEq] at h;subst h
   simp only [Tm.den,D.Di,rU hx];rfl
  .rename_i hx
   rcases Yg h with h|h
   .simp only [Tm.den,D.Di,rU hx,ihy h];rfl
   .exact Pc.oH hp h
  .split at h
   .rename_i hy
    simp only [Option.some.injEq] at h;subst h
    simp only [Tm.den,D.Di,ihy hy,Bool.or_true]
   .exact Pc.oH hp h
 |ite c x y ihc rU ihy=>
  intro b h
  simp only [Pc.known] at h
  split at h
  .rename_i hc
   rcases Yg h with h|h
   .rw [Tm.pG,ihc hc];exact rU h
   .exact Pc.oH hp h
  .rename_i hc
   rcases Yg h with h|h
   .rw [Tm.pG,ihc hc];exact ihy h
   .exact Pc.oH hp h
  .exact Pc.oH hp h
 |bin o k x y _ _=>
  intro b h
  unfold Pc.known at h
  split at h
  all_goals first
   |(rename_i heq;cases heq;done)
   |skip
  .rename_i o' k' x' b' heq
   cases heq
   split at h
   .rename_i hv
    simp only [Option.some.injEq] at h;subst h
    exact Pc.oH hp hv
   .split at h
    .rename_i a ha
     simp only [Option.some.injEq] at h;subst h
     have:=Pc.IK hp ha
     simp only [Tm.den]
     rw [aiK (d':=.i a) this]
    .cases h
  .exact Pc.oH hp h
 |_=>
  intro b h
  exact Pc.oH hp h
theorem Pc.jo {ρ:List AV}{pc:Pc}{t:Tm}{b:Bool}(h:(t.den ρ).B=b)(hp:pc.holds ρ):Pc.holds ρ ((t,b)::pc):=by
 intro x hx
 cases hx with
 |head=>exact h
 |tail _ hx=>exact hp x hx
structure pI where
 h:Pc
 v:SV
def pI.den (ρ:List AV)(e:pI):AV:=bif e.h.all (fun x=>(x.1.den ρ).B == x.2) then e.v.den ρ else eX
def pI.sure (pc:Pc)(e:pI):Bool:=e.h.all fun x=>match pc.known x.1 with|some b=>b == x.2|none=>false
theorem pI.ZQ {ρ:List AV}{pc:Pc}{e:pI}(hp:pc.holds ρ)(h:e.sure pc=true):e.den ρ=e.v.den ρ:=by
 unfold pI.den
 have:e.h.all (fun x=>(x.1.den ρ).B == x.2)=true:=by
  unfold pI.sure at h
  rw [List.all_eq_true] at h ⊢
  intro x hx
  have:=h x hx
  split at this
  .rename_i b hb;rw [Pc.gV hp hb];exact this
  .cases this
 rw [this];rfl
structure St where
 fr:Tr pI
 ah:Tr SB
 nx:Nat
 ds:List Nat
 db:List Nat
def yG : Nat:=40
def St.put (st:St)(d:Nat)(e:pI):St:={st with fr:=st.fr.upd yG d (some e),ds:=d::st.ds}
def St.wr (st:St):List (Nat×Option SB)->St
 |[]=>st
 |(b,k)::r=>St.wr {st with ah:=st.ah.upd yG b k,db:=b::st.db} r
end Go.Fw
end
section
namespace Go.Fw
variable [jU]
def CG {α:Type}:List α->Nat->Option α
 |[],_=>none
 |x::_,0=>some x
 |_::r,n+1=>CG r n
theorem xG {α:Type}:∀(l:List α) (n:Nat),CG l n=l[n]?
 |[],n=>by simp [CG]
 |x::r,0=>by simp [CG]
 |x::r,n+1=>by simp [CG,xG r n]
def wo : List Nat->AV->AV->AV
 |[],_,y=>y
 |j::p,.agg l,y=>.agg (l.set j (wo p (l.getD j eX) y))
 |j::p,.fA l,y=>.fA (l.set j (wo p (l.getD j eX) y))
 |_::_,a,_=>a
def Dj (p:List Nat)(r:AV):List (List AV):=(ax8 r p).D.R
def ah1 (k:vH):AH:=fun b=>if b=0 then some k else none
def PCo (P:Program)(f:FuncId)(args:List AV)(r:AV)(p:List Nat)(sz:Nat):Prop:=
 ∀(w:World) (fix:Nat->Nat->Prop) (vs:List Value),(∀c o,fix c o->c<w.heap.size)->GOk w fix->iE w (fC fix) args vs->
  match P.funcs[f]? with
  |none=>False
  |some fn=>fn.body.isNone=false/\fn.name≠ "runtime.NumGoroutine" /\Calls P f vs.toArray w fun e w'=>∃v E',e=.returned v/\Step w.heap.size w (fC fix) w' E'/\
   dU w.heap.size w' E' (ah1 (.rows sz (Dj p r))) (fun b=>1<=b)/\Rep w' E' (wo p r (.os 0 sz 0 (Dj p r).length)) v
def qX : List (Nat×vH)->AH
 |[],_=>none
 |x::r,b=>bif Nat.beq x.1 b then some x.2 else qX r b
def PWL (P:Program)(f:FuncId)(args:List AV)(bin:List (Nat×vH))(n0:Nat)(r:AV)(KE:List (Nat×vH)):Prop:=
 ∀(base:Nat) (w:World) (E:Env) (vs:List Value),dU base w E (qX bin) (fun b=>n0<=b)->GOk w E.fix->iE w E args vs->
  match P.funcs[f]? with
  |none=>False
  |some fn=>fn.body.isNone=false/\fn.name≠ "runtime.NumGoroutine" /\Calls P f vs.toArray w fun e w'=>∃v E',e=.returned v/\Step base w E w' E'/\
   dU base w' E' (qX KE) (fun b=>n0<=b)/\Rep w' E' r v
def kOf : AV->Nat
 | .p (.int _ n)=>n.toNat
 |_=>0
def TT : List AV:=[.p (.bool true)]
def FV (ρ:List AV)(bl:List (Nat×SB)):List (Nat×vH):=bl.map fun x=>(x.1,x.2.den ρ)
inductive Side where
 |pJ (f:FuncId) (args:List SV) (bl:List (Nat×SB)) (n0:Nat) (r:SV) (H_:List (Nat×SB))
 |KO (f:FuncId) (args:List SV) (r:SV) (p:List Nat) (sz:Nat) (fl:Bool)
 |tm (t:Tm)
 |call (f:FuncId) (args:List SV) (r:SV)
 |fop (o:BinOp) (x y:Tm)
 |cat (x y:Tm)
 |num (k:IntKind) (x:Tm) (n:Tm)
 |row (t i:Tm) (cells:List SV)
 |rd (ty:Bool×Nat) (t i:Tm) (off:Nat) (v:SV)
 |st (t i:Tm) (off:Nat) (cells:List SV) (n:Tm)
 |sub (sz:Nat) (t:Tm) (lo hi:Option Tm) (n:Tm)
 |mk (len cap:Tm) (z:List SV) (n:Tm)
 |app (sz:Nat) (x:Tm) (y:List (List SV)) (n:Tm)
 |ZR (sz:Nat) (x y n:Tm)
 |len2 (m:Nat) (y:Tm)
 |KF (n:Nat) (t:Tm)
 |cpy (x len y n:Tm)
 |ao_ (t:Tm)
 |mark (m:MSh) (t d len n:Tm)
 |ags (sz:Nat) (x:List (List SV)) (y n:Tm)
 |look (kt:TypeId) (m:MSh) (t:Tm) (k z:SV) (f:Tm) (v:SV)
 |put (kt:TypeId) (m:MSh) (t:Tm) (k v:SV) (n:Tm)
 |under (pc:Pc) (s:Side)
def Wy (ρ:List AV)(d:Nat):Option Tm->Int
 |none=>d
 |some t=>(t.den ρ).I
def Side.holds (P:Program)(ρ:List AV):Side->Prop
 | .tm t=>(t.den ρ).B=true
 | .pJ f args bl n0 r H_=>PWL P f (dQ ρ args) (FV ρ bl) n0 (r.den ρ) (FV ρ H_)
 | .KO f args r p sz fl=>PCo P f (dQ ρ args) (r.den ρ) p sz/\(fl=true->∀row∈Dj p (r.den ρ),zN row=true)
 | .call f args r=>PC P f (dQ ρ args) (r.den ρ)
 | .fop o x y=>match o with
  | .add=>(FloatKind.f64.format.add (x.den ρ).F (y.den ρ).F).isSome=true
  | .sub=>(FloatKind.f64.format.sub (x.den ρ).F (y.den ρ).F).isSome=true
  | .mul=>(FloatKind.f64.format.mul (x.den ρ).F (y.den ρ).F).isSome=true
  | .quo=>(FloatKind.f64.format.div (x.den ρ).F (y.den ρ).F).isSome=true
  |_=>False
 | .cat x y=>(x.den ρ).S.length+(y.den ρ).S.length<=4294967296
 | .num k x n=>(FloatKind.f64.decode (x.den ρ).F).toInt .zero=some (n.den ρ).I/\k.min<=(n.den ρ).I/\(n.den ρ).I<=k.max
 | .row t i cells=>0<=(i.den ρ).I/\(t.den ρ).R[(i.den ρ).I.toNat]?=some (dQ ρ cells)
 | .rd ty t i off v=>∃row,(t.den ρ).R[(i.den ρ).I.toNat]?=some row/\apart ty row off (fun x=>x=v.den ρ)
 | .st t i off cells n=>∃row,(t.den ρ).R[(i.den ρ).I.toNat]?=some row/\off+cells.length<=row.length/\(n.den ρ).R=(t.den ρ).R.set (i.den ρ).I.toNat (lay row off (dQ ρ cells))
 | .sub sz t lo hi n=>lI sz (t.den ρ).R/\0<=Wy ρ 0 lo/\Wy ρ 0 lo<=Wy ρ (t.den ρ).R.length hi/\Wy ρ (t.den ρ).R.length hi<=(t.den ρ).R.length/\
   (n.den ρ).R=((t.den ρ).R.drop (Wy ρ 0 lo).toNat).take ((Wy ρ (t.den ρ).R.length hi).toNat-(Wy ρ 0 lo).toNat)
 | .mk len cap z n=>0<=(len.den ρ).I/\(len.den ρ).I<=(cap.den ρ).I/\(cap.den ρ).I<=4294967296/\(n.den ρ).R=List.replicate (len.den ρ).I.toNat (dQ ρ z)
 | .app sz x y n=>lI sz (x.den ρ).R/\(x.den ρ).R.length+y.length<=4294967296/\(n.den ρ).R=(x.den ρ).R++iL ρ y
 | .ZR sz x y n=>lI sz (x.den ρ).R/\lI sz (y.den ρ).R/\(x.den ρ).R.length+(y.den ρ).R.length<=4294967296/\(n.den ρ).R=(x.den ρ).R++(y.den ρ).R
 | .len2 m y=>m+(y.den ρ).R.length<=4294967296
 | .KF n t=>lI n (t.den ρ).R
 | .cpy x len y n=>(len.den ρ).I.toNat<=(x.den ρ).R.length/\(n.den ρ).R=(y.den ρ).R.take (len.den ρ).I.toNat++(x.den ρ).R.drop (min (y.den ρ).R.length (len.den ρ).I.toNat)
 | .ao_ t=>((t.den ρ).R.mapM ayj).isSome=true
 | .mark m t d len n=>(len.den ρ).I.toNat<=(d.den ρ).R.length/\(∀e∈(t.den ρ).R.map (qY m),∃kk i,e.1=.p (.int kk i)/\0<=i/\i.toNat<(len.den ρ).I.toNat)/\(n.den ρ).R.length=(d.den ρ).R.length/\
   ∀i,i<(d.den ρ).R.length->(n.den ρ).R[i]?=if ((t.den ρ).R.map (qY m)).any (fun e=>Nat.beq (kOf e.1) i)=true then some TT else (d.den ρ).R[i]?
 | .ags sz x y n=>x.length+(y.den ρ).R.length<=4294967296/\(n.den ρ).R=iL ρ x++(y.den ρ).R
 | .look kt m t k z f v=>∃r,yD P kt (k.den ρ) ((t.den ρ).R.map (qY m))=some r/\(f.den ρ).B=r.isSome/\v.den ρ=(match r with|none=>z.den ρ|some q=>q.2)
 | .put kt m t k v n=>∃r,yD P kt (k.den ρ) ((t.den ρ).R.map (qY m))=some r/\(∀q,r=some q->(((t.den ρ).R.map (qY m))[q.1]?).map (·.1)=some (k.den ρ))/\
   (n.den ρ).R.map (qY m)=(match r with|none=>(t.den ρ).R.map (qY m)++[(k.den ρ,v.den ρ)]|some q=>((t.den ρ).R.map (qY m)).set q.1 (k.den ρ,v.den ρ))
 | .under pc s=>Pc.holds ρ pc->s.holds P ρ
def acI (l t:Tm):List Side:=bif l.beq (.rlen t) then [] else [.tm (.bin .eql (.int .i64) l (.rlen t))]
theorem Q_ {P:Program}{ρ:List AV}{l t:Tm}(h:∀s∈acI l t,s.holds P ρ):(l.den ρ).I.toNat=(t.den ρ).R.length:=by
 unfold acI at h
 cases hb:l.beq (.rlen t)
 .simp only [hb,cond_false] at h
  have:=h _ (bV.2 rfl)
  have h2:(l.den ρ).I=(Tm.den ρ (.rlen t)).I:=by simpa [Side.holds,Tm.den,qh,D.Di,dW] using this
  rw [h2];rfl
 .rw [Tm.beq_eq hb];rfl
def WA (ρ:List AV)(tr:Tr pI)(fr:lY):Prop:=∀t e,tr.get t=some e->jm fr t=some (e.den ρ)
def Fq (ρ:List AV)(tr:Tr SB)(ah:AH):Prop:=∀b k,tr.get b=some k->ah b=some (k.den ρ)
def alW : Value->Option SV
 | .string s=>some (.sc .str (.ls s.data.toList))
 | .slice none 0 0=>some .nil
 | .bool b=>some (.sc .bool (.lb b))
 | .int k n=>some (.sc (.int k) (.li n))
 | .float .f64 n=>some (.sc .kS (.lf n))
 | .nilFunc=>some (.c .fn)
 | .nilIface=>some (.c .mP)
 | .pointer none=>some (.c .ptr)
 | .map none=>some (.c .mp)
 |_=>none
def Tj : List Value->Option (List SV)
 |[]=>some []
 |v::r=>match alW v with|none=>none|some x=>match Tj r with|none=>none|some l=>some (x::l)
def alX : Value->Option SV
 | .agg cs=>match Tj cs.toList with|none=>none|some l=>some (.agg l)
 | .tuple vs=>if vs.isEmpty=true then some (.c .undef) else none
 |v=>alW v
theorem ZT {ρ:List AV}{v:Value}{s:SV}(h:alW v=some s):ofC v=some (s.den ρ):=by
 unfold alW at h
 split at h<;>first|(cases h;done)|(simp only [au] at h;subst h;rfl)
theorem JO {ρ:List AV}:∀{l:List Value} {s:List SV},Tj l=some s->l.mapM ofC=some (dQ ρ s)
 |[],s,h=>by simp [Tj] at h;subst h;rfl
 |v::r,s,h=>by
  simp only [Tj] at h
  split at h
  .cases h
  .rename_i x hx
   split at h
   .cases h
   .rename_i l hl
    simp only [au] at h
    subst h
    rw [List.mapM_cons,ZT (ρ:=ρ) hx,JO (ρ:=ρ) hl]
    rfl
theorem ZU {ρ:List AV}{v:Value}{s:SV}(h:alX v=some s):ofV v=some (s.den ρ):=by
 unfold alX at h
 split at h
 .rename_i cs
  split at h
  .cases h
  .rename_i l hl
   simp only [au] at h;subst h
   simp only [ofV,JO (ρ:=ρ) hl]
   rfl
 .rename_i vs
  split at h
  .rename_i hv
   simp only [au] at h;subst h
   simp only [ofV,hv,if_true]
   have:vs=#[]:=by simpa using hv
   subst this;rfl
  .cases h
 .rename_i h1 h2
  have:=ZT (ρ:=ρ) h
  unfold ofV
  split
  .exact absurd rfl (h1 _)
  .exact absurd rfl (h2 _)
  .exact this
def Ai (pc:Pc)(fr:Tr pI):Operand->Option SV
 | .tmp t=>match fr.get t with
  |some e=>bif e.sure pc then some e.v else none
  |none=>none
 | .const v=>alX v
 | .func f=>some (.fn f [] [])
 | .global g=>match aeo g jU.tab with
  |none=>none
  |some row=>match Tj row with
   |none=>none
   |some r=>some (.vp r 0)
section
variable {P : Program} {ρ:List AV} {pc:Pc} {tr:Tr pI} {fr:lY}
theorem iR (hp:pc.holds ρ)(hf:WA ρ tr fr){x:Operand}{v:SV}(h:Ai pc tr x=some v):ev fr x=some (v.den ρ):=by
 cases x with
 |tmp t=>
  simp only [Ai] at h
  split at h
  .rename_i e he
   cases hs:e.sure pc
   .simp [hs] at h
   .simp [hs] at h;subst h
    simp only [ev];rw [hf t e he,pI.ZQ hp hs]
  .cases h
 |const v=>exact ZU h
 |func f=>simp [Ai] at h;subst h;rfl
 |global g=>
  simp only [Ai] at h
  split at h
  .cases h
  .rename_i row hrow
   split at h
   .cases h
   .rename_i r hr
    simp only [au] at h;subst h
    simp only [ev,hrow,Option.bind_some,JO (ρ:=ρ) hr];rfl
def LU (pc:Pc)(fr:Tr pI):List Operand->Option (List SV)
 |[]=>some []
 |x::r=>match Ai pc fr x with|none=>none|some a=>match LU pc fr r with|none=>none|some l=>some (a::l)
theorem vN (hp:pc.holds ρ)(hf:WA ρ tr fr):∀{l:List Operand} {s:List SV},LU pc tr l=some s->VY fr l=some (dQ ρ s)
 |[],s,h=>by simp [LU] at h;subst h;rfl
 |x::r,s,h=>by
  simp only [LU] at h
  split at h
  .cases h
  .rename_i a ha
   split at h
   .cases h
   .rename_i l hl
    simp only [au] at h;subst h
    simp only [VY,iR hp hf ha,vN hp hf hl];rfl
def agt {α:Type}(pc:Pc)(fr:Tr pI):List (α×Operand)->Option (List (α×SV))
 |[]=>some []
 |(i,x)::r=>match Ai pc fr x with|none=>none|some a=>match agt pc fr r with|none=>none|some l=>some ((i,a)::l)
theorem Yh {α:Type}(hp:pc.holds ρ)(hf:WA ρ tr fr):∀{l:List (α×Operand)} {s:List (α×SV)},agt pc tr l=some s->VX fr l=some (s.map fun q=>(q.1,q.2.den ρ))
 |[],s,h=>by simp [agt] at h;subst h;rfl
 |(i,x)::r,s,h=>by
  simp only [agt] at h
  split at h
  .cases h
  .rename_i a ha
   split at h
   .cases h
   .rename_i l hl
    simp only [au] at h;subst h
    simp only [VX,iR hp hf ha,Yh hp hf hl];rfl
end
structure SR where
 v:SV
 wr:List (Nat×Option SB)
 rd:List Nat
 sd:List Side
 nv:Nat
def SR.val (nv:Nat)(v:SV):SR:=⟨v,[],[],[],nv⟩
def SR.den (ρ:List AV)(r:SR):rP:=⟨r.v.den ρ,r.wr.map fun x=>(x.1,x.2.map (SB.den ρ)),r.rd⟩
def ayG (pc:Pc)(t:Tm):Option (List Side):=
 match pc.known t with
 |some true=>some []
 |some false=>none
 |none=>some [.tm t]
theorem oI {P:Program}{ρ:List AV}{pc:Pc}(hp:pc.holds ρ){t:Tm}{l:List Side}(h:ayG pc t=some l)(hs:∀s∈l,s.holds P ρ):(t.den ρ).B=true:=by
 unfold ayG at h
 split at h
 .rename_i hk;exact Pc.gV hp hk
 .cases h
 .simp only [au] at h;subst h
  exact hs (.tm t) (by simp)
def DV (ty:Bool×Nat)(row:List SV)(off:Nat):Option SV:=
 bif ty.1 then (bif Nat.ble (off+ty.2) row.length then some (.agg ((row.drop off).take ty.2)) else none) else CG row off
theorem fZ {ρ:List AV}{l:List SV}:(dQ ρ l).length=l.length:=by rw [nN,dA]
theorem En {ρ:List AV}{l:List SV}{n:Nat}{x:SV}(h:CG l n=some x):(dQ ρ l)[n]?=some (x.den ρ):=by
 rw [nN,bT,<- xG,h];rfl
theorem OY {ρ:List AV}{l:List SV}{n:Nat}:(dQ ρ l).drop n=dQ ρ (l.drop n):=by simp [nN,List.map_drop]
theorem OZ {ρ:List AV}{l:List SV}{n:Nat}:(dQ ρ l).take n=dQ ρ (l.take n):=by simp [nN,List.map_take]
theorem l7 {ρ:List AV}{l m:List SV}:dQ ρ (l++m)=dQ ρ l++dQ ρ m:=by simp [nN]
theorem f_ {ρ:List AV}{l:List (List SV)}:(iL ρ l).length=l.length:=by rw [lV,dA]
theorem JQ {ρ:List AV}{l:List (List SV)}{n:Nat}{x:List SV}(h:CG l n=some x):(iL ρ l)[n]?=some (dQ ρ x):=by
 rw [lV,bT,<- xG,h];rfl
theorem xH {ρ:List AV}{l m:List (List SV)}:iL ρ (l++m)=iL ρ l++iL ρ m:=by simp [lV]
theorem agu {ρ:List AV}{l:List (List SV)}{n:Nat}{x:List SV}:(iL ρ l).set n (dQ ρ x)=iL ρ (l.set n x):=by simp [lV,List.map_set]
theorem yS {ρ:List AV}{l:List (List SV)}{n:Nat}:(iL ρ l).drop n=iL ρ (l.drop n):=by simp [lV,List.map_drop]
theorem yT {ρ:List AV}{l:List (List SV)}{n:Nat}:(iL ρ l).take n=iL ρ (l.take n):=by simp [lV,List.map_take]
theorem xI {ρ:List AV}{ty:Bool×Nat}{row:List SV}{off:Nat}{v:SV}(h:DV ty row off=some v){k:AV->Prop}(hk:k (v.den ρ)):apart ty (dQ ρ row) off k:=by
 unfold DV at h
 unfold apart
 cases h1:ty.1
 .simp only [h1,cond_false] at h
  rw [if_neg (by simp)]
  exact dH.2 ⟨_,En h,hk⟩
 .simp only [h1,cond_true] at h
  rw [if_pos rfl]
  cases h2:Nat.ble (off+ty.2) row.length
  .simp [h2] at h
  .simp [h2] at h;subst h
   refine ⟨by rw [fZ];exact aG h2,?_⟩
   rw [OY,OZ];exact hk
def yB (t:Tm):Option Nat:=match t with | .li (.ofNat n)=>some n|_=>none
theorem fU {ρ:List AV}{t:Tm}{n:Nat}(h:yB t=some n):(t.den ρ).I=(n:Int)/\(t.den ρ).I.toNat=n:=by
 unfold yB at h
 split at h
 .simp only [au] at h;subst h;exact ⟨rfl,rfl⟩
 .cases h
def FW (P:Program):Nat->TypeId->Option (List Kd)
  |0,_=>none
  |d+1,t=>match P.underlying t with
   |some .bool=>some [.bool]
   |some (.int k)=>some [.int k]
   |some (.float .f64)=>some [.kS]
   |some .string=>some [.str]
   |some (.slice _)=>some [.sl]
   |some (.struct fs)=>aiL P (FW P d) fs.toList
   |some (.array n e)=>(FW P d e).map fun l=>(List.replicate n l).flatten
   |_=>none
 where aiL (P:Program) (kf:TypeId->Option (List Kd)):List Field->Option (List Kd)
  |[]=>some []
  |f::r=>match kf f.type with|none=>none|some l=>match aiL P kf r with|none=>none|some m=>some (l++m)
def iD (n:Nat)(p:List Nat):Nat->List Kd->List SV
 |_,[]=>[]
 |j,k::r=>.sc k (.var n (p++[j]))::iD n p (j+1) r
def ayC (P:Program)(n:Nat)(p:List Nat)(t:TypeId):Option SV:=
 match FW P 20 t,P.underlying t with
 |some l,some d=>bif Ig d then some (.agg (iD n p 0 l)) else match l with | [k]=>some (.sc k (.var n p))|_=>none
 |_,_=>none
def ZV (P:Program)(n:Nat):Nat->List TypeId->Option (List SV)
 |_,[]=>some []
 |j,t::r=>match ayC P n [j] t with|none=>none|some x=>match ZV P n (j+1) r with|none=>none|some l=>some (x::l)
def aiM (P:Program)(n:Nat)(f:FuncId):Option SV:=
 match P.funcs[f]? with
 |none=>none
 |some fn=>match fn.resultTypes.toList with
  |[t]=>ayC P n [] t
  |l=>(ZV P n 0 l).map .fA
def arn (P:Program)(n off:Nat)(t:TypeId):Option SV:=
 match FW P 20 t,P.underlying t with
 |some l,some d=>bif Ig d then some (.agg (iD n [] off l)) else match l with | [k]=>some (.sc k (.var n [off]))|_=>none
 |_,_=>none
end Go.Fw
end
section
namespace Go.Fw
variable [jU]
section
variable {P : Program} {ρ:List AV} {pc:Pc} {id nv:Nat} {fr:lY} {ah:AH} {tr:Tr pI} {th:Tr SB} {K:rP->Prop}
theorem SR.sW {nv:Nat}{v:SV}:(SR.val nv v).den ρ=.val (v.den ρ):=rfl
def aeI (P:Program)(pc:Pc)(th:Tr SB)(nv:Nat)(t:TypeId)(a:SV):Option SR:=
 match Bj P t with
 |none=>none
 |some ty=>
  match a with
  | .vp row off=>(DV ty row off).map (SR.val nv)
  | .op b sz i off=>
   match th.get b with
   |some (.rows sz' rs)=>bif Nat.beq sz sz' then
     match yB i with
     |none=>none
     |some n=>match CG rs n with
      |none=>none
      |some row=>(DV ty row off).map fun v=>⟨v,[],[b],[],nv⟩
    else none
   |some (.fO sz' t')=>bif Nat.beq sz sz' then
     (arn P nv off t).map fun v=>⟨v,[],[b],[.rd ty t' i off v],nv+1⟩
    else none
   |_=>none
  |_=>none
theorem ZW {t:TypeId}{a:SV}{r:SR}(ha:Fq ρ th ah)(h:aeI P pc th nv t a=some r)(hs:∀s∈r.sd,s.holds P ρ)(hK:K (r.den ρ)):MR P ah t (a.den ρ) K:=by
 unfold aeI at h
 split at h
 .cases h
 .rename_i ty hty
  refine dH.2 ⟨ty,hty,?_⟩
  split at h
  .rename_i row off
   simp only [aB] at h
   obtain ⟨v,hv,rfl⟩:=h
   exact xI hv hK
  .rename_i b sz i off
   split at h
   .rename_i sz' rs hb
    cases h1:Nat.beq sz sz'
    .simp [h1] at h
    .simp only [h1,cond_true] at h
     split at h
     .cases h
     .rename_i n hn
      split at h
      .cases h
      .rename_i row hrow
       simp only [aB] at h
       obtain ⟨v,hv,rfl⟩:=h
       show (match ah b with|some (.rows sz' rs)=>sz=sz'/\gu rs[(i.den ρ).I.toNat]? fun row=>apart ty row off fun x=>K ⟨x,[],[b]⟩|_=>False)
       rw [ha _ _ hb]
       refine ⟨aA h1,dH.2 ⟨dQ ρ row,?_,xI hv hK⟩⟩
       rw [(fU hn).2];exact JQ hrow
   .rename_i sz' t' hb
    cases h1:Nat.beq sz sz'
    .simp [h1] at h
    .simp only [h1,cond_true,aB] at h
     obtain ⟨v,hv,rfl⟩:=h
     show (match ah b with|some (.rows sz' rs)=>sz=sz'/\gu rs[(i.den ρ).I.toNat]? fun row=>apart ty row off fun x=>K ⟨x,[],[b]⟩|_=>False)
     rw [ha _ _ hb]
     obtain ⟨row,h2,h3⟩:=hs (.rd ty t' i off v) (by simp)
     refine ⟨aA h1,dH.2 ⟨row,h2,Ei (fun x hx=>?_) h3⟩⟩
     subst hx;exact hK
   .cases h
  .cases h
def alY (row:List SV)(off:Nat)(cs:List SV):List SV:=row.take off++cs++row.drop (off+cs.length)
theorem aeJ {row cs:List SV}{off:Nat}:lay (dQ ρ row) off (dQ ρ cs)=dQ ρ (alY row off cs):=by
 simp [lay,alY,l7,OZ,OY,fZ]
theorem A_ {v:SV}(h:v.D9=true):(v.den ρ).cells=dQ ρ v.cells:=by
 cases v with
 |sc k t=>cases k<;>rfl
 |_=>first|rfl|(simp [SV.D9] at h)
theorem Nl {v:SV}(h:v.D9=true):(v.den ρ).D9=true:=by
 cases v with
 |sc k t=>cases k<;>rfl
 |c v=>cases v<;>first|rfl|(simp [SV.D9] at h)
 |_=>first|rfl|(simp [SV.D9] at h)
def acJ (P:Program)(pc:Pc)(th:Tr SB)(nv:Nat)(t:TypeId)(a v:SV):Option SR:=
 match Bj P t with
 |none=>none
 |some ty=>
  bif v.D9&&Nat.beq v.cells.length ty.2 then
   match a with
   | .op b sz i off=>
    match th.get b with
    |some (.rows sz' rs)=>bif Nat.beq sz sz' then
      match yB i with
      |none=>none
      |some n=>match CG rs n with
       |none=>none
       |some row=>bif Nat.ble (off+ty.2) row.length then some ⟨.c .undef,[(b,some (.rows sz (rs.set n (alY row off v.cells))))],[b],[],nv⟩ else none
     else none
    |some (.fO sz' t')=>bif Nat.beq sz sz' then
      some ⟨.c .undef,[(b,some (.fO sz (.var nv [])))],[b],[.st t' i off v.cells (.var nv [])],nv+1⟩
     else none
    |_=>none
   |_=>none
  else none
theorem agv {t:TypeId}{a v:SV}{r:SR}(ha:Fq ρ th ah)(h:acJ P pc th nv t a v=some r)(hs:∀s∈r.sd,s.holds P ρ)(hK:K (r.den ρ)):Fv P ah t (a.den ρ) (v.den ρ) K:=by
 unfold acJ at h
 split at h
 .cases h
 .rename_i ty hty
  refine dH.2 ⟨ty,hty,?_⟩
  cases h0:v.D9&&Nat.beq v.cells.length ty.2
  .simp [h0] at h
  .simp only [h0,cond_true] at h
   simp only [ay] at h0
   obtain ⟨hbx,hlen⟩:=h0
   have hlen:=aA hlen
   split at h
   .rename_i b sz i off
    show (match ah b with|some (.rows sz' rs)=>sz=sz'/\(v.den ρ).D9=true/\(v.den ρ).cells.length=ty.2/\(gu rs[(i.den ρ).I.toNat]? fun row=>off+ty.2<=row.length/\(K ⟨.p undef,[(b,some (.rows sz (rs.set (i.den ρ).I.toNat (lay row off (v.den ρ).cells))))],[b]⟩))|_=>False)
    split at h
    .rename_i sz' rs hb
     cases h1:Nat.beq sz sz'
     .simp [h1] at h
     .simp only [h1,cond_true] at h
      split at h
      .cases h
      .rename_i n hn
       split at h
       .cases h
       .rename_i row hrow
        cases h2:Nat.ble (off+ty.2) row.length
        .simp [h2] at h
        .simp only [h2,cond_true,au] at h
         subst h
         rw [ha _ _ hb]
         refine ⟨aA h1,Nl hbx,by rw [A_ hbx,fZ,hlen],dH.2 ⟨dQ ρ row,by rw [(fU hn).2];exact JQ hrow,?_,?_⟩⟩
         .rw [fZ];exact aG h2
         .rw [(fU hn).2,A_ hbx,aeJ,agu];exact hK
    .rename_i sz' t' hb
     cases h1:Nat.beq sz sz'
     .simp [h1] at h
     .simp only [h1,cond_true,au] at h
      subst h
      rw [ha _ _ hb]
      obtain ⟨row,q1,q2,q3⟩:=hs (.st t' i off v.cells (.var nv [])) (by simp)
      refine ⟨aA h1,Nl hbx,by rw [A_ hbx,fZ,hlen],dH.2 ⟨row,q1,by rw [<- hlen];exact q2,?_⟩⟩
      rw [A_ hbx]
      have:K ⟨.p undef,[(b,some (.rows sz ((Tm.var nv []).den ρ).R))],[b]⟩:=hK
      rw [q3] at this
      exact this
    .cases h
   .cases h
def LV (P:Program)(nv:Nat)(s:TypeId)(a:SV)(k:Nat):Option SR:=
 match VW P s k with
 |none=>none
 |some f=>bif Nat.beq f.2.2 0 then none else
  match a with
  | .vp row off=>some (.val nv (.vp row (off+f.1)))
  | .op b sz i off=>some (.val nv (.op b sz i (off+f.1)))
  |_=>none
theorem VA {s:TypeId}{a:SV}{k:Nat}{r:SR}(h:LV P nv s a k=some r)(hK:K (r.den ρ)):Bl P s (a.den ρ) k K:=by
 unfold LV at h
 split at h
 .cases h
 .rename_i f hf
  refine dH.2 ⟨f,hf,?_⟩
  cases h0:Nat.beq f.2.2 0
  .simp only [h0,cond_false] at h
   refine ⟨fun e=>by rw [e] at h0;simp at h0,?_⟩
   split at h
   .simp only [au] at h;subst h;exact hK
   .simp only [au] at h;subst h;exact hK
   .cases h
  .simp [h0] at h
def acK (P:Program)(nv:Nat)(s:TypeId)(a:SV)(k:Nat):Option SR:=
 match VW P s k with
 |none=>none
 |some f=>match a with
  | .agg cs=>(DV f.2 cs f.1).map (.val nv)
  |_=>none
theorem agw {s:TypeId}{a:SV}{k:Nat}{r:SR}(h:acK P nv s a k=some r)(hK:K (r.den ρ)):RJ P s (a.den ρ) k K:=by
 unfold acK at h
 split at h
 .cases h
 .rename_i f hf
  refine dH.2 ⟨f,hf,?_⟩
  split at h
  .simp only [aB] at h
   obtain ⟨v,hv,rfl⟩:=h
   exact xI hv hK
  .cases h
def Tn (nv:Nat)(x:SV)(k:Nat):Option SR:=
 match x with
 | .fA l=>(CG l k).map (.val nv)
 |_=>none
theorem ZX {x:SV}{k:Nat}{r:SR}(h:Tn nv x k=some r)(hK:K (r.den ρ)):Bo (x.den ρ) k K:=by
 unfold Tn at h
 split at h
 .simp only [aB] at h
  obtain ⟨v,hv,rfl⟩:=h
  exact dH.2 ⟨_,En hv,hK⟩
 .cases h
def azn (a b:Option (List Side)):Option (List Side):=match a,b with|some a,some b=>some (a++b)|_,_=>none
theorem Eo {a b:Option (List Side)}{l:List Side}(h:azn a b=some l):∃x y,a=some x/\b=some y/\l=x++y:=by
 unfold azn at h
 split at h
 .simp only [au] at h;exact ⟨_,_,rfl,rfl,h.symm⟩
 .cases h
def aeK (pc:Pc)(s t:Tm):Option (List Side):=azn (ayG pc s) (ayG pc t)
theorem IL (hp:pc.holds ρ){s t:Tm}{l:List Side}(h:aeK pc s t=some l)(hs:∀s∈l,s.holds P ρ):(s.den ρ).B=true/\(t.den ρ).B=true:=by
 obtain ⟨x,y,h1,h2,rfl⟩:=Eo h
 exact ⟨oI hp h1 fun s hm=>hs s (by simp [hm]),oI hp h2 fun s hm=>hs s (by simp [hm])⟩
def leT (x y:Tm):Tm:=ayd .leq (.int .i64) x y
def ltT (x y:Tm):Tm:=ayd .lss (.int .i64) x y
theorem xJ {x y:Tm}(h:((leT x y).den ρ).B=true):(x.den ρ).I<=(y.den ρ).I:=by
 simpa [leT,ou,qh,D.Di] using h
theorem Yi {x y:Tm}(h:((ltT x y).den ρ).B=true):(x.den ρ).I<(y.den ρ).I:=by
 simpa [ltT,ou,qh,D.Di] using h
def ay8 (P:Program)(t:TypeId):Option TypeId:=match P.underlying t with|some (.slice e)=>some e|_=>none
def LW (P:Program)(pc:Pc)(nv:Nat)(t:TypeId)(x i:SV):Option SR:=
 match i with
 | .sc (.int _) n=>
  match x with
  | .sc .sl tm | .sf tm=>
   match mQ P t,ay8 P t with
   |some e,some el=>match FW P 20 el with
    |none=>none
    |some ks=>bif Nat.beq ks.length e.1 then
      some ⟨.vp (iD nv [] 0 ks) 0,[],[],[.row tm n (iD nv [] 0 ks)],nv+1⟩
     else none
   |_,_=>none
  | .slc rows _=>
   match mQ P t,yB n with
   |some e,some j=>match CG rows j with
    |none=>none
    |some row=>bif Nat.beq row.length e.1 then some (.val nv (.vp row 0)) else none
   |_,_=>none
  | .os b sz off len=>
   match mQ P t,aeK pc (leT (.li 0) n) (ltT n len) with
   |some e,some l=>bif Nat.beq sz e.1 then
     match off,yB n with
     |0,_=>some ⟨.op b sz n 0,[],[],l,nv⟩
     |off,some j=>some ⟨.op b sz (.li (.ofNat (off+j))) 0,[],[],l,nv⟩
     |_,_=>none
    else none
   |_,_=>none
  | .vp row off=>
   match zD P t,yB n with
   |some e,some j=>bif Nat.blt j e.1 then some (.val nv (.vp row (off+j*e.2.1))) else none
   |_,_=>none
  | .op b sz j off=>
   match zD P t with
   |some e=>bif Nat.beq sz e.2.1 then
     match yB n,yB j with
     |some m,some q=>bif Nat.blt m e.1 then some (.val nv (.op b sz (.li (.ofNat (q+m))) off)) else none
     |none,some 0=>match aeK pc (leT (.li 0) n) (ltT n (.li (.ofNat e.1))) with
      |some l=>some ⟨.op b sz n off,[],[],l,nv⟩
      |none=>none
     |_,_=>none
    else match yB n with
     |some m=>bif Nat.blt m e.1 then some (.val nv (.op b sz j (off+m*e.2.1))) else none
     |none=>none
   |none=>none
  |_=>none
 |_=>none
theorem KP {n:Nat}{p:List Nat}:∀{ks:List Kd} {j:Nat},(iD n p j ks).length=ks.length
 |[],_=>rfl
 |k::r,j=>by simp [iD,KP (ks:=r)]
theorem LX {a b:Nat}(h:Nat.blt a b=true):a<b:=aG h
theorem VB {t:TypeId}{x i:SV}{r:SR}(hp:pc.holds ρ)(h:LW P pc nv t x i=some r)(hs:∀s∈r.sd,s.holds P ρ)(hK:K (r.den ρ)):tJ P t (x.den ρ) (i.den ρ) K:=by
 have frozen:∀(k:IntKind) (tm n:Tm) (full:Bool) (r:SR),(match mQ P t,ay8 P t with
   |some e,some el=>match FW P 20 el with
    |none=>none
    |some ks=>bif Nat.beq ks.length e.1 then
      some ⟨.vp (iD nv [] 0 ks) 0,[],[],[.row tm n (iD nv [] 0 ks)],nv+1⟩
     else none
   |_,_=>none)=some r->(∀s∈r.sd,s.holds P ρ)->K (r.den ρ)->tJ P t (.sl (tm.den ρ).R full) (.p (.int k (n.den ρ).I)) K:=by
  intro k tm n full r h hs hK
  split at h
  .rename_i e el he hel
   split at h
   .cases h
   .rename_i ks hks
    cases h1:Nat.beq ks.length e.1
    .simp [h1] at h
    .simp only [h1,cond_true,au] at h
     subst h
     obtain ⟨h2,h3⟩:=hs (.row tm n (iD nv [] 0 ks)) (by simp)
     refine dH.2 ⟨e,he,h2,dH.2 ⟨_,h3,?_,hK⟩⟩
     rw [fZ,KP];exact aA h1
  .cases h
 unfold LW at h
 split at h
 .rename_i k n
  split at h
  .exact frozen k _ n false r h hs hK
  .exact frozen k _ n true r h hs hK
  .split at h
   .rename_i e j he hj
    split at h
    .cases h
    .rename_i row hrow
     cases h1:Nat.beq row.length e.1
     .simp [h1] at h
     .simp only [h1,cond_true,au] at h
      subst h
      refine dH.2 ⟨e,he,?_,dH.2 ⟨dQ ρ row,?_,by rw [fZ];exact aA h1,hK⟩⟩
      .rw [(fU hj).1];omega
      .rw [(fU hj).2];exact JQ hrow
   .cases h
  .rename_i b sz off len
   split at h
   .rename_i e l he hl
    cases h1:Nat.beq sz e.1
    .simp [h1] at h
    .simp only [h1,cond_true] at h
     have main:r.sd=l->(0<=(n.den ρ).I/\(n.den ρ).I.toNat<(len.den ρ).I.toNat):=by
      intro hsd
      have:=IL (P:=P) hp hl (fun s hm=>hs s (by rw [hsd];exact hm))
      have q1:(0:Int)<=(n.den ρ).I:=xJ this.1
      have q2:=Yi this.2
      omega
     split at h
     .simp only [au] at h
      obtain ⟨m1,m2⟩:=main (by rw [<- h])
      subst h
      refine dH.2 ⟨e,he,m1,m2,aA h1,?_⟩
      rw [Nat.zero_add];exact hK
     .rename_i off j hoff hj
      simp only [au] at h
      obtain ⟨m1,m2⟩:=main (by rw [<- h])
      subst h
      refine dH.2 ⟨e,he,m1,m2,aA h1,?_⟩
      rw [(fU hj).2]
      exact hK
     .cases h
   .cases h
  .rename_i row off
   split at h
   .rename_i e j he hj
    cases h1:Nat.blt j e.1
    .simp [h1] at h
    .simp only [h1,cond_true,au] at h
     subst h
     refine dH.2 ⟨e,he,by rw [(fU hj).1];omega,by rw [(fU hj).2];exact LX h1,?_⟩
     rw [(fU hj).2];exact hK
   .cases h
  .rename_i b sz j off
   split at h
   .rename_i e he
    cases hq:Nat.beq sz e.2.1
    .simp only [hq,cond_false] at h
     split at h
     .rename_i m hm
      cases h1:Nat.blt m e.1
      .simp [h1] at h
      .simp only [h1,cond_true,au] at h
       subst h
       refine dH.2 ⟨e,he,by rw [(fU hm).1];omega,by rw [(fU hm).2];exact LX h1,?_⟩
       rw [(fU hm).2,hq];exact hK
     .cases h
    .simp only [hq,cond_true] at h
     split at h
     .rename_i m q hm hj
      cases h1:Nat.blt m e.1
      .simp [h1] at h
      .simp only [h1,cond_true,au] at h
       subst h
       refine dH.2 ⟨e,he,by rw [(fU hm).1];omega,by rw [(fU hm).2];exact LX h1,?_⟩
       rw [(fU hm).2,hq,(fU hj).2];exact hK
     .rename_i hm hj
      split at h
      .rename_i l hl
       simp only [au] at h
       subst h
       obtain ⟨m1,m2⟩:=IL (P:=P) hp hl hs
       have m1:(0:Int)<=_:=xJ m1
       have m2:=Yi m2
       have m2':(n.den ρ).I<(e.1:Int):=m2
       refine dH.2 ⟨e,he,m1,by omega,?_⟩
       rw [hq,(fU hj).2,Nat.zero_add];exact hK
      .cases h
     .cases h
   .cases h
  .cases h
 .cases h
def WB : Tm->Tm
 | .ls l=>.li l.length
 |s=>.slen s
theorem JR {s:Tm}:((WB s).den ρ).I=((s.den ρ).S.length:Int):=by unfold WB;split<;>rfl
def aeL (s n:Tm):Tm:=
 match s,yB n with
 | .ls l,some j=>.li ((l.getD j 0).toNat:Nat)
 |s,_=>.byte s n
theorem agx {s n:Tm}:((aeL s n).den ρ).I=(((s.den ρ).S.getD (n.den ρ).I.toNat 0).toNat:Int):=by
 unfold aeL
 split
 .rename_i l j hj;rw [(fU hj).2];rfl
 .rfl
def acM (P:Program)(pc:Pc)(nv:Nat)(t:TypeId)(x i:SV):Option SR:=
 match i with
 | .sc (.int _) n=>
  match x with
  | .sc .str s=>
   match P.underlying t,aeK pc (leT (.li 0) n) (ltT n (WB s)) with
   |some .string,some l=>some ⟨.sc (.int .u8) (aeL s n),[],[],l,nv⟩
   |_,_=>none
  | .agg cs=>
   match zD P t,yB n with
   |some e,some j=>bif Nat.blt j e.1 then (DV (e.2.2,e.2.1) cs (j*e.2.1)).map (.val nv) else none
   |_,_=>none
  |_=>none
 |_=>none
theorem agy {t:TypeId}{x i:SV}{r:SR}(hp:pc.holds ρ)(h:acM P pc nv t x i=some r)(hs:∀s∈r.sd,s.holds P ρ)(hK:K (r.den ρ)):Ld P t (x.den ρ) (i.den ρ) K:=by
 unfold acM at h
 split at h
 .rename_i k n
  split at h
  .rename_i s
   split at h
   .rename_i l hu hl
    simp only [au] at h
    subst h
    obtain ⟨h1,h2⟩:=IL (P:=P) hp hl (fun s hm=>hs s hm)
    have q1:(0:Int)<=(n.den ρ).I:=xJ h1
    have q2:=Yi h2
    rw [JR] at q2
    have hlt:(n.den ρ).I.toNat<(s.den ρ).S.length:=by omega
    refine ⟨hu,q1,dH.2 ⟨(s.den ρ).S[(n.den ρ).I.toNat],by simp [hlt],?_⟩⟩
    have hv:((aeL s n).den ρ).I=(((s.den ρ).S[(n.den ρ).I.toNat]).toNat:Int):=by rw [agx];simp [hlt]
    rw [<- hv];exact hK
   .cases h
  .rename_i cs
   split at h
   .rename_i e j he hj
    cases h1:Nat.blt j e.1
    .simp [h1] at h
    .simp only [h1,cond_true,aB] at h
     obtain ⟨v,hv,rfl⟩:=h
     refine dH.2 ⟨e,he,by rw [(fU hj).1];omega,by rw [(fU hj).2];exact LX h1,?_⟩
     rw [(fU hj).2];exact xI hv hK
   .cases h
  .cases h
 .cases h
end
end Go.Fw
end
section
namespace Go.Fw
variable [jU]
section
variable {P : Program} {ρ:List AV} {pc:Pc} {id nv:Nat} {fr:lY} {ah:AH} {tr:Tr pI} {th:Tr SB} {K:rP->Prop}
def agz (P:Program)(eqv:TypeId->SV->SV->Option Tm)(xs ys:List SV):List Field->Option Tm
 |[]=>some (.lb true)
 |f::fs=>bif decide (f.name≠ "_") then
   match Bj P f.type with
   |none=>none
   |some ty=>match DV ty xs f.offset,DV ty ys f.offset with
    |some a,some b=>match eqv f.type a b,agz P eqv xs ys fs with
     |some r,some s=>some (ayB r s)
     |_,_=>none
    |_,_=>none
  else agz P eqv xs ys fs
def yEq (P:Program):Nat->TypeId->SV->SV->Option Tm
 |0,_,_,_=>none
 |d+1,t,x,y=>
  match P.underlying t with
  |none=>none
  |some u=>match u,x,y with
   | .bool,.sc .bool a,.sc .bool b=>some (KN .eql .bool a b)
   | .int _,.sc (.int k) a,.sc (.int k') b=>bif decide (k=k') then some (KN .eql (.int k) a b) else none
   | .float _,.sc .kS a,.sc .kS b=>some (KN .eql .kS a b)
   | .string,.sc .str a,.sc .str b=>some (KN .eql .str a b)
   | .pointer _,.c .ptr,.c .ptr=>some (.lb true)
   | .pointer _,.c .ptr,.vp _ _=>some (.lb false)
   | .pointer _,.c .ptr,.op _ _ _ _=>some (.lb false)
   | .pointer _,.vp _ _,.c .ptr=>some (.lb false)
   | .pointer _,.op _ _ _ _,.c .ptr=>some (.lb false)
   | .interface _,.c .mP,.c .mP=>some (.lb true)
   | .interface _,.c .mP,.mP _ _=>some (.lb false)
   | .interface _,.mP _ _,.c .mP=>some (.lb false)
   | .struct fs,.agg xs,.agg ys=>bif P.stoodInHeld t then none else agz P (yEq P d) xs ys fs.toList
   |_,_,_=>none
theorem Tq {ty:Bool×Nat}{row:List SV}{off:Nat}{v:SV}(h:DV ty row off=some v):Le ty (dQ ρ row) off=some (v.den ρ):=by
 have:=xI (ρ:=ρ) h (k:=fun x=>x=v.den ρ) rfl
 unfold apart at this
 unfold Le
 split at this
 .rename_i h1;rw [if_pos h1,if_pos this.1,this.2]
 .rename_i h1;rw [if_neg h1];obtain ⟨z,hz,rfl⟩:=dH.1 this;exact hz
theorem Yj {eqv:TypeId->SV->SV->Option Tm}{eqa:TypeId->AV->AV->Option Bool}(he:∀t x y tm,eqv t x y=some tm->eqa t (x.den ρ) (y.den ρ)=some (tm.den ρ).B){xs ys:List SV} :
  ∀{fs:List Field} {tm:Tm},agz P eqv xs ys fs=some tm->Zp P eqa (dQ ρ xs) (dQ ρ ys) fs=some (tm.den ρ).B
 |[],tm,h=>by simp [agz] at h;subst h;rfl
 |f::fs,tm,h=>by
  unfold agz at h
  by_cases hn:f.name≠ "_"
  .rw [show decide (f.name≠ "_")=true by simpa using hn] at h
   simp only [cond_true] at h
   split at h
   .cases h
   .rename_i ty hty
    split at h
    .rename_i a b ha hb
     split at h
     .rename_i r s hr hs
      simp only [au] at h;subst h
      unfold Zp
      rw [if_pos hn,hty,Option.bind_some,Tq ha,Option.bind_some,Tq hb,Option.bind_some,he _ _ _ _ hr,Option.bind_some,Yj he hs,wG]
      rfl
     .cases h
    .cases h
  .rw [show decide (f.name≠ "_")=false by simpa using hn] at h
   simp only [cond_false] at h
   unfold Zp
   rw [if_neg hn]
   exact Yj he h
theorem O0 : ∀{d:Nat} {t:TypeId} {x y:SV} {tm:Tm},yEq P d t x y=some tm->aeq P d t (x.den ρ) (y.den ρ)=some (tm.den ρ).B
 |0,t,x,y,tm,h=>by simp [yEq] at h
 |d+1,t,x,y,tm,h=>by
  unfold yEq at h
  split at h
  .cases h
  .rename_i u hu
   split at h
   .simp only [au] at h;subst h;simp [aeq,hu,SV.den,Kd.av,uI,qh,D.Di,JL]
   .rename_i k a k' b
    by_cases hk:k=k'
    .subst hk;simp at h;subst h;simp [aeq,hu,SV.den,Kd.av,uI,qh,D.Di,dW]
    .simp [hk] at h
   .simp only [au] at h;subst h;simp [aeq,hu,SV.den,Kd.av,uI,qh,D.Di,fEq,Op.floatEq]
   .simp only [au] at h;subst h;simp [aeq,hu,SV.den,Kd.av,uI,qh,D.Di,BF]
   .simp only [au] at h;subst h;simp [aeq,hu,SV.den,Cv.val,Tm.den,D.Di]
   .simp only [au] at h;subst h;simp [aeq,hu,SV.den,Cv.val,Tm.den,D.Di]
   .simp only [au] at h;subst h;simp [aeq,hu,SV.den,Cv.val,Tm.den,D.Di]
   .simp only [au] at h;subst h;simp [aeq,hu,SV.den,Cv.val,Tm.den,D.Di]
   .simp only [au] at h;subst h;simp [aeq,hu,SV.den,Cv.val,Tm.den,D.Di]
   .simp only [au] at h;subst h;simp [aeq,hu,SV.den,Cv.val,Tm.den,D.Di]
   .simp only [au] at h;subst h;simp [aeq,hu,SV.den,Cv.val,Tm.den,D.Di]
   .simp only [au] at h;subst h;simp [aeq,hu,SV.den,Cv.val,Tm.den,D.Di]
   .rename_i fs xs ys
    cases h1:P.stoodInHeld t
    .simp only [h1,cond_false] at h
     simp only [SV.den,aeq,hu,h1]
     rw [if_neg (by simp)]
     exact Yj (fun _ _ _ _ he=>O0 he) h
    .simp [h1] at h
   .cases h
def WC (P:Program)(t:TypeId)(x:SV)(c:Bool):Bool:=
 match x with
 | .agg _=>!(P.eqGuardType P.depth t)
 | .c .mP=>c
 |_=>true
theorem ZY {t:TypeId}{x:SV}{c:Bool}(h:WC P t x c=true):acj P t (x.den ρ) c:=by
 unfold WC at h
 split at h
 .simpa [acj,SV.den] using h
 .exact h
 .rename_i h1 h2
  cases x with
  |agg l=>exact absurd rfl (h1 l)
  |sc k t=>cases k<;>trivial
  |c v=>cases v<;>first|trivial|exact absurd rfl h2
  |_=>trivial
theorem agA {t:TypeId}{c:Bool}{a b:AV}{KV:AV->Prop}{r:Bool}(ha:∀k n,a≠.p (.int k n))(hf:∀k n,a≠.p (.float k n))(hs:∀s,a≠.str s)(hok:acj P t a c)(he:aeq P 10000 t a b=some r)(h:KV (.p (.bool r))):Lh P .eql t c a b KV:=by
 unfold Lh
 split<;>first|exact absurd rfl (ha _ _)|exact absurd rfl (hf _ _)|exact absurd rfl (hs _)|skip
 all_goals first|exact ⟨hok,dH.2 ⟨r,he,h⟩⟩|simp_all
theorem agB {t:TypeId}{c:Bool}{a b:AV}{KV:AV->Prop}{r:Bool}(ha:∀k n,a≠.p (.int k n))(hf:∀k n,a≠.p (.float k n))(hs:∀s,a≠.str s)(hok:acj P t a c)(he:aeq P 10000 t a b=some r)(h:KV (.p (.bool (!r)))):Lh P .neq t c a b KV:=by
 unfold Lh
 split<;>first|exact absurd rfl (ha _ _)|exact absurd rfl (hf _ _)|exact absurd rfl (hs _)|skip
 all_goals first|exact ⟨hok,dH.2 ⟨r,he,h⟩⟩|simp_all
def apa (o:BinOp)(x y:Nat):Bool:=match o with
 | .add=>(FloatKind.f64.format.add x y).isSome
 | .sub=>(FloatKind.f64.format.sub x y).isSome
 | .mul=>(FloatKind.f64.format.mul x y).isSome
 | .quo=>(FloatKind.f64.format.div x y).isSome
 |_=>false
def agC (o:BinOp)(x y:Tm):List Side:=
 match x,y with
 | .lf a,.lf b=>bif apa o a b then [] else [.fop o x y]
 |x,y=>[.fop o x y]
theorem al0 {o:BinOp}{x y:Tm}(h:∀s∈agC o x y,s.holds P ρ):(Side.fop o x y).holds P ρ:=by
 unfold agC at h
 split at h
 .rename_i a b
  cases h1:apa o a b
  .exact h (.fop o (.lf a) (.lf b)) (by simp [h1])
  .cases o<;>first|exact h1|(simp [apa] at h1)
 .exact h (.fop o x y) (by simp)
def apb (x y:Tm):List Side:=
 match x,y with
 | .ls a,.ls b=>bif Nat.ble (a.length+b.length) 4294967296 then [] else [.cat x y]
 |x,y=>[.cat x y]
theorem al1 {x y:Tm}(h:∀s∈apb x y,s.holds P ρ):(Side.cat x y).holds P ρ:=by
 unfold apb at h
 split at h
 .rename_i a b
  cases h1:Nat.ble (a.length+b.length) 4294967296
  .exact h (.cat (.ls a) (.ls b)) (by simp [h1])
  .exact aG h1
 .exact h (.cat x y) (by simp)
def G6 : BinOp->Bool
 | .eql | .neq | .lss | .leq | .gtr | .geq=>true
 |_=>false
def anZ (pc:Pc)(nv:Nat)(o:BinOp)(k:IntKind)(a:Tm)(k':IntKind)(b:Tm):Option SR:=
 match o with
 | .shl=>(ayG pc (leT (.li 0) b)).map fun l=>⟨.sc (.int k) (ayd .shl (.int k) a b),[],[],l,nv⟩
 | .shr=>(ayG pc (leT (.li 0) b)).map fun l=>⟨.sc (.int k) (ayd .shr (.int k) a b),[],[],l,nv⟩
 | .quo=>bif decide (k=k') then (ayG pc (ayd .neq (.int k) b (.li 0))).map fun l=>⟨.sc (.int k) (ayd .quo (.int k) a b),[],[],l,nv⟩ else none
 | .rem=>bif decide (k=k') then (ayG pc (ayd .neq (.int k) b (.li 0))).map fun l=>⟨.sc (.int k) (ayd .rem (.int k) a b),[],[],l,nv⟩ else none
 |o=>bif decide (k=k') then some (.val nv (bif G6 o then .sc .bool (KN o (.int k) a b) else .sc (.int k) (ayd o (.int k) a b))) else none
def Z4 (nv:Nat)(o:BinOp)(a b:Tm):Option SR:=
 bif G6 o then some (.val nv (.sc .bool (KN o .kS a b)))
 else match o with
  | .add=>some ⟨.sc .kS (ayd .add .kS a b),[],[],agC .add a b,nv⟩
  | .sub=>some ⟨.sc .kS (ayd .sub .kS a b),[],[],agC .sub a b,nv⟩
  | .mul=>some ⟨.sc .kS (ayd .mul .kS a b),[],[],agC .mul a b,nv⟩
  | .quo=>some ⟨.sc .kS (ayd .quo .kS a b),[],[],agC .quo a b,nv⟩
  |_=>none
def Z5 (nv:Nat)(o:BinOp)(a b:Tm):Option SR:=
 bif G6 o then some (.val nv (.sc .bool (KN o .str a b)))
 else match o with
  | .add=>some ⟨.sc .str (ayd .add .str a b),[],[],apb a b,nv⟩
  |_=>none
def Z7 (P:Program)(nv:Nat)(o:BinOp)(t:TypeId)(c:Bool)(x y:SV):Option SR:=
 match o with
 | .eql=>bif WC P t x c then (yEq P 10000 t x y).map fun tm=>.val nv (.sc .bool tm) else none
 | .neq=>bif WC P t x c then (yEq P 10000 t x y).map fun tm=>.val nv (.sc .bool (ayp tm)) else none
 |_=>none
def SV.isNum : SV->Bool
 | .sc (.int _) _ | .sc .kS _ | .sc .str _=>true
 |_=>false
def apc (P:Program)(pc:Pc)(nv:Nat)(o:BinOp)(t:TypeId)(c:Bool)(x y:SV):Option SR:=
 match x,y with
 | .sc (.int k) a,.sc (.int k') b=>anZ pc nv o k a k' b
 | .sc .kS a,.sc .kS b=>Z4 nv o a b
 | .sc .str a,.sc .str b=>Z5 nv o a b
 |x,y=>bif x.isNum then none else Z7 P nv o t c x y
theorem getD_some {o:Option Nat}(h:o.isSome=true):o=some (o.getD 0):=by cases o<;>simp_all
theorem aiN {o:BinOp}{t:TypeId}{c:Bool}{k k':IntKind}{a b:Tm}{r:SR}(hp:pc.holds ρ)(h:anZ pc nv o k a k' b=some r)(hs:∀s∈r.sd,s.holds P ρ)(hK:K (r.den ρ)) :
  Lh P o t c (.p (.int k (a.den ρ).I)) (.p (.int k' (b.den ρ).I)) fun a=>K (.val a):=by
 have rest:(bif decide (k=k') then some (SR.val nv (bif G6 o then .sc .bool (KN o (.int k) a b) else .sc (.int k) (ayd o (.int k) a b))) else none)=some r->k=k'/\
   K (.val (bif G6 o then (.p (.bool (qh o (.int k) (a.den ρ) (b.den ρ)).B)) else (.p (.int k (qh o (.int k) (a.den ρ) (b.den ρ)).I)))):=by
  intro h
  by_cases hk:k=k'
  .subst hk
   simp only [decide_true,cond_true,au] at h
   subst h
   refine ⟨rfl,?_⟩
   cases hc:G6 o<;>simp only [hc,cond_true,cond_false,SR.sW,SV.den,Kd.av,ou,uI] at hK ⊢<;>exact hK
  .simp [hk] at h
 have div:∀o:BinOp,(bif decide (k=k') then (ayG pc (ayd .neq (.int k) b (.li 0))).map fun l=>(⟨.sc (.int k) (ayd o (.int k) a b),[],[],l,nv⟩:SR) else none)=some r->k=k'/\(b.den ρ).I≠0/\
   K (.val (.p (.int k (qh o (.int k) (a.den ρ) (b.den ρ)).I))):=by
  intro o h
  by_cases hk:k=k'
  .subst hk
   simp only [decide_true,cond_true,aB] at h
   obtain ⟨l,hl,rfl⟩:=h
   have h0:=oI (P:=P) hp hl hs
   rw [ou] at h0
   refine ⟨rfl,?_,?_⟩
   .simpa [qh,D.Di,je,Tm.den,D.I] using h0
   .have:K (.val (.p (.int k ((ayd o (.int k) a b).den ρ).I))):=hK
    rwa [ou] at this
  .simp [hk] at h
 have sh:∀o:BinOp,(ayG pc (leT (.li 0) b)).map (fun l=>(⟨.sc (.int k) (ayd o (.int k) a b),[],[],l,nv⟩:SR))=some r->0<=(b.den ρ).I/\
   K (.val (.p (.int k (qh o (.int k) (a.den ρ) (b.den ρ)).I))):=by
  intro o h
  simp only [aB] at h
  obtain ⟨l,hl,rfl⟩:=h
  have h0:(0:Int)<=(b.den ρ).I:=xJ (oI (P:=P) hp hl hs)
  refine ⟨h0,?_⟩
  have:K (.val (.p (.int k ((ayd o (.int k) a b).den ρ).I))):=hK
  rwa [ou] at this
 cases o
 case shl=>exact sh .shl h
 case shr=>exact sh .shr h
 case quo=>exact div .quo h
 case rem=>exact div .rem h
 all_goals exact rest h
theorem aiO {o:BinOp}{t:TypeId}{c:Bool}{a b:Tm}{r:SR}(h:Z4 nv o a b=some r)(hs:∀s∈r.sd,s.holds P ρ)(hK:K (r.den ρ)) :
  Lh P o t c (.p (.float .f64 (a.den ρ).F)) (.p (.float .f64 (b.den ρ).F)) fun a=>K (.val a):=by
 cases o
 case add|sub|mul|quo=>
  simp only [Z4,G6,cond_false,au] at h
  subst h
  have:=al0 (P:=P) (ρ:=ρ) hs
  refine ⟨rfl,dH.2 ⟨_,getD_some this,?_⟩⟩
  simp only [SR.den,SV.den,Kd.av,ou,uI,List.map_nil] at hK
  exact hK
 case eql|neq|lss|leq|gtr|geq=>
  simp only [Z4,G6,cond_true,au] at h
  subst h
  simp only [SR.sW,SV.den,Kd.av,ou,uI] at hK
  exact ⟨rfl,hK⟩
 all_goals (simp [Z4,G6] at h)
theorem aiP {o:BinOp}{t:TypeId}{c:Bool}{a b:Tm}{r:SR}(h:Z5 nv o a b=some r)(hs:∀s∈r.sd,s.holds P ρ)(hK:K (r.den ρ)) :
  Lh P o t c (.str (a.den ρ).S) (.str (b.den ρ).S) fun a=>K (.val a):=by
 cases o
 case add=>
  simp only [Z5,G6,cond_false,au] at h
  subst h
  have:=al1 (P:=P) (ρ:=ρ) hs
  simp only [SR.den,SV.den,Kd.av,ou,uI,List.map_nil] at hK
  exact ⟨this,hK⟩
 case eql|neq|lss|leq|gtr|geq=>
  simp only [Z5,G6,cond_true,au] at h
  subst h
  simp only [SR.sW,SV.den,Kd.av,ou,uI] at hK
  exact hK
 all_goals (simp [Z5,G6] at h)
theorem agD {x:SV}(h:x.isNum=false):(∀k n,x.den ρ≠.p (.int k n))/\(∀k n,x.den ρ≠.p (.float k n))/\(∀s,x.den ρ≠.str s):=by
 cases x with
 |sc k' t=>cases k'<;>simp [SV.isNum] at h<;>simp [SV.den,Kd.av]
 |c v=>cases v<;>simp [SV.den,Cv.val,Go.undef]
 |_=>simp [SV.den]
theorem aiQ {o:BinOp}{t:TypeId}{c:Bool}{x y:SV}{r:SR}(hn:x.isNum=false)(h:Z7 P nv o t c x y=some r)(hK:K (r.den ρ)) :
  Lh P o t c (x.den ρ) (y.den ρ) fun a=>K (.val a):=by
 obtain ⟨h1,h2,h3⟩:=agD (ρ:=ρ) hn
 cases o
 case eql=>
  simp only [Z7] at h
  cases h4:WC P t x c
  .simp [h4] at h
  .simp only [h4,cond_true,aB] at h
   obtain ⟨tm,htm,rfl⟩:=h
   exact agA h1 h2 h3 (ZY h4) (O0 htm) hK
 case neq=>
  simp only [Z7] at h
  cases h4:WC P t x c
  .simp [h4] at h
  .simp only [h4,cond_true,aB] at h
   obtain ⟨tm,htm,rfl⟩:=h
   refine agB h1 h2 h3 (ZY h4) (O0 htm) ?_
   have:K (.val (.p (.bool ((ayp tm).den ρ).B))):=hK
   rwa [oz] at this
 all_goals (simp [Z7] at h)
theorem al2 {o:BinOp}{t:TypeId}{c:Bool}{x y:SV}{r:SR}(hp:pc.holds ρ)(h:apc P pc nv o t c x y=some r)(hs:∀s∈r.sd,s.holds P ρ)(hK:K (r.den ρ)) :
  Lh P o t c (x.den ρ) (y.den ρ) fun a=>K (.val a):=by
 unfold apc at h
 split at h
 .exact aiN hp h hs hK
 .exact aiO h hs hK
 .exact aiP h hs hK
 .cases hn:x.isNum
  .simp only [hn,cond_false] at h
   exact aiQ hn h hK
  .simp [hn] at h
end
end Go.Fw
end
section
namespace Go.Fw
variable [jU]
section
variable {P : Program} {ρ:List AV} {pc:Pc} {id nv:Nat} {fr:lY} {ah:AH} {tr:Tr pI} {th:Tr SB} {K:rP->Prop}
def al3 (k:Kd)(x:Tm):Tm:=match x.KD with|some d=>Tm.ofD ((Tm.neg k x).den [])|none=>.neg k x
def apd (k:IntKind)(x:Tm):Tm:=match x.KD with|some d=>Tm.ofD ((Tm.com k x).den [])|none=>.com k x
def aiR (k:IntKind)(x:Tm):Tm:=match x.KD with|some d=>Tm.ofD ((Tm.conv k x).den [])|none=>.conv k x
def ape (x:Tm):Tm:=match x.KD with|some d=>Tm.ofD ((Tm.toF x).den [])|none=>.toF x
def aro (x:Tm):Tm:=match x.KD with|some d=>Tm.ofD ((Tm.ZL x).den [])|none=>.ZL x
theorem Rf {x:Tm}{d:D}(h:x.KD=some d)(ρ ρ':List AV):x.den ρ=x.den ρ':=by rw [Tm.Em h,Tm.Em h]
theorem aiS {k:Kd}{x:Tm}:(al3 k x).den ρ=(Tm.neg k x).den ρ:=by
 unfold al3
 split
 .rename_i d hd
  rw [Tm.JM (by intro l;cases k<;>simp [Tm.den])]
  simp only [Tm.den,Rf hd ρ []]
 .rfl
theorem aiT {k:IntKind}{x:Tm}:(apd k x).den ρ=(Tm.com k x).den ρ:=by
 unfold apd
 split
 .rename_i d hd
  rw [Tm.JM (by intro l;simp [Tm.den])]
  simp only [Tm.den,Rf hd ρ []]
 .rfl
theorem agE {k:IntKind}{x:Tm}:(aiR k x).den ρ=(Tm.conv k x).den ρ:=by
 unfold aiR
 split
 .rename_i d hd
  rw [Tm.JM (by intro l;simp [Tm.den])]
  simp only [Tm.den,Rf hd ρ []]
 .rfl
theorem aiU {x:Tm}:(ape x).den ρ=(Tm.toF x).den ρ:=by
 unfold ape
 split
 .rename_i d hd
  rw [Tm.JM (by intro l;simp [Tm.den])]
  simp only [Tm.den,Rf hd ρ []]
 .rfl
def sUn (nv:Nat)(o:UnOp)(x:SV):Option SR:=
 match o,x with
 | .neg,.sc (.int k) a=>some (.val nv (.sc (.int k) (al3 (.int k) a)))
 | .xor,.sc (.int k) a=>some (.val nv (.sc (.int k) (apd k a)))
 | .neg,.sc .kS a=>some (.val nv (.sc .kS (al3 .kS a)))
 | .not,.sc .bool a=>some (.val nv (.sc .bool (ayp a)))
 |_,_=>none
theorem apf {o:UnOp}{x:SV}{r:SR}(h:sUn nv o x=some r)(hK:K (r.den ρ)):aUn o (x.den ρ) fun a=>K (.val a):=by
 unfold sUn at h
 split at h<;>first|(cases h;done)|(simp only [au] at h;subst h;simp only [SR.sW,SV.den,Kd.av,aiS,aiT,oz] at hK;exact hK)
def apg (k:IntKind)(x n:Tm):List Side:=
 match x with
 | .lf a=>bif decide ((FloatKind.f64.decode a).toInt .zero=some (n.den []).I)&&(decide (k.min<=(n.den []).I)&&decide ((n.den []).I<=k.max)) then (match n with | .li _=>[]|_=>[.num k x n]) else [.num k x n]
 |x=>[.num k x n]
theorem al4 {k:IntKind}{x n:Tm}(h:∀s∈apg k x n,s.holds P ρ):(Side.num k x n).holds P ρ:=by
 unfold apg at h
 split at h
 .rename_i a
  cases h1:decide ((FloatKind.f64.decode a).toInt .zero=some (n.den []).I)&&(decide (k.min<=(n.den []).I)&&decide ((n.den []).I<=k.max))
  .rw [h1] at h;exact h (.num k (.lf a) n) (by simp)
  .rw [h1] at h
   simp only [cond_true] at h
   simp only [ay,decide_eq_true_eq] at h1
   split at h
   .exact ⟨h1.1,h1.2.1,h1.2.2⟩
   .exact h _ (by simp)
 .exact h (.num k x n) (by simp)
def LY : List UInt8:=(List.range 128).map UInt8.ofNat
theorem aiV (n:Nat)(h:n<128):(LY.drop n).take 1=[UInt8.ofNat n]:=by
 have h1:n<LY.length:=by simpa [LY] using h
 rw [List.drop_eq_getElem_cons h1]
 simp [LY]
theorem aiW {n:Int}(h0:0<=n)(h1:n<128):(LY.drop n.toNat).take ((dZ .i64 n 1).toNat-n.toNat)=[UInt8.ofNat n.toNat]:=by
 have e:dZ .i64 n 1=n+1:=by
  unfold dZ IntKind.wrap
  simp [IntKind.bits,IntKind.signed]
  omega
 rw [e,show (n+1).toNat-n.toNat=1 by omega]
 exact aiV _ (by omega)
def Tt (P:Program)(nv:Nat)(s d:TypeId)(x:SV):Option SR:=
 match P.underlying s,P.underlying d with
 |some _,some u=>
  match u,x with
  | .int k,.sc (.int _) a=>some (.val nv (.sc (.int k) (aiR k a)))
  | .float .f64,.sc (.int _) a=>some (.val nv (.sc .kS (ape a)))
  | .int k,.sc .kS a=>some ⟨.sc (.int k) (aro a),[],[],apg k a (aro a),nv⟩
  | .string,.sc .str a=>some (.val nv (.sc .str a))
  | .string,.sc (.int _) a=>some ⟨.sc .str (.ah5 (.ls LY) a (.bin .add (.int .i64) a (.li 1))),[],[],[.tm (.bin .leq (.int .i64) (.li 0) a),.tm (.bin .lss (.int .i64) a (.li 128))],nv⟩
  |_,_=>none
 |_,_=>none
theorem Z8 {s d:TypeId}{x:SV}{r:SR}(h:Tt P nv s d x=some r)(hs:∀s∈r.sd,s.holds P ρ)(hK:K (r.den ρ)):Ea P s d (x.den ρ) fun a=>K (.val a):=by
 unfold Tt at h
 split at h
 .rename_i u0 u hu0 hu
  refine ⟨by rw [hu0];rfl,?_⟩
  rw [hu]
  split at h
  .simp only [au] at h;subst h
   simp only [SR.sW,SV.den,Kd.av,agE] at hK;exact hK
  .simp only [au] at h;subst h
   simp only [SR.sW,SV.den,Kd.av,aiU] at hK;exact hK
  .simp only [au] at h;subst h
   obtain ⟨h1,h2,h3⟩:=al4 (P:=P) (ρ:=ρ) hs
   exact dH.2 ⟨_,h1,h2,h3,hK⟩
  .simp only [au] at h;subst h;exact hK
  .rename_i a
   simp only [au] at h;subst h
   have h0:0<=(a.den ρ).I:=of_decide_eq_true (hs (.tm (.bin .leq (.int .i64) (.li 0) a)) (by simp))
   have h1:(a.den ρ).I<128:=of_decide_eq_true (hs (.tm (.bin .lss (.int .i64) a (.li 128))) (by simp))
   refine ⟨h0,h1,?_⟩
   have e:(Tm.ah5 (.ls LY) a (.bin .add (.int .i64) a (.li 1))).den ρ=.s [UInt8.ofNat (a.den ρ).I.toNat]:=congrArg D.s (aiW h0 h1)
   simp only [SR.den,SV.den,e,Kd.av] at hK
   exact hK
  .cases h
 .cases h
def aeM (x lo hi:Tm):Tm:=
 match x,yB lo,yB hi with
 | .ls l,some a,some b=>.ls ((l.drop a).take (b-a))
 |x,_,_=>.ah5 x lo hi
theorem agF {x lo hi:Tm}:((aeM x lo hi).den ρ).S=((x.den ρ).S.drop (lo.den ρ).I.toNat).take ((hi.den ρ).I.toNat-(lo.den ρ).I.toNat):=by
 unfold aeM
 split
 .rename_i l a b ha hb
  rw [(fU ha).2,(fU hb).2];rfl
 .rfl
def Tv (d:Tm):Option SV->Option Tm
 |none=>some d
 |some (.sc (.int _) t)=>some t
 |_=>none
def QN (d:Nat):Option SV->Option Nat
 |none=>some d
 |some (.sc (.int _) t)=>yB t
 |_=>none
theorem JU {d:Tm}{x:Option SV}{t:Tm}{dn:Nat}{k:Nat->Prop}(h:Tv d x=some t)(hd:(d.den ρ).I=dn)(h0:0<=(t.den ρ).I)(hk:k (t.den ρ).I.toNat):FB (x.map (SV.den ρ)) dn k:=by
 unfold Tv at h
 split at h
 .simp only [au] at h;subst h
  rw [hd] at hk
  simpa [FB] using hk
 .simp only [au] at h;subst h
  exact ⟨h0,hk⟩
 .cases h
theorem sH {d:Nat}{x:Option SV}{n:Nat}{k:Nat->Prop}(h:QN d x=some n)(hk:k n):FB (x.map (SV.den ρ)) d k:=by
 unfold QN at h
 split at h
 .simp only [au] at h;subst h;exact hk
 .refine ⟨by rw [(fU h).1];omega,?_⟩
  rw [(fU h).2];exact hk
 .cases h
def arp (a b c:Option (List Side)):Option (List Side):=azn a (azn b c)
def ax9 {α:Type}:Option α->Bool|none=>true|some _=>false
theorem acN {α:Type}{o:Option α}:ax9 o=o.isNone:=by cases o<;>rfl
def Yk (P:Program)(pc:Pc)(nv:Nat)(t:TypeId)(s:Tm)(lo hi mx:Option SV):Option SR:=
 bif ax9 mx then
  match P.underlying t,Tv (.li 0) lo,Tv (WB s) hi with
  |some .string,some l,some h=>(arp (ayG pc (leT (.li 0) l)) (ayG pc (leT l h)) (ayG pc (leT h (WB s)))).map fun sd=>⟨.sc .str (aeM s l h),[],[],sd,nv⟩
  |_,_,_=>none
 else none
theorem acO {t:TypeId}{s:Tm}{lo hi mx:Option SV}{r:SR}(hp:pc.holds ρ)(h:Yk P pc nv t s lo hi mx=some r)(hs:∀s∈r.sd,s.holds P ρ)(hK:K (r.den ρ)) :
  Bq P t (.str (s.den ρ).S) (lo.map (SV.den ρ)) (hi.map (SV.den ρ)) (mx.map (SV.den ρ)) K:=by
 unfold Yk at h
 cases hm:ax9 mx
 .simp [hm] at h
 .simp only [hm,cond_true] at h
  split at h
  .rename_i l u hu hl hh
   simp only [aB] at h
   obtain ⟨sd,hsd,rfl⟩:=h
   obtain ⟨x,y,h1,h2,rfl⟩:=Eo hsd
   obtain ⟨y,z,h2',h3,rfl⟩:=Eo h2
   have a1:(0:Int)<=(l.den ρ).I:=xJ (oI (P:=P) hp h1 fun s hm=>hs s (by simp [hm]))
   have a2:=xJ (oI (P:=P) hp h2' fun s hm=>hs s (by simp [hm]))
   have a3:=xJ (oI (P:=P) hp h3 fun s hm=>hs s (by simp [hm]))
   rw [JR] at a3
   refine ⟨hu,by rw [acN] at hm;simpa using hm,JU hl rfl a1 (JU hh JR (by omega) ⟨by omega,by omega,?_⟩)⟩
   have:K (.val (.str ((aeM s l u).den ρ).S)):=hK
   rwa [agF] at this
  .cases h
def Yl (P:Program)(pc:Pc)(nv:Nat)(t:TypeId)(s:Tm)(lo hi mx:Option SV):Option SR:=
 match mQ P t with
 |none=>none
 |some e=>
  match mx with
  |none=>match Tv (.li 0) lo,Tv (.rlen s) hi with
   |some l,some h=>some ⟨.sc .sl (.var nv []),[],[],[.sub e.1 s (some l) (some h) (.var nv [])],nv+1⟩
   |_,_=>none
  |some (.sc (.int _) m)=>match hi with
   |some (.sc (.int _) h)=>
    bif h.beq m then
     match lo,h with
     |none,.li (.ofNat 0)=>some ⟨.nil,[],[],[.sub e.1 s none (some (.li 0)) .nl],nv⟩
     |none,h=>some ⟨.sf (.var nv []),[],[],[.sub e.1 s none (some h) (.var nv [])],nv+1⟩
     |_,_=>none
    else none
   |_=>none
  |_=>none
theorem acP {t:TypeId}{s:Tm}{lo hi mx:Option SV}{r:SR}{full:Bool}(hf:full=false)(h:Yl P pc nv t s lo hi mx=some r)(hs:∀s∈r.sd,s.holds P ρ)(hK:K (r.den ρ)) :
  Bq P t (.sl (s.den ρ).R full) (lo.map (SV.den ρ)) (hi.map (SV.den ρ)) (mx.map (SV.den ρ)) K:=by
 subst hf
 unfold Yl at h
 split at h
 .cases h
 .rename_i e he
  split at h
  .split at h
   .rename_i l u hl hh
    simp only [au] at h;subst h
    obtain ⟨b0,b1,b2,b3,b4⟩:=hs (.sub e.1 s (some l) (some u) (.var nv [])) (by simp)
    simp only [Wy] at b1 b2 b3 b4
    refine dH.2 ⟨e,he,b0,by simp,JU hl rfl b1 (JU hh (by rfl) (by omega) ⟨by omega,by omega,by omega,?_⟩)⟩
    have:K (.val (.sl ((Tm.var nv []).den ρ).R false)):=hK
    rw [b4] at this
    simpa using this
   .cases h
  .split at h
   .rename_i k m _ k' u
    cases hb:u.beq m
    .simp [hb] at h
    .simp only [hb,cond_true] at h
     have:=Tm.beq_eq hb;subst this
     split at h
     .simp only [au] at h;subst h
      obtain ⟨b0,b1,b2,b3,b4⟩:=hs (.sub e.1 s none (some (.li 0)) .nl) (by simp)
      refine dH.2 ⟨e,he,b0,by simp,?_⟩
      refine ⟨Int.le_refl _,Int.le_refl _,dG _,dG _,dF _,?_⟩
      have:K (.val (.sl [] true)):=hK
      have e0:(Tm.den ρ (Tm.li (Int.ofNat 0))).I.toNat=0:=rfl
      simpa [Tm.den,D.I] using this
     .simp only [au] at h;subst h
      obtain ⟨b0,b1,b2,b3,b4⟩:=hs (.sub e.1 s none (some u) (.var nv [])) (by simp)
      simp only [Wy] at b1 b2 b3 b4
      refine dH.2 ⟨e,he,b0,by simp,?_⟩
      refine ⟨by omega,by omega,by omega,dG _,by omega,?_⟩
      have:K (.val (.sl ((Tm.var nv []).den ρ).R true)):=hK
      rw [b4] at this
      simpa using this
     .cases h
   .cases h
  .cases h
def Rh (P:Program)(nv:Nat)(t:TypeId)(rows:List (List SV))(full:Bool)(lo hi mx:Option SV):Option SR:=
 match mQ P t,QN 0 lo,QN rows.length hi,QN rows.length mx with
 |some e,some l,some h,some m=>
  bif rows.all (fun r=>Nat.beq r.length e.1)&&((ax9 mx||!ax9 hi)&&(Nat.ble l h&&(Nat.ble h m&&Nat.ble m rows.length))) then
   some (.val nv (.slc ((rows.drop l).take (h-l)) (bif ax9 mx then full&&Nat.beq h rows.length else Nat.beq m h)))
  else none
 |_,_,_,_=>none
theorem FX {n:Nat}{rows:List (List SV)}(h:rows.all (fun r=>Nat.beq r.length n)=true):lI n (iL ρ rows):=by
 intro row hr
 rw [lV] at hr
 obtain ⟨x,hx,rfl⟩:=aW.1 hr
 rw [aH] at h
 rw [fZ]
 exact aA (h x hx)
theorem Tz {t:TypeId}{rows:List (List SV)}{full:Bool}{lo hi mx:Option SV}{r:SR}(h:Rh P nv t rows full lo hi mx=some r)(hK:K (r.den ρ)) :
  Bq P t (.sl (iL ρ rows) full) (lo.map (SV.den ρ)) (hi.map (SV.den ρ)) (mx.map (SV.den ρ)) K:=by
 unfold Rh at h
 split at h
 .rename_i e l u m he hl hh hm
  cases hc:rows.all (fun r=>Nat.beq r.length e.1)&&((ax9 mx||!ax9 hi)&&(Nat.ble l u&&(Nat.ble u m&&Nat.ble m rows.length)))
  .simp [hc] at h
  .simp only [hc,cond_true,au] at h
   subst h
   simp only [ay] at hc
   obtain ⟨c1,c2,c3,c4,c5⟩:=hc
   refine dH.2 ⟨e,he,FX c1,?_,sH hl (sH (by rw [f_];exact hh) (sH (by rw [f_];exact hm) ⟨aG c3,aG c4,by rw [f_];exact aG c5,?_⟩))⟩
   .intro hs
    cases mx<;>cases hi<;>simp_all [ax9]
   .rw [yS,yT]
    have:K (.val (.sl (iL ρ ((rows.drop l).take (u-l))) (bif ax9 mx then full&&Nat.beq u rows.length else Nat.beq m u))):=hK
    have e2:∀a b:Nat,Nat.beq a b=decide (a=b):=fun a b=>by
     cases hb:Nat.beq a b
     .symm;rw [decide_eq_false_iff_not];intro e;rw [e] at hb;simp at hb
     .symm;rw [decide_eq_true_iff];exact aA hb
    rw [e2,e2] at this
    cases mx<;>simpa [ax9,f_] using this
 .cases h
def aph (off:Nat)(h:Tm):Option Tm:=match off with
 |0=>some h
 |off=>(yB h).map fun n=>.li (.ofNat (n-off))
theorem aiX {off:Nat}{h t:Tm}(e:aph off h=some t):(t.den ρ).I.toNat=(h.den ρ).I.toNat-off:=by
 unfold aph at e
 split at e
 .simp only [au] at e;subst e;simp
 .simp only [aB] at e
  obtain ⟨n,hn,rfl⟩:=e
  rw [(fU hn).2];rfl
def Ym (P:Program)(pc:Pc)(nv:Nat)(t:TypeId)(b sz off:Nat)(len:Tm)(lo hi mx:Option SV):Option SR:=
 bif ax9 mx then
  match mQ P t,QN 0 lo,Tv len hi with
  |some e,some l,some h=>
   bif Nat.beq sz e.1 then
    match aph l h,arp (ayG pc (leT (.li 0) h)) (ayG pc (leT (.li l) h)) (ayG pc (leT h len)) with
    |some n,some sd=>some ⟨.os b sz (off+l) n,[],[],sd,nv⟩
    |_,_=>none
   else none
  |_,_,_=>none
 else match mQ P t,yB len with
  |some e,some n=>match QN 0 lo,QN n hi,QN n mx with
   |some l,some h,some m=>bif Nat.beq sz e.1&&(!ax9 hi&&(Nat.ble l h&&(Nat.ble h m&&Nat.ble m n))) then some (.val nv (.os b sz (off+l) (.li (.ofNat (h-l))))) else none
   |_,_,_=>none
  |_,_=>none
theorem acQ {t:TypeId}{b sz off:Nat}{len:Tm}{lo hi mx:Option SV}{r:SR}(hp:pc.holds ρ)(h:Ym P pc nv t b sz off len lo hi mx=some r)(hs:∀s∈r.sd,s.holds P ρ)(hK:K (r.den ρ)) :
  Bq P t (.os b sz off (len.den ρ).I.toNat) (lo.map (SV.den ρ)) (hi.map (SV.den ρ)) (mx.map (SV.den ρ)) K:=by
 unfold Ym at h
 cases hm:ax9 mx
 .simp only [hm,cond_false] at h
  split at h
  .rename_i e n he hn
   split at h
   .rename_i l u m hl hh hmx
    cases hc:(Nat.beq sz e.1&&(!ax9 hi&&(Nat.ble l u&&(Nat.ble u m&&Nat.ble m n))))
    .simp [hc] at h
    .simp only [hc,cond_true,au] at h;subst h
     simp only [ay,Bool.not_eq_true'] at hc
     obtain ⟨c1,c2,c3,c4,c5⟩:=hc
     have hlen:=(fU (ρ:=ρ) hn).2
     refine dH.2 ⟨e,he,aA c1,?_,?_⟩
     .intro _;cases hi
      .simp [ax9] at c2
      .rfl
     .rw [hlen]
      refine sH hl (sH hh (sH hmx ⟨aG c3,aG c4,aG c5,?_⟩))
      exact hK
   .cases h
  .cases h
 .simp only [hm,cond_true] at h
  cases mx with
  |some x=>simp [ax9] at hm
  |none=>
   split at h
   .rename_i e l u he hl hh
    cases h1:Nat.beq sz e.1
    .simp [h1] at h
    .simp only [h1,cond_true] at h
     split at h
     .rename_i n sd hn hsd
      simp only [au] at h;subst h
      obtain ⟨x,y,q1,q2,rfl⟩:=Eo hsd
      obtain ⟨y,z,q2',q3,rfl⟩:=Eo q2
      have a1:(0:Int)<=(u.den ρ).I:=xJ (oI (P:=P) hp q1 fun s hm=>hs s (by simp [hm]))
      have a2:(l:Int)<=(u.den ρ).I:=xJ (oI (P:=P) hp q2' fun s hm=>hs s (by simp [hm]))
      have a3:=xJ (oI (P:=P) hp q3 fun s hm=>hs s (by simp [hm]))
      refine dH.2 ⟨e,he,aA h1,by simp,sH hl ?_⟩
      have key:∀hi':Nat,hi'=(u.den ρ).I.toNat->l<=hi'/\hi'<=(len.den ρ).I.toNat/\(len.den ρ).I.toNat<=(len.den ρ).I.toNat/\K (.val (.os b sz (off+l) (hi' - l))):=by
       intro hi' e'
       refine ⟨by omega,by omega,dG _,?_⟩
       rw [e',<- aiX hn];exact hK
      cases hi with
      |none=>
       simp only [Tv,au] at hh;subst hh
       exact key _ rfl
      |some x=>
       cases x with
       |sc k t=>
        cases k with
        |int k=>simp only [Tv,au] at hh;subst hh;exact ⟨a1,key _ rfl⟩
        |_=>simp [Tv] at hh
       |_=>simp [Tv] at hh
     .cases h
   .cases h
def acR (P:Program)(pc:Pc)(nv:Nat)(t:TypeId)(x:SV)(lo hi mx:Option SV):Option SR:=
 match x with
 | .sc .str s=>Yk P pc nv t s lo hi mx
 | .sc .sl s=>Yl P pc nv t s lo hi mx
 | .slc rows full=>Rh P nv t rows full lo hi mx
 | .nil=>Rh P nv t [] true lo hi mx
 | .os b sz off len=>Ym P pc nv t b sz off len lo hi mx
 |_=>none
theorem agG {t:TypeId}{x:SV}{lo hi mx:Option SV}{r:SR}(hp:pc.holds ρ)(h:acR P pc nv t x lo hi mx=some r)(hs:∀s∈r.sd,s.holds P ρ)(hK:K (r.den ρ)) :
  Bq P t (x.den ρ) (lo.map (SV.den ρ)) (hi.map (SV.den ρ)) (mx.map (SV.den ρ)) K:=by
 unfold acR at h
 split at h
 .exact acO hp h hs hK
 .exact acP rfl h hs hK
 .exact Tz h hK
 .exact Tz h hK
 .exact acQ hp h hs hK
 .cases h
def Yn (P:Program)(pc:Pc)(th:Tr SB)(nv:Nat)(t:TypeId)(x:SV)(lo hi mx:Option SV):Option SR:=
 match x with
 | .op b sz i off=>match aic P t,yB i with
  |some e,some q=>match th.get b with
   |some (.rows sz' rs)=>match QN 0 lo,QN e.1 hi,QN e.1 mx with
    |some l,some h,some m=>bif Nat.beq sz e.2.1&&(Nat.beq off 0&&(Nat.ble e.1 4294967296&&(Nat.beq sz sz'&&(Nat.ble (q+e.1) rs.length&&((ax9 mx||!ax9 hi)&&(Nat.ble l h&&(Nat.ble h m&&Nat.ble m e.1))))))) then
     some ⟨.os b sz (q+l) (.li (.ofNat (h-l))),[],[b],[],nv⟩ else none
    |_,_,_=>none
   |_=>none
  |_,_=>none
 |x=>acR P pc nv t x lo hi mx
theorem acS {th:Tr SB}{ah:AH}{t:TypeId}{x:SV}{lo hi mx:Option SV}{r:SR}(hp:pc.holds ρ)(ha:Fq ρ th ah)(h:Yn P pc th nv t x lo hi mx=some r)(hs:∀s∈r.sd,s.holds P ρ)(hK:K (r.den ρ)) :
  CV P ah t (x.den ρ) (lo.map (SV.den ρ)) (hi.map (SV.den ρ)) (mx.map (SV.den ρ)) K:=by
 unfold Yn at h
 split at h
 .rename_i b sz i off
  split at h
  .rename_i e q he hq
   split at h
   .rename_i sz' rs hb
    split at h
    .rename_i l u m hl hh hm
     generalize hc:(Nat.beq sz e.2.1&&(Nat.beq off 0&&(Nat.ble e.1 4294967296&&(Nat.beq sz sz'&&(Nat.ble (q+e.1) rs.length&&((ax9 mx||!ax9 hi)&&(Nat.ble l u&&(Nat.ble u m&&Nat.ble m e.1))))))))=g at h
     cases g
     .cases h
     .simp only [cond_true,au] at h;subst h
      simp only [ay] at hc
      obtain ⟨c1,c2,c3,c4,c5,c6,c7,c8,c9⟩:=hc
      have e4:=aA c4
      refine dH.2 ⟨e,he,aA c1,aA c2,aG c3,?_⟩
      rw [ha _ _ hb]
      refine ⟨e4,?_,?_,sH hl (sH hh (sH hm ⟨aG c7,aG c8,aG c9,?_⟩))⟩
      .rw [(fU hq).2,f_];exact aG c5
      .intro hs0
       cases mx<;>cases hi<;>simp_all [ax9]
      .rw [(fU hq).2];exact hK
    .cases h
   .cases h
  .cases h
 .rename_i hne
  have:=agG hp h hs hK
  cases x with
  |op b sz i off=>exact absurd rfl (hne b sz i off)
  |sc k t=>cases k<;>exact this
  |_=>exact this
end
end Go.Fw
end
section
namespace Go.Fw
variable [jU]
section
variable {P : Program} {ρ:List AV} {pc:Pc} {id nv:Nat} {fr:lY} {ah:AH} {tr:Tr pI} {th:Tr SB} {K:rP->Prop}
def ayJ (P:Program)(t:TypeId):Option (List SV):=((P.info? t).bind (·.zero)).bind fun z=>Tj z.cells.toList
theorem Ba {t:TypeId}{l:List SV}(h:ayJ P t=some l):aya P t=some (dQ ρ l):=by
 unfold ayJ at h
 unfold aya
 simp only [aV] at h
 obtain ⟨z,hz,h⟩:=h
 obtain ⟨i,hi,hz⟩:=hz
 simp [hi,hz,JO (ρ:=ρ) h]
def WE (place:Nat->Option (Nat×Nat))(cells:List SV):List (Nat×SV)->Option (List SV)
 |[]=>some cells
 |(i,v)::rest=>
  match place i with
  |none=>none
  |some (off,size)=>bif v.D9&&(Nat.beq v.cells.length size&&Nat.ble (off+v.cells.length) cells.length) then WE place (alY cells off v.cells) rest else none
theorem O1 {place:Nat->Option (Nat×Nat)}:∀{parts:List (Nat×SV)} {cells out:List SV},WE place cells parts=some out->
  MS place (dQ ρ cells) (parts.map fun q=>(q.1,q.2.den ρ))=some (dQ ρ out)
 |[],cells,out,h=>by simp [WE] at h;subst h;rfl
 |(i,v)::rest,cells,out,h=>by
  simp only [WE] at h
  split at h
  .cases h
  .rename_i off size hpl
   cases hc:v.D9&&(Nat.beq v.cells.length size&&Nat.ble (off+v.cells.length) cells.length)
   .simp [hc] at h
   .simp only [hc,cond_true] at h
    simp only [ay] at hc
    obtain ⟨c1,c2,c3⟩:=hc
    simp only [aZ,MS,hpl]
    rw [Nl c1,A_ c1,fZ,fZ,aA c2]
    have c3:=aG c3
    rw [aA c2] at c3
    rw [if_neg (by simp;omega),aeJ]
    exact O1 h
def acT (P:Program)(nv:Nat)(t:TypeId)(parts:List (Nat×SV)):Option SR:=
 match ayJ P t,ayA P t with
 |some z,some pl=>(WE pl z parts).map fun cs=>.val nv (.agg cs)
 |_,_=>none
theorem agH {t:TypeId}{parts:List (Nat×SV)}{r:SR}(h:acT P nv t parts=some r)(hK:K (r.den ρ)):RN P t (parts.map fun q=>(q.1,q.2.den ρ)) K:=by
 unfold acT at h
 split at h
 .rename_i z pl hz hpl
  simp only [aB] at h
  obtain ⟨cs,hcs,rfl⟩:=h
  exact dH.2 ⟨_,Ba hz,dH.2 ⟨pl,hpl,dH.2 ⟨_,O1 hcs,hK⟩⟩⟩
 .cases h
def Yo (n:Nat):Nat->List SV->List (List SV)
 |0,_=>[]
 |k+1,l=>l.take n::Yo n k (l.drop n)
theorem TA {n:Nat}:∀{k:Nat} {l:List SV},ayf n k (dQ ρ l)=iL ρ (Yo n k l)
 |0,l=>rfl
 |k+1,l=>by simp only [ayf,Yo,iL,OZ,OY,TA (k:=k)]
theorem KQ {z:List SV}:∀{n:Nat},(List.replicate n (dQ ρ z)).flatten=dQ ρ (List.replicate n z).flatten
 |0=>rfl
 |n+1=>by simp only [List.replicate_succ,List.flatten_cons,l7,KQ (n:=n)]
def IQ (P:Program)(nv:Nat)(t:TypeId)(id len:Nat)(parts:List (Nat×SV)):Option SR:=
 match P.underlying t with
 |some (.slice e)=>match P.info? e,ayJ P e with
  |some i,some z=>bif Nat.beq z.length i.size&&Nat.ble (len*i.size+len) 16777216 then
    (WE (fun k=>some (k*i.size,i.size)) (List.replicate len z).flatten parts).map fun cs=>⟨.os id i.size 0 (.li (.ofNat len)),[(id,some (.rows i.size (Yo i.size len cs)))],[],[],nv⟩
   else none
  |_,_=>none
 |_=>none
theorem TD {t:TypeId}{len:Nat}{parts:List (Nat×SV)}{r:SR}(h:IQ P nv t id len parts=some r)(hK:K (r.den ρ)):lZ P t id len (parts.map fun q=>(q.1,q.2.den ρ)) K:=by
 unfold IQ at h
 split at h
 .rename_i e hu
  split at h
  .rename_i i z hi hz
   cases hc:Nat.beq z.length i.size&&Nat.ble (len*i.size+len) 16777216
   .simp [hc] at h
   .simp only [hc,cond_true,aB] at h
    obtain ⟨cs,hcs,rfl⟩:=h
    simp only [ay] at hc
    unfold lZ
    rw [hu]
    refine dH.2 ⟨i,hi,dH.2 ⟨_,Ba (ρ:=ρ) hz,by rw [fZ];exact aA hc.1,aG hc.2,dH.2 ⟨dQ ρ cs,?_,?_⟩⟩⟩
    .rw [KQ];exact O1 hcs
    .rw [TA];exact hK
  .cases h
 .cases h
def apj (nv id:Nat)(v:SV):Option SR:=
 bif v.D9 then some ⟨.op id v.cells.length (.li 0) 0,[(id,some (.rows v.cells.length [v.cells]))],[],[],nv⟩ else none
theorem al5 {v:SV}{r:SR}(h:apj nv id v=some r)(hK:K (r.den ρ)):aoZ id (v.den ρ) K:=by
 unfold apj at h
 cases hb:v.D9
 .simp [hb] at h
 .simp only [hb,cond_true,au] at h
  subst h
  refine ⟨Nl hb,?_⟩
  rw [A_ hb,fZ];exact hK
def acU (P:Program)(nv id:Nat)(t:TypeId):Option SR:=
 (ayJ P t).map fun z=>match azk P t with
  |true=>⟨.op id 1 (.li 0) 0,[(id,some (.rows 1 (z.map fun x=>[x])))],[],[],nv⟩
  |false=>⟨.op id z.length (.li 0) 0,[(id,some (.rows z.length [z]))],[],[],nv⟩
theorem agI {t:TypeId}{r:SR}(h:acU P nv id t=some r)(hK:K (r.den ρ)):OG P t id K:=by
 unfold acU at h
 simp only [aB] at h
 obtain ⟨z,hz,rfl⟩:=h
 refine dH.2 ⟨_,Ba (ρ:=ρ) hz,?_⟩
 cases ha:azk P t with
 |true=>
  rw [ha] at hK
  have:K ⟨.op id 1 0 0,[(id,some (.rows 1 (iL ρ (z.map fun x=>[x]))))],[]⟩:=hK
  have e:iL ρ (z.map fun x=>[x])=(dQ ρ z).map fun x=>[x]:=by simp [lV,nN,dQ,Function.comp_def]
  rw [e] at this
  exact this
 |false=>rw [ha] at hK;rw [fZ];exact hK
def aiY : SV->Option SV
 | .nil=>some (.sc .sl .nl)
 | .sc .sl _=>none
 | .sc k t=>some (.sc k t)
 | .c v=>some (.c v)
 |_=>none
def Z9 : List SV->Option (List SV)
 |[]=>some []
 |x::r=>match aiY x,Z9 r with|some y,some l=>some (y::l)|_,_=>none
theorem agJ {x y:SV}(h:aiY x=some y):y.den ρ=Lj (x.den ρ):=by
 unfold aiY at h
 split at h
 .simp only [au] at h;subst h;rfl
 .cases h
 .rename_i k t hk
  simp only [au] at h;subst h
  cases k<;>first|rfl|exact absurd rfl hk
 .simp only [au] at h;subst h;rfl
 .cases h
theorem WG : ∀{z y:List SV},Z9 z=some y->dQ ρ y=(dQ ρ z).map Lj
 |[],y,h=>by simp only [Z9,au] at h;subst h;rfl
 |x::r,y,h=>by
  simp only [Z9] at h
  split at h
  .rename_i a l ha hl
   simp only [au] at h;subst h
   simp only [dQ,aZ,agJ ha,WG hl]
  .cases h
def LZ (P:Program)(nv id:Nat)(t:TypeId)(l c:SV):Option SR:=
 match P.underlying t,l,c with
 |some (.slice e),.sc (.int _) l,.sc (.int _) c=>match P.info? e,ayJ P e with
  |some i,some z0=>match Z9 z0 with
   |none=>none
   |some z=>bif Nat.beq z0.length i.size&&Nat.ble i.bytes 4096 then
    match yB l,yB c with
    |some n,some m=>bif Nat.ble n m&&Nat.ble m 4294967296 then some ⟨.os id i.size 0 l,[(id,some (.rows i.size (List.replicate n z)))],[],[],nv⟩ else none
    |_,_=>some ⟨.os id i.size 0 l,[(id,some (.fO i.size (.var nv [])))],[],[.mk l c z (.var nv [])],nv+1⟩
   else none
  |_,_=>none
 |_,_,_=>none
theorem G7 {z:List SV}:∀{n:Nat},List.replicate n (dQ ρ z)=iL ρ (List.replicate n z)
 |0=>rfl
 |n+1=>by simp only [List.replicate_succ,iL,G7 (n:=n)]
theorem VD {t:TypeId}{l c:SV}{r:SR}(h:LZ P nv id t l c=some r)(hs:∀s∈r.sd,s.holds P ρ)(hK:K (r.den ρ)):tK P t id (l.den ρ) (c.den ρ) K:=by
 unfold LZ at h
 split at h
 .rename_i e k l k' c hu
  split at h
  .rename_i i z0 hi hz
   split at h
   .cases h
   rename_i z hlo
   have agK:=WG (ρ:=ρ) hlo
   cases hc:Nat.beq z0.length i.size&&Nat.ble i.bytes 4096
   .simp [hc] at h
   .simp only [hc,cond_true] at h
    simp only [ay] at hc
    simp only [tK,hu,SV.den,Kd.av]
    split at h
    .rename_i n m hn hm
     cases hd:Nat.ble n m&&Nat.ble m 4294967296
     .simp [hd] at h
     .simp only [hd,cond_true,au] at h
      subst h
      simp only [ay] at hd
      have d1:=aG hd.1
      have d2:=aG hd.2
      refine dH.2 ⟨i,hi,dH.2 ⟨_,Ba (ρ:=ρ) hz,by rw [fZ];exact aA hc.1,?_,?_,?_,aG hc.2,?_⟩⟩
      .rw [(fU hn).1];omega
      .rw [(fU hn).1,(fU hm).1];omega
      .rw [(fU hm).1];omega
      .have e:=(fU (ρ:=ρ) hn).2
       rw [e,<- agK,G7]
       have:K ⟨.os id i.size 0 (l.den ρ).I.toNat,[(id,some (.rows i.size (iL ρ (List.replicate n z))))],[]⟩:=hK
       rwa [e] at this
    .simp only [au] at h
     subst h
     obtain ⟨b1,b2,b3,b4⟩:=hs (.mk l c z (.var nv [])) (by simp)
     refine dH.2 ⟨i,hi,dH.2 ⟨_,Ba (ρ:=ρ) hz,by rw [fZ];exact aA hc.1,b1,b2,b3,aG hc.2,?_⟩⟩
     rw [<- agK,<- b4];exact hK
  .cases h
 .cases h
def WH (nv:Nat)(f:Fn)(first captured:List SV):Option SR:=
 match f with
 | .func f=>some (.val nv (.fn f first captured))
 |_=>none
def ayL (pc:Pc)(t:Tm):Option (List Side):=
 match t with
 | .li (.ofNat _)=>some []
 | .slen _=>some []
 | .rlen _=>some []
 |t=>ayG pc (leT (.li 0) t)
theorem WI {t:Tm}{l:List Side}(hp:pc.holds ρ)(h:ayL pc t=some l)(hs:∀s∈l,s.holds P ρ):0<=(t.den ρ).I:=by
 unfold ayL at h
 split at h
 .exact Int.natCast_nonneg _
 .exact Int.natCast_nonneg _
 .exact Int.natCast_nonneg _
 .exact xJ (oI (P:=P) hp h hs)
def sLn (P:Program)(pc:Pc)(th:Tr SB)(nv:Nat)(t:TypeId)(x:SV):Option SR:=
 match P.underlying t with
 |none=>none
 |some u=>match u,x with
  | .string,.sc .str s=>some (.val nv (.sc (.int .i64) (WB s)))
  | .slice _,.sc .sl s=>some (.val nv (.sc (.int .i64) (.rlen s)))
  | .slice _,.sf s=>some (.val nv (.sc (.int .i64) (.rlen s)))
  | .slice _,.nil=>some (.val nv (.sc (.int .i64) (.li 0)))
  | .slice _,.slc rows _=>some (.val nv (.sc (.int .i64) (.li (.ofNat rows.length))))
  | .slice _,.os _ _ _ len=>(ayL pc len).map fun l=>⟨.sc (.int .i64) len,[],[],l,nv⟩
  | .map _ _,.c .mp=>some (.val nv (.sc (.int .i64) (.li 0)))
  | .map _ _,.mp b=>match th.get b with
   |some (.map es)=>some ⟨.sc (.int .i64) (.li (.ofNat es.length)),[],[b],[],nv⟩
   |_=>none
  |_,_=>none
theorem apk {t:TypeId}{x:SV}{r:SR}(hp:pc.holds ρ)(ha:Fq ρ th ah)(h:sLn P pc th nv t x=some r)(hs:∀s∈r.sd,s.holds P ρ)(hK:K (r.den ρ)):Zt P ah t (x.den ρ) K:=by
 unfold sLn at h
 split at h
 .cases h
 .rename_i u hu
  unfold Zt
  rw [hu]
  split at h
  .simp only [au] at h;subst h
   simp only [SR.sW,SV.den,Kd.av,JR] at hK;exact hK
  .simp only [au] at h;subst h;exact hK
  .simp only [au] at h;subst h;exact hK
  .simp only [au] at h;subst h;exact hK
  .simp only [au] at h;subst h
   rename_i rows f
   have:K (.val (.p (.int .i64 (rows.length:Nat)))):=hK
   rw [<- f_ (ρ:=ρ)] at this
   exact this
  .simp only [aB] at h
   obtain ⟨l,hl,rfl⟩:=h
   rename_i b sz off len
   have h0:=WI (P:=P) hp hl hs
   have:K (.val (.p (.int .i64 (len.den ρ).I))):=hK
   show K (.val (.p (.int .i64 ((len.den ρ).I.toNat:Nat))))
   rwa [Int.toNat_of_nonneg h0]
  .simp only [au] at h;subst h;exact hK
  .split at h
   .rename_i es hb
    simp only [au] at h;subst h
    show (match ah _ with|some (.map es)=>K ⟨.p (.int .i64 es.length),[],[_]⟩|_=>False)
    rw [ha _ _ hb]
    simp only [SB.den,dA]
    exact hK
   .cases h
  .cases h
inductive Ys where
 |cs (rows:List (List SV))
 |ts (t:Tm)
def Ys.den (ρ:List AV):Ys->List (List AV)
 | .cs rows=>iL ρ rows
 | .ts t=>(t.den ρ).R
theorem L6 {n:Nat}:lI n []:=fun _ h=>absurd h (by simp)
def Np (pc:Pc)(th:Tr SB)(n:Nat)(x:SV):Option (Ys×List Nat×List Side):=
 match x with
 | .sc .sl t=>some (.ts t,[],[.KF n t])
 | .sf t=>some (.ts t,[],[.KF n t])
 | .sc .str (.ls l)=>bif Nat.beq n 1 then some (.cs (l.map fun b=>[.sc (.int .u8) (.li (.ofNat b.toNat))]),[],[]) else none
 | .sc .str t=>bif Nat.beq n 1 then some (.ts (.sbs t),[],[]) else none
 | .nil=>some (.cs [],[],[])
 | .slc rows _=>bif rows.all (fun r=>Nat.beq r.length n) then some (.cs rows,[],[]) else none
 | .os b sz off len=>bif Nat.beq sz n then
   match th.get b with
   |some (.rows sz' rs)=>match yB len with
    |some m=>bif Nat.beq sz sz'&&Nat.ble (off+m) rs.length then some (.cs ((rs.drop off).take m),[b],[]) else none
    |none=>none
   |some (.fO sz' t)=>bif Nat.beq sz sz'&&(Nat.beq off 0&&len.beq (.rlen t)) then some (.ts t,[b],[]) else none
   |_=>none
  else none
 |_=>none
theorem yU {n:Nat}{x:SV}{y:Ys}{rd:List Nat}{l:List Side}(ha:Fq ρ th ah)(h:Np pc th n x=some (y,rd,l))(hs:∀s∈l,s.holds P ρ){k:List (List AV)->List Nat->Prop}(hk:k (y.den ρ) rd) :
  ayg ah n (x.den ρ) k:=by
 unfold Np at h
 split at h
 .simp only [au,aN] at h
  obtain ⟨rfl,rfl,rfl⟩:=h
  have b0:=hs (.KF n _) (bV.2 rfl)
  exact ⟨b0,hk⟩
 .simp only [au,aN] at h
  obtain ⟨rfl,rfl,rfl⟩:=h
  have b0:=hs (.KF n _) (bV.2 rfl)
  exact ⟨b0,hk⟩
 .rename_i l'
  cases h1:Nat.beq n 1
  .simp [h1] at h
  .simp only [h1,cond_true,au,aN] at h
   obtain ⟨rfl,rfl,rfl⟩:=h
   refine ⟨aA h1,?_⟩
   have e:∀l:List UInt8,iL ρ (l.map fun b=>[SV.sc (.int .u8) (.li (.ofNat b.toNat))])=l.map fun b=>[AV.p (.int .u8 b.toNat)]:=by
    intro l
    induction l with
    |nil=>rfl
    |cons b l ih=>simp only [aZ,iL,ih];rfl
   rw [<- e];exact hk
 .rename_i t _
  cases h1:Nat.beq n 1
  .simp [h1] at h
  .simp only [h1,cond_true,au,aN] at h
   obtain ⟨rfl,rfl,rfl⟩:=h
   exact ⟨aA h1,hk⟩
 .simp only [au,aN] at h
  obtain ⟨rfl,rfl,rfl⟩:=h
  exact ⟨L6,hk⟩
 .rename_i rows f
  cases hc:rows.all (fun r=>Nat.beq r.length n)
  .simp [hc] at h
  .simp only [hc,cond_true,au,aN] at h
   obtain ⟨rfl,rfl,rfl⟩:=h
   exact ⟨FX hc,hk⟩
 .rename_i b sz off len
  cases h1:Nat.beq sz n
  .simp [h1] at h
  .simp only [h1,cond_true] at h
   refine ⟨aA h1,?_⟩
   split at h
   .rename_i sz' rs hb
    split at h
    .rename_i m hm
     cases h2:Nat.beq sz sz'&&Nat.ble (off+m) rs.length
     .simp [h2] at h
     .simp only [h2,cond_true,au,aN] at h
      obtain ⟨rfl,rfl,rfl⟩:=h
      simp only [ay] at h2
      rw [ha _ _ hb]
      refine ⟨aA h2.1,?_,?_⟩
      .rw [(fU hm).2,f_];exact aG h2.2
      .rw [(fU hm).2,yS,yT];exact hk
    .cases h
   .rename_i sz' t hb
    cases h2:Nat.beq sz sz'&&(Nat.beq off 0&&len.beq (.rlen t))
    .simp [h2] at h
    .simp only [h2,cond_true,au,aN] at h
     obtain ⟨rfl,rfl,rfl⟩:=h
     simp only [ay] at h2
     obtain ⟨c1,c2,c3⟩:=h2
     have c2:=aA c2
     subst c2
     have c3:=Tm.beq_eq c3
     subst c3
     rw [ha _ _ hb]
     have e:(Tm.den ρ t.rlen).I.toNat=(t.den ρ).R.length:=rfl
     refine ⟨aA c1,?_,?_⟩
     .rw [e];simp
     .rw [e];simpa [Ys.den] using hk
   .cases h
 .cases h
def Z_ (th:Tr SB)(nv id sz b off:Nat)(len:Tm)(ys:Ys)(rd:List Nat)(l:List Side):Option SR:=
 match th.get b with
 |some (.rows sz' rs)=>match yB len with
  |none=>none
  |some m=>bif Nat.beq sz sz'&&Nat.ble (off+m) rs.length then
    match ys with
    | .cs rows=>bif Nat.ble (m+rows.length) 4294967296 then some ⟨.os id sz 0 (.li (.ofNat (m+rows.length))),[(b,none),(id,some (.rows sz ((rs.drop off).take m++rows)))],b::rd,l,nv⟩ else none
    | .ts t=>bif Nat.beq m 0 then some ⟨.os id sz 0 (.rlen t),[(b,none),(id,some (.fO sz t))],b::rd,l++[.len2 0 t],nv⟩
     else some ⟨.os id sz 0 (.rlen (.var nv [])),[(b,none),(id,some (.fO sz (.var nv [])))],b::rd,l++[.ags sz ((rs.drop off).take m) t (.var nv [])],nv+1⟩
   else none
 |some (.fO sz' xt)=>bif Nat.beq sz sz'&&Nat.beq off 0 then
   match ys with
   | .cs rows=>some ⟨.os id sz 0 (.rlen (.var nv [])),[(b,none),(id,some (.fO sz (.var nv [])))],b::rd,l++(acI len xt++[.app sz xt rows (.var nv [])]),nv+1⟩
   | .ts yt=>some ⟨.os id sz 0 (.rlen (.var nv [])),[(b,none),(id,some (.fO sz (.var nv [])))],b::rd,l++(acI len xt++[.ZR sz xt yt (.var nv [])]),nv+1⟩
  else none
 |_=>none
theorem agL {sz b off:Nat}{len:Tm}{ys:Ys}{rd:List Nat}{l:List Side}{r:SR}(h:Z_ th nv id sz b off len ys rd l=some r):∀s∈l,s∈r.sd:=by
 intro s hm
 unfold Z_ at h
 split at h
 .split at h
  .cases h
  .rename_i m hn
   generalize (Nat.beq sz _&&Nat.ble (off+m) _)=g at h
   cases g
   .cases h
   .simp only [cond_true] at h
    split at h
    .rename_i rows
     cases h1:Nat.ble (m+rows.length) 4294967296
     .simp [h1] at h
     .simp only [h1,cond_true,au] at h;subst h;exact hm
    .cases h1:Nat.beq m 0
     .simp only [h1,cond_false,au] at h;subst h;simp [hm]
     .simp only [h1,cond_true,au] at h;subst h;simp [hm]
 .generalize (Nat.beq sz _&&Nat.beq off 0)=g at h
  cases g
  .cases h
  .simp only [cond_true] at h
   split at h<;>(simp only [au] at h;subst h;simp [hm])
 .cases h
theorem aiZ {sz b off:Nat}{len:Tm}{ys:Ys}{rd:List Nat}{l:List Side}{r:SR}(ha:Fq ρ th ah)(h:Z_ th nv id sz b off len ys rd l=some r)(hs:∀s∈r.sd,s.holds P ρ)(hK:K (r.den ρ)) :
  match ah b with
  |some (.rows sz' rs)=>sz=sz'/\off+(len.den ρ).I.toNat<=rs.length/\(len.den ρ).I.toNat+(ys.den ρ).length<=4294967296/\
    K ⟨.os id sz 0 ((len.den ρ).I.toNat+(ys.den ρ).length),[(b,none),(id,some (.rows sz ((rs.drop off).take (len.den ρ).I.toNat++ys.den ρ)))],b::rd⟩
  |_=>False:=by
 unfold Z_ at h
 split at h
 .rename_i sz' rs hb
  rw [ha _ _ hb]
  split at h
  .cases h
  .rename_i m hn
   cases h0:(Nat.beq sz sz'&&Nat.ble (off+m) rs.length)
   .simp [h0] at h
   .simp only [h0,cond_true] at h
    simp only [ay] at h0
    have e0:=aA h0.1
    have e1:=aG h0.2
    subst e0
    show sz=sz/\off+(len.den ρ).I.toNat<=(iL ρ rs).length/\_
    rw [(fU hn).2,f_,yS,yT]
    refine ⟨rfl,e1,?_⟩
    split at h
    .rename_i rows
     cases h1:Nat.ble (m+rows.length) 4294967296
     .simp [h1] at h
     .simp only [h1,cond_true,au] at h;subst h
      simp only [Ys.den,f_]
      refine ⟨aG h1,?_⟩
      rw [<- xH];exact hK
    .rename_i t
     cases h1:Nat.beq m 0
     .simp only [h1,cond_false,au] at h;subst h
      obtain ⟨b1,b2⟩:=hs (.ags sz ((rs.drop off).take m) t (.var nv [])) (by simp)
      have hlen:((rs.drop off).take m).length=m:=by simp;omega
      rw [hlen] at b1
      refine ⟨b1,?_⟩
      have:K ⟨.os id sz 0 ((Tm.var nv []).den ρ).R.length,[(b,none),(id,some (.rows sz ((Tm.var nv []).den ρ).R))],b::rd⟩:=hK
      rw [b2] at this
      simpa [Ys.den,f_,hlen] using this
     .simp only [h1,cond_true,au] at h;subst h
      have e2:=aA h1
      subst e2
      have hl:0+(t.den ρ).R.length<=4294967296:=hs (.len2 0 t) (by simp)
      refine ⟨hl,?_⟩
      have:K ⟨.os id sz 0 (t.den ρ).R.length,[(b,none),(id,some (.rows sz (t.den ρ).R))],b::rd⟩:=hK
      simpa [Ys.den,iL] using this
 .rename_i sz' xt hb
  rw [ha _ _ hb]
  cases h0:(Nat.beq sz sz'&&Nat.beq off 0)
  .simp [h0] at h
  .simp only [h0,cond_true] at h
   simp only [ay] at h0
   have e0:=aA h0.1
   have e1:=aA h0.2
   subst e0;subst e1
   split at h
   .rename_i rows
    simp only [au] at h;subst h
    have e3:=Q_ (P:=P) (ρ:=ρ) (l:=len) (t:=xt) (fun s hm=>hs s (by simp [hm]))
    rw [e3]
    obtain ⟨b1,b2,b3⟩:=hs (.app sz xt rows (.var nv [])) (by simp)
    refine ⟨rfl,by simp [SB.den],by simpa [Ys.den,f_] using b2,?_⟩
    have:K ⟨.os id sz 0 ((Tm.var nv []).den ρ).R.length,[(b,none),(id,some (.rows sz ((Tm.var nv []).den ρ).R))],b::rd⟩:=hK
    rw [b3] at this
    simpa [Ys.den] using this
   .rename_i yt
    simp only [au] at h;subst h
    have e3:=Q_ (P:=P) (ρ:=ρ) (l:=len) (t:=xt) (fun s hm=>hs s (by simp [hm]))
    rw [e3]
    obtain ⟨b1,b1',b2,b3⟩:=hs (.ZR sz xt yt (.var nv [])) (by simp)
    refine ⟨rfl,by simp [SB.den],by simpa [Ys.den] using b2,?_⟩
    have:K ⟨.os id sz 0 ((Tm.var nv []).den ρ).R.length,[(b,none),(id,some (.rows sz ((Tm.var nv []).den ρ).R))],b::rd⟩:=hK
    rw [b3] at this
    simpa [Ys.den] using this
 .cases h
def WJ : SV->SV
 | .slc [] true=>.nil
 |x=>x
theorem WL {x:SV}:(WJ x).den ρ=x.den ρ:=by unfold WJ;split<;>rfl
def Nq (P:Program)(pc:Pc)(th:Tr SB)(nv id:Nat)(t t2:TypeId)(x y:SV):Option SR:=
 match mQ P t with
 |none=>none
 |some e=>
  bif Nat.ble e.2 4096&&(!Nat.beq e.1 0)&&(match P.underlying t2 with|some (.int _)|none=>false|_=>true)&&
    (match (((P.underlying t).bind fun d=>match d with | .slice el=>aya P el|_=>none).map List.length) with|some n=>Nat.beq n e.1|none=>false) then
   match Np pc th e.1 y with
   |none=>none
   |some (ys,rd,l)=>
    match WJ x with
    | .nil=>match ys with
     | .cs rows=>bif Nat.ble rows.length 4294967296 then some ⟨.os id e.1 0 (.li (.ofNat rows.length)),[(id,some (.rows e.1 rows))],rd,l,nv⟩ else none
     | .ts t=>some ⟨.os id e.1 0 (.rlen t),[(id,some (.fO e.1 t))],rd,l++[.len2 0 t],nv⟩
    | .sf xt=>match ys with
     | .cs rows=>bif Nat.beq rows.length 0 then none else some ⟨.os id e.1 0 (.rlen (.var nv [])),[(id,some (.fO e.1 (.var nv [])))],rd,l++[.app e.1 xt rows (.var nv [])],nv+1⟩
     |_=>none
    | .os b sz off len=>bif Nat.beq sz e.1 then Z_ th nv id e.1 b off len ys rd l else none
    | .slc rs true=>match ys with
     | .cs rows=>bif (rs.all (fun r=>Nat.beq r.length e.1)&&!Nat.beq rows.length 0)&&Nat.ble (rs.length+rows.length) 4294967296 then some ⟨.os id e.1 0 (.li (.ofNat (rs.length+rows.length))),[(id,some (.rows e.1 (rs++rows)))],rd,l,nv⟩ else none
     |_=>none
    |_=>none
  else none
theorem L8 {t t2:TypeId}{x y:SV}{r:SR}(ha:Fq ρ th ah)(h:Nq P pc th nv id t t2 x y=some r)(hs:∀s∈r.sd,s.holds P ρ)(hK:K (r.den ρ)):zG P id ah t t2 (x.den ρ) (y.den ρ) K:=by
 unfold Nq at h
 split at h
 .cases h
 .rename_i e he
  refine dH.2 ⟨e,he,?_⟩
  generalize hg:(Nat.ble e.2 4096&&(!Nat.beq e.1 0)&&(match P.underlying t2 with|some (.int _)|none=>false|_=>true)&&
    (match (((P.underlying t).bind fun d=>match d with | .slice el=>aya P el|_=>none).map List.length) with|some n=>Nat.beq n e.1|none=>false))=g at h
  cases g
  .cases h
  .simp only [cond_true] at h
   simp only [ay,Bool.not_eq_true'] at hg
   obtain ⟨⟨⟨g1,g2⟩,g3⟩,g4⟩:=hg
   refine ⟨aG g1,fun e0=>by rw [e0] at g2;simp at g2,?_,?_,?_⟩
   .split at g3<;>first|(cases g3;done)|skip
    rename_i n1 n2
    split
    .exact n1 _ (by assumption)
    .exact n2 (by assumption)
    .trivial
   .generalize hq:((P.underlying t).bind fun d=>match d with | .slice el=>aya P el|_=>none).map List.length=q at g4 ⊢
    cases q with
    |none=>cases g4
    |some n=>rw [aA g4]
   split at h
   .cases h
   .rename_i ys rd l hys
    have inl:(∀s∈l,s∈r.sd)->∀{k:List (List AV)->List Nat->Prop},k (ys.den ρ) rd->ayg ah e.1 (y.den ρ) k:=fun hsub k hk=>yU (P:=P) ha hys (fun s hm=>hs s (hsub s hm)) hk
    rw [<- WL (x:=x)]
    generalize WJ x=x' at h ⊢
    split at h
    ·
     split at h
     .rename_i rows
      cases h1:Nat.ble rows.length 4294967296
      .simp [h1] at h
      .simp only [h1,cond_true,au] at h
       subst h
       refine inl (fun s hm=>hm) ⟨L6,rfl,.inl rfl,?_,?_⟩
       .simp only [Ys.den,f_,List.length_nil,Nat.zero_add];exact aG h1
       .have:K ⟨.os id e.1 0 rows.length,[(id,some (.rows e.1 (iL ρ rows)))],rd⟩:=hK
        simpa [Ys.den,f_] using this
     .rename_i t
      simp only [au] at h
      subst h
      have hl:0+(t.den ρ).R.length<=4294967296:=hs (.len2 0 t) (by simp)
      refine inl (fun s hm=>by simp [hm]) ⟨L6,rfl,.inl rfl,?_,?_⟩
      .simpa [Ys.den] using hl
      .have:K ⟨.os id e.1 0 (t.den ρ).R.length,[(id,some (.rows e.1 (t.den ρ).R))],rd⟩:=hK
       simpa [Ys.den] using this
    .rename_i xt
     split at h
     .rename_i rows
      cases h1:Nat.beq rows.length 0
      .simp only [h1,cond_false,au] at h
       subst h
       obtain ⟨b1,b2,b3⟩:=hs (.app e.1 xt rows (.var nv [])) (by simp)
       refine inl (fun s hm=>by simp [hm]) ⟨b1,rfl,.inr ?_,?_,?_⟩
       .intro e0
        have:rows.length=0:=by rw [<- f_ (ρ:=ρ)];simp only [Ys.den] at e0;rw [e0];rfl
        rw [this] at h1;simp at h1
       .simpa [Ys.den,f_] using b2
       .have:K ⟨.os id e.1 0 ((Tm.var nv []).den ρ).R.length,[(id,some (.rows e.1 ((Tm.var nv []).den ρ).R))],rd⟩:=hK
        rw [b3] at this
        simpa [Ys.den] using this
      .simp [h1] at h
     .cases h
    .rename_i b sz off len
     cases h1:Nat.beq sz e.1
     .simp [h1] at h
     .simp only [h1,cond_true] at h
      have e1:=aA h1
      subst e1
      exact inl (agL h) ⟨rfl,aiZ (P:=P) ha h hs hK⟩
    .rename_i rs
     split at h
     .rename_i rows
      cases h1:((rs.all (fun r=>Nat.beq r.length e.1)&&!Nat.beq rows.length 0)&&Nat.ble (rs.length+rows.length) 4294967296)
      .simp [h1] at h
      .simp only [h1,cond_true,au] at h
       subst h
       simp only [ay,Bool.not_eq_true',aH] at h1
       obtain ⟨⟨b1,b2⟩,b3⟩:=h1
       refine inl (fun s hm=>hm) ⟨fun row hrow=>?_,rfl,.inr ?_,?_,?_⟩
       .rw [lV,aW] at hrow
        obtain ⟨r,hr,rfl⟩:=hrow
        rw [fZ];exact aA (b1 r hr)
       .intro e0
        have:rows.length=0:=by rw [<- f_ (ρ:=ρ)];simp only [Ys.den] at e0;rw [e0];rfl
        rw [this] at b2;simp at b2
       .simp only [Ys.den,f_];exact aG b3
       .have:K ⟨.os id e.1 0 (rs.length+rows.length),[(id,some (.rows e.1 (iL ρ (rs++rows))))],rd⟩:=hK
        simpa [Ys.den,f_,xH] using this
     .cases h
    .cases h
end
end Go.Fw
end
section
namespace Go.Fw
variable [jU]
 mutual
def AV.fz : AV->Bool
  | .p _ | .str _=>true
  | .agg cs=>iT cs
  | .fA cs=>iT cs
  | .sl rows full=>!full&&QO rows
  | .vp row _=>iT row
  | .fn _ x y=>iT x&&iT y
  | .mP _ v=>v.fz
  | .os .. | .op .. | .mp _=>false
def iT : List AV->Bool
  |[]=>true
  |a::r=>a.fz&&iT r
def QO : List (List AV)->Bool
  |[]=>true
  |a::r=>iT a&&QO r
end
 mutual
theorem aac : ∀{a:AV},a.fz=true->a.clean=true
  | .p _,_=>rfl
  | .str _,_=>rfl
  | .agg cs,h=>yV (l:=cs) h
  | .fA cs,h=>yV (l:=cs) h
  | .sl rows full,h=>by simp only [AV.fz,ay] at h;exact jV h.2
  | .vp row _,h=>yV (l:=row) h
  | .fn _ x y,h=>by simp only [AV.fz,ay] at h;simp only [AV.clean,yV h.1,yV h.2,Bool.and_self]
  | .mP _ v,h=>aac (a:=v) h
  | .os ..,h=>by simp [AV.fz] at h
  | .op ..,h=>by simp [AV.fz] at h
  | .mp _,h=>by simp [AV.fz] at h
theorem yV : ∀{l:List AV},iT l=true->kN l=true
  |[],_=>rfl
  |a::r,h=>by simp only [iT,ay] at h;simp only [kN,aac h.1,yV h.2,Bool.and_self]
theorem jV : ∀{l:List (List AV)},QO l=true->jJ l=true
  |[],_=>rfl
  |a::r,h=>by simp only [QO,ay] at h;simp only [jJ,yV h.1,jV h.2,Bool.and_self]
end
 mutual
theorem ai0 {ah:AH}:∀{a:AV},a.fz=true->mV ah a=some a
  | .p _,_=>rfl
  | .str _,_=>rfl
  | .agg cs,h=>by simp only [mV,FY (ah:=ah) (l:=cs) h];rfl
  | .fA cs,h=>by simp only [mV,FY (ah:=ah) (l:=cs) h];rfl
  | .sl rows full,h=>by
   simp only [AV.fz,ay,Bool.not_eq_true'] at h
   simp only [mV,IU (ah:=ah) h.2,h.1];rfl
  | .vp row _,h=>by simp only [mV,FY (ah:=ah) (l:=row) h];rfl
  | .fn _ x y,h=>by simp only [AV.fz,ay] at h;simp only [mV,FY (ah:=ah) h.1,FY (ah:=ah) h.2];rfl
  | .mP _ v,h=>by simp only [mV,ai0 (ah:=ah) (a:=v) h];rfl
  | .os ..,h=>by simp [AV.fz] at h
  | .op ..,h=>by simp [AV.fz] at h
  | .mp _,h=>by simp [AV.fz] at h
theorem FY {ah:AH}:∀{l:List AV},iT l=true->xA ah l=some l
  |[],_=>rfl
  |a::r,h=>by simp only [iT,ay] at h;simp only [xA,ai0 (ah:=ah) h.1,FY (ah:=ah) h.2];rfl
theorem IU {ah:AH}:∀{l:List (List AV)},QO l=true->yE ah l=some l
  |[],_=>rfl
  |a::r,h=>by simp only [QO,ay] at h;simp only [yE,FY (ah:=ah) h.1,IU (ah:=ah) h.2];rfl
end
theorem Ri : ∀{l:List AV} {j:Nat},iT l=true->(l.getD j eX).fz=true
 |[],j,_=>rfl
 |a::r,0,h=>by simp only [iT,ay] at h;exact h.1
 |a::r,j+1,h=>by simp only [iT,ay] at h;simpa using Ri (j:=j) h.2
theorem O3 : ∀{p:List Nat} {a:AV},a.fz=true->(ax8 a p).fz=true
 |[],a,h=>by cases a<;>exact h
 |j::p,.agg l,h=>O3 (p:=p) (Ri (j:=j) h)
 |j::p,.fA l,h=>O3 (p:=p) (Ri (j:=j) h)
 |j::p,.p _,_|j::p,.str _,_|j::p,.sl ..,_|j::p,.vp ..,_|j::p,.fn ..,_|j::p,.mP ..,_|j::p,.os ..,_|j::p,.op ..,_|j::p,.mp _,_=>rfl
theorem atn {a:AV}(h:a.fz=true):QO a.D.R=true:=by
 cases a with
 |sl rows full=>simp only [AV.fz,ay] at h;exact h.2
 |p v=>cases v<;>rfl
 |_=>rfl
theorem ato {d:D}(h:∀l,d≠.r l):d.R=[]:=by cases d<;>first|rfl|exact absurd rfl (h _)
theorem Tm.qj {ρ:List AV}(hρ:iT ρ=true):∀t:Tm,QO (t.den ρ).R=true
 | .lb _ | .li _ | .lf _ | .ls _ | .nl=>rfl
 | .var i p=>atn (O3 (Ri hρ))
 | .bin o k x y=>by simp only [Tm.den,ato (Yf o k _ _)];rfl
 | .not _ | .and _ _ | .or _ _ | .com _ _ | .conv _ _ | .toF _ | .ZL _ | .slen _ | .rlen _ | .byte _ _ | .ah5 _ _ _ | .bts _=>rfl
 | .sbs x=>by
  show QO ((x.den ρ).S.map ayT)=true
  induction (x.den ρ).S with
  |nil=>rfl
  |cons b l ih=>simp only [aZ,QO,ih,Bool.and_true];rfl
 | .neg k x=>by cases k<;>rfl
 | .ite c x y=>by
  rw [Tm.pG]
  cases (c.den ρ).B
  .exact Tm.qj hρ y
  .exact Tm.qj hρ x
def Weak (a b:AV):Prop:=∀w E v,Rep w E a v->Rep w E b v
theorem Weak.refl (a:AV):Weak a a:=fun _ _ _ h=>h
theorem iE.weak {w:World}{E:Env}:∀{az bs:List AV} {vs:List Value},az.length=bs.length->(∀(i:Nat) (a b:AV),az[i]?=some a->bs[i]?=some b->Weak a b)->iE w E az vs->iE w E bs vs
 |az,bs,vs,hl,hw,h=>by
  refine ⟨by rw [<- hl,h.1],fun i b v hb hv=>?_⟩
  have hi:i<az.length:=by rw [hl];exact (aC.1 hb).1
  have ha:az[i]?=some az[i]:=by simp [hi]
  exact hw i _ b ha hb _ _ _ (h.2 i _ v ha hv)
inductive yH : List AV->List AV->Prop
 |nil:yH [] []
 |cons {a b:AV} {r s:List AV} (h:Weak a b) (hs:b.jM=a.jM) (k:yH r s):yH (a::r) (b::s)
theorem yH.length {az bs:List AV}(h:yH az bs):az.length=bs.length:=by induction h<;>simp_all
theorem yH.get {az bs:List AV}(h:yH az bs):∀(i:Nat) (a b:AV),az[i]?=some a->bs[i]?=some b->Weak a b/\b.jM=a.jM:=by
 induction h with
 |nil=>intro i a b h;simp at h
 |cons h hs k ih=>
  intro i a b ha hb
  cases i with
  |zero=>simp at ha hb;subst ha;subst hb;exact ⟨h,hs⟩
  |succ i=>simp at ha hb;exact ih i a b ha hb
theorem yH.refl : ∀l:List AV,yH l l
 |[]=>.nil
 |a::r=>.cons (Weak.refl a) rfl (yH.refl r)
inductive tZ : List (List AV)->List (List AV)->Prop
 |nil:tZ [] []
 |cons {a b:List AV} {r s:List (List AV)} (h:yH a b) (k:tZ r s):tZ (a::r) (b::s)
theorem tZ.length {az bs:List (List AV)}(h:tZ az bs):az.length=bs.length:=by induction h<;>simp_all
theorem tZ.get {az bs:List (List AV)}(h:tZ az bs):∀(i:Nat) (b:List AV),bs[i]?=some b->∃a,az[i]?=some a/\yH a b:=by
 induction h with
 |nil=>intro i b h;simp at h
 |cons h k ih=>
  intro i b hb
  cases i with
  |zero=>simp at hb;subst hb;exact ⟨_,rfl,h⟩
  |succ i=>simp at hb;simpa using ih i b hb
theorem tZ.refl : ∀l:List (List AV),tZ l l
 |[]=>.nil
 |a::r=>.cons (yH.refl a) (tZ.refl r)
theorem Weak.agg {az bs:List AV}(h:yH az bs):Weak (.agg az) (.agg bs):=by
 intro w E v hr
 cases hr with
 |agg cs vs hl hs hc=>
  refine .agg bs vs (by rw [<- h.length,hl]) (fun c hm=>?_) (fun i c v hc' hv=>?_)
  .obtain ⟨i,hi⟩:=vM hm
   have hlt:i<az.length:=by rw [h.length];exact (aC.1 hi).1
   have ha:az[i]?=some az[i]:=by simp [hlt]
   rw [(h.get i _ c ha hi).2]
   exact hs _ (aJ ha)
  .have hlt:i<az.length:=by rw [h.length];exact (aC.1 hc').1
   have ha:az[i]?=some az[i]:=by simp [hlt]
   exact (h.get i _ c ha hc').1 _ _ _ (hc i _ v ha hv)
theorem Weak.fA {az bs:List AV}(h:yH az bs):Weak (.fA az) (.fA bs):=by
 intro w E v hr
 cases hr with
 |fA cs vs hl hc=>
  refine .fA bs vs (by rw [<- h.length,hl]) (fun i c v hc' hv=>?_)
  have hlt:i<az.length:=by rw [h.length];exact (aC.1 hc').1
  have ha:az[i]?=some az[i]:=by simp [hlt]
  exact (h.get i _ c ha hc').1 _ _ _ (hc i _ v ha hv)
theorem Weak.mP {t:TypeId}{a b:AV}(h:Weak a b):Weak (.mP t a) (.mP t b):=by
 intro w E v hr
 cases hr with
 |mP t a v hv=>exact .mP t b v (h _ _ _ hv)
theorem Weak.sl {az bs:List (List AV)}(h:tZ az bs)(full:Bool):Weak (.sl az full) (.sl bs false):=by
 intro w E v hr
 cases hr with
 |slnil=>
  have:=h.length
  have:bs=[]:=by cases bs with|nil=>rfl|cons=>simp at this
  subst this;exact .slnil false _
 |sl rows full sz c o cap g hcap hfull hsz hfix hcell jO hrep=>
  have key:∀{i j:Nat} {row:List AV} {x:AV},bs[i]?=some row->row[j]?=some x->∃row' x',az[i]?=some row'/\row'[j]?=some x'/\Weak x' x/\x.jM=x'.jM:=by
   intro i j row x hr hx
   obtain ⟨row',hr',hw⟩:=h.get i row hr
   have hlt:j<row'.length:=by rw [hw.length];exact (aC.1 hx).1
   have hx':row'[j]?=some row'[j]:=by simp [hlt]
   exact ⟨row',_,hr',hx',(hw.get j _ x hx' hx).1,(hw.get j _ x hx' hx).2⟩
  rw [h.length]
  refine .sl bs false sz c o cap g (by rw [<- h.length];exact hcap) (fun e=>by cases e) (fun i row hr=>?_) (fun i row j x hr hx=>?_) (fun i row j x hr hx=>?_) (fun row hm x hx=>?_) (fun i row j x hr hx=>?_)
  .obtain ⟨row',hr',hw⟩:=h.get i row hr
   rw [<- hw.length];exact hsz i row' hr'
  .obtain ⟨row',x',q1,q2,-,-⟩:=key hr hx;exact hfix i row' j x' q1 q2
  .obtain ⟨row',x',q1,q2,-,-⟩:=key hr hx;exact hcell i row' j x' q1 q2
  .obtain ⟨i,hi⟩:=vM hm
   obtain ⟨j,hj⟩:=vM hx
   obtain ⟨row',x',q1,q2,-,q3⟩:=key hi hj
   rw [q3];exact jO row' (aJ q1) x' (aJ q2)
  .obtain ⟨row',x',q1,q2,q3,-⟩:=key hr hx;exact q3 _ _ _ (hrep i row' j x' q1 q2)
theorem Weak.vp {az bs:List AV}(h:yH az bs)(off:Nat):Weak (.vp az off) (.vp bs off):=by
 intro w E v hr
 cases hr with
 |vp row off c o g hfix hcell jO hrep=>
  have key:∀{j:Nat} {x:AV},bs[j]?=some x->∃x',az[j]?=some x'/\Weak x' x/\x.jM=x'.jM:=by
   intro j x hx
   have hlt:j<az.length:=by rw [h.length];exact (aC.1 hx).1
   have hx':az[j]?=some az[j]:=by simp [hlt]
   exact ⟨_,hx',(h.get j _ x hx' hx).1,(h.get j _ x hx' hx).2⟩
  refine .vp bs off c o g (fun j x hx=>?_) (fun j x hx=>?_) (fun x hm=>?_) (fun j x hx=>?_)
  .obtain ⟨x',q1,-,-⟩:=key hx;exact hfix j x' q1
  .obtain ⟨x',q1,-,-⟩:=key hx;exact hcell j x' q1
  .obtain ⟨j,hj⟩:=vM hm
   obtain ⟨x',q1,-,q3⟩:=key hj
   rw [q3];exact jO x' (aJ q1)
  .obtain ⟨x',q1,q2,-⟩:=key hx;exact q2 _ _ _ (hrep j x' q1)
end Go.Fw
end
section
namespace Go.Fw
variable [jU]
 mutual
def SV.cln : SV->Bool
  | .agg l | .fA l=>IV l
  | .slc r _=>Dk r
  | .vp row _=>IV row
  | .fn _ x y=>IV x&&IV y
  | .mP _ v=>v.cln
  | .os .. | .op .. | .mp _=>false
  |_=>true
def IV : List SV->Bool
  |[]=>true
  |x::r=>x.cln&&IV r
def Dk : List (List SV)->Bool
  |[]=>true
  |x::r=>IV x&&Dk r
end
 mutual
def SV.FZ : SV->List Nat
  | .agg l | .fA l=>Ep l
  | .slc r _=>Dl r
  | .vp row _=>Ep row
  | .fn _ x y=>Ep x++Ep y
  | .mP _ v=>v.FZ
  | .os b _ _ _=>[b]
  | .op b _ _ _=>[b]
  | .mp b=>[b]
  |_=>[]
def Ep : List SV->List Nat
  |[]=>[]
  |x::r=>x.FZ++Ep r
def Dl : List (List SV)->List Nat
  |[]=>[]
  |x::r=>Ep x++Dl r
end
 mutual
def SV.kS : SV->Bool
  | .sc .sl _=>false
  | .sc _ _=>true
  | .c _=>true
  | .nil=>true
  | .agg l | .fA l=>acV l
  | .mP _ v=>v.kS
  | .slc [] _=>true
  | .sf .nl=>true
  |_=>false
def acV : List SV->Bool
  |[]=>true
  |x::r=>x.kS&&acV r
end
section
variable {ρ : List AV} (hρ:iT ρ=true)
 include hρ
 mutual
theorem Yp : ∀{x:SV},x.cln=true->(x.den ρ).clean=true
  | .sc k t,_=>by cases k<;>first|rfl|exact jV (Tm.qj hρ t)
  | .c v,_=>rfl
  | .nil,_=>rfl
  | .sf t,_=>jV (Tm.qj hρ t)
  | .agg l,h=>xK (l:=l) h
  | .fA l,h=>xK (l:=l) h
  | .slc r _,h=>Bc (l:=r) h
  | .vp row _,h=>xK (l:=row) h
  | .fn _ x y,h=>by simp only [SV.cln,ay] at h;simp only [SV.den,AV.clean,xK h.1,xK h.2,Bool.and_self]
  | .mP _ v,h=>Yp (x:=v) h
  | .os ..,h=>by simp [SV.cln] at h
  | .op ..,h=>by simp [SV.cln] at h
  | .mp _,h=>by simp [SV.cln] at h
theorem xK : ∀{l:List SV},IV l=true->kN (dQ ρ l)=true
  |[],_=>rfl
  |x::r,h=>by simp only [IV,ay] at h;simp only [dQ,kN,Yp h.1,xK h.2,Bool.and_self]
theorem Bc : ∀{l:List (List SV)},Dk l=true->jJ (iL ρ l)=true
  |[],_=>rfl
  |x::r,h=>by simp only [Dk,ay] at h;simp only [iL,jJ,xK h.1,Bc h.2,Bool.and_self]
end
 mutual
theorem xM : ∀{x:SV},(x.den ρ).refs=x.FZ
  | .sc k t=>by cases k<;>first|rfl|exact oG (jV (Tm.qj hρ t))
  | .c v=>rfl
  | .nil=>rfl
  | .sf t=>oG (jV (Tm.qj hρ t))
  | .agg l=>r_ (l:=l)
  | .fA l=>r_ (l:=l)
  | .slc r _=>yX (l:=r)
  | .vp row _=>r_ (l:=row)
  | .fn _ x y=>by simp only [SV.den,AV.refs,r_,SV.FZ]
  | .mP _ v=>xM (x:=v)
  | .os ..=>rfl
  | .op ..=>rfl
  | .mp _=>rfl
theorem r_ : ∀{l:List SV},mO (dQ ρ l)=Ep l
  |[]=>rfl
  |x::r=>by simp only [dQ,mO,xM,r_,Ep]
theorem yX : ∀{l:List (List SV)},mW (iL ρ l)=Dl l
  |[]=>rfl
  |x::r=>by simp only [iL,mW,r_,yX,Dl]
end
 omit hρ in
 mutual
theorem JV : ∀{x:SV},x.kS=true->(x.den ρ).flat=true
  | .sc k t,h=>by cases k<;>first|rfl|(simp [SV.kS] at h)
  | .c v,_=>rfl
  | .nil,_=>rfl
  | .agg l,h=>IW (l:=l) h
  | .fA l,h=>IW (l:=l) h
  | .mP _ v,h=>JV (x:=v) h
  | .sf t,h=>by cases t<;>first|rfl|(simp [SV.kS] at h)
  | .slc [] _,h=>rfl
  | .slc (_::_) _,h=>by simp [SV.kS] at h
  | .vp ..,h=>by simp [SV.kS] at h
  | .fn ..,h=>by simp [SV.kS] at h
  | .os ..,h=>by simp [SV.kS] at h
  | .op ..,h=>by simp [SV.kS] at h
  | .mp _,h=>by simp [SV.kS] at h
theorem IW : ∀{l:List SV},acV l=true->zN (dQ ρ l)=true
  |[],_=>rfl
  |x::r,h=>by simp only [acV,ay] at h;simp only [dQ,zN,JV h.1,IW h.2,Bool.and_self]
end
end
 mutual
def SV.nrm : SV->SV
  | .nil=>.slc [] false
  | .sf t=>.sc .sl t
  | .agg l=>.agg (yC l)
  | .fA l=>.fA (yC l)
  | .slc r _=>.slc (aeN r) false
  | .vp row off=>.vp (yC row) off
  | .mP t v=>.mP t v.nrm
  |x=>x
def yC : List SV->List SV
  |[]=>[]
  |x::r=>x.nrm::yC r
def aeN : List (List SV)->List (List SV)
  |[]=>[]
  |x::r=>yC x::aeN r
end
section
variable {ρ : List AV}
 mutual
theorem ai2 : ∀{x:SV},(x.nrm.den ρ).jM=(x.den ρ).jM
  | .sc .. | .c _ | .nil | .sf _ | .agg _ | .fA _ | .slc .. | .vp .. | .fn .. | .mP .. | .os .. | .op .. | .mp _=>rfl
theorem Es : ∀{x:SV},Weak (x.den ρ) (x.nrm.den ρ)
  | .sc k t=>Weak.refl _
  | .c v=>Weak.refl _
  | .nil=>Weak.sl .nil true
  | .sf t=>Weak.sl (tZ.refl _) true
  | .agg l=>Weak.agg (sJ (l:=l))
  | .fA l=>Weak.fA (sJ (l:=l))
  | .slc r f=>Weak.sl (F5 (l:=r)) f
  | .vp row off=>Weak.vp (sJ (l:=row)) off
  | .fn ..=>Weak.refl _
  | .mP t v=>Weak.mP (Es (x:=v))
  | .os ..=>Weak.refl _
  | .op ..=>Weak.refl _
  | .mp _=>Weak.refl _
theorem sJ : ∀{l:List SV},yH (dQ ρ l) (dQ ρ (yC l))
  |[]=>.nil
  |x::r=>.cons Es ai2 sJ
theorem F5 : ∀{l:List (List SV)},tZ (iL ρ l) (iL ρ (aeN l))
  |[]=>.nil
  |x::r=>.cons sJ F5
end
end
def AhG (ρ:List AV)(g:Nat->Option SB)(ah:AH):Prop:=∀b k,g b=some k->ah b=some (k.den ρ)
def apl (th:Nat->Option SB)(b sz off:Nat)(len:Tm):Option SV:=
 match th b with
 |some (.rows sz' rs)=>match yB len with
  |some m=>bif Nat.beq sz sz'&&(Nat.ble (off+m) rs.length&&Dk rs) then some (.slc ((rs.drop off).take m) false) else none
  |none=>none
 |some (.fO sz' t)=>bif Nat.beq sz sz'&&(Nat.beq off 0&&len.beq (.rlen t)) then some (.sc .sl t) else none
 |_=>none
def apm (th:Nat->Option SB)(b sz:Nat)(i:Tm)(off:Nat):Option SV:=
 match th b with
 |some (.rows sz' rs)=>match yB i with
  |some m=>bif Nat.beq sz sz'&&Dk rs then (CG rs m).map fun row=>.vp row off else none
  |none=>none
 |_=>none
 mutual
def SV.mV (th:Nat->Option SB):SV->Option SV
  | .sc k t=>some (.sc k t)
  | .c v=>some (.c v)
  | .nil=>some (.slc [] false)
  | .sf t=>some (.sc .sl t)
  | .agg l=>match G8 th l with|some l=>some (.agg l)|none=>none
  | .fA l=>match G8 th l with|some l=>some (.fA l)|none=>none
  | .slc r _=>match L9 th r with|some r=>some (.slc r false)|none=>none
  | .vp row off=>match G8 th row with|some l=>some (.vp l off)|none=>none
  | .fn f x y=>match G8 th x,G8 th y with|some x,some y=>some (.fn f x y)|_,_=>none
  | .mP t v=>match v.mV th with|some v=>some (.mP t v)|none=>none
  | .os b sz off len=>apl th b sz off len
  | .op b sz i off=>apm th b sz i off
  | .mp _=>none
def G8 (th:Nat->Option SB):List SV->Option (List SV)
  |[]=>some []
  |x::r=>match x.mV th,G8 th r with|some a,some l=>some (a::l)|_,_=>none
def L9 (th:Nat->Option SB):List (List SV)->Option (List (List SV))
  |[]=>some []
  |x::r=>match G8 th x,L9 th r with|some a,some l=>some (a::l)|_,_=>none
end
section
variable {ρ : List AV} (hρ:iT ρ=true) {th:Nat->Option SB} {ah:AH} (ha:AhG ρ th ah)
 include hρ ha
theorem ai3 {b sz off:Nat}{len:Tm}{y:SV}(h:apl th b sz off len=some y):Go.Fw.mV ah (.os b sz off (len.den ρ).I.toNat)=some (y.den ρ):=by
 unfold apl at h
 split at h
 .rename_i sz' rs hb
  split at h
  .rename_i m hm
   cases h0:Nat.beq sz sz'&&(Nat.ble (off+m) rs.length&&Dk rs)
   .simp [h0] at h
   .simp only [h0,cond_true,au] at h;subst h
    simp only [ay] at h0
    simp only [Go.Fw.mV,ha _ _ hb,SB.den]
    rw [if_pos ⟨aA h0.1,by rw [(fU hm).2,f_];exact aG h0.2.1,Bc hρ h0.2.2⟩,(fU hm).2,yS,yT]
    rfl
  .cases h
 .rename_i sz' t hb
  cases h0:Nat.beq sz sz'&&(Nat.beq off 0&&len.beq (.rlen t))
  .simp [h0] at h
  .simp only [h0,cond_true,au] at h;subst h
   simp only [ay] at h0
   have e1:=aA h0.2.1
   have e2:=Tm.beq_eq h0.2.2
   subst e1;subst e2
   have e3:(Tm.den ρ t.rlen).I.toNat=(t.den ρ).R.length:=rfl
   simp only [Go.Fw.mV,ha _ _ hb,SB.den,e3]
   rw [if_pos ⟨aA h0.1,by simp,jV (Tm.qj hρ t)⟩]
   simp [SV.den,Kd.av]
 .cases h
theorem ai4 {b sz off:Nat}{i:Tm}{y:SV}(h:apm th b sz i off=some y):Go.Fw.mV ah (.op b sz (i.den ρ).I.toNat off)=some (y.den ρ):=by
 unfold apm at h
 split at h
 .rename_i sz' rs hb
  split at h
  .rename_i m hm
   cases h0:Nat.beq sz sz'&&Dk rs
   .simp [h0] at h
   .simp only [h0,cond_true,aB] at h
    obtain ⟨row,hrow,rfl⟩:=h
    simp only [ay] at h0
    simp only [Go.Fw.mV,ha _ _ hb,SB.den]
    rw [if_pos ⟨aA h0.1,Bc hρ h0.2⟩,(fU hm).2,JQ hrow]
    rfl
  .cases h
 .cases h
 mutual
theorem Nr : ∀{x y:SV},x.mV th=some y->Go.Fw.mV ah (x.den ρ)=some (y.den ρ)
  | .sc k t,y,h=>by
   simp only [SV.mV,au] at h;subst h
   cases k<;>first|rfl|(simp only [SV.den,Kd.av,Go.Fw.mV,IU (ah:=ah) (Tm.qj hρ t)];rfl)
  | .c v,y,h=>by simp only [SV.mV,au] at h;subst h;rfl
  | .nil,y,h=>by simp only [SV.mV,au] at h;subst h;rfl
  | .sf t,y,h=>by
   simp only [SV.mV,au] at h;subst h
   simp only [SV.den,Kd.av,Go.Fw.mV,IU (ah:=ah) (Tm.qj hρ t)];rfl
  | .agg l,y,h=>by
   simp only [SV.mV] at h
   split at h
   .rename_i m hm;simp only [au] at h;subst h;simp only [SV.den,Go.Fw.mV,xO hm];rfl
   .cases h
  | .fA l,y,h=>by
   simp only [SV.mV] at h
   split at h
   .rename_i m hm;simp only [au] at h;subst h;simp only [SV.den,Go.Fw.mV,xO hm];rfl
   .cases h
  | .slc r f,y,h=>by
   simp only [SV.mV] at h
   split at h
   .rename_i m hm;simp only [au] at h;subst h;simp only [SV.den,Go.Fw.mV,JW hm];rfl
   .cases h
  | .vp row off,y,h=>by
   simp only [SV.mV] at h
   split at h
   .rename_i m hm;simp only [au] at h;subst h;simp only [SV.den,Go.Fw.mV,xO hm];rfl
   .cases h
  | .fn f x z,y,h=>by
   simp only [SV.mV] at h
   split at h
   .rename_i m n hm hn;simp only [au] at h;subst h;simp only [SV.den,Go.Fw.mV,xO hm,xO hn];rfl
   .cases h
  | .mP t v,y,h=>by
   simp only [SV.mV] at h
   split at h
   .rename_i m hm;simp only [au] at h;subst h;simp only [SV.den,Go.Fw.mV,Nr hm];rfl
   .cases h
  | .os b sz off len,y,h=>ai3 hρ ha h
  | .op b sz i off,y,h=>ai4 hρ ha h
  | .mp _,y,h=>by simp [SV.mV] at h
theorem xO : ∀{l m:List SV},G8 th l=some m->xA ah (dQ ρ l)=some (dQ ρ m)
  |[],m,h=>by simp only [G8,au] at h;subst h;rfl
  |x::r,m,h=>by
   simp only [G8] at h
   split at h
   .rename_i a l ha' hl;simp only [au] at h;subst h;simp only [dQ,xA,Nr ha',xO hl];rfl
   .cases h
theorem JW : ∀{l m:List (List SV)},L9 th l=some m->yE ah (iL ρ l)=some (iL ρ m)
  |[],m,h=>by simp only [L9,au] at h;subst h;rfl
  |x::r,m,h=>by
   simp only [L9] at h
   split at h
   .rename_i a l ha' hl;simp only [au] at h;subst h;simp only [iL,yE,xO ha',JW hl];rfl
   .cases h
end
end
def thN (th:Tr SB):Nat->Nat->Option SB
 |0=>th.get
 |n+1=>fun b=>match th.get b with
  |some (.rows sz rs)=>bif Dk rs then some (.rows sz rs) else match L9 (thN th n) rs with
   |some r=>some (.rows sz r)
   |none=>none
  |k=>k
 mutual
theorem aeO {ρ:List AV}(hρ:iT ρ=true):∀{x:SV},(x.den ρ).clean=x.cln
  | .sc k t=>by cases k<;>first|rfl|exact jV (Tm.qj hρ t)
  | .c v=>rfl
  | .nil=>rfl
  | .sf t=>jV (Tm.qj hρ t)
  | .agg l=>Et hρ (l:=l)
  | .fA l=>Et hρ (l:=l)
  | .slc r _=>O4 hρ (l:=r)
  | .vp row _=>Et hρ (l:=row)
  | .fn _ x y=>by simp only [SV.den,AV.clean,SV.cln,Et hρ]
  | .mP _ v=>aeO hρ (x:=v)
  | .os ..=>rfl
  | .op ..=>rfl
  | .mp _=>rfl
theorem Et {ρ:List AV}(hρ:iT ρ=true):∀{l:List SV},kN (dQ ρ l)=IV l
  |[]=>rfl
  |x::r=>by simp only [dQ,kN,IV,aeO hρ,Et hρ]
theorem O4 {ρ:List AV}(hρ:iT ρ=true):∀{l:List (List SV)},jJ (iL ρ l)=Dk l
  |[]=>rfl
  |x::r=>by simp only [iL,jJ,Dk,Et hρ,O4 hρ]
end
theorem F6 {ρ:List AV}(hρ:iT ρ=true){th:Tr SB}{ah:AH}(ha:Fq ρ th ah):∀n,AhG ρ (thN th n) (xq ah n)
 |0=>ha
 |n+1=>fun b k h=>by
  have ih:=F6 hρ ha n
  simp only [thN] at h
  cases hb:th.get b with
  |none=>rw [hb] at h;cases h
  |some sb=>
   have hab:=ha b sb hb
   cases sb with
   |rows sz rs=>
    simp only [hb] at h
    simp only [xq,hab,SB.den,O4 hρ]
    cases hc:Dk rs
    .simp only [hc,cond_false] at h
     split at h
     .rename_i r hr
      simp only [au] at h;subst h
      simp only [cond_false,JW hρ ih hr];rfl
     .cases h
    .simp only [hc,cond_true,au] at h;subst h
     rfl
   |fO sz t=>
    simp only [hb,au] at h;subst h
    simp only [xq,hab,SB.den,jV (Tm.qj hρ t),cond_true]
   |map es=>simp only [hb,au] at h;subst h;simp only [xq,hab,SB.den]
   |Ad m t=>simp only [hb,au] at h;subst h;simp only [xq,hab,SB.den]
   |it m n k=>simp only [hb,au] at h;subst h;simp only [xq,hab,SB.den]
   |kL ty sz rs=>simp only [hb,au] at h;subst h;simp only [xq,hab,SB.den]
def rfT (th:Tr SB):List Nat->Option (List Nat)
 |[]=>some []
 |b::r=>match th.get b with
  |none=>none
  |some k=>match rfT th r with
   |none=>none
   |some l=>some ((match k with | .rows _ rs=>Dl rs|_=>[])++l)
def ai5 (th:Tr SB):Nat->List Nat->Option (List Nat)
 |0,l=>some l
 |n+1,l=>match l with
  |[]=>some []
  |_::_=>match rfT th l with
   |none=>none
   |some m=>match ai5 th n m with
    |none=>none
    |some r=>some (l++r)
theorem aeP {ρ:List AV}(hρ:iT ρ=true){th:Tr SB}{ah:AH}(ha:Fq ρ th ah):∀{l m:List Nat},rfT th l=some m->l.flatMap (CZ ah)=m
 |[],m,h=>by simp only [rfT,au] at h;subst h;rfl
 |b::r,m,h=>by
  simp only [rfT] at h
  split at h
  .cases h
  .rename_i k hk
   split at h
   .cases h
   .rename_i q hq
    simp only [au] at h;subst h
    rw [List.flatMap_cons,aeP hρ ha hq]
    simp only [CZ,ha b k hk]
    cases k with
    |rows sz rs=>simp only [SB.den,yX hρ]
    |fO sz t=>simp only [SB.den,oG (jV (Tm.qj hρ t))]
    |map es=>rfl
    |Ad m t=>rfl
    |it m n k=>rfl
    |kL ty sz rs=>rfl
theorem aeQ {ah:AH}:∀n,rch ah n []=[]
 |0=>rfl
 |n+1=>by simp only [rch,List.flatMap_nil,aeQ n,cZ]
theorem aad {ρ:List AV}(hρ:iT ρ=true){th:Tr SB}{ah:AH}(ha:Fq ρ th ah):∀(n:Nat) {l m:List Nat},ai5 th n l=some m->rch ah n l=m
 |0,l,m,h=>by simp only [ai5,au] at h;exact h
 |n+1,l,m,h=>by
  simp only [ai5] at h
  split at h
  .simp only [au] at h;subst h;exact aeQ _
  .split at h
   .cases h
   .rename_i q hq
    split at h
    .cases h
    .rename_i r hr
     simp only [au] at h;subst h
     simp only [rch]
     rw [aeP hρ ha hq,aad hρ ha n hr]
end Go.Fw
end
section
namespace Go.Fw
variable [jU]
section
variable {P : Program} {ρ:List AV} {pc:Pc} {id nv:Nat} {fr:lY} {ah:AH} {tr:Tr pI} {th:Tr SB} {K:rP->Prop}
def aeR (P:Program)(kv:TypeId->SV->Bool)(cs:List SV):List Field->Bool
 |[]=>true
 |f::fs=>(bif decide (f.name≠ "_") then (match Bj P f.type with|some ty=>(match DV ty cs f.offset with|some a=>kv f.type a|none=>false)|none=>false) else true)&&aeR P kv cs fs
def F7 (P:Program):Nat->TypeId->SV->Bool
 |0,_,_=>false
 |d+1,t,a=>match P.underlying t with
  |none=>false
  |some u=>match u,a with
   | .bool,.sc .bool _=>true
   | .int _,.sc (.int _) _=>true
   | .string,.sc .str _=>true
   | .struct fs,.agg cs=>aeR P (F7 P d) cs fs.toList
   |_,_=>false
theorem aae {kv:TypeId->SV->Bool}{ka:TypeId->AV->Bool}(hk:∀t x,kv t x=true->ka t (x.den ρ)=true){cs:List SV}:∀{fs:List Field},aeR P kv cs fs=true->aie P ka (dQ ρ cs) fs=true
 |[],_=>rfl
 |f::fs,h=>by
  simp only [aeR,ay] at h
  simp only [aie,ay]
  refine ⟨?_,aae hk h.2⟩
  have h1:=h.1
  by_cases hn:f.name≠ "_"
  .rw [if_pos hn]
   simp only [hn,not_false_eq_true,ne_eq,decide_true,cond_true] at h1
   split at h1
   .rename_i ty hty
    rw [hty]
    split at h1
    .rename_i a ha
     dsimp only
     rw [Tq ha]
     exact hk _ _ h1
    .cases h1
   .cases h1
  .rw [if_neg hn]
theorem O5 : ∀{d:Nat} {t:TypeId} {x:SV},F7 P d t x=true->Bv P d t (x.den ρ)=true
 |0,t,x,h=>by simp [F7] at h
 |d+1,t,x,h=>by
  unfold F7 at h
  unfold Bv
  split at h
  .cases h
  .rename_i u hu
   rw [hu]
   split at h
   .rfl
   .rfl
   .rfl
   .exact aae (kv:=F7 P d) (ka:=Bv P d) (fun t x=>O5) h
   .cases h
def aeS : SV->Bool
 | .sc .bool _ | .sc (.int _) _ | .sc .str _=>true
 |_=>false
def al7 : SV->Bool
 | .agg cs=>cs.all aeS
 |a=>aeS a
theorem aaf {x:SV}(h:aeS x=true):acn (x.den ρ)=true:=by
 unfold aeS at h
 split at h
 .rfl
 .rfl
 .rfl
 .cases h
theorem al8 {x:SV}(h:al7 x=true):aif (x.den ρ)=true:=by
 unfold al7 at h
 split at h
 .rename_i cs
  show (dQ ρ cs).all acn=true
  rw [nN,List.all_map,aH]
  intro y hy
  exact aaf (aH.1 h y hy)
 .rename_i hx
  have h1:=aaf (ρ:=ρ) h
  unfold aif
  split
  .rename_i cs e
   rw [e] at h1
   simp [acn] at h1
  .exact h1
def TF (P:Program)(t:TypeId):Option SV:=((P.info? t).bind (·.zero)).bind alX
theorem O6 {t:TypeId}{z:SV}(h:TF P t=some z):Ih P t=some (z.den ρ):=by
 unfold TF at h
 simp only [aV] at h
 obtain ⟨v,hv,hz⟩:=h
 unfold Ih
 simp only [aV]
 exact ⟨v,hv,ZU hz⟩
def WM (P:Program)(pc:Pc)(kt:TypeId)(k:SV):List (SV×SV)->Option (Option (Nat×SV))
 |[]=>some none
 |e::r=>match yEq P 10000 kt k e.1 with
  |none=>none
  |some t=>match pc.known t with
   |none=>none
   |some true=>some (some (0,e.2))
   |some false=>match WM P pc kt k r with
    |none=>none
    |some none=>some none
    |some (some q)=>some (some (q.1+1,q.2))
def Yq (ρ:List AV)(es:List (SV×SV)):List (AV×AV):=es.map fun e=>(e.1.den ρ,e.2.den ρ)
theorem Ns (hp:pc.holds ρ){kt:TypeId}{k:SV}:∀{es:List (SV×SV)} {r:Option (Nat×SV)},WM P pc kt k es=some r->yD P kt (k.den ρ) (Yq ρ es)=some (r.map fun q=>(q.1,q.2.den ρ))
 |[],r,h=>by simp only [WM,au] at h;subst h;rfl
 |e::es,r,h=>by
  simp only [WM] at h
  split at h
  .cases h
  .rename_i t ht
   have ht:=O0 (P:=P) (ρ:=ρ) ht
   simp only [Yq,aZ,yD,ht]
   split at h
   .cases h
   .rename_i hk
    simp only [au] at h;subst h
    rw [Pc.gV hp hk];rfl
   .rename_i hk
    rw [Pc.gV hp hk]
    dsimp only
    split at h
    .cases h
    .rename_i hf
     simp only [au] at h;subst h
     have:=Ns hp hf
     unfold Yq at this
     rw [this];rfl
    .rename_i q hf
     simp only [au] at h;subst h
     have:=Ns hp hf
     unfold Yq at this
     rw [this];rfl
def lkS (c:Bool)(v:SV)(ok:Bool):SV:=bif c then .fA [v,.sc .bool (.lb ok)] else v
theorem F8 {c ok:Bool}{v:SV}:(lkS c v ok).den ρ=Ii c (v.den ρ) ok:=by cases c<;>rfl
def Nu (P:Program)(t:TypeId)(id nv:Nat)(r:Option SV):Option SR:=
 match r with
 |none=>some ⟨.mp id,[(id,some (.map []))],[],[],nv⟩
 |some (.sc (.int _) _)=>match P.underlying t with
  |some (.map _ _)=>some ⟨.mp id,[(id,some (.map []))],[],[],nv⟩
  |_=>none
 |_=>none
theorem Qp {t:TypeId}{x:Option SV}{r:SR}(h:Nu P t id nv x=some r)(hK:K (r.den ρ)):Eb P t id (x.map (SV.den ρ)) K:=by
 unfold Nu at h
 split at h
 .simp only [au] at h;subst h;exact ⟨trivial,hK⟩
 .split at h
  .rename_i hu
   simp only [au] at h;subst h
   refine ⟨?_,hK⟩
   simp only [Option.map_some,SV.den,Kd.av,hu]
  .cases h
 .cases h
def lkT (c:Bool)(v:SV)(f:Tm):SV:=bif c then .fA [v,.sc .bool f] else v
theorem al9 {c:Bool}{v:SV}{f:Tm}:(lkT c v f).den ρ=Ii c (v.den ρ) (f.den ρ).B:=by cases c<;>rfl
def ars (P:Program)(nv:Nat)(et:TypeId):Option SV:=
 match FW P 20 et,P.underlying et with
 |some l,some d=>bif l.any (fun k=>decide (k=.sl)) then none else bif Ig d then some (.agg (iD nv [] 1 l)) else match l with | [k]=>some (.sc k (.var nv [1]))|_=>none
 |_,_=>none
def aru (P:Program)(pc:Pc)(th:Tr SB)(nv:Nat)(kt et:TypeId)(z m k:SV)(c:Bool):Option SR:=
 match m with
 | .c .mp=>some (.val nv (lkS c z false))
 | .mp b=>match th.get b with
  |some (.map es)=>match WM P pc kt k es with
   |none=>none
   |some none=>some ⟨lkS c z false,[],[b],[],nv⟩
   |some (some q)=>some ⟨lkS c q.2 true,[],[b],[],nv⟩
  |some (.Ad sh t)=>match ars P nv et with
   |none=>none
   |some v=>some ⟨lkT c v (.var nv [0]),[],[b],[.look kt sh t k z (.var nv [0]) v],nv+1⟩
  |_=>none
 |_=>none
def Yr (P:Program)(pc:Pc)(th:Tr SB)(nv:Nat)(t:TypeId)(m k:SV)(c:Bool):Option SR:=
 match P.underlying t with
 |some (.map kt et)=>bif F7 P 10000 kt k then (match TF P et with|some z=>aru P pc th nv kt et z m k c|none=>none) else none
 |_=>none
theorem acW {t:TypeId}{m k:SV}{c:Bool}{r:SR}(hp:pc.holds ρ)(ha:Fq ρ th ah)(h:Yr P pc th nv t m k c=some r)(hs:∀s∈r.sd,s.holds P ρ)(hK:K (r.den ρ)):CX P ah t (m.den ρ) (k.den ρ) c K:=by
 unfold Yr at h
 unfold CX
 split at h
 .rename_i kt et hu
  rw [hu]
  cases hk:F7 P 10000 kt k
  .simp [hk] at h
  .simp only [hk,cond_true] at h
   refine ⟨O5 hk,?_⟩
   split at h
   .rename_i z hz
    refine dH.2 ⟨_,O6 (ρ:=ρ) hz,?_⟩
    unfold aru at h
    split at h
    .simp only [au] at h;subst h
     rw [SR.sW,F8] at hK
     exact hK
    .rename_i b
     split at h
     .rename_i es hb
      show (match ah b with|some (.map es)=>_|_=>False)
      rw [ha _ _ hb]
      have hf:=fun r h=>Ns (ρ:=ρ) (P:=P) hp (r:=r) (kt:=kt) (k:=k) (es:=es) h
      split at h
      .cases h
      .rename_i hq
       simp only [au] at h;subst h
       refine dH.2 ⟨_,hf _ hq,?_⟩
       simp only [SR.den,F8] at hK
       exact hK
      .rename_i q hq
       simp only [au] at h;subst h
       refine dH.2 ⟨_,hf _ hq,?_⟩
       simp only [SR.den,F8] at hK
       exact hK
     .rename_i sh t hb
      show (match ah b with|some (.map es)=>_|_=>False)
      rw [ha _ _ hb]
      split at h
      .cases h
      .rename_i v hv
       simp only [au] at h;subst h
       obtain ⟨r,r1,r2,r3⟩:=hs _ bg
       refine dH.2 ⟨_,r1,?_⟩
       simp only [SR.den,al9,r2,r3] at hK
       cases r with
       |none=>exact hK
       |some q=>exact hK
     .cases h
    .cases h
   .cases h
 .cases h
def an1 (P:Program)(pc:Pc)(th:Tr SB)(nv:Nat)(kt:TypeId)(m k v:SV):Option SR:=
 match m with
 | .mp b=>match th.get b with
  |some (.map es)=>match WM P pc kt k es with
   |none=>none
   |some none=>some ⟨.c .undef,[(b,some (.map (es++[(k,v)])))],[b],[],nv⟩
   |some (some q)=>match CG es q.1 with
    |some e=>bif e.1.beq k then some ⟨.c .undef,[(b,some (.map (es.set q.1 (k,v))))],[b],[],nv⟩ else none
    |none=>none
  |some (.Ad sh t)=>some ⟨.c .undef,[(b,some (.Ad sh (.var nv [])))],[b],[.put kt sh t k v (.var nv [])],nv+1⟩
  |_=>none
 |_=>none
def Yt (P:Program)(pc:Pc)(th:Tr SB)(nv:Nat)(t:TypeId)(m k v:SV):Option SR:=
 match P.underlying t with
 |some (.map kt _)=>bif F7 P 10000 kt k&&al7 k then an1 P pc th nv kt m k v else none
 |_=>none
theorem TG {t:TypeId}{m k v:SV}{r:SR}(hp:pc.holds ρ)(ha:Fq ρ th ah)(h:Yt P pc th nv t m k v=some r)(hs:∀s∈r.sd,s.holds P ρ)(hK:K (r.den ρ)):CY P ah t (m.den ρ) (k.den ρ) (v.den ρ) K:=by
 unfold Yt at h
 unfold CY
 split at h
 .rename_i kt et hu
  rw [hu]
  cases hk:F7 P 10000 kt k&&al7 k
  .simp [hk] at h
  .simp only [hk,cond_true] at h
   simp only [ay] at hk
   refine ⟨O5 hk.1,al8 hk.2,?_⟩
   unfold an1 at h
   split at h
   .rename_i b
    split at h
    .rename_i es hb
     show (match ah b with|some (.map es)=>_|_=>False)
     rw [ha _ _ hb]
     have hf:=fun r h=>Ns (ρ:=ρ) (P:=P) hp (r:=r) (kt:=kt) (k:=k) (es:=es) h
     split at h
     .cases h
     .rename_i hq
      simp only [au] at h;subst h
      refine dH.2 ⟨_,hf _ hq,by simp,?_⟩
      simp only [SR.den,SB.den,SV.den,Cv.val,aZ,List.map_nil,Option.map_some,List.map_append] at hK
      exact hK
     .rename_i q hq
      split at h
      .rename_i e he
       cases hc:e.1.beq k
       .simp [hc] at h
       .simp only [hc,cond_true,au] at h;subst h
        have he':=SV.beq_eq hc
        rw [xG] at he
        refine dH.2 ⟨_,hf _ hq,?_,?_⟩
        .intro q' hq'
         simp only [Option.map_some,au] at hq'
         subst hq'
         simp [he,he']
        .simp only [SR.den,SB.den,SV.den,Cv.val,aZ,List.map_nil,Option.map_some,List.map_set] at hK
         exact hK
      .cases h
    .rename_i sh t hb
     show (match ah b with|some (.map es)=>_|_=>False)
     rw [ha _ _ hb]
     simp only [au] at h;subst h
     obtain ⟨r,r1,r2,r3⟩:=hs _ bg
     refine dH.2 ⟨_,r1,r2,?_⟩
     simp only [SR.den,SB.den,SV.den,Cv.val,aZ,List.map_nil,Option.map_some,r3] at hK
     exact hK
    .cases h
   .cases h
 .cases h
def ai6 (P:Program)(pc:Pc)(th:Tr SB)(nv:Nat)(t:TypeId)(x y:SV):Option SR:=
 match mQ P t with
 |none=>none
 |some e=>bif Nat.beq e.1 0 then none else
  match Np pc th e.1 y with
  |none=>none
  |some (ys,rd,l)=>
   match x with
   | .nil=>some ⟨.sc (.int .i64) (.li 0),[],rd,l,nv⟩
   | .os b sz off len=>bif Nat.beq sz e.1 then
     match th.get b with
     |some (.rows sz' rs)=>match yB len,ys with
      |some m,.cs rows=>bif Nat.beq sz sz'&&Nat.ble (off+m) rs.length then
       some ⟨.sc (.int .i64) (.li (.ofNat (min rows.length m))),[(b,some (.rows e.1 (rs.take off++rows.take m++rs.drop (off+min rows.length m))))],b::rd,l,nv⟩ else none
      |_,_=>none
     |some (.fO sz' xt)=>match ys,ayL pc len with
      | .ts yt,some l'=>bif Nat.beq sz sz'&&Nat.beq off 0 then
       some ⟨.sc (.int .i64) (ays (ltT (.rlen yt) len) (.rlen yt) len),[(b,some (.fO e.1 (.var nv [])))],b::rd,l++(l'++[.cpy xt len yt (.var nv [])]),nv+1⟩ else none
      |_,_=>none
     |_=>none
    else none
   |_=>none
theorem ai7 {t:TypeId}{x y:SV}{r:SR}(hp:pc.holds ρ)(ha:Fq ρ th ah)(h:ai6 P pc th nv t x y=some r)(hs:∀s∈r.sd,s.holds P ρ)(hK:K (r.den ρ)):VZ P ah t (x.den ρ) (y.den ρ) K:=by
 unfold ai6 at h
 split at h
 .cases h
 .rename_i e he
  cases h0:Nat.beq e.1 0
  .simp only [h0,cond_false] at h
   refine dH.2 ⟨e,he,?_⟩
   refine And.intro (fun e0=>by rw [e0] at h0;exact absurd h0 (by decide)) ?_
   split at h
   .cases h
   .rename_i ys rd l hy
    split at h
    .simp only [au] at h;subst h
     exact yU ha hy hs hK
    .rename_i b sz off len
     cases h1:Nat.beq sz e.1
     .simp [h1] at h
     .simp only [h1,cond_true] at h
      have e1:=aA h1
      split at h
      .rename_i sz' rs hb
       split at h
       .rename_i m rows hm
        cases h2:Nat.beq sz sz'&&Nat.ble (off+m) rs.length
        .simp [h2] at h
        .simp only [h2,cond_true,au] at h;subst h
         simp only [ay] at h2
         refine yU ha hy hs ?_
         show sz=e.1/\_
         refine ⟨e1,?_⟩
         rw [ha _ _ hb]
         refine ⟨aA h2.1,?_,?_⟩
         .rw [(fU hm).2,f_];exact aG h2.2
         .rw [(fU hm).2]
          simp only [Ys.den,f_,yT,yS,<- xH]
          exact hK
       .cases h
      .rename_i sz' xt hb
       split at h
       .rename_i yt l' hn
        cases h2:Nat.beq sz sz'&&Nat.beq off 0
        .simp [h2] at h
        .simp only [h2,cond_true,au] at h;subst h
         simp only [ay] at h2
         have e2:=aA h2.2
         subst e2
         refine yU ha hy (fun s hm=>hs s (by simp [hm])) ?_
         have hl0:=WI hp hn (fun s hm=>hs s (by simp [hm]))
         obtain ⟨c1,c2⟩:=hs (.cpy xt len yt (.var nv [])) (by simp)
         show sz=e.1/\_
         refine ⟨e1,?_⟩
         rw [ha _ _ hb]
         refine ⟨aA h2.1,by simpa using c1,?_⟩
         have hv2:((ays (ltT (.rlen yt) len) (.rlen yt) len).den ρ).I=((min (yt.den ρ).R.length (len.den ρ).I.toNat:Nat):Int):=by
          rw [yR]
          have e3:((ltT (.rlen yt) len).den ρ).B=decide (((yt.den ρ).R.length:Int)<(len.den ρ).I):=by
           rw [ltT,ou];rfl
          rw [e3]
          by_cases hlt:((yt.den ρ).R.length:Int)<(len.den ρ).I
          .rw [decide_eq_true hlt]
           show ((yt.den ρ).R.length:Int)=_
           omega
          .rw [decide_eq_false hlt]
           show (len.den ρ).I=_
           omega
         have:K ⟨.p (.int .i64 ((ays (ltT (.rlen yt) len) (.rlen yt) len).den ρ).I),[(b,some (.rows e.1 ((Tm.var nv []).den ρ).R))],b::rd⟩:=hK
         rw [hv2,c2] at this
         simpa [Ys.den] using this
       .cases h
      .cases h
    .cases h
  .simp [h0] at h
def aag : List SV->Option UInt8
 |[.sc (.int .u8) (.li (.ofNat n))]=>bif Nat.blt n 256 then some (UInt8.ofNat n) else none
 |_=>none
def DW : List (List SV)->Option (List UInt8)
 |[]=>some []
 |x::r=>match aag x with|none=>none|some b=>match DW r with|none=>none|some l=>some (b::l)
theorem ai8 {row:List SV}{b:UInt8}(h:aag row=some b):ayj (dQ ρ row)=some b:=by
 unfold aag at h
 split at h
 .rename_i n
  cases hn:Nat.blt n 256
  .simp [hn] at h
  .simp only [hn,cond_true,au] at h;subst h
   have:=LX hn
   show (bif decide (0<=(n:Int)/\(n:Int)<256) then some (UInt8.ofNat (n:Int).toNat) else none)=_
   have e:decide (0<=(n:Int)/\(n:Int)<256)=true:=by simp;omega
   rw [e];rfl
 .cases h
theorem WO : ∀{rows:List (List SV)} {l:List UInt8},DW rows=some l->(iL ρ rows).mapM ayj=some l
 |[],l,h=>by simp only [DW,au] at h;subst h;rfl
 |x::r,l,h=>by
  simp only [DW] at h
  split at h
  .cases h
  .rename_i b hb
   split at h
   .cases h
   .rename_i l' hl
    simp only [au] at h;subst h
    simp only [iL,List.mapM_cons,ai8 hb,WO hl,Option.pure_def,Option.bind_eq_bind,Option.bind_some]
def azd : SV->Bool | .sc .str _=>true|_=>false
def acX (P:Program)(pc:Pc)(th:Tr SB)(nv:Nat)(s:TypeId)(x:SV):Option SR:=
 bif (match P.underlying s with|some (.slice e)=>(match P.underlying e with|some (.int k)=>decide (k=.u8)|_=>false)|_=>false)&&!azd x then
  match Np pc th 1 x with
  |none=>none
  |some (.cs rows,rd,l)=>(DW rows).map fun b=>⟨.sc .str (.ls b),[],rd,l,nv⟩
  |some (.ts t,rd,l)=>some ⟨.sc .str (.bts t),[],rd,l++[.ao_ t],nv⟩
 else none
theorem WQ : ∀{ys:List (List AV)},(ys.mapM ayj).isSome=true->ys.mapM ayj=some (ys.map Ye)
 |[],_=>rfl
 |y::ys,h=>by
  cases hb:ayj y with
  |none=>simp [hb] at h
  |some b=>
   cases hr:ys.mapM ayj with
   |none=>simp [hb,hr] at h
   |some r=>
    have ih:=WQ (ys:=ys) (by rw [hr];rfl)
    rw [hr] at ih
    simp only [au] at ih
    simp [hb,hr,ih,Ye]
theorem agM {s d:TypeId}{x:SV}{r:SR}(hd:P.underlying d=some .string)(ha:Fq ρ th ah)(h:acX P pc th nv s x=some r)(hs:∀s∈r.sd,s.holds P ρ)(hK:K (r.den ρ)):aco P ah s d (x.den ρ) K:=by
 unfold acX at h
 generalize hg:((match P.underlying s with|some (.slice e)=>(match P.underlying e with|some (.int k)=>decide (k=.u8)|_=>false)|_=>false)&&!azd x)=g at h
 cases g
 .cases h
 .simp only [cond_true] at h
  simp only [ay] at hg
  obtain ⟨h1,h2⟩:=hg
  refine ⟨hd,?_,?_,?_⟩
  .split at h1
   .rename_i e hu
    split at h1
    .rename_i k hk
     rw [hu]
     show P.underlying e=_
     rw [hk,of_decide_eq_true h1]
    .cases h1
   .cases h1
  .cases x with
   |sc k t=>cases k<;>first|trivial|(simp [azd] at h2)
   |_=>trivial
  .split at h
   .cases h
   .rename_i rows rd l hy
    cases hb:DW rows with
    |none=>simp [hb] at h
    |some b=>
     simp only [hb,Option.map_some,au] at h;subst h
     exact yU ha hy hs (dH.2 ⟨_,WO hb,hK⟩)
   .rename_i t rd l hy
    simp only [au] at h;subst h
    refine yU ha hy (fun s hm=>hs s (by simp [hm])) ?_
    have hb:=hs (.ao_ t) (by simp)
    exact dH.2 ⟨_,WQ hb,hK⟩
def ai9 (P:Program)(pc:Pc)(th:Tr SB)(nv:Nat)(s d:TypeId)(x:SV):Option SR:=
 match P.underlying s,P.underlying d with
 |some (.slice _),some .string=>acX P pc th nv s x
 |_,_=>Tt P nv s d x
theorem ai_ {s d:TypeId}{x:SV}{r:SR}(ha:Fq ρ th ah)(h:ai9 P pc th nv s d x=some r)(hs:∀s∈r.sd,s.holds P ρ)(hK:K (r.den ρ)):Qa P ah s d (x.den ρ) K:=by
 unfold ai9 at h
 unfold Qa
 split at h
 .rename_i hu hd
  rw [hu,hd]
  exact agM hd ha h hs hK
 .rename_i hno
  have:=Z8 (P:=P) h hs hK
  split
  .rename_i h1 h2;exact (hno _ h1 h2).elim
  .exact this
def TI (P:Program)(nv:Nat)(t:TypeId)(x:SV):Option SR:=
 match P.underlying t with
 |none=>none
 |some (.interface _)=>none
 |some _=>some (.val nv (.mP t x))
theorem aah {t:TypeId}{x:SV}{r:SR}(h:TI P nv t x=some r)(hK:K (r.den ρ)):Il P t (x.den ρ) K:=by
 unfold TI at h
 split at h
 .cases h
 .cases h
 .rename_i d hn hu
  simp only [au] at h;subst h
  refine ⟨?_,hK⟩
  rw [hu]
  cases d with
  |interface l=>exact hn l rfl
  |_=>trivial
def sAs (P:Program)(nv:Nat)(w?:Option (Array (String×TypeId)))(x:SV)(a:TypeId)(c:Bool):Option SR:=
 match w?,x with
 |some want,.mP t v=>match P.info? t with
  |none=>none
  |some i=>match Instr.missingMethod want i.methods with|none=>some (.val nv (lkS c (.mP t v) true))|some _=>none
 |none,.mP t v=>bif Nat.beq t a then some (.val nv (lkS c v true)) else bif c then (TF P a).map fun z=>.val nv (lkS c z false) else none
 |_,.c .mP=>bif c then (TF P a).map fun z=>.val nv (lkS c z false) else none
 |_,_=>none
def Yu (P:Program)(nv:Nat)(x:SV)(a:TypeId)(c:Bool):Option SR:=
 match P.underlying a with
 |none=>none
 |some d=>sAs P nv (FH d) x a c
theorem acY {x:SV}{a:TypeId}{c:Bool}{r:SR}(h:Yu P nv x a c=some r)(hK:K (r.den ρ)):FI P (x.den ρ) a c K:=by
 unfold Yu at h
 split at h
 .cases h
 .rename_i d hd
  refine dH.2 ⟨d,hd,?_⟩
  unfold sAs at h
  split at h
  .rename_i want t v hq
   split at h
   .cases h
   .rename_i i hi
    split at h
    .rename_i hm
     simp only [au] at h;subst h
     rw [hq]
     rw [SR.sW,F8] at hK
     exact dH.2 ⟨i,hi,hm,hK⟩
    .cases h
  .rename_i t v hq
   rw [hq]
   cases h1:Nat.beq t a
   .simp only [h1,cond_false] at h
    cases c
    .cases h
    .simp only [cond_true,aB] at h
     obtain ⟨z,hz,rfl⟩:=h
     rw [SR.sW,F8] at hK
     exact .inr ⟨fun e=>by subst e;simp at h1,rfl,dH.2 ⟨_,O6 hz,hK⟩⟩
   .simp only [h1,cond_true,au] at h;subst h
    rw [SR.sW,F8] at hK
    exact .inl ⟨aA h1,hK⟩
  .cases c
   .cases h
   .simp only [cond_true,aB] at h
    obtain ⟨z,hz,rfl⟩:=h
    rw [SR.sW,F8] at hK
    have:true=true/\gu (Ih P a) fun z=>K (.val (Ii true z false)):=⟨rfl,dH.2 ⟨_,O6 hz,hK⟩⟩
    cases FH d<;>exact this
  .cases h
def O7 (nv:Nat)(x:SV):Option SR:=
 match x with
 | .vp _ _ | .op _ _ _ _ | .fn _ _ _=>some (.val nv x)
 |_=>none
theorem Yv {x:SV}{r:SR}(h:O7 nv x=some r)(hK:K (r.den ρ)):yM (x.den ρ) K:=by
 unfold O7 at h
 split at h
 .simp only [au] at h;subst h;exact hK
 .simp only [au] at h;subst h;exact hK
 .simp only [au] at h;subst h;exact hK
 .cases h
def acZ (P:Program)(th:Tr SB)(id nv:Nat)(t:TypeId)(m:SV):Option SR:=
 match P.underlying t with
 |some (.map _ _)=>(match m with
  | .mp b=>(match th.get b with
   |some (.map es)=>some ⟨.op id 1 (.li 0) 0,[(id,some (.it b (.li es.length) 0))],[b],[],nv⟩
   |some (.Ad _ t)=>some ⟨.op id 1 (.li 0) 0,[(id,some (.it b (.rlen t) 0))],[b],[],nv⟩
   |_=>none)
  |_=>none)
 |_=>none
theorem agN {t:TypeId}{m:SV}{r:SR}(ha:Fq ρ th ah)(h:acZ P th id nv t m=some r)(hK:K (r.den ρ)):Ij P ah id t (m.den ρ) K:=by
 unfold acZ at h
 unfold Ij
 split at h
 .rename_i kt et hu
  rw [hu]
  split at h
  .rename_i b
   split at h
   .rename_i es hb
    simp only [au] at h;subst h
    show (match ah b with|some (.map es)=>_|_=>False)
    rw [ha _ _ hb]
    simpa [SR.den,SB.den,SV.den,Tm.den,D.I] using hK
   .rename_i mk t hb
    simp only [au] at h;subst h
    show (match ah b with|some (.map es)=>_|_=>False)
    rw [ha _ _ hb]
    simpa [SR.den,SB.den,SV.den,Tm.den,D.I,m_] using hK
   .cases h
  .cases h
 .cases h
def aja (th:Tr SB)(nv:Nat)(x:SV)(str:Bool):Option SR:=
 bif str then none else
 match x with
 | .op q _ (.li 0) 0=>(match th.get q with
  |some (.it b n k)=>(match th.get b with
   |some (.map es)=>bif n.beq (.li es.length) then (match Nat.beq k es.length with
    |true=>some ⟨.fA [.sc .bool (.lb false)],[],[q,b],[],nv⟩
    |false=>bif Nat.beq (k+1) es.length then (match es[k]? with
     |some e=>some ⟨.fA [.sc .bool (.lb true),e.1,e.2],[(q,some (.it b n (k+1)))],[q,b],[],nv⟩
     |none=>none) else none) else none
   |_=>none)
  |_=>none)
 |_=>none
theorem ajb {x:SV}{str:Bool}{r:SR}(ha:Fq ρ th ah)(h:aja th nv x str=some r)(hK:K (r.den ρ)):RP ah (x.den ρ) str K:=by
 unfold aja at h
 cases str with
 |true=>cases h
 |false=>
  simp only [cond_false] at h
  split at h
  .rename_i q sz
   split at h
   .rename_i b n k hq
    split at h
    .rename_i es hb
     cases hn:n.beq (.li es.length)
     .simp [hn] at h
     .simp only [hn,cond_true] at h
      have hn:=Tm.beq_eq hn
      subst hn
      show (match ah q with|some (.it b n k)=>Ik ah q b n k K|_=>False)
      rw [ha _ _ hq]
      show Ik ah q b es.length k K
      unfold Ik
      rw [ha _ _ hb]
      refine ⟨by simp,?_⟩
      split at h
      .rename_i hk
       simp only [au] at h;subst h
       rw [hk]
       exact hK
      .rename_i hk
       rw [hk]
       cases hk1:Nat.beq (k+1) es.length
       .simp [hk1] at h
       .simp only [hk1,cond_true] at h
        split at h
        .rename_i e he
         simp only [au] at h;subst h
         exact ⟨aA hk1,dH.2 ⟨(e.1.den ρ,e.2.den ρ),by rw [bT,he];rfl,hK⟩⟩
        .cases h
    .cases h
   .cases h
  .cases h
def ac0 (th:Tr SB)(nv:Nat)(x:SV):Option SR:=
 match x with
 | .op q _ (.li 0) 0=>(match th.get q with
  |some (.it b n (k+1))=>(match th.get b with
   |some (.map es)=>bif n.beq (.li es.length) then (match es[k]? with
    |some e=>some ⟨.fA [e.1,e.2],[],[q,b],[],nv⟩
    |none=>none) else none
   |_=>none)
  |_=>none)
 |_=>none
theorem agO {x:SV}{r:SR}(ha:Fq ρ th ah)(h:ac0 th nv x=some r)(hK:K (r.den ρ)):Ll ah (x.den ρ) K:=by
 unfold ac0 at h
 split at h
 .rename_i q sz
  split at h
  .rename_i b n k hq
   split at h
   .rename_i es hb
    cases hn:n.beq (.li es.length)
    .simp [hn] at h
    .simp only [hn,cond_true] at h
     have hn:=Tm.beq_eq hn
     subst hn
     show (match ah q with|some (.it b n (k+1))=>FD ah q b n k K|_=>False)
     rw [ha _ _ hq]
     show FD ah q b es.length k K
     unfold FD
     rw [ha _ _ hb]
     refine ⟨by simp,?_⟩
     split at h
     .rename_i e he
      simp only [au] at h;subst h
      exact dH.2 ⟨(e.1.den ρ,e.2.den ρ),by rw [bT,he];rfl,hK⟩
     .cases h
   .cases h
  .cases h
 .cases h
def ac1 (P:Program)(th:Tr SB)(nv:Nat)(t:TypeId)(x:SV):Option SR:=
 match mQ P t with
 |none=>none
 |some e=>match (match P.underlying t with|some (.slice el)=>ayJ P el|_=>none) with
  |none=>none
  |some z=>bif Nat.beq e.1 0||!Nat.beq z.length e.1 then none else
   match x with
   | .os b sz off len=>bif Nat.beq sz e.1 then
     match th.get b with
     |some (.rows sz' rs)=>match yB len with
      |some m=>bif Nat.beq sz sz'&&Nat.ble (off+m) rs.length then
       some ⟨.fA [],[(b,some (.rows e.1 (rs.take off++List.replicate m z++rs.drop (off+m))))],[b],[],nv⟩ else none
      |none=>none
     |_=>none
    else none
   |_=>none
theorem agP {t:TypeId}{x:SV}{r:SR}(ha:Fq ρ th ah)(h:ac1 P th nv t x=some r)(hK:K (r.den ρ)):RS P ah t (x.den ρ) K:=by
 unfold ac1 at h
 split at h
 .cases h
 .rename_i e he
  split at h
  .cases h
  .rename_i z hz
   cases h0:Nat.beq e.1 0||!Nat.beq z.length e.1
   .simp only [h0,cond_false] at h
    simp only [aQ,Bool.not_eq_false'] at h0
    have hz':((P.underlying t).bind fun d=>match d with | .slice el=>aya P el|_=>none)=some (dQ ρ z):=by
     split at hz
     .rename_i el hu;rw [hu];exact Ba hz
     .cases hz
    refine dH.2 ⟨e,he,fun e0=>by rw [e0] at h0;exact absurd h0.1 (by decide),dH.2 ⟨_,hz',by rw [fZ];exact aA h0.2,?_⟩⟩
    split at h
    .rename_i b sz off len
     cases h1:Nat.beq sz e.1
     .simp [h1] at h
     .simp only [h1,cond_true] at h
      split at h
      .rename_i sz' rs hb
       split at h
       .rename_i m hm
        cases h2:Nat.beq sz sz'&&Nat.ble (off+m) rs.length
        .simp [h2] at h
        .simp only [h2,cond_true,au] at h;subst h
         simp only [ay] at h2
         refine ⟨aA h1,?_⟩
         rw [ha _ _ hb]
         refine ⟨aA h2.1,by rw [(fU hm).2,f_];exact aG h2.2,?_⟩
         rw [(fU hm).2]
         have:K ⟨.fA [],[(b,some (.rows e.1 (iL ρ (rs.take off++List.replicate m z++rs.drop (off+m)))))],[b]⟩:=hK
         rw [xH,xH,<- yT,<- yS] at this
         have e2:iL ρ (List.replicate m z)=List.replicate m (dQ ρ z):=by rw [lV,List.map_replicate]
         rw [e2] at this
         exact this
       .cases h
      .cases h
    .cases h
   .simp [h0] at h
end
end Go.Fw
end
section
namespace Go.Fw
variable [jU]
abbrev ql :=Pc->Nat->FuncId->List SV->Option (SV×Nat×List (Pc×Side)×Bool)
def jw (P:Program)(ρ:List AV)(l:List (Pc×Side)):Prop:=∀x∈l,Pc.holds ρ x.1->x.2.holds P ρ
def TJ : List (Pc×Side)->List Side
 |[]=>[]
 |x::r=>.under x.1 x.2::TJ r
theorem WS {P:Program}{ρ:List AV}:∀{l:List (Pc×Side)},(∀s∈TJ l,s.holds P ρ)->jw P ρ l
 |[],_,x,hx=>by simp at hx
 |y::r,h,x,hx=>by
  rcases bF.1 hx with rfl|hx
  .exact h (.under x.1 x.2) (by simp [TJ])
  .exact WS (l:=r) (fun s hs=>h s (by simp [TJ,hs])) x hx
def oJ (P:Program)(ρ:List AV)(X:ql):Prop:=∀pc nv f args r,X pc nv f args=some r->Pc.holds ρ pc->jw P ρ r.2.2.1->PC P f (dQ ρ args) (r.1.den ρ)/\(r.2.2.2=true->PCa P f (dQ ρ args) (r.1.den ρ))
 mutual
def F9 (th:Tr SB):Nat->SV->SV×Nat×List Side
  |nv,.os b sz off len=>match th.get b with
   |some (.fO sz' t)=>bif Nat.beq sz sz'&&(Nat.beq off 0&&!(len.beq (.rlen t))) then (.sc .sl (.var nv []),nv+1,[.sub sz t none (some len) (.var nv [])]) else (.os b sz off len,nv,[])
   |_=>(.os b sz off len,nv,[])
  |nv,.agg l=>(.agg (DX th nv l).1,(DX th nv l).2.1,(DX th nv l).2.2)
  |nv,.fA l=>(.fA (DX th nv l).1,(DX th nv l).2.1,(DX th nv l).2.2)
  |nv,.sc k t=>(.sc k t,nv,[])
  |nv,.c v=>(.c v,nv,[])
  |nv,.nil=>(.nil,nv,[])
  |nv,.sf t=>(.sf t,nv,[])
  |nv,.slc r f=>(.slc r f,nv,[])
  |nv,.vp r o=>(.vp r o,nv,[])
  |nv,.fn f x y=>(.fn f x y,nv,[])
  |nv,.mP t v=>(.mP t v,nv,[])
  |nv,.op b sz i o=>(.op b sz i o,nv,[])
  |nv,.mp b=>(.mp b,nv,[])
def DX (th:Tr SB):Nat->List SV->List SV×Nat×List Side
  |nv,[]=>([],nv,[])
  |nv,x::r=>((F9 th nv x).1::(DX th (F9 th nv x).2.1 r).1,(DX th (F9 th nv x).2.1 r).2.1,(F9 th nv x).2.2++(DX th (F9 th nv x).2.1 r).2.2)
end
section
variable {P : Program} {ρ:List AV} {ah:AH} {th:Tr SB} (hρ:iT ρ=true) (ha:Fq ρ th ah)
 include hρ ha
theorem al_ {nv b sz off n:Nat}{len:Tm}(hs:∀s∈(F9 th nv (.os b sz off len)).2.2,s.holds P ρ):Go.Fw.mV (xq ah n) ((SV.os b sz off len).den ρ)=Go.Fw.mV (xq ah n) ((F9 th nv (.os b sz off len)).1.den ρ):=by
 simp only [F9] at hs ⊢
 split
 .rename_i sz' t hb
  rw [hb] at hs
  dsimp only at hs
  cases h0:Nat.beq sz sz'&&(Nat.beq off 0&&!(len.beq (.rlen t)))
  .rfl
  .simp only [h0,cond_true] at hs ⊢
   simp only [ay] at h0
   obtain ⟨h1,h2,-⟩:=h0
   have h1:=aA h1
   have h2:=aA h2
   subst h1;subst h2
   obtain ⟨-,q1,q2,q3,q4⟩:=hs (.sub sz t none (some len) (.var nv [])) (by simp)
   simp only [Wy] at q1 q2 q3 q4
   have hcl:=jV (Tm.qj hρ t)
   show (match xq ah n b with|some (.rows sz' rs)=>if sz=sz'/\0+(len.den ρ).I.toNat<=rs.length/\jJ rs=true then some (AV.sl ((rs.drop 0).take (len.den ρ).I.toNat) false) else none|_=>none)=(yE (xq ah n) ((Tm.var nv []).den ρ).R).map fun r=>AV.sl r false
   rw [OQ (ha _ _ hb) hcl n,IU (Tm.qj hρ _),q4]
   dsimp only
   rw [if_pos ⟨rfl,by omega,hcl⟩]
   simp
 .rfl
 mutual
theorem TK {n:Nat}:∀{x:SV} {nv:Nat},(∀s∈(F9 th nv x).2.2,s.holds P ρ)->Go.Fw.mV (xq ah n) (x.den ρ)=Go.Fw.mV (xq ah n) ((F9 th nv x).1.den ρ)
  | .os b sz off len,nv,hs=>al_ hρ ha hs
  | .agg l,nv,hs=>by
   simp only [F9] at hs ⊢
   simp only [SV.den,Go.Fw.mV,IX (l:=l) hs]
  | .fA l,nv,hs=>by
   simp only [F9] at hs ⊢
   simp only [SV.den,Go.Fw.mV,IX (l:=l) hs]
  | .sc ..,nv,hs=>rfl
  | .c ..,nv,hs=>rfl
  | .nil,nv,hs=>rfl
  | .sf ..,nv,hs=>rfl
  | .slc ..,nv,hs=>rfl
  | .vp ..,nv,hs=>rfl
  | .fn ..,nv,hs=>rfl
  | .mP ..,nv,hs=>rfl
  | .op ..,nv,hs=>rfl
  | .mp ..,nv,hs=>rfl
theorem IX {n:Nat}:∀{l:List SV} {nv:Nat},(∀s∈(DX th nv l).2.2,s.holds P ρ)->xA (xq ah n) (dQ ρ l)=xA (xq ah n) (dQ ρ (DX th nv l).1)
  |[],nv,hs=>rfl
  |x::r,nv,hs=>by
   simp only [DX] at hs ⊢
   simp only [dQ,xA,TK (x:=x) (fun s h=>hs s (cO _ h)),IX (l:=r) (fun s h=>hs s (dh _ h))]
end
end
def aeT (P:Program)(X:ql)(pc:Pc)(nv:Nat)(f:FuncId)(args az:List SV)(rd:List Nat)(sd:List Side):Option SR:=
 match X pc nv f (yC az) with
 |some r=>bif IV args||(r.1.kS||r.2.2.2) then some ⟨r.1,[],rd,sd++TJ r.2.2.1,r.2.1⟩ else none
 |none=>match aiM P nv f with
  |none=>none
  |some r=>bif IV args||r.kS then some ⟨r,[],rd,sd++[.call f (yC az) r],nv+1⟩ else none
def ac2 (P:Program)(X:ql)(pc:Pc)(th:Tr SB)(nv:Nat)(f:FuncId)(args:List SV):Option SR:=
 match G8 (thN th ayi) (DX th nv args).1 with
 |none=>none
 |some az=>match ai5 th ayi (Ep args) with
  |none=>none
  |some rd=>aeT P X pc (DX th nv args).2.1 f args az rd (DX th nv args).2.2
section
variable {P : Program} {ρ:List AV} {pc:Pc} {id nv:Nat} {fr:lY} {ah:AH} {tr:Tr pI} {th:Tr SB} {K:rP->Prop} {X:ql}
theorem agQ {f:FuncId}{args:List SV}{r:SR}(hρ:iT ρ=true)(hX:oJ P ρ X)(hp:pc.holds ρ)(ha:Fq ρ th ah)(h:ac2 P X pc th nv f args=some r)(hs:∀s∈r.sd,s.holds P ρ)(hK:K (r.den ρ)):V3 P ah f (dQ ρ args) K:=by
 unfold ac2 at h
 split at h
 .cases h
 .rename_i az has
  split at h
  .cases h
  rename_i rd hrd
  unfold aeT at h
  have hw:∀w E vs,iE w E (dQ ρ az) vs->iE w E (dQ ρ (yC az)) vs:=fun w E vs hr=>
   iE.weak (sJ (ρ:=ρ)).length (fun i a b h1 h2=>((sJ (ρ:=ρ)).get i a b h1 h2).1) hr
  have fin:∀(v:SV) (b:Bool),(∀s∈(DX th nv args).2.2,s.holds P ρ)->(IV args||(v.kS||b))=true->PC P f (dQ ρ (yC az)) (v.den ρ)->(b=true->PCa P f (dQ ρ (yC az)) (v.den ρ))->K ⟨v.den ρ,[],rd⟩->V3 P ah f (dQ ρ args) K:=by
   intro v b hpre hc hp hpa hk
   refine dH.2 ⟨_,(IX hρ ha hpre).trans (xO hρ (F6 hρ ha ayi) has),dQ ρ (yC az),v.den ρ,hw,hp,?_,?_⟩
   .simp only [bf] at hc
    rcases hc with hc|hc|hc
    .exact .inl (xK hρ hc)
    .exact .inr (.inl (JV hc))
    .exact .inr (.inr (hpa hc))
   .rw [r_ hρ,aad hρ ha ayi hrd];exact hk
  split at h
  .rename_i v hv
   cases hc:IV args||(v.1.kS||v.2.2.2)
   .simp [hc] at h
   .simp only [hc,cond_true,au] at h;subst h
    have hu:=WS (P:=P) (ρ:=ρ) (l:=v.2.2.1) fun s hm=>hs s (dh _ hm)
    exact fin v.1 v.2.2.2 (fun s hm=>hs s (cO _ hm)) hc (hX _ _ f _ v hv hp hu).1 (hX _ _ f _ v hv hp hu).2 hK
  .split at h
   .cases h
   .rename_i v hv
    cases hc:IV args||v.kS
    .simp [hc] at h
    .simp only [hc,cond_true,au] at h;subst h
     exact fin v false (fun s hm=>hs s (cO _ hm)) (by simpa using hc) (hs (.call f (yC az) v) (by simp)) (fun h=>by cases h) hK
def ac3 (b:UInt8):List SV:=[.sc (.int .u8) (.li (.ofNat b.toNat))]
theorem TL {l:List UInt8}:iL ρ (l.map ac3)=l.map D_:=by
 rw [lV,List.map_map];rfl
theorem agR {row:List SV}{b:UInt8}(h:aag row=some b):dQ ρ row=D_ b:=by
 unfold aag at h
 split at h
 .rename_i n
  cases hn:Nat.blt n 256
  .simp [hn] at h
  .simp only [hn,cond_true,au] at h;subst h
   have:=LX hn
   have e:(UInt8.ofNat n).toNat=n:=by simp;omega
   simp only [D_,e]
   rfl
 .cases h
theorem Qq : ∀{rows:List (List SV)} {l:List UInt8},DW rows=some l->iL ρ rows=l.map D_
 |[],l,h=>by simp only [DW,au] at h;subst h;rfl
 |x::r,l,h=>by
  simp only [DW] at h
  split at h
  .cases h
  .rename_i b hb
   split at h
   .cases h
   .rename_i l' hl
    simp only [au] at h;subst h
    simp only [iL,aZ,agR (ρ:=ρ) hb,Qq hl]
def Yw (id:Nat)(el:TypeId)(pre:List (Nat×Option SB))(r:SR):Option SR:=
 match r with
 |⟨.os i sz 0 (.li (.ofNat n)),wr,rd,sd,nv⟩=>match wr.getLast? with
  |some (i',some (.rows sz' rows))=>match DW rows with
   |some l=>bif (Nat.beq i id&&Nat.beq i' id)&&(Nat.beq sz 1&&(Nat.beq sz' 1&&Nat.beq n l.length)) then some ⟨.os id 1 0 (.li (.ofNat l.length)),pre++[(id,some (.kL el 1 (l.map ac3)))],rd,sd,nv⟩ else none
   |none=>none
  |_=>none
 |_=>none
def ajc (P:Program)(pc:Pc)(th:Tr SB)(nv id:Nat)(t t2:TypeId)(x y:SV):Option SR:=
 match P.underlying t with
 |some (.slice el)=>match WJ x with
  | .nil=>match Nq P pc th nv id t t2 .nil y with
   |some ⟨v,[(i',k)],rd,sd,u_⟩=>Yw id el [] ⟨v,[(i',k)],rd,sd,u_⟩
   |_=>none
  | .os b sz off len=>match th.get b with
   |some (.kL ty sz' rs)=>bif Nat.beq ty el then
     match Nq P pc (th.upd yG b (some (.rows sz' rs))) nv id t t2 (.os b sz off len) y with
     |some ⟨v,[(b',none),(i',k)],rd,sd,u_⟩=>bif Nat.beq b' b&&rd.any (Nat.beq b) then Yw id el [(b,none)] ⟨v,[(b',none),(i',k)],rd,sd,u_⟩ else none
     |_=>none
    else none
   |_=>none
  |_=>none
 |_=>none
theorem WT {id:Nat}{el:TypeId}{pre:List (Nat×Option SB)}{r r':SR}(h:Yw id el pre r=some r'):∃(l:List UInt8) (rows:List (List SV)),r.v=.os id 1 0 (.li (.ofNat l.length))/\r.wr.getLast?=some (id,some (.rows 1 rows))/\iL ρ rows=l.map D_/\
  r'=⟨.os id 1 0 (.li (.ofNat l.length)),pre++[(id,some (.kL el 1 (l.map ac3)))],r.rd,r.sd,r.nv⟩:=by
 unfold Yw at h
 split at h
 .rename_i i sz n wr rd sd nv
  split at h
  .rename_i i' sz' rows hw
   split at h
   .rename_i l hl
    cases h0:(Nat.beq i id&&Nat.beq i' id)&&(Nat.beq sz 1&&(Nat.beq sz' 1&&Nat.beq n l.length))
    .simp [h0] at h
    .simp only [h0,cond_true,au] at h
     simp only [ay] at h0
     obtain rfl:=aA h0.1.1
     obtain rfl:=aA h0.1.2
     obtain rfl:=aA h0.2.1
     obtain rfl:=aA h0.2.2.1
     obtain rfl:=aA h0.2.2.2
     exact ⟨l,rows,rfl,hw,Qq hl,h.symm⟩
   .cases h
  .cases h
 .cases h
theorem ajd {t t2:TypeId}{x y:SV}{r:SR}(ha:Fq ρ th ah)(h:ajc P pc th nv id t t2 x y=some r)(hs:∀s∈r.sd,s.holds P ρ)(hK:K (r.den ρ)):Zq P id ah t t2 (x.den ρ) (y.den ρ) K:=by
 unfold ajc at h
 split at h
 .rename_i el hu
  rw [<- WL (x:=x)]
  generalize WJ x=x' at h ⊢
  split at h
  .split at h
   .rename_i v i' k rd sd u_ hq
    obtain ⟨l,rows,h1,h2,h3,rfl⟩:=WT (ρ:=ρ) h
    refine ⟨el,l,rd,hu,?_⟩
    refine ⟨L8 (K:=fun r=>r=_) ha hq hs ?_,?_⟩
    .simp only at h1;subst h1
     simp only [List.getLast?_singleton,au,aN] at h2
     obtain ⟨rfl,rfl⟩:=h2
     simp only [SR.den,SV.den,aZ,List.map_nil,Option.map_some,SB.den,h3]
     rfl
    .simp only [SR.den,aZ,List.map_nil,List.nil_append,Option.map_some,SB.den,TL] at hK
     exact hK
   .cases h
  .rename_i b sz off len
   split at h
   .rename_i ty sz' rs hb
    cases h0:Nat.beq ty el
    .simp [h0] at h
    .simp only [h0,cond_true] at h
     obtain rfl:=aA h0
     split at h
     .rename_i v b' i' k rd sd u_ hq
      cases h4:Nat.beq b' b&&rd.any (Nat.beq b)
      .simp [h4] at h
      .simp only [h4,cond_true] at h
       simp only [ay,List.any_eq_true] at h4
       obtain rfl:=aA h4.1
       obtain ⟨b2,hb2,hb3⟩:=h4.2
       obtain rfl:=aA hb3
       obtain ⟨l',rows,h1,h2,h3,rfl⟩:=WT (ρ:=ρ) h
       refine ⟨ty,l',rd,hu,?_⟩
       show (match ah b' with|some (.kL ty' avQ avR)=>_|_=>False)
       rw [ha _ _ hb]
       refine ⟨rfl,hb2,L8 (K:=fun r=>r=_) (ah:=upd ah b' (some (.rows sz' (iL ρ rs)))) ?_ hq hs ?_,?_⟩
       .intro b3 k3 hk3
        rcases Tr.o7 _ _ _ _ _ _ hk3 with ⟨rfl,e⟩|⟨hne,e⟩
        .simp only [au] at e;subst e
         rw [qy rfl];rfl
        .rw [ax7 hne];exact ha _ _ e
       .simp only at h1;subst h1
        simp only [List.getLast?_cons_cons,List.getLast?_singleton,au,aN] at h2
        obtain ⟨rfl,rfl⟩:=h2
        simp only [SR.den,SV.den,aZ,List.map_nil,Option.map_some,Option.map_none,SB.den,h3]
        rfl
       .simp only [SR.den,aZ,List.map_nil,bZ,List.nil_append,Option.map_some,Option.map_none,SB.den,TL] at hK
        exact hK
     .cases h
   .cases h
  .cases h
 .cases h
def aje (P:Program)(pc:Pc)(th:Tr SB)(nv id:Nat)(t t2:TypeId)(x y:SV):Option SR:=
 match ajc P pc th nv id t t2 x y with
 |some r=>some r
 |none=>Nq P pc th nv id t t2 x y
theorem ajf {t t2:TypeId}{x y:SV}{r:SR}(ha:Fq ρ th ah)(h:aje P pc th nv id t t2 x y=some r)(hs:∀s∈r.sd,s.holds P ρ)(hK:K (r.den ρ)):Zr P id ah t t2 (x.den ρ) (y.den ρ) K:=by
 unfold aje at h
 split at h
 .rename_i r' hr
  simp only [au] at h;subst h
  exact .inr (ajd ha hr hs hK)
 .exact .inl (L8 ha h hs hK)
def Yx (c:Tm):SV->SV->Option SV
 | .sc k x,.sc k' y=>bif decide (k=k') then some (.sc k (Tf k c x y)) else none
 |x,y=>bif x.beq y then some x else none
theorem TM {c:Tm}{x y z:SV}(h:Yx c x y=some z):z.den ρ=bif (c.den ρ).B then x.den ρ else y.den ρ:=by
 unfold Yx at h
 split at h
 .rename_i k x k' y
  by_cases hk:k=k'
  .subst hk
   simp only [decide_true,cond_true,au] at h;subst h
   exact Ti
  .simp [hk] at h
 .cases hb:x.beq y
  .simp [hb] at h
  .simp only [hb,cond_true,au] at h;subst h
   rw [SV.beq_eq hb];simp
def Qr (c:Tm):List SV->List SV->Option (List SV)
 |[],[]=>some []
 |x::r,y::s=>match Yx c x y,Qr c r s with|some z,some l=>some (z::l)|_,_=>none
 |_,_=>none
theorem O8 {c:Tm}:∀{x y z:List SV},Qr c x y=some z->dQ ρ z=bif (c.den ρ).B then dQ ρ x else dQ ρ y
 |[],[],z,h=>by simp only [Qr,au] at h;subst h;simp [dQ]
 |x::r,y::s,z,h=>by
  simp only [Qr] at h
  split at h
  .rename_i z l hz hl
   simp only [au] at h;subst h
   simp only [dQ,TM hz,O8 hl]
   cases (c.den ρ).B<;>rfl
  .cases h
 |[],_::_,z,h=>by simp [Qr] at h
 |_::_,[],z,h=>by simp [Qr] at h
def ajg (c:Tm):SV->SV->Option SV
 | .agg x,.agg y=>match Qr c x y with|some z=>some (.agg z)|none=>none
 | .fA x,.fA y=>match Qr c x y with|some z=>some (.fA z)|none=>none
 |x,y=>Yx c x y
theorem agS {c:Tm}{x y z:SV}(h:ajg c x y=some z):z.den ρ=bif (c.den ρ).B then x.den ρ else y.den ρ:=by
 unfold ajg at h
 split at h
 .split at h
  .rename_i z hz;simp only [au] at h;subst h;simp only [SV.den,O8 hz];cases (c.den ρ).B<;>rfl
  .cases h
 .split at h
  .rename_i z hz;simp only [au] at h;subst h;simp only [SV.den,O8 hz];cases (c.den ρ).B<;>rfl
  .cases h
 .exact TM h
def TN (pc:Pc)(tr:Tr pI):Option Operand->Option (Option SV)
 |none=>some none
 |some x=>match Ai pc tr x with|some v=>some (some v)|none=>none
theorem O9 {x:Option Operand}{v:Option SV}(hp:pc.holds ρ)(hf:WA ρ tr fr)(h:TN pc tr x=some v) :
  ∃l,VX fr (x.toList.map fun y=>((),y))=some l/\l.head?.map (·.2)=v.map (SV.den ρ):=by
 unfold TN at h
 split at h
 .simp only [au] at h;subst h;exact ⟨[],rfl,rfl⟩
 .rename_i x
  split at h
  .rename_i v hv
   simp only [au] at h;subst h
   exact ⟨[((),v.den ρ)],by simp [VX,iR hp hf hv],rfl⟩
  .cases h
def Rj (mx:Bool)(nv:Nat):List SV->Option SR
 |[.sc (.int k) a,.sc (.int k') b]=>bif decide (k=k') then some (.val nv (.sc (.int k) (bif mx then ays (ayd .lss (.int k) a b) b a else ays (ayd .lss (.int k) b a) b a))) else none
 |_=>none
theorem TP {mx:Bool}{l:List SV}{r:SR}(h:Rj mx nv l=some r)(hK:K (r.den ρ)):CW mx (dQ ρ l) fun a=>K (.val a):=by
 unfold Rj at h
 split at h
 .rename_i k a k' b
  by_cases hk:k=k'
  .subst hk
   simp only [decide_true,cond_true,au] at h;subst h
   refine ⟨rfl,?_⟩
   cases mx
   .simp only [cond_false,SR.sW,SV.den,Kd.av,yR,ou,qh,D.Di] at hK
    by_cases hlt:(b.den ρ).I<(a.den ρ).I
    .simp only [hlt,decide_true,cond_true] at hK;simpa [hlt] using hK
    .simp only [hlt,decide_false,cond_false] at hK;simpa [hlt] using hK
   .simp only [cond_true,SR.sW,SV.den,Kd.av,yR,ou,qh,D.Di] at hK
    by_cases hlt:(a.den ρ).I<(b.den ρ).I
    .simp only [hlt,decide_true,cond_true] at hK;simpa [hlt] using hK
    .simp only [hlt,decide_false,cond_false] at hK;simpa [hlt] using hK
  .simp [hk] at h
 .cases h
def sOp (P:Program)(X:ql)(pc:Pc)(tr:Tr pI)(th:Tr SB)(id nv:Nat)(op:Op):Option SR:=
 match op with
 | .move x | .assign x=>match Ai pc tr x with|some v=>some (.val nv v)|none=>none
 | .pick c a b=>match Ai pc tr c with
  |some (.sc .bool t)=>match pc.known t with
   |some true=>match Ai pc tr a with|some v=>some (.val nv v)|none=>none
   |some false=>match Ai pc tr b with|some v=>some (.val nv v)|none=>none
   |none=>match Ai ((t,true)::pc) tr a,Ai ((t,false)::pc) tr b with
    |some x,some y=>match ajg t x y with|some z=>some (.val nv z)|none=>none
    |_,_=>none
  |_=>none
 | .load t a=>match Ai pc tr a with|some a=>aeI P pc th nv t a|none=>none
 | .store t a v=>match Ai pc tr a,Ai pc tr v with|some a,some v=>acJ P pc th nv t a v|_,_=>none
 | .fieldAddr s x k=>match Ai pc tr x with|some a=>LV P nv s a k|none=>none
 | .field s x k=>match Ai pc tr x with|some a=>acK P nv s a k|none=>none
 | .indexAddr t x i=>match Ai pc tr x,Ai pc tr i with|some x,some i=>LW P pc nv t x i|_,_=>none
 | .index t x i=>match Ai pc tr x,Ai pc tr i with|some x,some i=>acM P pc nv t x i|_,_=>none
 | .extract x k=>match Ai pc tr x with|some x=>Tn nv x k|none=>none
 | .binOp o t x y _=>match Ai pc tr x,Ai pc tr y with|some x',some y'=>apc P pc nv o t (isC x||isC y) x' y' | _,_=>none
 | .unOp o _ x=>match Ai pc tr x with|some x=>sUn nv o x|none=>none
 | .convert s d x=>match Ai pc tr x with|some x=>ai9 P pc th nv s d x|none=>none
 | .makeMap t none=>Nu P t id nv none
 | .makeMap t (some r)=>match Ai pc tr r with|some r=>Nu P t id nv (some r)|none=>none
 | .lookup t m k c=>match Ai pc tr m,Ai pc tr k with|some m,some k=>Yr P pc th nv t m k c|_,_=>none
 | .mapUpdate t m k v | .insert t m k v=>match Ai pc tr m,Ai pc tr k,Ai pc tr v with|some m,some k,some v=>Yt P pc th nv t m k v|_,_,_=>none
 | .range t x=>match Ai pc tr x with|some x=>acZ P th id nv t x|none=>none
 | .next x str=>match Ai pc tr x with|some x=>aja th nv x str|none=>none
 | .entry x=>match Ai pc tr x with|some x=>ac0 th nv x|none=>none
 | .makeInterface t x=>match Ai pc tr x with|some x=>TI P nv t x|none=>none
 | .typeAssert x _ a c=>match Ai pc tr x with|some x=>Yu P nv x a c|none=>none
 | .nilCheck x=>match Ai pc tr x with|some x=>O7 nv x|none=>none
 | .slice t x lo hi mx=>match Ai pc tr x,TN pc tr lo,TN pc tr hi,TN pc tr mx with
  |some x,some lo,some hi,some mx=>Yn P pc th nv t x lo hi mx
  |_,_,_,_=>none
 | .build t parts=>match agt pc tr parts.toList with|some ps=>acT P nv t ps|none=>none
 | .buildSlice t len parts=>match agt pc tr parts.toList with|some ps=>IQ P nv t id len ps|none=>none
 | .box _ v=>match Ai pc tr v with|some v=>apj nv id v|none=>none
 | .alloc t=>acU P nv id t
 | .makeSlice t l c=>match Ai pc tr l,Ai pc tr c with|some l,some c=>LZ P nv id t l c|_,_=>none
 | .makeFunc f first captured=>match LU pc tr first.toList,LU pc tr captured.toList with|some x,some y=>WH nv f x y|_,_=>none
 | .call ⟨.builtin .len,args,ts⟩=>match LU pc tr args.toList,ts[0]? with|some [x],some t=>sLn P pc th nv t x|_,_=>none
 | .call ⟨.builtin .append,args,ts⟩=>match LU pc tr args.toList,ts[0]?,ts[1]? with|some [x,y],some t,some t2=>aje P pc th nv id t t2 x y|_,_,_=>none
 | .call ⟨.builtin .copy,args,ts⟩=>match LU pc tr args.toList,ts[0]? with|some [x,y],some t=>ai6 P pc th nv t x y|_,_=>none
 | .call ⟨.builtin .clear,args,ts⟩=>match LU pc tr args.toList,ts[0]? with|some [x],some t=>ac1 P th nv t x|_,_=>none
 | .call ⟨.builtin .min,args,_⟩=>match LU pc tr args.toList with|some l=>Rj false nv l|none=>none
 | .call ⟨.builtin .max,args,_⟩=>match LU pc tr args.toList with|some l=>Rj true nv l|none=>none
 | .call ⟨.value (.func f),args,_⟩=>match LU pc tr args.toList with|some l=>ac2 P X pc th nv f l|none=>none
 |_=>none
theorem Yy {op:Op}{r:SR}(hρ:iT ρ=true)(hX:oJ P ρ X)(hp:pc.holds ρ)(hf:WA ρ tr fr)(ha:Fq ρ th ah)(h:sOp P X pc tr th id nv op=some r)(hs:∀s∈r.sd,s.holds P ρ)(hK:K (r.den ρ)) :
  Zl P id fr ah op K:=by
 unfold sOp at h
 split at h
 .split at h
  .rename_i v hv;simp only [au] at h;subst h
   exact dH.2 ⟨_,iR hp hf hv,hK⟩
  .cases h
 .split at h
  .rename_i v hv;simp only [au] at h;subst h
   exact dH.2 ⟨_,iR hp hf hv,hK⟩
  .cases h
 .split at h
  .rename_i t ht
   refine dH.2 ⟨_,iR hp hf ht,?_⟩
   show aIf (t.den ρ).B _ _
   rw [CU]
   split at h
   .rename_i hk
    rw [if_pos (Pc.gV hp hk)]
    split at h
    .rename_i v hv;simp only [au] at h;subst h;exact dH.2 ⟨_,iR hp hf hv,hK⟩
    .cases h
   .rename_i hk
    rw [if_neg (by rw [Pc.gV hp hk];simp)]
    split at h
    .rename_i v hv;simp only [au] at h;subst h;exact dH.2 ⟨_,iR hp hf hv,hK⟩
    .cases h
   .split at h
    .rename_i x y hx hy
     split at h
     .rename_i z hz
      simp only [au] at h;subst h
      have hz':K (.val (z.den ρ)):=hK
      rw [agS hz] at hz'
      cases hb:(t.den ρ).B
      .rw [hb] at hz'
       rw [if_neg (by simp)]
       exact dH.2 ⟨_,iR (Pc.jo hb hp) hf hy,hz'⟩
      .rw [hb] at hz'
       rw [if_pos rfl]
       exact dH.2 ⟨_,iR (Pc.jo hb hp) hf hx,hz'⟩
     .cases h
    .cases h
  .cases h
 .split at h
  .rename_i a hv;exact dH.2 ⟨_,iR hp hf hv,ZW ha h hs hK⟩
  .cases h
 .split at h
  .rename_i a v h1 h2;exact dH.2 ⟨_,iR hp hf h1,dH.2 ⟨_,iR hp hf h2,agv ha h hs hK⟩⟩
  .cases h
 .split at h
  .rename_i a hv;exact dH.2 ⟨_,iR hp hf hv,VA h hK⟩
  .cases h
 .split at h
  .rename_i a hv;exact dH.2 ⟨_,iR hp hf hv,agw h hK⟩
  .cases h
 .split at h
  .rename_i a v h1 h2;exact dH.2 ⟨_,iR hp hf h1,dH.2 ⟨_,iR hp hf h2,VB hp h hs hK⟩⟩
  .cases h
 .split at h
  .rename_i a v h1 h2;exact dH.2 ⟨_,iR hp hf h1,dH.2 ⟨_,iR hp hf h2,agy hp h hs hK⟩⟩
  .cases h
 .split at h
  .rename_i a hv;exact dH.2 ⟨_,iR hp hf hv,ZX h hK⟩
  .cases h
 .split at h
  .rename_i a v h1 h2;exact dH.2 ⟨_,iR hp hf h1,dH.2 ⟨_,iR hp hf h2,al2 hp h hs hK⟩⟩
  .cases h
 .split at h
  .rename_i a hv;exact dH.2 ⟨_,iR hp hf hv,apf h hK⟩
  .cases h
 .split at h
  .rename_i a hv;exact dH.2 ⟨_,iR hp hf hv,ai_ ha h hs hK⟩
  .cases h
 .exact Qp h hK
 .split at h
  .rename_i a hv;exact dH.2 ⟨_,iR hp hf hv,Qp h hK⟩
  .cases h
 .split at h
  .rename_i a v h1 h2;exact dH.2 ⟨_,iR hp hf h1,dH.2 ⟨_,iR hp hf h2,acW hp ha h hs hK⟩⟩
  .cases h
 .split at h
  .rename_i a v u h1 h2 h3;exact dH.2 ⟨_,iR hp hf h1,dH.2 ⟨_,iR hp hf h2,dH.2 ⟨_,iR hp hf h3,TG hp ha h hs hK⟩⟩⟩
  .cases h
 .split at h
  .rename_i a v u h1 h2 h3;exact dH.2 ⟨_,iR hp hf h1,dH.2 ⟨_,iR hp hf h2,dH.2 ⟨_,iR hp hf h3,TG hp ha h hs hK⟩⟩⟩
  .cases h
 .split at h
  .rename_i a hv;exact dH.2 ⟨_,iR hp hf hv,agN ha h hK⟩
  .cases h
 .split at h
  .rename_i a hv;exact dH.2 ⟨_,iR hp hf hv,ajb ha h hK⟩
  .cases h
 .split at h
  .rename_i a hv;exact dH.2 ⟨_,iR hp hf hv,agO ha h hK⟩
  .cases h
 .split at h
  .rename_i a hv;exact dH.2 ⟨_,iR hp hf hv,aah h hK⟩
  .cases h
 .split at h
  .rename_i a hv;exact dH.2 ⟨_,iR hp hf hv,acY h hK⟩
  .cases h
 .split at h
  .rename_i a hv;exact dH.2 ⟨_,iR hp hf hv,Yv h hK⟩
  .cases h
 .split at h
  .rename_i x lo hi mx h1 h2 h3 h4
   obtain ⟨l,l1,l2⟩:=O9 hp hf h2
   obtain ⟨j,j1,j2⟩:=O9 hp hf h3
   obtain ⟨m,m1,m2⟩:=O9 hp hf h4
   refine dH.2 ⟨_,iR hp hf h1,dH.2 ⟨l,l1,dH.2 ⟨j,j1,dH.2 ⟨m,m1,?_⟩⟩⟩⟩
   rw [l2,j2,m2]
   exact acS hp ha h hs hK
  .cases h
 .split at h
  .rename_i ps h1;exact dH.2 ⟨_,Yh hp hf h1,agH h hK⟩
  .cases h
 .split at h
  .rename_i ps h1;exact dH.2 ⟨_,Yh hp hf h1,TD h hK⟩
  .cases h
 .split at h
  .rename_i a hv;exact dH.2 ⟨_,iR hp hf hv,al5 h hK⟩
  .cases h
 .exact agI h hK
 .split at h
  .rename_i a v h1 h2;exact dH.2 ⟨_,iR hp hf h1,dH.2 ⟨_,iR hp hf h2,VD h hs hK⟩⟩
  .cases h
 .split at h
  .rename_i x y h1 h2
   refine dH.2 ⟨_,vN hp hf h1,dH.2 ⟨_,vN hp hf h2,?_⟩⟩
   unfold WH at h
   split at h
   .simp only [au] at h;subst h;exact hK
   .cases h
  .cases h
 .split at h
  .rename_i x t h1 h2
   refine dH.2 ⟨_,vN hp hf h1,?_⟩
   exact dH.2 ⟨_,h2,apk hp ha h hs hK⟩
  .cases h
 .split at h
  .rename_i x y t t2 h1 h2 h3
   refine dH.2 ⟨_,vN hp hf h1,?_⟩
   exact dH.2 ⟨_,h2,dH.2 ⟨_,h3,ajf ha h hs hK⟩⟩
  .cases h
 .split at h
  .rename_i x y t h1 h2
   refine dH.2 ⟨_,vN hp hf h1,?_⟩
   exact dH.2 ⟨_,h2,ai7 hp ha h hs hK⟩
  .cases h
 .split at h
  .rename_i x t h1 h2
   refine dH.2 ⟨_,vN hp hf h1,?_⟩
   exact dH.2 ⟨_,h2,agP ha h hK⟩
  .cases h
 .split at h
  .rename_i l h1;exact dH.2 ⟨_,vN hp hf h1,TP h hK⟩
  .cases h
 .split at h
  .rename_i l h1;exact dH.2 ⟨_,vN hp hf h1,TP h hK⟩
  .cases h
 .split at h
  .rename_i l h1;exact dH.2 ⟨_,vN hp hf h1,agQ hρ hX hp ha h hs hK⟩
  .cases h
 .cases h
end
end Go.Fw
end
section
namespace Go.Fw
variable [jU]
def ac4 (b:Nat)(l:List Nat):Bool:=l.any (fun c=>Nat.beq c b)
theorem TQ {b:Nat}{l:List Nat}(h:ac4 b l=false):b∉l:=by
 intro hm
 unfold ac4 at h
 rw [List.any_eq_false] at h
 exact h b hm (by simp)
def ayx (M:List Nat)(i:Nat)(rd wr:List Nat)(f:IE):Bool:=
 (M.getD i 0).testBit f.i||(f.wr.all (fun b=>!ac4 b rd&&!ac4 b wr)&&f.rd.all fun b=>!ac4 b wr)
theorem WU {M:List Nat}{i:Nat}{rd wr:List Nat}{f:IE}(h1:ayx M i rd wr f=true):X8 M i rd wr f:=by
 unfold ayx at h1
 unfold X8
 simp only [bf,ay,aH,Bool.not_eq_true'] at h1
 rcases h1 with h1|⟨h1,h2⟩
 .exact .inl h1
 .exact .inr ⟨fun b hb=>⟨TQ (h1 b hb).1,TQ (h1 b hb).2⟩,fun b hb=>TQ (h2 b hb)⟩
def wrT (th:Tr SB):List (Nat×Option SB)->Tr SB
 |[]=>th
 |(b,k)::r=>wrT (th.upd yG b k) r
theorem O_ {ρ:List AV}:∀{wr:List (Nat×Option SB)} {th:Tr SB} {ah:AH},Fq ρ th ah->Fq ρ (wrT th wr) (qU ah (wr.map fun x=>(x.1,x.2.map (SB.den ρ))))
 |[],th,ah,h=>h
 |(b,k)::r,th,ah,h=>by
  refine O_ (wr:=r) (th:=th.upd yG b k) fun j y hj=>?_
  rcases Tr.o7 _ _ _ _ _ _ hj with ⟨rfl,e⟩|⟨hne,e⟩
  .subst e;rw [qy rfl];rfl
  .rw [ax7 hne];exact h j y e
def tag (pc:Pc)(l:List Side)(acc:List (Pc×Side)):List (Pc×Side):=l.map (fun s=>(pc,s))++acc
theorem Gf {P:Program}{ρ:List AV}{pc:Pc}{l:List Side}{acc:List (Pc×Side)}(h:jw P ρ (tag pc l acc)):(pc.holds ρ->∀s∈l,s.holds P ρ)/\jw P ρ acc:=
 ⟨fun hp s hs=>h (pc,s) (by simp [tag,hs]) hp,fun x hx=>h x (by simp [tag,hx])⟩
inductive When where
 |yes
 |no
 |maybe (l:Pc)
def aeU (ops:Array Oper)(pc:Pc)(tr:Tr pI)(o:Oper):Option When:=
 match o.guard with
 |none=>some .yes
 |some (j,want)=>match (ops[j]?).bind (·.dst) with
  |none=>none
  |some d=>match tr.get d with
   |none=>none
   |some e=>match e.v with
    | .sc .bool t=>match e.h with
     |[]=>match pc.known t with
      |some b=>some (bif b == want then .yes else .no)
      |none=>some (.maybe [(t,want)])
     |h=>match Pc.known (h++pc) t with
      |some b=>some (bif b == want then .maybe h else .no)
      |none=>some (.maybe ((t,want)::h))
    | .c .undef=>some .no
    |_=>none
def Nv (tr:Tr pI)(d:Option Nat)(e:pI):Tr pI:=match d with|some d=>tr.upd yG d (some e)|none=>tr
def TR (N:Nat):Option Nat->Bool|some d=>Nat.blt d N|none=>true
section
variable {P : Program} {ρ:List AV} {pc:Pc} {fr:lY} {ah:AH} {tr:Tr pI} {th:Tr SB} {X:ql}
theorem xP {N:Nat}{d:Option Nat}{e:pI}(hf:WA ρ tr fr)(hd:TR N d=true)(hN:fr.length=N):WA ρ (Nv tr d e) (yx fr d (e.den ρ)):=by
 cases d with
 |none=>exact hf
 |some d=>
  intro t x hx
  have hlt:d<fr.length:=by rw [hN];exact LX hd
  simp only [yx,uF]
  rcases Tr.o7 _ _ _ _ _ _ hx with ⟨rfl,e1⟩|⟨hne,e1⟩
  .simp only [au] at e1;subst e1;rw [if_pos ⟨rfl,hlt⟩]
  .rw [if_neg (fun h=>hne h.1)];exact hf t x e1
theorem mg {d:Option Nat}{a:AV}:(yx fr d a).length=fr.length:=by cases d<;>simp [yx,iy]
theorem Pc.Gg {l:Pc}(h:l.all (fun x=>(x.1.den ρ).B == x.2)=true)(hp:pc.holds ρ):Pc.holds ρ (l++pc):=by
 intro x hx
 rw [aK] at hx
 rcases hx with hx|hx
 .rw [aH] at h;simpa using h x hx
 .exact hp x hx
def When.sem (ρ:List AV):When->Bool->Prop
 | .yes,b=>b=true
 | .no,b=>b=false
 | .maybe l,b=>b=l.all (fun x=>(x.1.den ρ).B == x.2)
theorem BG {ops:Array Oper}{o:Oper}{wn:When}(hp:pc.holds ρ)(hf:WA ρ tr fr)(h:aeU ops pc tr o=some wn){k:Bool->Prop}(hk:∀b,wn.sem ρ b->k b):nH ops fr o k:=by
 unfold aeU at h
 unfold nH
 split at h
 .rename_i hg
  simp only [au] at h;subst h
  rw [hg];exact hk _ rfl
 .rename_i j want hg
  rw [hg]
  split at h
  .cases h
  .rename_i d hd
   refine dH.2 ⟨d,hd,?_⟩
   split at h
   .cases h
   .rename_i e he
    refine dH.2 ⟨_,hf d e he,?_⟩
    obtain ⟨eh,ev⟩:=e
    dsimp only at h
    split at h
    .rename_i t
     split at h
     .split at h
      .rename_i b hb
       simp only [au] at h;subst h
       have hb':=Pc.gV hp hb
       show k ((t.den ρ).B == want)
       rw [hb']
       refine hk _ ?_
       cases hbw:b == want<;>rfl
      .simp only [au] at h;subst h
       show k ((t.den ρ).B == want)
       exact hk _ (by simp [When.sem])
     .split at h
      .rename_i b hb
       simp only [au] at h;subst h
       simp only [pI.den]
       cases ha:eh.all (fun x=>(x.1.den ρ).B == x.2)
       .refine hk false ?_
        cases hbw:b == want
        .simp [When.sem]
        .simp [When.sem,ha]
       .have hb':=Pc.gV (Pc.Gg ha hp) hb
        refine hk ((t.den ρ).B == want) ?_
        rw [hb']
        cases hbw:b == want
        .simp [When.sem]
        .simp [When.sem,ha]
      .simp only [au] at h;subst h
       simp only [pI.den]
       cases ha:eh.all (fun x=>(x.1.den ρ).B == x.2)
       .exact hk false (by simp [When.sem,ha])
       .exact hk _ (by simp [When.sem,ha])
    .simp only [au] at h;subst h
     simp only [pI.den]
     cases ha:eh.all (fun x=>(x.1.den ρ).B == x.2)<;>exact hk false rfl
    .cases h
end
end Go.Fw
end
section
namespace Go.Fw
variable [jU]
theorem vO {w:World}{E E':Env}(hf:∀c o,E.fix c o->E'.fix c o){a:AV}{v:Value}(h:Rep w E a v):(∀b∈a.refs,E'.own b=E.own b)->Rep w E' a v:=by
 induction h with
 |p h=>intro _;exact .p h
 |str s l h=>intro _;exact .str s l h
 |agg cs vs hl hs _ ih=>intro hr;exact .agg cs vs hl hs (fun i c v hc hv=>ih i c v hc hv (fun b hb=>hr b (jv i c hc hb)))
 |fA cs vs hl _ ih=>intro hr;exact .fA cs vs hl (fun i c v hc hv=>ih i c v hc hv (fun b hb=>hr b (jv i c hc hb)))
 |slnil full a=>intro _;exact .slnil full a
 |sl rows full sz c o cap g hcap hfull hsz hfix hcell jO _ ih=>
  intro hr
  exact .sl rows full sz c o cap g hcap hfull hsz (fun i row j x h1 h2=>hf _ _ (hfix i row j x h1 h2)) hcell jO (fun i row j x h1 h2=>ih i row j x h1 h2 (fun b hb=>hr b (vZ i row h1 (jv j x h2 hb))))
 |vp row off c o g hfix hcell jO _ ih=>
  intro hr
  exact .vp row off c o g (fun j x h=>hf _ _ (hfix j x h)) hcell jO (fun j x h=>ih j x h (fun b hb=>hr b (jv j x h hb)))
 |mM b sz off a hb=>intro hr;exact .mM b sz off a (by rw [hr b (by simp [AV.refs])];exact hb)
 |os b sz off len c o cap hb hcap hsize=>intro hr;exact .os b sz off len c o cap (by rw [hr b (by simp [AV.refs])];exact hb) hcap hsize
 |op b sz row off c o hb=>intro hr;exact .op b sz row off c o (by rw [hr b (by simp [AV.refs])];exact hb)
 |fn f first captured vs us hl hl' _ _ ih ih'=>
  intro hr
  exact .fn f first captured vs us hl hl' (fun i c v hc hv=>ih i c v hc hv (fun b hb=>hr b (by simp only [AV.refs,aK];exact .inl (jv i c hc hb))))
   (fun i c v hc hv=>ih' i c v hc hv (fun b hb=>hr b (by simp only [AV.refs,aK];exact .inr (jv i c hc hb))))
 |mP t a v _ ih=>intro hr;exact .mP t a v (ih hr)
 |mp b c hb=>intro hr;exact .mp b c (by rw [hr b (by simp [AV.refs])];exact hb)
def SB.FZ : SB->List Nat
 | .rows _ rs=>Dl rs
 | .fO _ _=>[]
 | .Ad _ _=>[]
 | .map es=>Ep (es.map (·.1))++Ep (es.map (·.2))
 | .it m _ _=>[m]
 | .kL _ _ rs=>Dl rs
def vH.wH : vH->List Nat
 | .rows _ rs=>mW rs
 | .map es=>mO (es.map (·.1))++mO (es.map (·.2))
 | .it m _ _=>[m]
 | .kL _ _ rs=>mW rs
theorem qW.env {base:Nat}{w:World}{E E':Env}{b:Nat}{k:vH}(h:qW base w E b k)(hf:∀c o,E.fix c o->E'.fix c o)(hn:∀c o off,E.own b=.at c o->E'.fix c off->E.fix c off)(hb:E'.own b=E.own b)
  (hr:∀x∈k.wH,E'.own x=E.own x):qW base w E' b k:=by
 cases k with
 |rows sz rs=>
  rcases h with ⟨q1,q2⟩|⟨c,o,arr,ty,q1,q2,q3,q4,q5,q6,q7,q8⟩
  .exact .inl ⟨by rw [hb];exact q1,q2⟩
  .refine .inr ⟨c,o,arr,ty,by rw [hb];exact q1,q2,fun off h0=>q3 off (hn c o off q1 h0),q4,q5,q6,q7,fun i row j x hi hj=>?_⟩
   obtain ⟨v,hv,hx⟩:=q8 i row j x hi hj
   exact ⟨v,hv,vO hf hx fun y hy=>hr y (vZ i row hi (jv j x hj hy))⟩
 |map es=>
  obtain ⟨c,lJ,clock,q1,q2,q3,q4,q5,q6,q7⟩:=h
  refine ⟨c,lJ,clock,by rw [hb];exact q1,q2,fun off h0=>q3 off (hn c 0 off q1 h0),q4,q5,fun i e ce hi hc=>?_,q7⟩
  obtain ⟨r1,r2,r3⟩:=q6 i e ce hi hc
  refine ⟨vO hf r1 fun y hy=>hr y ?_,vO hf r2 fun y hy=>hr y ?_,r3⟩
  .exact aK.2 (.inl (jv i e.1 (by simp [hi]) hy))
  .exact aK.2 (.inr (jv i e.2 (by simp [hi]) hy))
 |it m n k=>
  obtain ⟨c,cm,q1,q2,q3,q4,q5⟩:=h
  exact ⟨c,cm,by rw [hb];exact q1,q2,fun off h0=>q3 off (hn c 0 off q1 h0),q4,by rw [hr m (by simp [vH.wH])];exact q5⟩
 |kL ty sz rs=>
  rcases h with ⟨q1,q2⟩|⟨c,o,arr,q1,q2,q3,q4,q5,q6,q7,q8⟩
  .exact .inl ⟨by rw [hb];exact q1,q2⟩
  .refine .inr ⟨c,o,arr,by rw [hb];exact q1,q2,fun off h0=>q3 off (hn c o off q1 h0),q4,q5,q6,q7,fun i row j x hi hj=>?_⟩
   obtain ⟨v,hv,hx⟩:=q8 i row j x hi hj
   exact ⟨v,hv,vO hf hx fun y hy=>hr y (vZ i row hi (jv j x hj hy))⟩
def Env.part (E:Env)(oq:AH):Env:=⟨E.fix,fun b=>if (oq b).isSome then E.own b else .free⟩
section
variable {base : Nat} {w:World} {E:Env} {qX oq:AH} {F:Nat->Prop} {nx:Nat}
theorem Pg (hh:dU base w E qX F)(hsub:∀b k,oq b=some k->qX b=some k)(hlt:∀b k,oq b=some k->b<nx)(hrefs:∀b k,oq b=some k->∀x∈k.wH,(oq x).isSome=true) :
  dU base w (E.part oq) oq (fun b=>nx<=b):=by
 have own:∀b,(oq b).isSome=true->(E.part oq).own b=E.own b:=fun b hb=>by simp [Env.part,hb]
 refine ⟨fun b k hb=>?_,fun b b' k k' c o c' o' hne h1 h2 h3 h4=>?_,fun b hb=>?_,hh.kF,hh.bs,fun b c o h=>?_⟩
 .exact (hh.blk b k (hsub b k hb)).env (fun _ _ h=>h) (fun _ _ _ _ h=>h) (own b (by simp [hb])) fun x hx=>own x (hrefs b k hb x hx)
 .rw [own b (by simp [h1])] at h3
  rw [own b' (by simp [h2])] at h4
  exact hh.sep b b' k k' c o c' o' hne (hsub _ _ h1) (hsub _ _ h2) h3 h4
 .have:¬(oq b).isSome=true:=fun h=>by
   obtain ⟨k,hk⟩:=Option.isSome_iff_exists.1 h
   have:=hlt b k hk;omega
  simp [Env.part,this]
 .by_cases hb:(oq b).isSome=true
  .rw [own b hb] at h;exact hh.kJ b c o h
  .simp [Env.part,hb] at h
theorem TS {a:AV}{v:Value}(h:Rep w E a v)(hr:∀x∈a.refs,(oq x).isSome=true):Rep w (E.part oq) a v:=
 vO (E:=E) (E':=E.part oq) (fun _ _ h=>h) h fun b hb=>by simp [Env.part,hr b hb]
def Env.back (E E1:Env)(oq:AH)(nx nx':Nat):Env:=⟨E1.fix,fun b=>if (oq b).isSome=true\/(nx<=b/\b<nx') then E1.own b else E.own b⟩
theorem agT (hh:dU base w E qX F)(hsub:∀b k,oq b=some k->qX b=some k)(hlt:∀b k,oq b=some k->b<nx){nx':Nat}(hnx:nx<=nx')(hF:∀b,nx<=b->b<nx'->F b)
  {w':World} {E1:Env} {fV:AH} (hst:Step base w (E.part oq) w' E1) (hh':dU base w' E1 fV (fun b=>nx'<=b))
  (hlt':∀b k,fV b=some k->b<nx'/\((nx<=b/\b<nx')\/(oq b).isSome=true)/\∀x∈k.wH,(nx<=x/\x<nx')\/(oq x).isSome=true) {xq:AH} (hN:∀b,xq b=if nx'<=b then qX b else fV b) :
  Step base w E w' (E.back E1 oq nx nx')/\dU base w' (E.back E1 oq nx nx') xq (fun b=>F b/\¬(nx<=b/\b<nx'))/\
   ∀a v,Rep w' E1 a v->(∀x∈a.refs,(nx<=x/\x<nx')\/(oq x).isSome=true)->Rep w' (E.back E1 oq nx nx') a v:=by
 have ac5:∀b,(oq b).isSome=true->(E.part oq).own b=E.own b:=fun b hb=>by simp [Env.part,hb]
 have Nw:∀b c o,(E.part oq).own b=.at c o->(oq b).isSome=true/\E.own b=.at c o:=fun b c o h=>by
  by_cases hb:(oq b).isSome=true
  .rw [ac5 b hb] at h;exact ⟨hb,h⟩
  .simp [Env.part,hb] at h
 have in1:∀b,((nx<=b/\b<nx')\/(oq b).isSome=true)->(E.back E1 oq nx nx').own b=E1.own b:=fun b hb=>by
  simp only [Env.back];rw [if_pos (hb.symm)]
 have out1:∀b,¬((nx<=b/\b<nx')\/(oq b).isSome=true)->(E.back E1 oq nx nx').own b=E.own b:=fun b hb=>by
  simp only [Env.back];rw [if_neg (fun h=>hb h.symm)]
 have hfree:∀b,nx<=b->b<nx'->E.own b=.free:=fun b h1 h2=>hh.fresh b (hF b h1 h2)
 
 have extra:∀b k c o,nx'<=b->qX b=some k->E.own b=.at c o->∀b' o',(E.part oq).own b'≠.at c o':=fun b k c o hb hk ho b' o' h=>by
  obtain ⟨h1,h2⟩:=Nw b' c o' h
  obtain ⟨k',hk'⟩:=Option.isSome_iff_exists.1 h1
  have hb':=hlt b' k' hk'
  exact hh.sep b' b k' k c o' c o (by omega) (hsub _ _ hk') hk h2 ho rfl
 have hx:Ext w E w' (E.back E1 oq nx nx'):=by
  refine ⟨hst.ext.fix,hst.ext.cell,fun b hb=>?_,hst.ext.arr⟩
  by_cases hin:(nx<=b/\b<nx')\/(oq b).isSome=true
  .rw [in1 b hin]
   rcases hin with ⟨h1,h2⟩|h1
   .exact absurd (hfree b h1 h2) hb
   .have:=hst.ext.own b (by rw [ac5 b h1];exact hb)
    rw [this,ac5 b h1]
  .exact out1 b hin
 refine ⟨⟨hx,hst.below,hst.yK,fun c hc hno=>hst.keep c hc fun b o h=>hno b o (Nw b c o h).2,fun b c o h hc=>?_,fun c o h hc=>?_⟩,⟨fun b k hb=>?_,fun b b' k k' c o c' o' hne h1 h2 h3 h4=>?_,fun b hb=>?_,hh'.kF,hh'.bs,fun b c o h=>?_⟩,fun a v hr hrf=>?_⟩
 .by_cases hin:(nx<=b/\b<nx')\/(oq b).isSome=true
  .rw [in1 b hin] at h
   obtain ⟨b',o',h'⟩:=hst.DN b c o h hc
   exact ⟨b',o',(Nw b' c o' h').2⟩
  .rw [out1 b hin] at h;exact ⟨b,o,h⟩
 .exact (hst.yL c o h hc).imp id fun ⟨b',o',h'⟩=>⟨b',o',(Nw b' c o' h').2⟩
 .rw [hN b] at hb
  split at hb
  .rename_i hle
   have hb0:=hh.blk b k hb
   refine hb0.keep hx (fun c o ho=>hst.keep c (hb0.lt ho).1 (extra b k c o hle hb ho)) (fun c o off ho h=>?_)
   rcases hst.yL c off h (hb0.lt ho).1 with h|⟨b',o',h⟩
   .exact h
   .exact absurd h (extra b k c o hle hb ho b' o')
  .obtain ⟨g1,g2,g3⟩:=hlt' b k hb
   exact (hh'.blk b k hb).env (fun _ _ h=>h) (fun _ _ _ _ h=>h) (in1 b g2) fun x hx=>in1 x (g3 x hx)
 .have mix:∀b b' k k' c o c' o',nx'<=b->qX b=some k->E.own b=.at c o->b' < nx'->fV b'=some k'->E1.own b'=.at c' o'->c≠c':=by
   intro b b' k k' c o c' o' h1 h2 h3 h4 h5 h6 e
   subst e
   obtain ⟨x,y,hxy⟩:=hst.DN b' c o' h6 ((hh.blk b k h2).lt h3).1
   exact extra b k c o h1 h2 h3 x y hxy
  rw [hN b] at h1
  rw [hN b'] at h2
  have bo:∀b k,nx'<=b->qX b=some k->(E.back E1 oq nx nx').own b=E.own b:=fun b k hle hk=>out1 b fun h=>by
   rcases h with h|h
   .omega
   .obtain ⟨k0,hk0⟩:=Option.isSome_iff_exists.1 h
    have:=hlt b k0 hk0;omega
  split at h1
  .rename_i g1
   rw [bo b k g1 h1] at h3
   split at h2
   .rename_i g2
    rw [bo b' k' g2 h2] at h4
    exact hh.sep b b' k k' c o c' o' hne h1 h2 h3 h4
   .rename_i g2
    rw [in1 b' (hlt' b' k' h2).2.1] at h4
    exact mix b b' k k' c o c' o' g1 h1 h3 (by omega) h2 h4
  .rename_i g1
   rw [in1 b (hlt' b k h1).2.1] at h3
   split at h2
   .rename_i g2
    rw [bo b' k' g2 h2] at h4
    exact (mix b' b k' k c' o' c o g2 h2 h4 (by omega) h1 h3).symm
   .rename_i g2
    rw [in1 b' (hlt' b' k' h2).2.1] at h4
    exact hh'.sep b b' k k' c o c' o' hne h1 h2 h3 h4
 .have h0:=hh.fresh b hb.1
  rw [out1 b fun h=>?_]
  .exact h0
  .rcases h with h|h
   .exact hb.2 h
   .obtain ⟨k0,hk0⟩:=Option.isSome_iff_exists.1 h
    exact (hh.blk b k0 (hsub _ _ hk0)).own h0
 .by_cases hin:(nx<=b/\b<nx')\/(oq b).isSome=true
  .rw [in1 b hin] at h;exact hh'.kJ b c o h
  .rw [out1 b hin] at h
   have:=hh.kJ b c o h
   exact ⟨this.1,cu this.2 hst.below.size⟩
 .exact vO (E:=E1) (E':=E.back E1 oq nx nx') (fun _ _ h=>h) hr fun x hx=>in1 x (hrf x hx)
end
def Tr.all {α:Type}:Tr α->(Nat->α->Bool)->Bool
 | .e,_=>true
 | .n l x r,f=>(match x with|none=>true|some a=>f 0 a)&&(Tr.all l (fun j=>f (2*j+1))&&Tr.all r (fun j=>f (2*j+2)))
theorem Tr.JX {α:Type}:∀{t:Tr α} {f:Nat->α->Bool},t.all f=true->∀{k:Nat} {a:α},t.get k=some a->f k a=true
 | .e,f,_,k,a,h=>by simp [Tr.get] at h
 | .n l x r,f,hf,k,a,h=>by
  simp only [Tr.all,ay] at hf
  simp only [Tr.get] at h
  cases h1:Nat.beq k 0
  .simp only [h1,cond_false] at h
   have hk:k≠0:=by intro e;subst e;simp at h1
   cases h2:Nat.beq (k % 2) 1
   .simp only [h2,cond_false] at h
    have:=Tr.JX hf.2.2 h
    have a1:k % 2≠1:=by intro e;rw [e] at h2;simp at h2
    have e:2*((k-1) / 2)+2=k:=by omega
    rwa [e] at this
   .simp only [h2,cond_true] at h
    have:=Tr.JX hf.2.1 h
    have a1:=aA h2
    have e:2*((k-1) / 2)+1=k:=by omega
    rwa [e] at this
  .simp only [h1,cond_true] at h
   have:=aA h1
   subst this;subst h
   exact hf.1
def iO (ρ:List AV)(th:Tr SB):AH:=fun b=>(th.get b).map (SB.den ρ)
theorem yY {ρ:List AV}{th:Tr SB}{b:Nat}{k:vH}(h:iO ρ th b=some k):∃z,th.get b=some z/\z.den ρ=k:=by
 unfold iO at h
 simpa only [aB] using h
def ayW (th:Tr SB)(b:Nat):Bool:=match th.get b with|some _=>true|none=>false
def btw (nx nx' b:Nat):Bool:=Nat.ble nx b&&Nat.ble (b+1) nx'
theorem ama {nx nx' b:Nat}(h:btw nx nx' b=true):nx<=b/\b<nx':=by
 simp only [btw,ay] at h
 exact ⟨aG h.1,aG h.2⟩
def Yz (th:Tr SB)(nx:Nat)(args:List SV):Bool:=th.all (fun b k=>Nat.ble (b+1) nx&&k.FZ.all (ayW th))&&(Ep args).all (ayW th)
def YA (th:Tr SB)(nx nx':Nat)(th':Tr SB)(v:SV):Bool:=
 Nat.ble nx nx'&&(th'.all (fun b k=>Nat.ble (b+1) nx'&&((btw nx nx' b||ayW th b)&&k.FZ.all (fun x=>btw nx nx' x||ayW th x)))&&v.FZ.all (fun x=>btw nx nx' x||ayW th x))
theorem BH : ∀{l:List AV},(∀x∈l,x.clean=true)->kN l=true
 |[],_=>rfl
 |x::r,h=>by simp only [kN,ay];exact ⟨h x (by simp),BH fun y hy=>h y (by simp [hy])⟩
theorem Gh {l:List AV}(h:kN l=true){x:AV}(hx:x∈l):x.clean=true:=by
 obtain ⟨i,hi⟩:=List.getElem?_of_mem hx
 exact lg h i x hi
theorem aai {a:Bool}{l:List AV}(h:kN l=true):(nJ a l).clean=true:=by
 cases a with
 |true=>exact h
 |false=>cases l with
  |nil=>rfl
  |cons x r=>exact Gh (x:=x) h (by simp)
theorem Qs {a:Bool}{f:List AV->List AV}(hf:∀row,∀x∈f row,x∈row){l:List (List AV)}(h:jJ l=true):kN (l.map fun row=>nJ a (f row))=true:=by
 refine BH fun x hx=>?_
 obtain ⟨row,hr,rfl⟩:=aW.1 hx
 obtain ⟨i,hi⟩:=List.getElem?_of_mem hr
 have hrow:=wE h i row hi
 exact aai (BH fun y hy=>Gh hrow (hf row y hy))
theorem Eu {ρ:List AV}(hρ:iT ρ=true){k:SB}:(k.den ρ).wH=k.FZ:=by
 cases k with
 |rows sz rs=>simp only [SB.den,vH.wH,SB.FZ,yX hρ]
 |fO sz t=>simp only [SB.den,vH.wH,SB.FZ,oG (jV (Tm.qj hρ t))]
 |Ad m t=>
  have hc:=jV (Tm.qj hρ t)
  simp only [SB.den,vH.wH,SB.FZ,List.map_map]
  rw [show ((fun x:AV×AV=>x.1)∘qY m)=fun row=>nJ m.ka (row.take m.kn) from rfl,show ((fun x:AV×AV=>x.2)∘qY m)=fun row=>nJ m.va (row.drop m.kn) from rfl]
  rw [jR (Qs (f:=fun row=>row.take m.kn) (fun row x hx=>bM hx) hc),jR (Qs (f:=fun row=>row.drop m.kn) (fun row x hx=>List.mem_of_mem_drop hx) hc)]
  rfl
 |map es=>
  simp only [SB.den,vH.wH,SB.FZ,List.map_map]
  have e1:(es.map ((fun x=>x.1)∘fun e=>(SV.den ρ e.1,SV.den ρ e.2)))=dQ ρ (es.map (·.1)):=by simp [nN,Function.comp_def]
  have e2:(es.map ((fun x=>x.2)∘fun e=>(SV.den ρ e.1,SV.den ρ e.2)))=dQ ρ (es.map (·.2)):=by simp [nN,Function.comp_def]
  rw [e1,e2,r_ hρ,r_ hρ]
 |it m n k=>rfl
 |kL ty sz rs=>simp only [SB.den,vH.wH,SB.FZ,yX hρ]
section
variable {ρ : List AV} (hρ:iT ρ=true) {th th':Tr SB} {nx nx':Nat}
 include hρ
theorem Ny {b:Nat}(h:ayW th b=true):(iO ρ th b).isSome=true:=by
 unfold ayW at h
 unfold iO
 split at h
 .rename_i k hk;rw [hk];rfl
 .cases h
theorem ajh {b:Nat}(h:(btw nx nx' b||ayW th b)=true):(nx<=b/\b<nx')\/(iO ρ th b).isSome=true:=by
 rw [bf] at h
 exact h.imp ama (Ny hρ)
theorem ac6 {args:List SV}(h:Yz th nx args=true):(∀b k,iO ρ th b=some k->b<nx)/\(∀b k,iO ρ th b=some k->∀x∈k.wH,(iO ρ th x).isSome=true)/\∀x∈mO (dQ ρ args),(iO ρ th x).isSome=true:=by
 unfold Yz at h
 simp only [ay] at h
 refine ⟨fun b k hk=>?_,fun b k hk x hx=>?_,fun x hx=>?_⟩
 .obtain ⟨z,hz,rfl⟩:=yY hk
  have:=Tr.JX h.1 hz
  simp only [ay] at this
  exact aG this.1
 .obtain ⟨z,hz,rfl⟩:=yY hk
  have:=Tr.JX h.1 hz
  simp only [ay,aH] at this
  rw [Eu hρ] at hx
  exact Ny hρ (this.2 x hx)
 .rw [r_ hρ] at hx
  exact Ny hρ (aH.1 h.2 x hx)
theorem ac7 {v:SV}(h:YA th nx nx' th' v=true):nx<=nx'/\(∀b k,iO ρ th' b=some k->b<nx'/\((nx<=b/\b<nx')\/(iO ρ th b).isSome=true)/\∀x∈k.wH,(nx<=x/\x<nx')\/(iO ρ th x).isSome=true)/\
  ∀x∈(v.den ρ).refs,(nx<=x/\x<nx')\/(iO ρ th x).isSome=true:=by
 unfold YA at h
 simp only [ay] at h
 refine ⟨aG h.1,fun b k hk=>?_,fun x hx=>?_⟩
 .obtain ⟨z,hz,rfl⟩:=yY hk
  have:=Tr.JX h.2.1 hz
  simp only [ay,aH] at this
  refine ⟨aG this.1,ajh hρ this.2.1,fun x hx=>?_⟩
  rw [Eu hρ] at hx
  exact ajh hρ (this.2.2 x hx)
 .rw [xM hρ] at hx
  exact ajh hρ (aH.1 h.2.2 x hx)
end
end Go.Fw
end
