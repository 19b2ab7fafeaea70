
import Derived.Test.YtookhagokgenhaaFwE
import Derived.Test.YtookhagokgenhaaProg
set_option linter.unusedVariables false
set_option linter.unusedSimpArgs false
set_option linter.unusedSectionVars false
set_option linter.unnecessarySimpa false
section
namespace Go.Fw
abbrev LF :=List (Nat×Int)
def LF.ev (v:Nat->Int):LF->Int
 |[]=>0
 |x::r=>x.2*v x.1+LF.ev v r
theorem LF.anp {v:Nat->Int}:∀{a b:LF},LF.ev v (a++b)=a.ev v+b.ev v
 |[],b=>by simp [LF.ev]
 |x::a,b=>by simp only [List.cons_append,LF.ev,LF.anp (a:=a) (b:=b)];omega
def cns (i:Nat)(c:Int)(l:LF):LF:=acv c fun c=>match c with
 | .ofNat 0=>l
 |c=>(i,c)::l
theorem abo {v:Nat->Int}{i:Nat}{c:Int}{l:LF}:(cns i c l).ev v=c*v i+l.ev v:=by
 unfold cns
 rw [VF]
 split
 .simp
 .rfl
def mrg : Nat->LF->LF->LF
 |0,a,b=>a++b
 |n+1,a,b=>match a with
  |[]=>b
  |x::a'=>match b with
   |[]=>x::a'
   |y::b'=>bif Nat.blt x.1 y.1 then x::mrg n a' (y::b') else bif Nat.blt y.1 x.1 then y::mrg n (x::a') b' else cns x.1 (x.2+y.2) (mrg n a' b')
theorem W_ {v:Nat->Int}:∀{n:Nat} {a b:LF},(mrg n a b).ev v=a.ev v+b.ev v
 |0,a,b=>LF.anp
 |n+1,[],b=>by simp [mrg,LF.ev]
 |n+1,x::a,[]=>by simp [mrg,LF.ev]
 |n+1,x::a,y::b=>by
  simp only [mrg]
  cases h:Nat.blt x.1 y.1
  .simp only [cond_false]
   cases h2:Nat.blt y.1 x.1
   .have e:x.1=y.1:=by
     have h1:¬x.1<y.1:=fun q=>by rw [show Nat.blt x.1 y.1=true by rw [Nat.blt_eq];exact q] at h;cases h
     have h3:¬y.1<x.1:=fun q=>by rw [show Nat.blt y.1 x.1=true by rw [Nat.blt_eq];exact q] at h2;cases h2
     omega
    simp only [cond_false,abo,W_ (n:=n) (a:=a) (b:=b),LF.ev,e,Int.add_mul];omega
   .simp only [cond_true,LF.ev,W_ (n:=n) (a:=x::a) (b:=b)];omega
  .simp only [cond_true,LF.ev,W_ (n:=n) (a:=a) (b:=y::b)];omega
def U0 (k:Int):LF->LF
 |[]=>[]
 |x::r=>cns x.1 (k*x.2) (U0 k r)
theorem Jc {v:Nat->Int}{k:Int}:∀{a:LF},(U0 k a).ev v=k*a.ev v
 |[]=>by simp [U0,LF.ev]
 |x::r=>by simp only [U0,abo,LF.ev,Jc (a:=r),Int.mul_add,Int.mul_assoc]
def Nz (a b:LF):LF:=mrg 60 a b
def qV (a b:LF):LF:=mrg 60 a (U0 (-1) b)
theorem ES {v:Nat->Int}{a b:LF}:(Nz a b).ev v=a.ev v+b.ev v:=W_
theorem lT {v:Nat->Int}{a b:LF}:(qV a b).ev v=a.ev v-b.ev v:=by
 unfold qV;rw [W_,Jc];omega
def cof (i:Nat):LF->Int
 |[]=>0
 |x::r=>bif Nat.beq x.1 i then x.2 else cof i r
def aEa : Int->Bool
 | .ofNat _=>false
 | .negSucc _=>true
theorem ako {n:Int}:aEa n=true↔n<0:=by cases n<;>simp [aEa]
def agx (n:Int):Int:=match n with | .ofNat m=>.ofNat m | .negSucc m=>.ofNat (m+1)
theorem ail {n:Int}:0<=agx n:=by
 cases n with
 |ofNat m=>simp [agx]
 |negSucc m=>simp [agx];omega
def aEQ (c d:Int)(N f:LF):LF:=bif Nat.beq c.natAbs d.natAbs then Nz N f else match agx d with
 | .ofNat 1=>Nz N (U0 (agx c) f)
 |_=>Nz (U0 (agx d) N) (U0 (agx c) f)
theorem aqB {v:Nat->Int}{c d:Int}{N f:LF}(hN:0<=N.ev v)(hf:0<=f.ev v):0<=(aEQ c d N f).ev v:=by
 have:=Int.mul_nonneg (ail (n:=d)) hN
 have:=Int.mul_nonneg (ail (n:=c)) hf
 unfold aEQ
 cases Nat.beq c.natAbs d.natAbs
 .simp only [cond_false]
  split<;>simp only [ES,Jc]<;>omega
 .simp only [cond_true,ES];omega
def asb (c d:Int):Bool:=Nat.blt d.natAbs c.natAbs&&Nat.ble c.natAbs 4
def opp (i:Nat)(ng:Bool):List LF->List LF
 |[]=>[]
 |f::r=>match cof i f with
  | .ofNat 0=>opp i ng r
  | .ofNat (_+1)=>bif ng then f::opp i ng r else opp i ng r
  | .negSucc _=>bif ng then opp i ng r else f::opp i ng r
theorem MZ {i:Nat}{ng:Bool}:∀{fs:List LF} {f:LF},f∈opp i ng fs->f∈fs
 |[],f,h=>by simp [opp] at h
 |g::r,f,h=>by
  unfold opp at h
  split at h
  .exact List.mem_cons_of_mem _ (MZ h)
  .cases ng
   .exact List.mem_cons_of_mem _ (MZ h)
   .simp only [cond_true,List.mem_cons] at h
    rcases h with h|h
    .simp [h]
    .exact List.mem_cons_of_mem _ (MZ h)
  .cases ng
   .simp only [cond_false,List.mem_cons] at h
    rcases h with h|h
    .simp [h]
    .exact List.mem_cons_of_mem _ (MZ h)
   .exact List.mem_cons_of_mem _ (MZ h)
def Xa (fs:List LF):LF->Option (Int×Nat×Nat×List LF)->Option (Int×Nat×Nat×List LF)
 |[],b=>b
 |(0,_)::r,b=>Xa fs r b
 |(i+1,c)::r,b=>
  let o:=opp (i+1) (aEa c) fs
  Rh o.length fun n=>match b with
   |none=>Xa fs r (some (c,i+1,n,o))
   |some (c',j,m,o')=>bif Nat.blt n m then Xa fs r (some (c,i+1,n,o)) else Xa fs r (some (c',j,m,o'))
theorem GV {fs:List LF}:∀{N:LF} {b:Option (Int×Nat×Nat×List LF)} {x},(∀y,b=some y->∀f∈y.2.2.2,f∈fs)->Xa fs N b=some x->∀f∈x.2.2.2,f∈fs
 |[],b,x,hb,h=>hb x h
 |(0,_)::r,b,x,hb,h=>GV (N:=r) hb h
 |(i+1,c)::r,b,x,hb,h=>by
  have hs:∀(n:Nat) (y:Int×Nat×Nat×List LF),some (c,i+1,n,opp (i+1) (aEa c) fs)=some y->∀f∈y.2.2.2,f∈fs:=by
   intro n y hy f hf
   simp only [Option.some.injEq] at hy;subst hy
   exact MZ hf
  simp only [Xa,yG] at h
  split at h
  .exact GV (N:=r) (hs _) h
  .rename_i c' j m o'
   cases hl:Nat.blt (opp (i+1) (aEa c) fs).length m
   .rw [hl] at h;exact GV (N:=r) hb h
   .rw [hl] at h;exact GV (N:=r) (hs _) h
def auL (N:LF):Bool:=match N with
 |[(0,c)]=>aEa c
 |_=>false
def anr (g:LF->Nat->Option Nat):List LF->Nat->Option Nat
 |[],b=>some b
 |f::r,b=>match g f b with
  |none=>none
  |some b'=>anr g r b'
def ant : LF->Bool
 |[]=>true
 |[_]=>true
 |[_,_]=>true
 |_=>false
def aw3 (o:List LF):List LF:=o.filter ant++o.filter fun f=>!(ant f)
theorem anu {o:List LF}{f:LF}(h:f∈aw3 o):f∈o:=by
 rcases List.mem_append.1 h with h|h<;>exact (List.mem_filter.1 h).1
def C_ : Nat->List LF->LF->Nat->Option Nat
 |0,_,_,b=>some b
 |d+1,fs,N,b=>match b with
  |0=>some 0
  |b+1=>match Xa fs N none with
   |none=>bif auL N then none else some b
   |some (c,i,_,o)=>anr (fun f b=>match C_ d fs (aEQ c (cof i f) N f) b with
    |none=>none
    |some b'=>bif asb c (cof i f) then C_ d fs (Nz N f) b' else some b') (aw3 o) b
theorem ZU {g:LF->Nat->Option Nat}:∀{l:List LF} {b:Nat},anr g l b=none->∃f∈l,∃b',g f b'=none
 |[],b,h=>by simp [anr] at h
 |f::r,b,h=>by
  simp only [anr] at h
  split at h
  .rename_i hg
   exact ⟨f,List.mem_cons_self ..,b,hg⟩
  .obtain ⟨f',hf',b',hb'⟩:=ZU h
   exact ⟨f',List.mem_cons_of_mem _ hf',b',hb'⟩
theorem Jd {v:Nat->Int}(hv:v 0=1){fs:List LF}(hfs:∀f∈fs,0<=f.ev v):∀{d:Nat} {N:LF} {b:Nat},C_ d fs N b=none->¬0<=N.ev v
 |0,N,b,h=>by simp [C_] at h
 |d+1,N,b,h=>by
  intro hN
  simp only [C_] at h
  split at h
  .cases h
  split at h
  .cases hc:auL N
   .rw [hc] at h;cases h
   .unfold auL at hc
    split at hc
    .rw [ako] at hc
     simp only [LF.ev,hv] at hN
     omega
    .cases hc
  .rename_i c i n o hp
   obtain ⟨f,hf,b',h⟩:=ZU h
   have hm:=GV (fs:=fs) (N:=N) (b:=none) (by simp) hp f (anu hf)
   split at h
   .rename_i h'
    exact Jd hv hfs h' (aqB hN (hfs f hm))
   .cases hq:asb c (cof i f)
    .rw [hq] at h;cases h
    .rw [hq] at h
     exact Jd hv hfs h (by rw [ES];have:=hfs f hm;omega)
def akp : Option Nat->Bool
 |none=>true
 |some _=>false
def LC (fs:List LF)(f:LF):Bool:=akp (C_ 3 fs (Nz (U0 (-1) f) [(0,-1)]) 60)||(akp (C_ 5 fs (Nz (U0 (-1) f) [(0,-1)]) 300)||akp (C_ 8 fs (Nz (U0 (-1) f) [(0,-1)]) 1500))
theorem aqC {o:Option Nat}(h:akp o=true):o=none:=by cases o<;>first|rfl|cases h
theorem M_ {v:Nat->Int}(hv:v 0=1){fs:List LF}(hfs:∀f∈fs,0<=f.ev v){f:LF}(h:LC fs f=true):0<=f.ev v:=by
 have:¬0<=(Nz (U0 (-1) f) [(0,-1)]).ev v:=by
  simp only [LC,Bool.or_eq_true] at h
  rcases h with h|h|h<;>exact Jd hv hfs (aqC h)
 rw [ES,Jc] at this
 simp only [LF.ev,hv] at this
 omega
def vl (ρ:List AV)(az:List Tm):Nat->Int
 |0=>1
 |i+1=>match az[i]? with
  |some t=>(t.den ρ).I
  |none=>0
def Hold (ρ:List AV)(az:List Tm)(f:LF)(x:Int):Prop:=∀bs,az <+: bs->f.ev (vl ρ bs)=x
def Pos (ρ:List AV)(az:List Tm)(f:LF):Prop:=∀bs,az <+: bs->0<=f.ev (vl ρ bs)
theorem Hold.mono {ρ:List AV}{az bs:List Tm}{f:LF}{x:Int}(h:Hold ρ az f x)(hp:az <+: bs):Hold ρ bs f x:=fun cs hc=>h cs (hp.trans hc)
theorem Pos.mono {ρ:List AV}{az bs:List Tm}{f:LF}(h:Pos ρ az f)(hp:az <+: bs):Pos ρ bs f:=fun cs hc=>h cs (hp.trans hc)
def Cc (ρ:List AV)(az:List Tm)(fs:List LF):Prop:=∀f∈fs,Pos ρ az f
theorem Cc.mono {ρ:List AV}{az bs:List Tm}{fs:List LF}(h:Cc ρ az fs)(hp:az <+: bs):Cc ρ bs fs:=fun f hf=>(h f hf).mono hp
theorem Cc.cons {ρ:List AV}{az:List Tm}{f:LF}{fs:List LF}(h:Pos ρ az f)(k:Cc ρ az fs):Cc ρ az (f::fs):=fun g hg=>by
 rcases List.mem_cons.1 hg with rfl|hg
 .exact h
 .exact k g hg
theorem Cc.app {ρ:List AV}{az:List Tm}{fs gs:List LF}(h:Cc ρ az fs)(k:Cc ρ az gs):Cc ρ az (fs++gs):=fun g hg=>by
 rcases List.mem_append.1 hg with hg|hg
 .exact h g hg
 .exact k g hg
theorem GX {ρ:List AV}{az:List Tm}{fs:List LF}(hfs:Cc ρ az fs){f:LF}(h:LC fs f=true):Pos ρ az f:=fun bs hb=>
 M_ rfl (fun g hg=>hfs g hg bs hb) h
def adJ (t:Tm):Nat->List Tm->Option Nat
 |_,[]=>none
 |i,x::r=>bif x.beq t then some i else adJ t (i+1) r
theorem adK {t:Tm}:∀{az:List Tm} {i j:Nat},adJ t i az=some j->i<=j/\az[j-i]?=some t
 |[],i,j,h=>by simp [adJ] at h
 |x::r,i,j,h=>by
  simp only [adJ] at h
  cases hb:x.beq t
  .rw [hb] at h
   obtain ⟨h1,h2⟩:=adK (az:=r) h
   refine ⟨by omega,?_⟩
   have:j-i=(j-(i+1))+1:=by omega
   rw [this];simpa using h2
  .rw [hb] at h
   simp only [cond_true,Option.some.injEq] at h
   subst h
   simp [Tm.beq_eq hb]
structure LR where
 az:List Tm
 fs:List LF
 f:LF
def Sj (ρ:List AV)(az:List Tm)(r:LR)(x:Int):Prop:=az <+: r.az/\Cc ρ r.az r.fs/\Hold ρ r.az r.f x
def oI (t:Tm)(ex:Nat->List LF)(az:List Tm)(fs:List LF):LR:=
 match adJ t 0 az with
 |some i=>⟨az,fs,[(i+1,1)]⟩
 |none=>Rh az.length fun n=>⟨az++[t],ex (n+1)++fs,[(n+1,1)]⟩
theorem ain {az bs:List Tm}{i:Nat}{t:Tm}(h:az[i]?=some t)(hp:az <+: bs):bs[i]?=some t:=by
 obtain ⟨c,rfl⟩:=hp
 have:=(List.getElem?_eq_some_iff.1 h).1
 rw [List.getElem?_append_left this,h]
theorem wo {v:Nat->Int}{i:Nat}:LF.ev v [(i,1)]=v i:=by simp [LF.ev]
theorem BJ {ρ:List AV}{t:Tm}{ex:Nat->List LF}{az:List Tm}{fs:List LF}(hfs:Cc ρ az fs)
  (hex:∀v:Nat->Int,v 0=1->∀n,v n=(t.den ρ).I->(∀f∈fs,0<=f.ev v)->(∃bs,az <+: bs/\v=vl ρ bs)->∀f∈ex n,0<=f.ev v):Sj ρ az (oI t ex az fs) (t.den ρ).I:=by
 unfold oI
 split
 .rename_i i h
  obtain ⟨-,h2⟩:=adK h
  refine ⟨List.prefix_refl _,hfs,fun bs hb=>?_⟩
  rw [wo]
  simp only [vl,ain (by simpa using h2) hb]
 .rw [yG]
  have hp:az <+: az++[t]:=List.prefix_append _ _
  have hv:∀bs,az++[t] <+: bs->vl ρ bs (az.length+1)=(t.den ρ).I:=by
   intro bs hb
   have:(az++[t])[az.length]?=some t:=by simp
   simp only [vl,ain this hb]
  refine ⟨hp,Cc.app (fun f hf bs hb=>?_) (hfs.mono hp),fun bs hb=>?_⟩
  .exact hex (vl ρ bs) rfl _ (hv bs hb) (fun g hg=>hfs g hg bs (hp.trans hb)) ⟨bs,hp.trans hb,rfl⟩ f hf
  .rw [wo];exact hv bs hb
def wQ (k:IntKind)(fs:List LF)(f:LF):Bool:=LC fs (qV f [(0,k.min)])&&LC fs (qV [(0,k.max)] f)
theorem aio {k:IntKind}{n:Int}(h0:k.min<=n)(h1:n<=k.max):k.wrap n=n:=by
 cases k<;>simp only [IntKind.min,IntKind.max,IntKind.wrap,IntKind.signed,IntKind.bits] at *<;>simp at *<;>omega
theorem Xb {k:IntKind}{v:Nat->Int}(hv:v 0=1){fs:List LF}(hfs:∀f∈fs,0<=f.ev v){f:LF}(h:wQ k fs f=true):k.wrap (f.ev v)=f.ev v:=by
 unfold wQ at h
 rw [Bool.and_eq_true] at h
 have h1:=M_ hv hfs h.1
 have h2:=M_ hv hfs h.2
 rw [lT] at h1 h2
 simp only [LF.ev,hv] at h1 h2
 exact aio (by omega) (by omega)
def asc (n:Nat)(f:LF)(c:Int):List LF:=[[(n,1)],qV f (U0 c [(n,1)]),qV (Nz (U0 c [(n,1)]) [(0,c-1)]) f]
def ase (n:Nat)(f:LF)(c:Int):List LF:=[[(n,1)],qV [(0,c-1)] [(n,1)],qV f [(n,1)]]
def asf (n:Nat)(f:LF)(c:Int):List LF:=[qV f (U0 c [(n,1)]),qV (Nz (U0 c [(n,1)]) [(0,c-1)]) f]
def abp (n:Nat):List LF:=[[(n,1)]]
def anv (n:Nat):List LF:=[[(n,1)],qV [(0,255)] [(n,1)]]
def Je (_:Nat):List LF:=[]
def OW : Int->Bool
 | .ofNat (_+1)=>true
 |_=>false
theorem Xc {c:Int}:OW c=true↔0<c:=by
 cases c with
 |ofNat n=>cases n<;>simp [OW]<;>omega
 |negSucc n=>simp [OW]
def agy : Tm->Option Int
 | .li c=>some c
 |_=>none
theorem Qe {t:Tm}{c:Int}(h:agy t=some c):t=.li c:=by
 cases t<;>simp [agy] at h
 subst h;rfl
def auM (o:BinOp)(k:IntKind)(x y:Tm)(rx ry:LR):LR:=
 let t:Tm:=.bin o (.int k) x y
 match o with
 | .add=>let f:=Nz rx.f ry.f;bif wQ k ry.fs f then ⟨ry.az,ry.fs,f⟩ else oI t Je ry.az ry.fs
 | .sub=>let f:=qV rx.f ry.f;bif wQ k ry.fs f then ⟨ry.az,ry.fs,f⟩ else oI t Je ry.az ry.fs
 | .mul=>match agy y with
  |some c=>let f:=U0 c rx.f;bif wQ k ry.fs f then ⟨ry.az,ry.fs,f⟩ else oI t Je ry.az ry.fs
  |none=>match agy x with
   |some c=>let f:=U0 c ry.f;bif wQ k ry.fs f then ⟨ry.az,ry.fs,f⟩ else oI t Je ry.az ry.fs
   |none=>oI t Je ry.az ry.fs
 | .quo=>match agy y with
  |some c=>bif OW c&&(LC ry.fs rx.f&&wQ k ry.fs rx.f) then oI t (fun n=>asc n rx.f c) ry.az ry.fs else oI t Je ry.az ry.fs
  |none=>oI t Je ry.az ry.fs
 | .rem=>match agy y with
  |some c=>bif OW c&&LC ry.fs rx.f then oI t (fun n=>ase n rx.f c) ry.az ry.fs else oI t Je ry.az ry.fs
  |none=>oI t Je ry.az ry.fs
 | .shr=>match agy y with
  |some c=>bif Nat.beq c.toNat 1 then oI t (fun n=>asf n rx.f 2) ry.az ry.fs else oI t Je ry.az ry.fs
  |none=>oI t Je ry.az ry.fs
 |_=>oI t Je ry.az ry.fs
def aDS (ks:Pc):Tm->Tm
 | .ite c x y=>match ks.known c with
  |some true=>aDS ks x
  |some false=>aDS ks y
  |none=>.ite c x y
 |t=>t
theorem agz {ρ:List AV}{ks:Pc}(hk:ks.holds ρ):∀{t:Tm},(aDS ks t).den ρ=t.den ρ:=by
 intro t
 induction t with
 |ite c x y _ sU ihy=>
  simp only [aDS]
  split
  .rename_i h
   rw [sU,Tm.qm,Pc.gQ hk h];rfl
  .rename_i h
   rw [ihy,Tm.qm,Pc.gQ hk h];rfl
  .rfl
 |_=>rfl
def aw4 (l:List UInt8)(n:Nat):List LF:=Rh l.length fun m=>[[(n,1)],qV [(0,(m:Int))] [(n,1)]]
def auN : Tm->Option (List UInt8)
 | .ls l=>some l
 |_=>none
theorem aqD {t:Tm}{l:List UInt8}(h:auN t=some l):t=.ls l:=by
 cases t<;>simp [auN] at h;subst h;rfl
def Xd (ks:Pc):Tm->List Tm->List LF->LR
 | .ls l,az,fs=>⟨az,fs,Rh l.length fun n=>cns 0 (.ofNat n) []⟩
 | .bin o k x y,az,fs=>match o with
  | .add=>match k with
   | .str=>match Xd ks x az fs with
    |⟨as1,fs1,f1⟩=>match Xd ks y as1 fs1 with
     |⟨as2,fs2,f2⟩=>⟨as2,fs2,Nz f1 f2⟩
   |k=>oI (.slen (.bin .add k x y)) abp az fs
  |o=>oI (.slen (.bin o k x y)) abp az fs
 | .ite c x y,az,fs=>match ks.known c with
  |some true=>Xd ks x az fs
  |some false=>Xd ks y az fs
  |none=>oI (.slen (.ite c x y)) abp az fs
 | .Ef x lo hi,az,fs=>match auN x with
  |some l=>oI (.slen (.Ef x lo hi)) (aw4 l) az fs
  |none=>oI (.slen (.Ef x lo hi)) abp az fs
 |t,az,fs=>oI (.slen t) abp az fs
def lin (ks:Pc):Tm->List Tm->List LF->LR
 | .li c,az,fs=>⟨az,fs,cns 0 c []⟩
 | .bin o kd x y,az,fs=>match kd with
  | .int k=>match lin ks x az fs with
   |⟨as1,fs1,f1⟩=>match lin ks y as1 fs1 with
    |⟨as2,fs2,f2⟩=>auM o k x y ⟨as1,fs1,f1⟩ ⟨as2,fs2,f2⟩
  |kd=>oI (.bin o kd x y) Je az fs
 | .conv k x,az,fs=>match lin ks x az fs with
  |⟨as1,fs1,f1⟩=>bif wQ k fs1 f1 then ⟨as1,fs1,f1⟩ else oI (.conv k x) Je as1 fs1
 | .ite c x y,az,fs=>match ks.known c with
  |some true=>lin ks x az fs
  |some false=>lin ks y az fs
  |none=>oI (.ite c x y) Je az fs
 | .rlen x,az,fs=>match aDS ks x with
  | .nl=>⟨az,fs,[]⟩
  |x'=>oI (.rlen x') abp az fs
 | .slen x,az,fs=>Xd ks x az fs
 | .byte x i,az,fs=>oI (.byte x i) anv az fs
 |t,az,fs=>oI t Je az fs
theorem wS {ρ:List AV}{t:Tm}{az:List Tm}{fs:List LF}(hfs:Cc ρ az fs):Sj ρ az (oI t Je az fs) (t.den ρ).I:=BJ hfs (fun _ _ _ _ _ _ f hf=>by simp [Je] at hf)
theorem Sj.up {ρ:List AV}{az bs:List Tm}{r:LR}{x:Int}(hp:az <+: bs)(h:Sj ρ bs r x):Sj ρ az r x:=⟨hp.trans h.1,h.2⟩
theorem anw {ρ:List AV}{az:List Tm}{fs:List LF}{k:IntKind}{f:LF}{x:Int}{t:Tm}(hfs:Cc ρ az fs)(hf:Hold ρ az f x)(ht:(t.den ρ).I=k.wrap x):Sj ρ az (bif wQ k fs f then ⟨az,fs,f⟩ else oI t Je az fs) (t.den ρ).I:=by
 cases h:wQ k fs f
 .exact wS hfs
 .refine ⟨List.prefix_refl _,hfs,fun bs hb=>?_⟩
  rw [ht,<- hf bs hb]
  exact (Xb rfl (fun g hg=>hfs g hg bs hb) h).symm
theorem Hold.add {ρ:List AV}{az:List Tm}{f g:LF}{x y:Int}(h:Hold ρ az f x)(k:Hold ρ az g y):Hold ρ az (Nz f g) (x+y):=fun bs hb=>by rw [ES,h bs hb,k bs hb]
theorem Hold.sub {ρ:List AV}{az:List Tm}{f g:LF}{x y:Int}(h:Hold ρ az f x)(k:Hold ρ az g y):Hold ρ az (qV f g) (x-y):=fun bs hb=>by rw [lT,h bs hb,k bs hb]
theorem Hold.U0 {ρ:List AV}{az:List Tm}{f:LF}{x c:Int}(h:Hold ρ az f x):Hold ρ az (Go.Fw.U0 c f) (c*x):=fun bs hb=>by rw [Jc,h bs hb]
theorem aqE {ρ:List AV}{o:BinOp}{k:IntKind}{x y:Tm}{rx ry:LR}(h1:Hold ρ rx.az rx.f (x.den ρ).I)(hp:rx.az <+: ry.az)(h2:Hold ρ ry.az ry.f (y.den ρ).I)(hfs:Cc ρ ry.az ry.fs) :
  Sj ρ ry.az (auM o k x y rx ry) ((Tm.bin o (.int k) x y).den ρ).I:=by
 have h1':=h1.mono hp
 unfold auM
 cases o<;>dsimp only
 case add=>exact anw hfs (h1'.add h2) rfl
 case sub=>exact anw hfs (h1'.sub h2) rfl
 case mul=>
  split
  .rename_i c hc
   have:=Qe hc;subst this
   exact anw hfs (h1'.U0 (c:=c)) (by show k.wrap ((x.den ρ).I*c)=_;rw [Int.mul_comm])
  .split
   .rename_i c hc
    have:=Qe hc;subst this
    exact anw hfs (h2.U0 (c:=c)) rfl
   .exact wS hfs
 case quo=>
  split
  .rename_i c hc
   have:=Qe hc;subst this
   cases hq:OW c&&(LC ry.fs rx.f&&wQ k ry.fs rx.f)
   .exact wS hfs
   .simp only [Bool.and_eq_true] at hq
    obtain ⟨q1,q2,q3⟩:=hq
    rw [Xc] at q1
    rw [cond_true]
    refine BJ hfs fun v hv n hn hg hbs f hf=>?_
    obtain ⟨bs,hb,rfl⟩:=hbs
    have a1:=M_ hv hg q2
    have a2:=Xb hv hg q3
    have e:=h1' bs hb
    rw [e] at a1 a2
    have hmax:(x.den ρ).I<=k.max/\k.min<=0:=by
     unfold wQ at q3
     rw [Bool.and_eq_true] at q3
     have h2:=M_ hv hg q3.2
     rw [lT,e] at h2
     simp only [LF.ev,hv] at h2
     exact ⟨by omega,by cases k<;>decide⟩
    have hn':(vl ρ bs) n=(x.den ρ).I / c:=by
     rw [hn]
     show k.wrap ((x.den ρ).I.tdiv c)=_
     rw [Int.tdiv_eq_ediv_of_nonneg a1]
     have b1:0<=(x.den ρ).I / c:=Int.ediv_nonneg a1 (by omega)
     have b2:(x.den ρ).I / c<=(x.den ρ).I:=Int.ediv_le_self _ a1
     exact aio (by omega) (by omega)
    have b1:0<=(x.den ρ).I / c:=Int.ediv_nonneg a1 (by omega)
    have b3:=Int.mul_ediv_add_emod (x.den ρ).I c
    have b4:=Int.emod_nonneg (x.den ρ).I (show c≠0 by omega)
    have b5:=Int.emod_lt_of_pos (x.den ρ).I q1
    simp only [asc,List.mem_cons,List.not_mem_nil,or_false] at hf
    rcases hf with rfl|rfl|rfl
    .rw [wo,hn'];exact b1
    .rw [lT,Jc,wo,e,hn'];omega
    .rw [lT,ES,Jc,wo,e,hn']
     simp only [LF.ev,hv];omega
  .exact wS hfs
 case rem=>
  split
  .rename_i c hc
   have:=Qe hc;subst this
   cases hq:OW c&&LC ry.fs rx.f
   .exact wS hfs
   .simp only [Bool.and_eq_true] at hq
    obtain ⟨q1,q2⟩:=hq
    rw [Xc] at q1
    rw [cond_true]
    refine BJ hfs fun v hv n hn hg hbs f hf=>?_
    obtain ⟨bs,hb,rfl⟩:=hbs
    have a1:=M_ hv hg q2
    have e:=h1' bs hb
    rw [e] at a1
    have hn':(vl ρ bs) n=(x.den ρ).I % c:=by
     rw [hn]
     show (x.den ρ).I.tmod c=_
     exact Int.tmod_eq_emod_of_nonneg a1
    have b4:=Int.emod_nonneg (x.den ρ).I (show c≠0 by omega)
    have b5:=Int.emod_lt_of_pos (x.den ρ).I q1
    have b3:=Int.mul_ediv_add_emod (x.den ρ).I c
    have b6:0<=c*((x.den ρ).I / c):=Int.mul_nonneg (by omega) (Int.ediv_nonneg a1 (by omega))
    simp only [ase,List.mem_cons,List.not_mem_nil,or_false] at hf
    rcases hf with rfl|rfl|rfl
    .rw [wo,hn'];exact b4
    .rw [lT,wo,hn'];simp only [LF.ev,hv];omega
    .rw [lT,wo,e,hn'];omega
  .exact wS hfs
 case shr=>
  split
  .rename_i c hc
   have:=Qe hc;subst this
   cases hq:Nat.beq c.toNat 1
   .exact wS hfs
   .have hc1:c.toNat=1:=Nat.eq_of_beq_eq_true hq
    rw [cond_true]
    refine BJ hfs fun v hv n hn hg hbs f hf=>?_
    obtain ⟨bs,hb,rfl⟩:=hbs
    have e:=h1' bs hb
    have hn':(vl ρ bs) n=(x.den ρ).I / 2:=by
     rw [hn]
     show (x.den ρ).I.fdiv (2 ^ (min c.toNat k.bits))=_
     rw [hc1,Int.fdiv_eq_ediv_of_nonneg _ (Int.pow_nonneg (by omega))]
     cases k<;>rfl
    simp only [asf,List.mem_cons,List.not_mem_nil,or_false] at hf
    rcases hf with rfl|rfl
    .rw [lT,Jc,wo,e,hn'];omega
    .rw [lT,ES,Jc,wo,e,hn']
     simp only [LF.ev,hv];omega
  .exact wS hfs
 all_goals exact wS hfs
theorem Qg {ρ:List AV}{x:Tm}{az:List Tm}{fs:List LF}(hfs:Cc ρ az fs):Sj ρ az (oI (.slen x) abp az fs) ((Tm.slen x).den ρ).I:=by
 refine BJ hfs fun v hv n hn hg hbs f hf=>?_
 simp only [abp,List.mem_cons,List.not_mem_nil,or_false] at hf
 subst hf
 rw [wo,hn]
 exact Int.natCast_nonneg _
theorem aqF {ρ:List AV}{ks:Pc}(hk:ks.holds ρ):∀{t:Tm} {az:List Tm} {fs:List LF},Cc ρ az fs->Sj ρ az (Xd ks t az fs) ((Tm.slen t).den ρ).I:=by
 intro t
 induction t with
 |ls l=>exact fun {az fs} hfs=>⟨List.prefix_refl _,hfs,fun bs hb=>by simp only [Xd,yG,abo];simp [LF.ev,vl,Tm.den,D.I,D.S,sLen]⟩
 |bin o k x y sU ihy=>
  intro az fs hfs
  cases o<;>first|exact Qg hfs|skip
  cases k<;>first|exact Qg hfs|skip
  obtain ⟨a1,a2,a3⟩:=sU hfs
  obtain ⟨b1,b2,b3⟩:=ihy (az:=(Xd ks x az fs).az) (fs:=(Xd ks x az fs).fs) a2
  refine ⟨a1.trans b1,b2,fun bs hb=>?_⟩
  have h1:=a3.mono b1 bs hb
  have h2:=b3 bs hb
  show LF.ev _ (Nz _ _)=_
  rw [ES,h1,h2]
  simp [Tm.den,qJ,D.I,D.S,sLen]
 |ite c x y _ sU ihy=>
  intro az fs hfs
  simp only [Xd]
  split
  .rename_i h
   have:=Pc.gQ hk h
   have e:((Tm.slen (.ite c x y)).den ρ).I=((Tm.slen x).den ρ).I:=by show (D.i (sLen ((Tm.ite c x y).den ρ).S)).I=_;rw [Tm.qm,this];rfl
   rw [e];exact sU hfs
  .rename_i h
   have:=Pc.gQ hk h
   have e:((Tm.slen (.ite c x y)).den ρ).I=((Tm.slen y).den ρ).I:=by show (D.i (sLen ((Tm.ite c x y).den ρ).S)).I=_;rw [Tm.qm,this];rfl
   rw [e];exact ihy hfs
  .exact Qg hfs
 |Ef x lo hi _ _ _=>
  intro az fs hfs
  simp only [Xd]
  split
  .rename_i l hl
   have:=aqD hl;subst this
   refine BJ hfs fun v hv n hn hg hbs f hf=>?_
   simp only [aw4,yG,List.mem_cons,List.not_mem_nil,or_false] at hf
   have hle:((Tm.slen (.Ef (.ls l) lo hi)).den ρ).I<=(l.length:Int):=by
    simp only [Tm.den,D.I,D.S,sLen]
    rw [List.length_take,List.length_drop]
    omega
   rcases hf with rfl|rfl
   .rw [wo,hn];exact Int.natCast_nonneg _
   .rw [lT,wo,hn]
    simp only [LF.ev,hv];omega
  .exact Qg hfs
 |_=>intro az fs hfs;exact Qg hfs
theorem Sl {ρ:List AV}{ks:Pc}(hk:ks.holds ρ):∀{t:Tm} {az:List Tm} {fs:List LF},Cc ρ az fs->Sj ρ az (lin ks t az fs) (t.den ρ).I:=by
 intro t
 induction t with
 |li c=>exact fun {az fs} hfs=>⟨List.prefix_refl _,hfs,fun bs hb=>by simp only [lin,abo];simp [LF.ev,vl,Tm.den,D.I]⟩
 |bin o kd x y sU ihy=>
  intro az fs hfs
  cases kd with
  |int k=>
   obtain ⟨a1,a2,a3⟩:=sU hfs
   obtain ⟨b1,b2,b3⟩:=ihy (az:=(lin ks x az fs).az) (fs:=(lin ks x az fs).fs) a2
   exact Sj.up (a1.trans b1) (aqE (rx:=lin ks x az fs) a3 b1 b3 b2)
  |_=>exact wS hfs
 |conv k x ih=>
  intro az fs hfs
  obtain ⟨a1,a2,a3⟩:=ih hfs
  exact Sj.up a1 (anw a2 a3 rfl)
 |ite c x y _ sU ihy=>
  intro az fs hfs
  simp only [lin]
  split
  .rename_i h
   have:=Pc.gQ hk h
   rw [Tm.qm,this];exact sU hfs
  .rename_i h
   have:=Pc.gQ hk h
   rw [Tm.qm,this];exact ihy hfs
  .exact wS hfs
 |rlen x _=>
  intro az fs hfs
  have e:((Tm.rlen x).den ρ).I=((Tm.rlen (aDS ks x)).den ρ).I:=by simp only [Tm.den,agz hk]
  rw [e]
  simp only [lin]
  split
  .rename_i hc
   rw [hc]
   exact ⟨List.prefix_refl _,hfs,fun bs hb=>rfl⟩
  refine BJ hfs fun v hv n hn hg hbs f hf=>?_
  simp only [abp,List.mem_cons,List.not_mem_nil,or_false] at hf
  subst hf
  rw [wo,hn]
  exact Int.natCast_nonneg _
 |slen x _=>intro az fs hfs;exact aqF hk hfs
 |byte x i _ _=>
  intro az fs hfs
  refine BJ hfs fun v hv n hn hg hbs f hf=>?_
  have h0:((Tm.byte x i).den ρ).I=(((x.den ρ).S.getD (i.den ρ).I.toNat 0).toNat:Int):=rfl
  have h1:=UInt8.toNat_lt ((x.den ρ).S.getD (i.den ρ).I.toNat 0)
  simp only [anv,List.mem_cons,List.not_mem_nil,or_false] at hf
  rcases hf with rfl|rfl
  .rw [wo,hn,h0];omega
  .rw [lT,wo,hn,h0];simp only [LF.ev,hv];omega
 |_=>exact fun hfs=>wS hfs
def aqG (o:BinOp)(b:Bool)(x y:LF):Option (List LF):=
 let one:LF:=[(0,1)]
 match o,b with
 | .lss,true=>some [qV (qV y x) one]
 | .lss,false=>some [qV x y]
 | .leq,true=>some [qV y x]
 | .leq,false=>some [qV (qV x y) one]
 | .gtr,true=>some [qV (qV x y) one]
 | .gtr,false=>some [qV y x]
 | .geq,true=>some [qV x y]
 | .geq,false=>some [qV (qV y x) one]
 | .eql,true=>some [qV x y,qV y x]
 | .neq,false=>some [qV x y,qV y x]
 |_,_=>none
def ZV (o:BinOp)(b:Bool):Bool:=match o,b with
 | .eql,false=>true
 | .neq,true=>true
 |_,_=>false
theorem aip {o:BinOp}{k:IntKind}{b:Bool}{x y:LF}{X Y:D}{v:Nat->Int}(hv:v 0=1){l:List LF}(h:aqG o b x y=some l)(hx:x.ev v=X.I)(hy:y.ev v=Y.I):(∀f∈l,0<=f.ev v)↔(qJ o (.int k) X Y).B=b:=by
 have one:LF.ev v [(0,1)]=1:=by simp [LF.ev,hv]
 cases o<;>cases b<;>simp only [aqG] at h<;>first|(cases h;done)|skip
 all_goals
  simp only [Option.some.injEq] at h
  subst h
  simp only [List.mem_cons,List.not_mem_nil,or_false,forall_eq_or_imp,forall_eq,lT,hx,hy,one,qJ,D.B,dZ,jC,decide_eq_true_eq,decide_eq_false_iff_not,beq_iff_eq,bne_eq_false_iff_eq]
  omega
theorem adL {o:BinOp}{k:IntKind}{b:Bool}{X Y:D}(h:ZV o b=true):(qJ o (.int k) X Y).B=b↔X.I≠Y.I:=by
 cases o<;>cases b<;>simp [ZV] at h<;>simp [qJ,D.B,dZ,jC]
structure AS where
 az:List Tm
 fs:List LF
def Yn (ρ:List AV)(s:AS):Prop:=Cc ρ s.az s.fs
def auO (ks:Pc)(o:BinOp)(b:Bool)(x y:Tm)(s:AS):AS:=
 match lin ks x s.az s.fs with
 |⟨as1,fs1,f1⟩=>match lin ks y as1 fs1 with
  |⟨as2,fs2,f2⟩=>match aqG o b f1 f2 with
   |some l=>⟨as2,l++fs2⟩
   |none=>bif ZV o b then
     bif LC fs2 (qV f1 f2) then ⟨as2,qV (qV f1 f2) [(0,1)]::fs2⟩ else bif LC fs2 (qV f2 f1) then ⟨as2,qV (qV f2 f1) [(0,1)]::fs2⟩ else ⟨as2,fs2⟩
    else ⟨as2,fs2⟩
def Qh (ks:Pc):Tm->Bool->AS->AS
 | .not x,b,s=>Qh ks x (!b) s
 | .and x y,b,s=>match b with
  |true=>Qh ks y true (Qh ks x true s)
  |false=>s
 | .or x y,b,s=>match b with
  |true=>s
  |false=>Qh ks y false (Qh ks x false s)
 | .bin o kd x y,b,s=>match kd with
  | .int _=>auO ks o b x y s
  |_=>s
 |_,_,s=>s
theorem aqH {ρ:List AV}{ks:Pc}(hk:ks.holds ρ){o:BinOp}{k:IntKind}{b:Bool}{x y:Tm}{s:AS}(hs:Yn ρ s)(h:((Tm.bin o (.int k) x y).den ρ).B=b):Yn ρ (auO ks o b x y s):=by
 obtain ⟨a1,a2,a3⟩:=Sl hk (t:=x) hs
 obtain ⟨b1,b2,b3⟩:=Sl hk (t:=y) (az:=(lin ks x s.az s.fs).az) (fs:=(lin ks x s.az s.fs).fs) a2
 have a3':=a3.mono b1
 unfold auO
 dsimp only
 split
 .rename_i l hl
  exact Cc.app (fun f hf bs hb=>(aip (k:=k) rfl hl (a3' bs hb) (b3 bs hb)).2 h f hf) b2
 .cases hd:ZV o b
  .exact b2
  .have hne:=(adL (k:=k) hd).1 h
   simp only [cond_true]
   have one:∀bs,LF.ev (vl ρ bs) [(0,1)]=1:=by simp [LF.ev,vl]
   cases h1:LC (lin ks y (lin ks x s.az s.fs).az (lin ks x s.az s.fs).fs).fs (qV (lin ks x s.az s.fs).f (lin ks y (lin ks x s.az s.fs).az (lin ks x s.az s.fs).fs).f)
   .simp only [cond_false]
    cases h2:LC (lin ks y (lin ks x s.az s.fs).az (lin ks x s.az s.fs).fs).fs (qV (lin ks y (lin ks x s.az s.fs).az (lin ks x s.az s.fs).fs).f (lin ks x s.az s.fs).f)
    .exact b2
    .refine Cc.cons (fun bs hb=>?_) b2
     have q:=GX b2 h2 bs hb
     rw [lT,a3' bs hb,b3 bs hb] at q
     rw [lT,lT,a3' bs hb,b3 bs hb,one]
     omega
   .refine Cc.cons (fun bs hb=>?_) b2
    have q:=GX b2 h1 bs hb
    rw [lT,a3' bs hb,b3 bs hb] at q
    rw [lT,lT,a3' bs hb,b3 bs hb,one]
    omega
theorem Xe {ρ:List AV}{ks:Pc}(hk:ks.holds ρ):∀{t:Tm} {b:Bool} {s:AS},Yn ρ s->(t.den ρ).B=b->Yn ρ (Qh ks t b s):=by
 intro t
 induction t with
 |not x ih=>exact fun hs h=>ih hs (by rw [<- h];simp [Tm.den,D.B])
 |and x y sU ihy=>
  intro b s hs h
  cases b
  .exact hs
  .have h':(x.den ρ).B=true/\(y.den ρ).B=true:=by simpa [Tm.den,D.B] using h
   exact ihy (sU hs h'.1) h'.2
 |or x y sU ihy=>
  intro b s hs h
  cases b
  .have h':(x.den ρ).B=false/\(y.den ρ).B=false:=by simpa [Tm.den,D.B] using h
   exact ihy (sU hs h'.1) h'.2
  .exact hs
 |bin o kd x y _ _=>
  intro b s hs h
  cases kd with
  |int k=>exact aqH hk (k:=k) hs h
  |_=>exact hs
 |_=>exact fun hs _=>hs
def Xf (ks:Pc):Pc->AS->AS
 |[],s=>s
 |x::r,s=>Qh ks x.1 x.2 (Xf ks r s)
theorem Na {ρ:List AV}{ks:Pc}(hk:ks.holds ρ):∀{pc:Pc} {s:AS},pc.holds ρ->Yn ρ s->Yn ρ (Xf ks pc s)
 |[],s,_,hs=>hs
 |x::r,s,hp,hs=>Xe hk (Na hk (fun y hy=>hp y (List.mem_cons_of_mem _ hy)) hs) (hp x (List.mem_cons_self ..))
def auP (ks:Pc)(o:BinOp)(b:Bool)(x y:Tm)(s:AS):Bool:=
 match lin ks x s.az s.fs with
 |⟨as1,fs1,f1⟩=>match lin ks y as1 fs1 with
  |⟨as2,fs2,f2⟩=>match aqG o b f1 f2 with
   |some l=>l.all (LC fs2)
   |none=>ZV o b&&(LC fs2 (qV (qV f1 f2) [(0,1)])||LC fs2 (qV (qV f2 f1) [(0,1)]))
def JU (ks:Pc):Tm->Bool->AS->Bool
 | .lb v,b,_=>v == b
 | .not x,b,s=>JU ks x (!b) s
 | .and x y,b,s=>match b with
  |true=>JU ks x true s&&JU ks y true s
  |false=>JU ks x false s||JU ks y false (Qh ks x true s)
 | .or x y,b,s=>match b with
  |true=>JU ks x true s||JU ks y true (Qh ks x false s)
  |false=>JU ks x false s&&JU ks y false s
 | .bin o kd x y,b,s=>match ks.known (.bin o kd x y) with
  |some v=>v == b
  |none=>match kd with
   | .int _=>auP ks o b x y s
   |_=>false
 |t,b,_=>match ks.known t with
  |some v=>v == b
  |none=>false
theorem aqI {ρ:List AV}{ks:Pc}(hk:ks.holds ρ){o:BinOp}{k:IntKind}{b:Bool}{x y:Tm}{s:AS}(hs:Yn ρ s)(h:auP ks o b x y s=true):((Tm.bin o (.int k) x y).den ρ).B=b:=by
 obtain ⟨a1,a2,a3⟩:=Sl hk (t:=x) hs
 obtain ⟨b1,b2,b3⟩:=Sl hk (t:=y) (az:=(lin ks x s.az s.fs).az) (fs:=(lin ks x s.az s.fs).fs) a2
 have a3':=a3.mono b1
 unfold auP at h
 dsimp only at h
 have rf:=List.prefix_refl (lin ks y (lin ks x s.az s.fs).az (lin ks x s.az s.fs).fs).az
 split at h
 .rename_i l hl
  rw [List.all_eq_true] at h
  exact (aip (k:=k) rfl hl (a3' _ rf) (b3 _ rf)).1 fun f hf=>GX b2 (h f hf) _ rf
 .rw [Bool.and_eq_true] at h
  refine (adL (k:=k) h.1).2 ?_
  have one:∀bs,LF.ev (vl ρ bs) [(0,1)]=1:=by simp [LF.ev,vl]
  have h2:=h.2
  rw [Bool.or_eq_true] at h2
  rcases h2 with h2|h2
  .have q:=GX b2 h2 _ rf
   rw [lT,lT,a3' _ rf,b3 _ rf,one] at q
   intro e;omega
  .have q:=GX b2 h2 _ rf
   rw [lT,lT,a3' _ rf,b3 _ rf,one] at q
   intro e;omega
theorem aiq {ρ:List AV}{ks:Pc}(hk:ks.holds ρ):∀{t:Tm} {b:Bool} {s:AS},Yn ρ s->JU ks t b s=true->(t.den ρ).B=b:=by
 intro t
 have oth:∀{t:Tm} {b:Bool},(match ks.known t with|some v=>v == b|none=>false)=true->(t.den ρ).B=b:=by
  intro t b h
  split at h
  .rename_i v hv
   rw [Pc.gQ hk hv];simpa using h
  .cases h
 induction t with
 |lb v=>exact fun hs h=>by simpa [JU,Tm.den,D.B] using h
 |not x ih=>intro b s hs h;have:=ih (b:=!b) hs h;show (!(x.den ρ).B)=b;rw [this];simp
 |and x y sU ihy=>
  intro b s hs h
  cases b
  .simp only [JU,Bool.or_eq_true] at h
   show ((x.den ρ).B&&(y.den ρ).B)=false
   cases hx:(x.den ρ).B
   .rfl
   .rcases h with h|h
    .rw [sU hs h] at hx;cases hx
    .rw [ihy (Xe hk hs hx) h];rfl
  .simp only [JU,Bool.and_eq_true] at h
   show ((x.den ρ).B&&(y.den ρ).B)=true
   rw [sU hs h.1,ihy hs h.2];rfl
 |or x y sU ihy=>
  intro b s hs h
  cases b
  .simp only [JU,Bool.and_eq_true] at h
   show ((x.den ρ).B||(y.den ρ).B)=false
   rw [sU hs h.1,ihy hs h.2];rfl
  .simp only [JU,Bool.or_eq_true] at h
   show ((x.den ρ).B||(y.den ρ).B)=true
   cases hx:(x.den ρ).B
   .rcases h with h|h
    .rw [sU hs h] at hx;cases hx
    .rw [ihy (Xe hk hs hx) h];rfl
   .rfl
 |bin o kd x y _ _=>
  intro b s hs h
  simp only [JU] at h
  split at h
  .rename_i v hv
   rw [Pc.gQ hk hv];simpa using h
  .split at h
   .exact aqI hk hs h
   .cases h
 |_=>exact fun hs h=>oth h
def LD : Tm->Option Tm
 | .ite c _ _=>some c
 | .bin _ _ x y=>match LD x with|some c=>some c|none=>LD y
 | .and x y=>match LD x with|some c=>some c|none=>LD y
 | .or x y=>match LD x with|some c=>some c|none=>LD y
 | .not x=>LD x
 | .conv _ x=>LD x
 | .rlen x=>LD x
 | .slen x=>LD x
 |_=>none
def Nb (ks:Pc):Pc->Option Tm
 |[]=>none
 |x::r=>match LD x.1 with
  |some c=>match ks.known c with|none=>some c|some _=>Nb ks r
  |none=>Nb ks r
def aw5 : Tm->Bool->Bool
 | .not t,b=>aw5 t (!b)
 | .bin o (.int _) _ _,b=>ZV o b
 |_,_=>false
def azf (F:Pc):Pc:=F.filter fun x=>aw5 x.1 x.2
def aEr : Tm->Bool
 | .not t=>aEr t
 | .and x y=>aEr x||aEr y
 | .or x y=>aEr x||aEr y
 | .bin o _ x y=>match o with
  | .lss | .leq | .gtr | .geq | .eql | .neq=>aEr x||aEr y
  |_=>true
 | .conv _ _=>true
 | .ite _ _ _=>true
 |_=>false
def asF (F:Pc):AS:=Xf F (azf F) (Xf F (F.filter fun x=>aEr x.1) (Xf F (F.filter fun x=>!(aEr x.1)) ⟨[],[]⟩))
theorem Pc.Jf {ρ:List AV}{F:Pc}{p:Tm×Bool->Bool}(h:F.holds ρ):Pc.holds ρ (F.filter p):=fun x hx=>h x (List.mem_filter.1 hx).1
theorem abr {ρ:List AV}{F:Pc}(h:F.holds ρ):Yn ρ (asF F):=Na h (Pc.Jf h) (Na h (Pc.Jf h) (Na h (Pc.Jf h) (fun f hf=>by cases hf)))
def hlf (pc:Pc):Tm->Bool->Pc
 | .and x y,b=>match b with
  |true=>[]
  |false=>match pc.known x with
   |some true=>(y,false)::hlf pc y false
   |_=>match pc.known y with
    |some true=>(x,false)::hlf pc x false
    |_=>[]
 | .or x y,b=>match b with
  |false=>[]
  |true=>match pc.known x with
   |some false=>(y,true)::hlf pc y true
   |_=>match pc.known y with
    |some false=>(x,true)::hlf pc x true
    |_=>[]
 | .not x,b=>hlf pc x (!b)
 |_,_=>[]
theorem auR {ρ:List AV}{pc:Pc}(h:pc.holds ρ):∀{t:Tm} {b:Bool},(t.den ρ).B=b->Pc.holds ρ (hlf pc t b):=by
 intro t
 induction t with
 |and x y sU ihy=>
  intro b e
  cases b
  .have e':((x.den ρ).B&&(y.den ρ).B)=false:=e
   simp only [hlf]
   split
   .rename_i hx
    rw [Pc.gQ h hx,Bool.true_and] at e'
    exact Pc.jy e' (ihy e')
   .split
    .rename_i hy
     rw [Pc.gQ h hy,Bool.and_true] at e'
     exact Pc.jy e' (sU e')
    .exact fun x hx=>by cases hx
  .exact fun x hx=>by cases hx
 |or x y sU ihy=>
  intro b e
  cases b
  .exact fun x hx=>by cases hx
  .have e':((x.den ρ).B||(y.den ρ).B)=true:=e
   simp only [hlf]
   split
   .rename_i hx
    rw [Pc.gQ h hx,Bool.false_or] at e'
    exact Pc.jy e' (ihy e')
   .split
    .rename_i hy
     rw [Pc.gQ h hy,Bool.or_false] at e'
     exact Pc.jy e' (sU e')
    .exact fun x hx=>by cases hx
 |not x ih=>
  intro b e
  have e':(!(x.den ρ).B)=b:=e
  exact ih (by rw [<- e'];simp)
 |_=>intro b e x hx;cases hx
def akq (G:Pc):Pc:=G.flatMap (fun x=>hlf G x.1 x.2)++G
theorem Qi {ρ:List AV}{G:Pc}(h:G.holds ρ):Pc.holds ρ (akq G):=fun x hx=>by
 rcases List.mem_append.1 hx with hx|hx
 .obtain ⟨y,hy,hx⟩:=List.mem_flatMap.1 hx
  exact auR h (h y hy) x hx
 .exact h x hx
def aDO : Nat->Pc->Tm->Bool
 |0,F,t=>JU F t true (asF F)
 |n+1,F,t=>JU F t true (asF F)||(match Nb F ((t,true)::F) with
  |none=>false
  |some c=>aDO n (akq ((c,true)::F)) t&&aDO n (akq ((c,false)::F)) t)
theorem BK {ρ:List AV}{t:Tm}:∀{n:Nat} {F:Pc},aDO n F t=true->F.holds ρ->(t.den ρ).B=true
 |0,F,h,hF=>aiq hF (abr hF) h
 |n+1,F,h,hF=>by
  simp only [aDO,Bool.or_eq_true] at h
  rcases h with h|h
  .exact aiq hF (abr hF) h
  .split at h
   .cases h
   .rename_i c _
    rw [Bool.and_eq_true] at h
    cases hc:(c.den ρ).B
    .exact BK h.2 (Qi (Pc.jy hc hF))
    .exact BK h.1 (Qi (Pc.jy hc hF))
def aEk (F:Pc):Bool:=match asF F with
 |⟨_,fs⟩=>fs.any fun f=>akp (C_ 3 fs f 40)
theorem akr {ρ:List AV}{F:Pc}(h:aEk F=true)(hF:F.holds ρ):False:=by
 have hs:=abr hF
 unfold aEk at h
 rw [List.any_eq_true] at h
 obtain ⟨f,hf,h⟩:=h
 unfold akp at h
 split at h
 .rename_i e
  have hp:∀g∈(asF F).fs,0<=g.ev (vl ρ (asF F).az):=fun g hg=>hs g hg _ (List.prefix_refl _)
  exact Jd rfl hp e (hp f hf)
 .cases h
end Go.Fw
end
section
namespace Go.Fw
variable [jY]
inductive Ek where|B|I|F|S|R
def Jg : Ek->D->D->Prop
 | .B,d,d'=>d.B=d'.B
 | .I,d,d'=>d.I=d'.I
 | .F,d,d'=>d.F=d'.F
 | .S,d,d'=>d.S=d'.S
 | .R,d,d'=>d.R=d'.R
theorem Jg.of_eq {e:Ek}{d d':D}(h:d=d'):Jg e d d':=by subst h;cases e<;>rfl
def Sm : SV->List Nat->Option SV
 |v,[]=>some v
 | .agg l,j::p=>match Eh l j with|some x=>Sm x p|none=>none
 | .fD l,j::p=>match Eh l j with|some x=>Sm x p|none=>none
 |_,_::_=>none
def air : Ek->SV->Option Tm
 | .B,.sc .bool t=>some t
 | .I,.sc (.int _) t=>some t
 | .F,.sc .kC t=>some t
 | .S,.sc .str t=>some t
 | .R,.sc .sl t=>some t
 | .R,.sf t=>some t
 | .R,.nil=>some .nl
 | .R,.slc [] _=>some .nl
 |_,_=>none
def ais (base:Nat)(l:List SV)(i:Nat)(p:List Nat):Option SV:=match Eh l (i-base) with
 |some v=>Sm v p
 |none=>none
def asg : SV->Option Tm
 | .slc rows _=>Rh rows.length fun n=>some (.li (.ofNat n))
 |v=>match air .R v with|some t=>some (.rlen t)|none=>none
def aw6 : Kd->Option Ek
 | .bool=>some .B
 | .int _=>some .I
 | .kC=>some .F
 | .str=>some .S
 | .sl=>none
def aEz : Tm->Option (Nat×List Nat)
 | .var i p=>some (i,p)
 |_=>none
theorem anx {t:Tm}{x:Nat×List Nat}(h:aEz t=some x):t=.var x.1 x.2:=by
 cases t<;>simp [aEz] at h
 subst h;rfl
def ku (base:Nat)(l:List SV):Ek->Tm->Option Tm
 |_,.lb v=>some (.lb v)
 |_,.li v=>some (.li v)
 |_,.lf v=>some (.lf v)
 |_,.ls v=>some (.ls v)
 |_,.nl=>some .nl
 |e,.var i p=>bif Nat.blt i base then some (.var i p) else match ais base l i p with
  |some v=>air e v
  |none=>none
 |_,.bin o k x y=>match aw6 k with
  |none=>none
  |some e=>match ku base l e x with
   |none=>none
   |some x'=>match ku base l e y with
    |none=>none
    |some y'=>some (.bin o k x' y')
 |_,.not x=>match ku base l .B x with|none=>none|some x'=>some (.not x')
 |_,.and x y=>match ku base l .B x with
  |none=>none
  |some x'=>match ku base l .B y with|none=>none|some y'=>some (.and x' y')
 |_,.or x y=>match ku base l .B x with
  |none=>none
  |some x'=>match ku base l .B y with|none=>none|some y'=>some (.or x' y')
 |e,.ite c x y=>match ku base l .B c with
  |none=>none
  |some c'=>match ku base l e x with
   |none=>none
   |some x'=>match ku base l e y with|none=>none|some y'=>some (.ite c' x' y')
 |_,.conv k x=>match ku base l .I x with|none=>none|some x'=>some (.conv k x')
 |_,.slen x=>match ku base l .S x with|none=>none|some x'=>some (.slen x')
 |_,.rlen x=>match aEz x with
  |some q=>bif Nat.blt q.1 base then some (.rlen (.var q.1 q.2)) else match ais base l q.1 q.2 with
   |some v=>asg v
   |none=>none
  |none=>match ku base l .R x with|none=>none|some x'=>some (.rlen x')
 |_,.byte x i=>match ku base l .S x with
  |none=>none
  |some x'=>match ku base l .I i with|none=>none|some i'=>some (.byte x' i')
 |_,_=>none
theorem Xg {ρ:List AV}:∀{p:List Nat} {v w:SV},Sm v p=some w->aDt (v.den ρ) p=w.den ρ
 |[],v,w,h=>by
  simp only [Sm,Option.some.injEq] at h
  subst h
  cases v.den ρ<;>rfl
 |j::p,v,w,h=>by
  cases v<;>simp only [Sm] at h<;>first|(cases h;done)|skip
  all_goals
   split at h
   .rename_i l x hx
    have e:=Gn (ρ:=ρ) hx
    simp only [SV.den,aDt,List.getD_eq_getElem?_getD,e,Option.getD_some]
    exact Xg h
   .cases h
theorem ZW {ρ:List AV}{e:Ek}{v:SV}{t:Tm}(h:air e v=some t):Jg e (t.den ρ) (v.den ρ).D:=by
 unfold air at h
 split at h<;>first|(cases h;done)|(simp only [Option.some.injEq] at h;subst h;rfl)
theorem U1 {ρ:List AV}{base i:Nat}{m:List AV}(hb:base<=ρ.length)(hi:i<base):(ρ.take base++m).getD i eP=ρ.getD i eP:=by
 have:i<(ρ.take base).length:=by rw [List.length_take];omega
 rw [List.getD_eq_getElem?_getD,List.getD_eq_getElem?_getD,List.getElem?_append_left this,List.getElem?_take,if_pos hi]
theorem Sr {ρ:List AV}{base:Nat}{l:List SV}(hb:base<=ρ.length){i:Nat}{p:List Nat}{v:SV}(hi:¬i<base)(h:ais base l i p=some v):aDt ((ρ.take base++dU ρ l).getD i eP) p=v.den ρ:=by
 unfold ais at h
 split at h
 .rename_i w hw
  have hl:(ρ.take base).length=base:=by rw [List.length_take];omega
  rw [List.getD_eq_getElem?_getD,List.getElem?_append_right (by omega),hl,Gn hw]
  exact Xg h
 .cases h
theorem GY {ρ:List AV}{base:Nat}{l:List SV}(hb:base<=ρ.length):∀{t:Tm} {e:Ek} {t':Tm},ku base l e t=some t'->Jg e (t'.den ρ) (t.den (ρ.take base++dU ρ l)):=by
 intro t
 induction t with
 |lb v=>intro e t' h;simp only [ku,Option.some.injEq] at h;subst h;exact .of_eq rfl
 |li v=>intro e t' h;simp only [ku,Option.some.injEq] at h;subst h;exact .of_eq rfl
 |lf v=>intro e t' h;simp only [ku,Option.some.injEq] at h;subst h;exact .of_eq rfl
 |ls v=>intro e t' h;simp only [ku,Option.some.injEq] at h;subst h;exact .of_eq rfl
 |nl=>intro e t' h;simp only [ku,Option.some.injEq] at h;subst h;exact .of_eq rfl
 |var i p=>
  intro e t' h
  simp only [ku] at h
  cases hi:Nat.blt i base
  .rw [hi] at h
   have hi':¬i<base:=fun q=>by rw [show Nat.blt i base=true by rw [Nat.blt_eq];exact q] at hi;cases hi
   simp only [cond_false] at h
   split at h
   .rename_i v hv
    have:=ZW (ρ:=ρ) h
    simp only [Tm.den,Sr hb hi' hv]
    exact this
   .cases h
  .rw [hi] at h
   simp only [cond_true,Option.some.injEq] at h;subst h
   rw [Nat.blt_eq] at hi
   exact .of_eq (by simp only [Tm.den,U1 hb hi])
 |bin o k x y sU ihy=>
  intro e t' h
  simp only [ku] at h
  split at h
  .cases h
  rename_i e' he
  split at h
  .cases h
  rename_i x' hx
  split at h
  .cases h
  rename_i y' hy
  simp only [Option.some.injEq] at h;subst h
  have h1:=sU hx
  have h2:=ihy hy
  refine .of_eq ?_
  cases k<;>simp only [aw6,Option.some.injEq] at he<;>first|(cases he;done)|skip
  all_goals
   subst he
   simp only [Jg] at h1 h2
   simp only [Tm.den]
   cases o<;>simp only [qJ,h1,h2]
 |not x ih=>
  intro e t' h
  simp only [ku] at h
  split at h
  .cases h
  rename_i x' hx
  simp only [Option.some.injEq] at h;subst h
  have h1:=ih hx
  simp only [Jg] at h1
  exact .of_eq (by simp only [Tm.den,h1])
 |and x y sU ihy=>
  intro e t' h
  simp only [ku] at h
  split at h
  .cases h
  rename_i x' hx
  split at h
  .cases h
  rename_i y' hy
  simp only [Option.some.injEq] at h;subst h
  have h1:=sU hx
  have h2:=ihy hy
  simp only [Jg] at h1 h2
  exact .of_eq (by simp only [Tm.den,h1,h2])
 |or x y sU ihy=>
  intro e t' h
  simp only [ku] at h
  split at h
  .cases h
  rename_i x' hx
  split at h
  .cases h
  rename_i y' hy
  simp only [Option.some.injEq] at h;subst h
  have h1:=sU hx
  have h2:=ihy hy
  simp only [Jg] at h1 h2
  exact .of_eq (by simp only [Tm.den,h1,h2])
 |ite c x y ihc sU ihy=>
  intro e t' h
  simp only [ku] at h
  split at h
  .cases h
  rename_i c' hc
  split at h
  .cases h
  rename_i x' hx
  split at h
  .cases h
  rename_i y' hy
  simp only [Option.some.injEq] at h;subst h
  have h0:=ihc hc
  have h1:=sU hx
  have h2:=ihy hy
  simp only [Jg] at h0
  rw [Tm.qm,Tm.qm,h0]
  cases (c.den (ρ.take base++dU ρ l)).B
  .exact h2
  .exact h1
 |conv k x ih=>
  intro e t' h
  simp only [ku] at h
  split at h
  .cases h
  rename_i x' hx
  simp only [Option.some.injEq] at h;subst h
  have h1:=ih hx
  simp only [Jg] at h1
  exact .of_eq (by simp only [Tm.den,h1])
 |slen x ih=>
  intro e t' h
  simp only [ku] at h
  split at h
  .cases h
  rename_i x' hx
  simp only [Option.some.injEq] at h;subst h
  have h1:=ih hx
  simp only [Jg] at h1
  exact .of_eq (by simp only [Tm.den,h1])
 |rlen x ih=>
  intro e t' h
  simp only [ku] at h
  split at h
  .rename_i q hq
   have:=anx hq;subst this
   obtain ⟨i,p⟩:=q
   dsimp only at h ⊢
   cases hi:Nat.blt i base
   .rw [hi] at h
    have hi':¬i<base:=fun q=>by rw [show Nat.blt i base=true by rw [Nat.blt_eq];exact q] at hi;cases hi
    simp only [cond_false] at h
    split at h
    .rename_i v hv
     unfold asg at h
     split at h
     .rename_i rows fl
      simp only [yG,Option.some.injEq] at h;subst h
      refine .of_eq ?_
      simp only [Tm.den,Sr hb hi' hv,SV.den,AV.D,D.R,mZ,f_]
      rfl
     .split at h
      .rename_i t0 ht0
       simp only [Option.some.injEq] at h;subst h
       have:=ZW (ρ:=ρ) ht0
       simp only [Jg] at this
       refine .of_eq ?_
       simp only [Tm.den,Sr hb hi' hv,this]
      .cases h
    .cases h
   .rw [hi] at h
    simp only [cond_true,Option.some.injEq] at h;subst h
    rw [Nat.blt_eq] at hi
    exact .of_eq (by simp only [Tm.den,U1 hb hi])
  .split at h
   .cases h
   rename_i x' hx
   simp only [Option.some.injEq] at h;subst h
   have h1:=ih hx
   simp only [Jg] at h1
   exact .of_eq (by simp only [Tm.den,h1])
 |byte x y sU ihy=>
  intro e t' h
  simp only [ku] at h
  split at h
  .cases h
  rename_i x' hx
  split at h
  .cases h
  rename_i y' hy
  simp only [Option.some.injEq] at h;subst h
  have h1:=sU hx
  have h2:=ihy hy
  simp only [Jg] at h1 h2
  exact .of_eq (by simp only [Tm.den,h1,h2])
 |_=>intro e t' h;simp [ku] at h
def JZ (a b:Tm):Tm:=.bin .leq (.int .i64) a b
def tLt (a b:Tm):Tm:=.bin .lss (.int .i64) a b
def tEq (a b:Tm):Tm:=.bin .eql (.int .i64) a b
def aqJ (a b:Tm):Tm:=.bin .add (.int .i64) a b
def big : Int:=4294967296
def anz (n:Nat):Tm:=Rh n fun n=>acv (big-(n:Int)) .li
def aqK (n:Nat):Tm:=Rh n fun n=>.li (.ofNat n)
def anA (x:Tm):Tm:=.bin .sub (.int .i64) (.li big) x
def Side.cnd : Side->List Tm
 | .tm t=>[t]
 | .row t i _=>[JZ (.li 0) i,tLt i (.rlen t)]
 | .rd _ t i _ _=>[JZ (.li 0) i,tLt i (.rlen t)]
 | .st t i _ _ _=>[JZ (.li 0) i,tLt i (.rlen t)]
 | .sub _ t lo hi _=>match lo,hi with
  |none,none=>[]
  |none,some h=>[JZ (.li 0) h,JZ h (.rlen t)]
  |some l,none=>[JZ (.li 0) l,JZ l (.rlen t)]
  |some l,some h=>[JZ (.li 0) l,JZ l h,JZ h (.rlen t)]
 | .mk len cap _ _=>[JZ (.li 0) len,JZ len cap,JZ cap (.li big)]
 | .app _ x y _=>[JZ (.rlen x) (anz y.length)]
 | .ajr _ x y _=>[JZ (.rlen y) (.li big),JZ (.rlen x) (anA (.rlen y))]
 | .len2 m y=>[JZ (.rlen y) (anz m)]
 | .cat x y=>[JZ (.slen y) (.li big),JZ (.slen x) (anA (.slen y))]
 | .cpy x len _ _=>[JZ len (.rlen x)]
 | .mark _ _ d len _=>[JZ len (.rlen d)]
 | .ajs _ x y _=>[JZ (.rlen y) (anz x.length)]
 |_=>[]
def oq (ρ:List AV):List Tm->Prop
 |[]=>True
 |t::r=>(t.den ρ).B=true/\oq ρ r
theorem oq.of {ρ:List AV}:∀{l:List Tm},(∀t∈l,(t.den ρ).B=true)->oq ρ l
 |[],_=>trivial
 |t::r,h=>⟨h t (List.mem_cons_self ..),oq.of fun x hx=>h x (List.mem_cons_of_mem _ hx)⟩
theorem oq.mem {ρ:List AV}:∀{l:List Tm},oq ρ l->∀t∈l,(t.den ρ).B=true
 |[],_,t,ht=>by cases ht
 |x::r,h,t,ht=>by
  rcases List.mem_cons.1 ht with rfl|ht
  .exact h.1
  .exact oq.mem h.2 t ht
structure Sp where
 pre:List Tm
 bnd:List Tm
 post:List Tm
structure Dc where
 c:List (Nat×Sp)
 w:List (Nat×Nat×Sp)
def sp0 : Sp:=⟨[],[],[]⟩
def Dc.at (T:Dc)(f:Nat):Sp:=go T.c
 where go:List (Nat×Sp)->Sp
  |[]=>sp0
  |x::r=>bif Nat.beq x.1 f then x.2 else go r
def Dc.atW (T:Dc)(f n0:Nat):Sp:=go T.w
 where go:List (Nat×Nat×Sp)->Sp
  |[]=>sp0
  |x::r=>bif Nat.beq x.1 f&&Nat.beq x.2.1 n0 then x.2.2 else go r
def wB.av : wB->AV
 | .rows _ rs=>.sl rs false
 | .kN _ _ rs=>.sl rs false
 |_=>.sl [] true
def avB (l:List (Nat×wB)):List AV:=l.map fun x=>x.2.av
def SB.sv : SB->SV
 | .rows _ rs=>.slc rs false
 | .kN _ _ rs=>.slc rs false
 | .fK _ t=>.sc .sl t
 |_=>.nil
def Sv (bl:List (Nat×SB)):List SV:=bl.map fun x=>x.2.sv
theorem GZ {ρ:List AV}:∀{bl:List (Nat×SB)},dU ρ (Sv bl)=avB (Iz ρ bl)
 |[]=>rfl
 |x::r=>by
  have ih:=GZ (ρ:=ρ) (bl:=r)
  simp only [Sv,avB,Iz,List.map_cons,dU,List.cons.injEq] at ih ⊢
  refine ⟨?_,by simpa using ih⟩
  cases x.2<;>rfl
def CT (P:Program)(T:Dc)(f:FuncId)(az:List AV)(r:AV):Prop:=
 oq az (T.at f).pre->PC P f az r/\(oq az (T.at f).bnd->oq (az++[r]) (T.at f).post)
def CTo (P:Program)(T:Dc)(f:FuncId)(az:List AV)(r:AV)(p:List Nat)(sz:Nat):Prop:=
 oq az (T.at f).pre->PCo P f az r p sz/\(oq az (T.at f).bnd->oq (az++[r]) (T.at f).post)
def CTw (P:Program)(T:Dc)(f:FuncId)(az:List AV)(bin:List (Nat×wB))(n0:Nat)(r:AV)(Nv:List (Nat×wB)):Prop:=
 oq (az++avB bin) (T.atW f n0).pre->PWL P f az bin n0 r Nv/\(oq (az++avB bin) (T.atW f n0).bnd->oq (az++avB bin++(r::avB Nv)) (T.atW f n0).post)
def spS (T:Dc):Side->Option (Sp×List SV×List SV)
 | .call f args r=>some (T.at f,args,args++[r])
 | .Px f args r _ _ _=>some (T.at f,args,args++[r])
 | .qp f args bl n0 r JW=>some (T.atW f n0,args++Sv bl,args++Sv bl++(r::Sv JW))
 |_=>none
def sbL (l:List SV):List Tm->Option (List Tm)
 |[]=>some []
 |t::r=>match ku 0 l .B t with
  |none=>none
  |some t'=>match sbL l r with|none=>none|some r'=>some (t'::r')
theorem OX {ρ:List AV}{l:List SV}:∀{ts us:List Tm},sbL l ts=some us->(oq ρ us↔oq (dU ρ l) ts)
 |[],us,h=>by simp only [sbL,Option.some.injEq] at h;subst h;exact Iff.rfl
 |t::r,us,h=>by
  simp only [sbL] at h
  split at h
  .cases h
  rename_i t' ht
  split at h
  .cases h
  rename_i r' hr
  simp only [Option.some.injEq] at h;subst h
  have h1:=GY (ρ:=ρ) (Nat.zero_le _) ht
  simp only [Jg,List.take_zero,List.nil_append] at h1
  exact and_congr (by rw [h1]) (OX hr)
 mutual
def osV : SV->Option (Nat×Tm)
  | .os b _ _ t=>some (b,t)
  | .agg l=>osL l
  | .fn _ x y=>match osL x with|some z=>some z|none=>osL y
  |_=>none
def osL : List SV->Option (Nat×Tm)
  |[]=>none
  |x::r=>match osV x with|some z=>some z|none=>osL r
end
def blT (b:Nat):List (Nat×SB)->Option Tm
 |[]=>none
 |x::r=>bif Nat.beq x.1 b then (match x.2 with | .fK _ t=>some t|_=>none) else blT b r
def osT (args:List SV)(bl:List (Nat×SB)):Tm×Tm:=match osL args with
 |some (b,t)=>match blT b bl with|some t'=>(t,t')|none=>(.li 0,.nl)
 |none=>(.li 0,.nl)
def Side.osE : Side->List Tm
 | .qp _ args bl _ _ _=>match osL args with
  |some _=>[tEq (osT args bl).1 (.rlen (osT args bl).2)]
  |none=>[]
 |_=>[]
theorem oq.app {ρ:List AV}:∀{a b:List Tm},oq ρ (a++b)->oq ρ a/\oq ρ b
 |[],b,h=>⟨trivial,h⟩
 |x::r,b,h=>⟨⟨h.1,(oq.app h.2).1⟩,(oq.app h.2).2⟩
def Side.wk (P:Program)(T:Dc)(ρ:List AV):Side->Prop
 | .under pc s=>Pc.holds ρ pc->s.wk P T ρ
 | .call f args r=>CT P T f (dU ρ args) (r.den ρ)
 | .Px f args r p sz fl=>CTo P T f (dU ρ args) (r.den ρ) p sz/\(fl=true->∀row∈EI p (r.den ρ),Bv row=true)
 | .qp f args bl n0 r JW=>oq ρ (Side.osE (.qp f args bl n0 r JW))->CTw P T f (dU ρ args) (Iz ρ bl) n0 (r.den ρ) (Iz ρ JW)
 |s=>oq ρ s.cnd->s.holds P ρ
def ZX (T:Dc)(s:Side):Option (List Tm):=match spS T s with
 |some (sp,l,_)=>match sp.pre with
  |[]=>some s.osE
  |p=>match sbL l p with|some q=>some (q++s.osE)|none=>none
 |none=>some s.cnd
def FU (F:Pc)(l:List Tm):Bool:=l.all (aDO 2 F)||aEk F
theorem G5 {ρ:List AV}{F:Pc}{l:List Tm}(h:FU F l=true)(hF:F.holds ρ):oq ρ l:=by
 unfold FU at h
 rw [Bool.or_eq_true,List.all_eq_true] at h
 rcases h with h|h
 .exact oq.of fun t ht=>BK (h t ht) hF
 .exact (akr h hF).elim
theorem uh {ρ:List AV}{a b:Pc}(h:Pc.holds ρ a)(k:Pc.holds ρ b):Pc.holds ρ (a++b):=fun x hx=>by
 rcases List.mem_append.1 hx with hx|hx
 .exact h x hx
 .exact k x hx
theorem ait {ρ:List AV}{a b:Pc}(h:Pc.holds ρ (a++b)):Pc.holds ρ a:=fun x hx=>h x (List.mem_append.2 (.inl hx))
theorem aiu {ρ:List AV}{a b:Pc}(h:Pc.holds ρ (a++b)):Pc.holds ρ b:=fun x hx=>h x (List.mem_append.2 (.inr hx))
def AO (ρ:List AV):List (Pc×Tm)->Prop
 |[]=>True
 |x::r=>(Pc.holds ρ x.1->(x.2.den ρ).B=true)/\AO ρ r
theorem AO.app {ρ:List AV}:∀{a b:List (Pc×Tm)},AO ρ a->AO ρ b->AO ρ (a++b)
 |[],_,_,h=>h
 |_::_,_,h,k=>⟨h.1,AO.app h.2 k⟩
def agB (pc:Pc)(t:Tm):Option Bool:=match pc.known t with
 |some b=>some b
 |none=>match t with
  | .bin .eql k x y=>match k with
   | .int k=>(match pc.known (.bin .neq (.int k) x y) with|some b=>some (!b)|none=>none)
   |_=>none
  | .bin .neq k x y=>match k with
   | .int k=>(match pc.known (.bin .eql (.int k) x y) with|some b=>some (!b)|none=>none)
   |_=>none
  |_=>none
theorem akt {ρ:List AV}{pc:Pc}(hp:pc.holds ρ){t:Tm}{b:Bool}(h:agB pc t=some b):(t.den ρ).B=b:=by
 unfold agB at h
 split at h
 .rename_i v hv
  simp only [Option.some.injEq] at h;subst h
  exact Pc.gQ hp hv
 .split at h
  .split at h
   .split at h
    .rename_i v hv
     simp only [Option.some.injEq] at h;subst h
     have:=Pc.gQ hp hv
     rw [<- this]
     simp [Tm.den,qJ,D.B,dZ,jC,bne]
    .cases h
   .cases h
  .split at h
   .split at h
    .rename_i v hv
     simp only [Option.some.injEq] at h;subst h
     have:=Pc.gQ hp hv
     rw [<- this]
     simp [Tm.den,qJ,D.B,dZ,jC,bne]
    .cases h
   .cases h
  .cases h
def Qj (pc:Pc)(l:Pc):Bool:=l.all fun e=>match agB pc e.1 with|some b=>b == e.2|none=>false
theorem adM {ρ:List AV}{pc l:Pc}(h:Qj pc l=true)(hp:pc.holds ρ):Pc.holds ρ l:=by
 unfold Qj at h
 rw [List.all_eq_true] at h
 intro e he
 have:=h e he
 split at this
 .rename_i b hb
  rw [akt hp hb];simpa using this
 .cases this
def xsF (pc:Pc):List (Pc×Tm)->Pc
 |[]=>[]
 |x::r=>bif Qj pc x.1 then (x.2,true)::xsF pc r else xsF pc r
theorem agC {ρ:List AV}{pc:Pc}(hp:pc.holds ρ):∀{xs:List (Pc×Tm)},AO ρ xs->Pc.holds ρ (xsF pc xs)
 |[],_=>fun x hx=>by cases hx
 |x::r,h=>by
  simp only [xsF]
  cases hk:Qj pc x.1
  .exact agC hp h.2
  .exact Pc.jy (h.1 (adM hk hp)) (agC hp h.2)
def agD : Tm->Bool->Pc->Pc
 | .and x y,true,acc=>agD x true (agD y true acc)
 | .or x y,false,acc=>agD x false (agD y false acc)
 | .not x,b,acc=>agD x (!b) acc
 |t,b,acc=>(t,b)::acc
theorem aqN {ρ:List AV}:∀{t:Tm} {b:Bool} {acc:Pc},(t.den ρ).B=b->Pc.holds ρ acc->Pc.holds ρ (agD t b acc):=by
 intro t
 induction t with
 |and x y sU ihy=>
  intro b acc h k
  cases b with
  |false=>exact Pc.jy h k
  |true=>
   have h2:((x.den ρ).B&&(y.den ρ).B)=true:=h
   rw [Bool.and_eq_true] at h2
   exact sU h2.1 (ihy h2.2 k)
 |or x y sU ihy=>
  intro b acc h k
  cases b with
  |true=>exact Pc.jy h k
  |false=>
   have h2:((x.den ρ).B||(y.den ρ).B)=false:=h
   rw [Bool.or_eq_false_iff] at h2
   exact sU h2.1 (ihy h2.2 k)
 |not x ih=>
  intro b acc h k
  have h2:(!(x.den ρ).B)=b:=h
  exact ih (by rw [<- h2,Bool.not_not]) k
 |_=>intro b acc h k;exact Pc.jy h k
def aER : Pc->Pc
 |[]=>[]
 |x::r=>agD x.1 x.2 (aER r)
theorem aiv {ρ:List AV}:∀{pc:Pc},Pc.holds ρ pc->Pc.holds ρ (aER pc)
 |[],h=>h
 |x::r,h=>aqN (h x (List.mem_cons_self ..)) (aiv fun y hy=>h y (List.mem_cons_of_mem _ hy))
def aDH (F:Pc)(xs:List (Pc×Tm))(pc:Pc):Pc:=pc++(xsF (aER pc++F) xs++F)
theorem yY {ρ:List AV}{F:Pc}{xs:List (Pc×Tm)}{pc:Pc}(hF:Pc.holds ρ F)(hx:AO ρ xs)(hp:Pc.holds ρ pc):Pc.holds ρ (aDH F xs pc):=
 uh hp (uh (agC (uh (aiv hp) hF) hx) hF)
def anB (F:Pc)(T:Dc)(xs:List (Pc×Tm)):Pc->Side->Bool
 |pc,.under pc' s=>anB F T xs (pc'++pc) s
 |pc,s=>match ZX T s with
  |none=>false
  |some []=>true
  |some l=>FU (aDH F xs pc) l
def mkX (pc:Pc):Tm->Pc×Tm
 | .or c d=>((c,false)::pc,d)
 |t=>(pc,t)
theorem auS {ρ:List AV}{pc:Pc}{t:Tm}(h:Pc.holds ρ pc->(t.den ρ).B=true):Pc.holds ρ (mkX pc t).1->((mkX pc t).2.den ρ).B=true:=by
 cases t<;>try exact h
 rename_i c d
 intro hp
 have h1:((c.den ρ).B||(d.den ρ).B)=true:=h fun x hx=>hp x (List.mem_cons_of_mem _ hx)
 have h2:(c.den ρ).B=false:=hp (c,false) (List.mem_cons_self ..)
 rw [Bool.or_eq_true] at h1
 rcases h1 with h1|h1
 .rw [h1] at h2;cases h2
 .exact h1
def auT : Side->List (Pc×Tm)
 | .st t _ _ _ n=>[([],tEq (.rlen n) (.rlen t))]
 | .mk len _ _ n=>[([],tEq (.rlen n) len)]
 | .app _ x y n=>[([],tEq (.rlen n) (aqJ (.rlen x) (aqK y.length)))]
 | .ajr _ x y n=>[([],tEq (.rlen n) (aqJ (.rlen x) (.rlen y)))]
 | .ajs _ x y n=>[([],tEq (.rlen n) (aqJ (.rlen y) (aqK x.length)))]
 | .cpy x _ _ n=>[([],tEq (.rlen n) (.rlen x))]
 | .mark _ _ d _ n=>[([],tEq (.rlen n) (.rlen d))]
 | .sub _ t lo hi n=>match lo,hi with
  |none,none=>[([],tEq (.rlen n) (.rlen t))]
  |none,some h=>[([],tEq (.rlen n) h)]
  |some l,none=>[([],JZ (.rlen n) (.rlen t)),([(JZ (.rlen t) (.li big),true)],tEq (.rlen n) (.bin .sub (.int .i64) (.rlen t) l))]
  |some l,some h=>[([],JZ (.rlen n) (.rlen t)),([(JZ (.rlen t) (.li big),true)],tEq (.rlen n) (.bin .sub (.int .i64) h l))]
 |_=>[]
def abt (pc:Pc):List (Pc×Tm)->List (Pc×Tm)
 |[]=>[]
 |x::r=>(x.1++pc,x.2)::abt pc r
theorem ZY {ρ:List AV}{pc:Pc}:∀{l xs:List (Pc×Tm)},(Pc.holds ρ pc->AO ρ l)->AO ρ xs->AO ρ (abt pc l++xs)
 |[],xs,_,h=>h
 |x::r,xs,h,k=>⟨fun hp=>(h (aiu hp)).1 (ait hp),ZY (fun hp=>(h hp).2) k⟩
def aqO (pc:Pc):List Tm->List (Pc×Tm)
 |[]=>[]
 |t::r=>mkX pc t::aqO pc r
theorem aiw {ρ:List AV}{pc:Pc}:∀{l:List Tm} {xs:List (Pc×Tm)},(Pc.holds ρ pc->oq ρ l)->AO ρ xs->AO ρ (aqO pc l++xs)
 |[],xs,_,h=>h
 |t::r,xs,h,k=>⟨auS fun hp=>(h hp).1,aiw (fun hp=>(h hp).2) k⟩
def NT (F:Pc)(T:Dc)(xs:List (Pc×Tm)):Pc->Side->List (Pc×Tm)
 |pc,.under pc' s=>NT F T xs (pc'++pc) s
 |pc,s=>match spS T s with
  |none=>abt pc (auT s)++xs
  |some (sp,l,l2)=>match sp.post with
   |[]=>xs
   |post=>match sbL l sp.bnd with
    |none=>xs
    |some b=>bif FU (aDH F xs pc) b then (match sbL l2 post with|some q=>aqO pc q++xs|none=>xs) else xs
def x9 (P:Program)(T:Dc)(ρ:List AV):List (Pc×Side)->Prop
 |[]=>True
 |x::r=>(Pc.holds ρ x.1->x.2.wk P T ρ)/\x9 P T ρ r
def adN (F:Pc)(T:Dc)(xs:List (Pc×Tm)):List (Pc×Side)->Bool
 |[]=>true
 |x::r=>anB F T xs x.1 x.2&&adN F T (NT F T xs x.1 x.2) r
def sdX (F:Pc)(T:Dc)(xs:List (Pc×Tm)):List (Pc×Side)->List (Pc×Tm)
 |[]=>xs
 |x::r=>sdX F T (NT F T xs x.1 x.2) r
theorem aqP {P:Program}{ρ:List AV}{s:Side}(h:s.holds P ρ):AO ρ (auT s):=by
 have eq:∀{a b:Tm},(a.den ρ).I=(b.den ρ).I->((tEq a b).den ρ).B=true:=fun h=>by
  show dZ _ _=true
  exact kP.2 h
 have rl:∀{t:Tm},((Tm.rlen t).den ρ).I=((t.den ρ).R.length:Int):=rfl
 have nat:∀{n:Nat},((aqK n).den ρ).I=(n:Int):=by intro n;unfold aqK;rw [yG];rfl
 have add:∀{a b:Tm},((aqJ a b).den ρ).I=dY .i64 (a.den ρ).I (b.den ρ).I:=rfl
 cases s<;>try exact trivial
 case st t i off cells n=>
  obtain ⟨row,-,-,h3⟩:=h
  exact ⟨fun _=>eq (by rw [rl,rl,h3];simp),trivial⟩
 case mk len cap z n=>
  obtain ⟨h1,-,-,h4⟩:=h
  exact ⟨fun _=>eq (by rw [rl,h4];simp;omega),trivial⟩
 case app sz x y n=>
  obtain ⟨-,h2,h3⟩:=h
  refine ⟨fun _=>eq ?_,trivial⟩
  rw [rl,h3,add,rl,nat,nG (by omega) (by omega)]
  simp [f_]
 case ajr sz x y n=>
  obtain ⟨-,-,h2,h3⟩:=h
  refine ⟨fun _=>eq ?_,trivial⟩
  rw [rl,h3,add,rl,rl,nG (by omega) (by omega)]
  simp
 case ajs sz x y n=>
  obtain ⟨h2,h3⟩:=h
  refine ⟨fun _=>eq ?_,trivial⟩
  rw [rl,h3,add,rl,nat,nG (by omega) (by omega)]
  simp [f_];omega
 case cpy x len y n=>
  obtain ⟨h1,h2⟩:=h
  refine ⟨fun _=>eq ?_,trivial⟩
  rw [rl,rl,h2]
  simp only [List.length_append,List.length_take,List.length_drop];omega
 case mark m t d len n=>
  obtain ⟨-,-,h3,-⟩:=h
  exact ⟨fun _=>eq (by rw [rl,rl,h3]),trivial⟩
 case sub sz t lo hi n=>
  obtain ⟨-,h1,h2,h3,h4⟩:=h
  have hl:=congrArg List.length h4
  rw [List.length_take,List.length_drop] at hl
  have aw_:Pc.holds ρ [(JZ (.rlen t) (.li big),true)]->((t.den ρ).R.length:Int)<=4294967296:=fun hp=>by
   have:=hp (_,true) (List.mem_cons_self ..)
   have q:mZ (t.den ρ).R<=big:=of_decide_eq_true this
   unfold mZ big at q;exact q
  have le:((JZ (.rlen n) (.rlen t)).den ρ).B=true:=by
   show decide (mZ (n.den ρ).R<=mZ (t.den ρ).R)=true
   exact decide_eq_true (by unfold mZ;omega)
  cases lo with
  |none=>
   cases hi with
   |none=>
    have e1:Zf ρ 0 none=0:=rfl
    have e2:Zf ρ (t.den ρ).R.length none=(t.den ρ).R.length:=rfl
    rw [e1,e2] at hl
    exact ⟨fun _=>eq (by rw [rl,rl];omega),trivial⟩
   |some b=>
    have e1:Zf ρ 0 none=0:=rfl
    have e2:Zf ρ (t.den ρ).R.length (some b)=(b.den ρ).I:=rfl
    rw [e1,e2] at hl;rw [e2] at h3;rw [e1,e2] at h2
    exact ⟨fun _=>eq (by rw [rl];omega),trivial⟩
  |some a=>
   have e1:Zf ρ 0 (some a)=(a.den ρ).I:=rfl
   rw [e1] at h1
   cases hi with
   |none=>
    have e2:Zf ρ (t.den ρ).R.length none=(t.den ρ).R.length:=rfl
    rw [e1,e2] at h2;rw [e1,e2] at hl
    refine ⟨fun _=>le,fun hp=>eq ?_,trivial⟩
    have hb:=aw_ hp
    show _=iq .i64 (mZ (t.den ρ).R) (a.den ρ).I
    unfold mZ
    rw [rl,uV (by omega) (by omega)]
    omega
   |some b=>
    have e2:Zf ρ (t.den ρ).R.length (some b)=(b.den ρ).I:=rfl
    rw [e1,e2] at h2;rw [e1,e2] at hl;rw [e2] at h3
    refine ⟨fun _=>le,fun hp=>eq ?_,trivial⟩
    have hb:=aw_ hp
    show _=iq .i64 (b.den ρ).I (a.den ρ).I
    rw [rl,uV (by omega) (by omega)]
    omega
theorem Nc {ρ:List AV}{a:List SV}{b:SV}:dU ρ (a++[b])=dU ρ a++[b.den ρ]:=by rw [mF];rfl
theorem aqQ {P:Program}{ρ:List AV}{F:Pc}{T:Dc}{xs:List (Pc×Tm)}(hF:Pc.holds ρ F)(hx:AO ρ xs):∀{s:Side} {pc:Pc},anB F T xs pc s=true->(Pc.holds ρ pc->s.wk P T ρ)->(Pc.holds ρ pc->s.holds P ρ)/\AO ρ (NT F T xs pc s):=by
 intro s
 have plain:∀{s:Side} {pc:Pc},(∀pc' s',s≠.under pc' s')->spS T s=none->(s.wk P T ρ↔(oq ρ s.cnd->s.holds P ρ))->anB F T xs pc s=true->(Pc.holds ρ pc->s.wk P T ρ)->(Pc.holds ρ pc->s.holds P ρ)/\AO ρ (NT F T xs pc s):=by
  intro s pc hu hs hwk h hw
  have hh:Pc.holds ρ pc->s.holds P ρ:=fun hp=>by
   refine hwk.1 (hw hp) ?_
   have h':(match ZX T s with|none=>false|some []=>true|some l=>FU (aDH F xs pc) l)=true:=by
    cases s<;>first|exact h|exact absurd rfl (hu _ _)
   unfold ZX at h'
   rw [hs] at h'
   dsimp only at h'
   split at h'
   .cases h'
   .rename_i e;simp only [Option.some.injEq] at e;rw [e];trivial
   .rename_i l _ e;simp only [Option.some.injEq] at e;rw [e];exact G5 h' (yY hF hx hp)
  have e:NT F T xs pc s=abt pc (auT s)++xs:=by
   cases s<;>first|exact absurd rfl (hu _ _)|(simp only [NT,hs])
  rw [e]
  exact ⟨hh,ZY (fun hp=>aqP (hh hp)) hx⟩
 have calls:∀{s:Side} {pc:Pc} {sp:Sp} {l l2:List SV} {A:Prop},spS T s=some (sp,l,l2)->(∀pc' s',s≠.under pc' s')->(s.wk P T ρ->oq ρ s.osE->oq (dU ρ l) sp.pre->s.holds P ρ/\(oq (dU ρ l) sp.bnd->oq (dU ρ l2) sp.post))->anB F T xs pc s=true->(Pc.holds ρ pc->s.wk P T ρ)->(Pc.holds ρ pc->s.holds P ρ)/\AO ρ (NT F T xs pc s):=by
  intro s pc sp l l2 A hs hu hwk h hw
  have hpre:Pc.holds ρ pc->oq ρ s.osE/\oq (dU ρ l) sp.pre:=fun hp=>by
   have h':(match ZX T s with|none=>false|some []=>true|some l=>FU (aDH F xs pc) l)=true:=by
    cases s<;>first|exact h|exact absurd rfl (hu _ _)
   have h2:∃l',ZX T s=some l'/\oq ρ l':=by
    split at h'
    .cases h'
    .rename_i e;exact ⟨_,e,trivial⟩
    .rename_i l' _ e;exact ⟨_,e,G5 h' (yY hF hx hp)⟩
   obtain ⟨l',e,hl'⟩:=h2
   unfold ZX at e
   rw [hs] at e
   dsimp only at e
   split at e
   .rename_i ep
    simp only [Option.some.injEq] at e;subst e
    rw [ep];exact ⟨hl',trivial⟩
   .split at e
    .rename_i q hq
     simp only [Option.some.injEq] at e;subst e
     exact ⟨(oq.app hl').2,(OX hq).1 (oq.app hl').1⟩
    .cases e
  refine ⟨fun hp=>(hwk (hw hp) (hpre hp).1 (hpre hp).2).1,?_⟩
  have e:NT F T xs pc s=(match sp.post with
   |[]=>xs
   |post=>match sbL l sp.bnd with
    |none=>xs
    |some b=>bif FU (aDH F xs pc) b then (match sbL l2 post with|some q=>aqO pc q++xs|none=>xs) else xs):=by
   cases s<;>first|exact absurd rfl (hu _ _)|(simp only [NT,hs])
  rw [e]
  split
  .exact hx
  .split
   .exact hx
   .rename_i b hb
    cases hpv:FU (aDH F xs pc) b
    .exact hx
    .simp only [cond_true]
     split
     .rename_i q hq
      refine aiw (fun hp=>?_) hx
      have h1:=(OX hb).1 (G5 hpv (yY hF hx hp))
      exact (OX hq).2 ((hwk (hw hp) (hpre hp).1 (hpre hp).2).2 h1)
     .exact hx
 induction s with
 |under pc' s ih=>
  intro pc h hw
  obtain ⟨h1,h2⟩:=ih (pc:=pc'++pc) h (fun hp=>hw (aiu hp) (ait hp))
  exact ⟨fun hp hp'=>h1 (uh hp' hp),h2⟩
 |call f args r=>
  intro pc h hw
  refine calls (A:=True) rfl (by intro _ _ e;cases e) (fun hk _ hp=>?_) h hw
  have:=hk hp
  exact ⟨this.1,fun hb=>by rw [Nc];exact this.2 hb⟩
 |Px f args r p sz fl=>
  intro pc h hw
  refine calls (A:=True) rfl (by intro _ _ e;cases e) (fun hk _ hp=>?_) h hw
  have:=hk.1 hp
  exact ⟨⟨this.1,hk.2⟩,fun hb=>by rw [Nc];exact this.2 hb⟩
 |qp f args bl n0 r JW=>
  intro pc h hw
  refine calls (A:=True) rfl (by intro _ _ e;cases e) (fun hk ho hp=>?_) h hw
  rw [mF,GZ] at hp
  have:=hk ho hp
  refine ⟨this.1,fun hb=>?_⟩
  rw [mF,GZ] at hb
  have q:=this.2 hb
  rw [mF,mF,GZ]
  show oq (_++(r.den ρ::dU ρ (Sv JW))) _
  rw [GZ];exact q
 |_=>intro pc h hw;exact plain (by intro _ _ e;cases e) rfl Iff.rfl h hw
theorem Xh {P:Program}{ρ:List AV}{F:Pc}{T:Dc}(hF:Pc.holds ρ F):∀{sd:List (Pc×Side)} {xs:List (Pc×Tm)},AO ρ xs->adN F T xs sd=true->x9 P T ρ sd->xw P ρ sd/\AO ρ (sdX F T xs sd)
 |[],xs,hx,_,_=>⟨trivial,hx⟩
 |x::r,xs,hx,h,hw=>by
  simp only [adN,Bool.and_eq_true] at h
  obtain ⟨h1,h2⟩:=aqQ hF hx h.1 hw.1
  obtain ⟨h3,h4⟩:=Xh hF h2 h.2 hw.2
  exact ⟨⟨h1,h3⟩,h4⟩
inductive LH where
 |mk (inv:List Tm) (mt:Tm) (ft:List (Tm×Int)) (xs:List (Pc×Tm)) (at':Nat) (sub:List LH) (post:List (List Tm))
def LH.inv : LH->List Tm | .mk a _ _ _ _ _ _=>a
def LH.mt : LH->Tm | .mk _ a _ _ _ _ _=>a
def Tm.Qk : Tm->Bool | .nl=>true|_=>false
def LH.ft : LH->List (Tm×Int) | .mk _ _ a _ _ _ _=>a
def LH.xs : LH->List (Pc×Tm) | .mk _ _ _ a _ _ _=>a
def LH.at' : LH->Nat | .mk _ _ _ _ a _ _=>a
def LH.sub : LH->List LH | .mk _ _ _ _ _ a _=>a
def LH.post : LH->List (List Tm) | .mk _ _ _ _ _ _ a=>a
def xC : LH:=.mk [] (.li 0) [] [] 0 [] []
def hdH : List LH->LH | []=>xC|x::_=>x
def tlH : List LH->List LH | []=>[]|_::r=>r
def ftV (ρ:List AV):List (Tm×Int)->Int
 |[]=>0
 |x::r=>x.2*(x.1.den ρ).I+ftV ρ r
def ftL (ks:Pc):List (Tm×Int)->List Tm->List LF->LR
 |[],az,fs=>⟨az,fs,[]⟩
 |x::r,az,fs=>match lin ks x.1 az fs with
  |⟨as1,fs1,f1⟩=>match ftL ks r as1 fs1 with
   |⟨as2,fs2,f2⟩=>⟨as2,fs2,Nz (U0 x.2 f1) f2⟩
theorem anC {ρ:List AV}{ks:Pc}(hk:ks.holds ρ):∀{l:List (Tm×Int)} {az:List Tm} {fs:List LF},Cc ρ az fs->Sj ρ az (ftL ks l az fs) (ftV ρ l)
 |[],az,fs,h=>⟨List.prefix_refl _,h,fun bs hb=>rfl⟩
 |x::r,az,fs,h=>by
  obtain ⟨a1,a2,a3⟩:=Sl hk (t:=x.1) h
  obtain ⟨b1,b2,b3⟩:=anC hk (l:=r) (az:=(lin ks x.1 az fs).az) (fs:=(lin ks x.1 az fs).fs) a2
  exact ⟨a1.trans b1,b2,(a3.mono b1).U0.add b3⟩
def anD (F:Pc)(s:AS)(mt:Tm)(ft:List (Tm×Int)):Bool:=
 match s with
 |⟨az,fs⟩=>match lin F mt az fs with
  |⟨as1,fs1,f1⟩=>match ftL F ft as1 fs1 with
   |⟨_,fs2,f2⟩=>LC fs2 (Go.Fw.qV f2 f1)
theorem anE {ρ:List AV}{F:Pc}{mt:Tm}{ft:List (Tm×Int)}{s:AS}(h0:Yn ρ s)(h:anD F s mt ft=true)(hF:F.holds ρ):(mt.den ρ).I<=ftV ρ ft:=by
 unfold anD at h
 obtain ⟨a1,a2,a3⟩:=Sl hF (t:=mt) h0
 obtain ⟨b1,b2,b3⟩:=anC hF (l:=ft) a2
 have q:=GX b2 h _ (List.prefix_refl _)
 rw [lT,(a3.mono b1) _ (List.prefix_refl _),b3 _ (List.prefix_refl _)] at q
 omega
def anF (F:Pc)(mt:Tm)(ft:List (Tm×Int)):Bool:=anD F (asF F) mt ft
def anG : Nat->Pc->Tm->List (Tm×Int)->Bool
 |0,F,mt,ft=>anF F mt ft
 |n+1,F,mt,ft=>anF F mt ft||(match Nb F ((mt,true)::F) with
  |none=>false
  |some c=>anG n ((c,true)::F) mt ft&&anG n ((c,false)::F) mt ft)
theorem adO {ρ:List AV}{F:Pc}{mt:Tm}{ft:List (Tm×Int)}(h:anF F mt ft=true)(hF:F.holds ρ):(mt.den ρ).I<=ftV ρ ft:=anE (abr hF) h hF
theorem abu {ρ:List AV}{mt:Tm}{ft:List (Tm×Int)}:∀{n:Nat} {F:Pc},anG n F mt ft=true->F.holds ρ->(mt.den ρ).I<=ftV ρ ft
 |0,F,h,hF=>adO h hF
 |n+1,F,h,hF=>by
  simp only [anG,Bool.or_eq_true] at h
  rcases h with h|h
  .exact adO h hF
  .split at h
   .cases h
   .rename_i c _
    rw [Bool.and_eq_true] at h
    cases hc:(c.den ρ).B
    .exact abu h.2 (Pc.jy hc hF)
    .exact abu h.1 (Pc.jy hc hF)
def Tm.ren (f:Nat->Nat):Tm->Tm
 | .var i p=>Rh (f i) fun j=>.var j p
 | .bin o k x y=>.bin o k (x.ren f) (y.ren f)
 | .and x y=>.and (x.ren f) (y.ren f)
 | .or x y=>.or (x.ren f) (y.ren f)
 | .byte x y=>.byte (x.ren f) (y.ren f)
 | .not x=>.not (x.ren f)
 | .neg k x=>.neg k (x.ren f)
 | .com k x=>.com k (x.ren f)
 | .conv k x=>.conv k (x.ren f)
 | .toF x=>.toF (x.ren f)
 | .UJ x=>.UJ (x.ren f)
 | .slen x=>.slen (x.ren f)
 | .rlen x=>.rlen (x.ren f)
 | .bts x=>.bts (x.ren f)
 | .alb n x=>.alb n (x.ren f)
 | .sbs x=>.sbs (x.ren f)
 | .ite c x y=>.ite (c.ren f) (x.ren f) (y.ren f)
 | .Ef c x y=>.Ef (c.ren f) (x.ren f) (y.ren f)
 |t=>t
theorem Tm.aqR {f:Nat->Nat}{n:Nat}{ρ σ:List AV}(h:∀i,i<n->ρ.getD (f i) eP=σ.getD i eP):∀{t:Tm},t.lt n=true->(t.ren f).den ρ=t.den σ:=by
 intro t
 induction t with
 |lb|li|lf|ls|nl=>intro _;rfl
 |var i p=>intro hl;simp only [Tm.ren,yG,Tm.den];rw [h i (Nat.le_of_ble_eq_true hl)]
 |bin o k x y sU ihy=>intro hl;simp only [Tm.lt,Bool.and_eq_true] at hl;simp only [Tm.ren,Tm.den,sU hl.1,ihy hl.2]
 |and x y sU ihy=>intro hl;simp only [Tm.lt,Bool.and_eq_true] at hl;simp only [Tm.ren,Tm.den,sU hl.1,ihy hl.2]
 |or x y sU ihy=>intro hl;simp only [Tm.lt,Bool.and_eq_true] at hl;simp only [Tm.ren,Tm.den,sU hl.1,ihy hl.2]
 |byte x y sU ihy=>intro hl;simp only [Tm.lt,Bool.and_eq_true] at hl;simp only [Tm.ren,Tm.den,sU hl.1,ihy hl.2]
 |ite c x y ihc sU ihy=>intro hl;simp only [Tm.lt,Bool.and_eq_true] at hl;simp only [Tm.ren,Tm.den,ihc hl.1,sU hl.2.1,ihy hl.2.2]
 |Ef c x y ihc sU ihy=>intro hl;simp only [Tm.lt,Bool.and_eq_true] at hl;simp only [Tm.ren,Tm.den,ihc hl.1,sU hl.2.1,ihy hl.2.2]
 |not x ih=>intro hl;simp only [Tm.ren,Tm.den,ih hl]
 |neg k x ih=>intro hl;simp only [Tm.ren,Tm.den,ih hl]
 |com k x ih=>intro hl;simp only [Tm.ren,Tm.den,ih hl]
 |conv k x ih=>intro hl;simp only [Tm.ren,Tm.den,ih hl]
 |toF x ih=>intro hl;simp only [Tm.ren,Tm.den,ih hl]
 |UJ x ih=>intro hl;simp only [Tm.ren,Tm.den,ih hl]
 |slen x ih=>intro hl;simp only [Tm.ren,Tm.den,ih hl]
 |rlen x ih=>intro hl;simp only [Tm.ren,Tm.den,ih hl]
 |bts x ih=>intro hl;simp only [Tm.ren,Tm.den,ih hl]
 |alb k x ih=>intro hl;simp only [Tm.ren,Tm.den,ih hl]
 |sbs x ih=>intro hl;simp only [Tm.ren,Tm.den,ih hl]
def shf (base pos i:Nat):Nat:=bif Nat.blt i base then i else i-base+pos
def Ua (base:Nat)(pos n:Nat)(pc:Pc):List Tm->List (Pc×Tm)
 |[]=>[]
 |t::r=>bif t.lt (base+n) then (pc,t.ren (shf base pos))::Ua base pos n pc r else Ua base pos n pc r
def abv : List (List Tm)->Nat->List Tm
 |[],_=>[]
 |x::_,0=>x
 |_::r,k+1=>abv r k
def aqS (base:Nat)(ms:List Nat)(k:Nat):Pc:=match ms with
 |[_,_]=>match k with
  |0=>[(.bin .eql (.int .i64) (.var base []) (.li 0),true)]
  |_=>[(.bin .eql (.int .i64) (.var base []) (.li 0),false)]
 |_=>[]
def bnF : List Tm->Pc
 |[]=>[]
 |t::r=>(JZ (.rlen t) (.li big),true)::bnF r
theorem anH {ρ:List AV}:∀{bn:List Tm},(∀t∈bn,(t.den ρ).R.length<=4294967296)->Pc.holds ρ (bnF bn)
 |[],_=>fun x hx=>by cases hx
 |t::r,h=>Pc.jy (by
  have:=h t (List.mem_cons_self ..)
  show decide (mZ (t.den ρ).R<=big)=true
  exact decide_eq_true (by unfold mZ big;omega)) (anH fun x hx=>h x (List.mem_cons_of_mem _ hx))
def adP (outs:List (Tm×Nat×List SV))(ms:List Nat):Bool:=outs.all fun o=>match o.2.1 with
 |0=>true
 |k+1=>Nat.ble (k+1) ms.length&&Nat.ble (ms.getD k 0) o.2.2.length
def bnC (F:Pc)(xs:List (Pc×Tm))(pc:Pc)(bn:List Tm):Pc:=
 bif (let F':=aDH F xs pc;bn.all fun t=>aDO 1 F' (JZ (.rlen t) (.li big))) then pc else bnF bn++pc
def aix (F:Pc)(xs:List (Pc×Tm)):Lo->LH->List (Pc×Tm)
 | .mk pc base _ _ outs _ _ ms bn,h=>match h.post with
  |[]=>xs
  |p=>bif adP outs ms then match ms with
    |[n]=>let c:=bnC F xs pc bn;Ua base (aDJ base ms 0) n (aqS base ms 0++c) (abv p 0)++xs
    |[n,n']=>let c:=bnC F xs pc bn;Ua base (aDJ base ms 0) n (aqS base ms 0++c) (abv p 0)++(Ua base (aDJ base ms 1) n' (aqS base ms 1++c) (abv p 1)++xs)
    |_=>xs
   else xs
def anI (e:Bool)(S:List AV->Prop)(outs:List (Tm×Nat×List SV))(ρ0:List AV)(m:Nat):Nat->List AV->Nat->List AV->Prop
 |0,_,_,_=>e=false
 |n+1,vs,k,us=>∃cs,vs.length=m/\iW (ρ0++vs++cs)=true/\S (ρ0++vs++cs)/\
  match Ei (ρ0++vs++cs) outs with
  |none=>False
  |some (0,l)=>anI e S outs ρ0 m n (dU (ρ0++vs++cs) l) k us
  |some (j+1,l)=>k=j/\us=dU (ρ0++vs++cs) l
 mutual
def Lo.wk (P:Program)(T:Dc):Lo->LH->List AV->Prop
  | .mk pc base m entry outs sd aw ms bn,h=>fun ρ=>Pc.holds ρ pc->(∀t∈bn,(t.den ρ).R.length<=4294967296)->base<=ρ.length/\∃(n k:Nat) (us:List AV),(0<n/\ftV ρ h.ft<(n:Int))/\
   anI h.mt.Qk (fun σ=>AO σ h.xs/\x9 P T σ sd/\U2 P T aw h.sub σ) outs (ρ.take base) m n (dU ρ entry) k us/\amG ρ base ms k us
def U2 (P:Program)(T:Dc):List Lo->List LH->List AV->Prop
  |[],_=>fun _=>True
  |x::r,hs=>fun σ=>x.wk P T (hdH hs) σ/\U2 P T r (tlH hs) σ
end
def anJ (base:Nat)(l:List SV)(F:Pc)(t:Tm):Bool:=match ku base l .B t with
 |some t'=>aDO 2 F t'
 |none=>false
theorem anK {ρ:List AV}{base:Nat}{l:List SV}(hb:base<=ρ.length){F:Pc}{t:Tm}(h:anJ base l F t=true)(hF:Pc.holds ρ F):(t.den (ρ.take base++dU ρ l)).B=true:=by
 unfold anJ at h
 split at h
 .rename_i t' ht
  have h1:=BK h hF
  have h2:=GY hb ht
  simp only [Jg] at h2
  rw [<- h2];exact h1
 .cases h
def agE (F:Pc)(xs:List (Pc×Tm))(q:List Tm)(Q:Pc):Nat->Pc->Bool
 |0,G=>FU (aDH F xs G) q
 |n+1,G=>match Nb (aDH F xs G) Q with
  |none=>FU (aDH F xs G) q
  |some c=>agE F xs q Q n (jK c true G)&&agE F xs q Q n (jK c false G)
theorem Ql {ρ:List AV}{F:Pc}{xs:List (Pc×Tm)}{q:List Tm}{Q:Pc}(hF:Pc.holds ρ F)(hx:AO ρ xs):∀{n:Nat} {G:Pc},agE F xs q Q n G=true->Pc.holds ρ G->oq ρ q
 |0,G,h,hG=>G5 h (yY hF hx hG)
 |n+1,G,h,hG=>by
  simp only [agE] at h
  split at h
  .exact G5 h (yY hF hx hG)
  .rename_i c _
   rw [Bool.and_eq_true] at h
   cases hc:(c.den ρ).B
   .exact Ql hF hx h.2 (gq hc hG)
   .exact Ql hF hx h.1 (gq hc hG)
def auV (F:Pc)(xs:List (Pc×Tm))(t:Tm)(G:Pc):Bool:=match Nb (aDH F xs G) [(t,true)] with
 |none=>false
 |some c=>agE F xs [t] [(t,true)] 3 (akq (jK c true G))&&agE F xs [t] [(t,true)] 3 (akq (jK c false G))
theorem aqT {ρ:List AV}{F:Pc}{xs:List (Pc×Tm)}{t:Tm}{G:Pc}(hF:Pc.holds ρ F)(hx:AO ρ xs)(h:auV F xs t G=true)(hG:Pc.holds ρ G):(t.den ρ).B=true:=by
 unfold auV at h
 split at h
 .cases h
 .rename_i c _
  rw [Bool.and_eq_true] at h
  cases hc:(c.den ρ).B
  .exact (Ql hF hx h.2 (Qi (gq hc hG))).1
  .exact (Ql hF hx h.1 (Qi (gq hc hG))).1
def aqU (base:Nat)(l:List SV)(F:Pc)(xs:List (Pc×Tm))(G:Pc)(t:Tm):Bool:=match ku base l .B t with
 |some t'=>aDO 2 (aDH F xs G) t'||auV F xs t' G
 |none=>false
theorem aiy {ρ:List AV}{base:Nat}{l:List SV}(hb:base<=ρ.length){F:Pc}{xs:List (Pc×Tm)}{G:Pc}{t:Tm}(hF:Pc.holds ρ F)(hx:AO ρ xs)(h:aqU base l F xs G t=true)(hG:Pc.holds ρ G):(t.den (ρ.take base++dU ρ l)).B=true:=by
 unfold aqU at h
 split at h
 .rename_i t' ht
  have h2:=GY hb ht
  simp only [Jg] at h2
  rw [<- h2]
  rw [Bool.or_eq_true] at h
  rcases h with h|h
  .exact BK h (yY hF hx hG)
  .exact aqT hF hx h hG
 .cases h
def adQ (base:Nat)(inv:List Tm)(mt:Tm)(post:List (List Tm))(F:Pc)(xs:List (Pc×Tm))(G:Pc)(k:Nat)(l:List SV):Bool:=
 match k with
 |0=>
  let F':=aDH F xs G
  inv.all (aqU base l F xs G)&&(mt.Qk||(aDO 2 F' (JZ (.li 1) mt)&&(match ku base l .I mt with|some mt'=>aDO 2 F' (tLt mt' mt)|none=>false)))
 |k+1=>match abv post k with
  |[]=>true
  |p=>p.all (aqU base l F xs G)
def aku (base:Nat)(inv:List Tm)(mt:Tm)(post:List (List Tm))(F:Pc)(xs:List (Pc×Tm)):Pc->List (Tm×Nat×List SV)->Bool
 |_,[]=>true
 |G,[o]=>adQ base inv mt post F xs G o.2.1 o.2.2
 |G,o::o'::r=>adQ base inv mt post F xs (jK o.1 true G) o.2.1 o.2.2&&aku base inv mt post F xs (jK o.1 false G) (o'::r)
def aiz (base:Nat)(inv:List Tm)(mt:Tm)(post:List (List Tm))(ρ:List AV)(k:Nat)(l:List SV):Prop:=match k with
 |0=>(∀t∈inv,(t.den (ρ.take base++dU ρ l)).B=true)/\(mt.Qk=true\/(1<=(mt.den ρ).I/\(mt.den (ρ.take base++dU ρ l)).I<(mt.den ρ).I))
 |k+1=>∀t∈abv post k,(t.den (ρ.take base++dU ρ l)).B=true
theorem adR {ρ:List AV}{base:Nat}{inv:List Tm}{mt:Tm}{post:List (List Tm)}{F:Pc}{xs:List (Pc×Tm)}{G:Pc}{k:Nat}{l:List SV}(hb:base<=ρ.length)(h:adQ base inv mt post F xs G k l=true)(hF:Pc.holds ρ F)(hx:AO ρ xs)(hG:Pc.holds ρ G):aiz base inv mt post ρ k l:=by
 have hF':=yY hF hx hG
 cases k with
 |zero=>
  simp only [adQ,Bool.and_eq_true,Bool.or_eq_true] at h
  obtain ⟨h1,h23⟩:=h
  rw [List.all_eq_true] at h1
  refine ⟨fun t ht=>aiy hb hF hx (h1 t ht) hG,?_⟩
  rcases h23 with h23|⟨h2,h3⟩
  .exact .inl h23
  refine .inr ⟨?_,?_⟩
  .exact of_decide_eq_true (p:=(1:Int)<=(mt.den ρ).I) (BK h2 hF')
  .split at h3
   .rename_i mt' hm
    have q:=GY hb hm
    simp only [Jg] at q
    rw [<- q]
    exact of_decide_eq_true (p:=(mt'.den ρ).I<(mt.den ρ).I) (BK h3 hF')
   .cases h3
 |succ k=>
  simp only [adQ] at h
  intro t ht
  split at h
  .rename_i e;rw [e] at ht;cases ht
  .rw [List.all_eq_true] at h
   exact aiy hb hF hx (h t ht) hG
theorem abw {ρ:List AV}{base:Nat}{inv:List Tm}{mt:Tm}{post:List (List Tm)}{F:Pc}{xs:List (Pc×Tm)}(hb:base<=ρ.length)(hF:Pc.holds ρ F)(hx:AO ρ xs):∀{outs:List (Tm×Nat×List SV)} {G:Pc} {k:Nat} {l:List SV},aku base inv mt post F xs G outs=true->Pc.holds ρ G->Ei ρ outs=some (k,l)->aiz base inv mt post ρ k l
 |[],G,k,l,_,_,hs=>by simp [Ei] at hs
 |[o],G,k,l,h,hG,hs=>by
  simp only [Ei,Option.some.injEq] at hs
  simp only [aku,hs] at h
  exact adR hb h hF hx hG
 |o::o'::r,G,k,l,h,hG,hs=>by
  simp only [aku,Bool.and_eq_true] at h
  simp only [Ei] at hs
  cases hg:(o.1.den ρ).B
  .rw [hg] at hs
   exact abw hb hF hx h.2 (gq hg hG) hs
  .rw [hg] at hs
   simp only [cond_true,Option.some.injEq] at hs
   rw [hs] at h
   exact adR hb h.1 hF hx (gq hg hG)
def akv (n:Nat):Pc->Pc
 |[]=>[]
 |x::r=>bif x.1.lt n then x::akv n r else akv n r
theorem aiA {n:Nat}{ρ σ:List AV}(h:AgreeV n ρ σ):∀{pc:Pc},pc.holds ρ->(akv n pc).holds σ
 |[],_=>fun x hx=>by cases hx
 |x::r,hp=>by
  have ih:=aiA h (pc:=r) fun y hy=>hp y (List.mem_cons_of_mem _ hy)
  simp only [akv]
  cases hl:x.1.lt n
  .exact ih
  .exact Pc.jy (by rw [<- Tm.qP h hl];exact hp x (List.mem_cons_self ..)) ih
def ET (l:List Tm):Pc:=l.map fun t=>(t,true)
theorem Xi {ρ:List AV}{l:List Tm}(h:∀t∈l,(t.den ρ).B=true):Pc.holds ρ (ET l):=fun x hx=>by
 unfold ET at hx
 obtain ⟨t,ht,rfl⟩:=List.mem_map.1 hx
 exact h t ht
def akw (F:Pc)(T:Dc):List (Pc×Side)->Nat->List Lo->List LH->List (Pc×Tm)->List (Pc×Tm)
 |sd,_,[],_,xs=>sdX F T xs sd
 |sd,k,x::r,hs,xs=>akw F T (sd.drop ((hdH hs).at' - k)) (hdH hs).at' r (tlH hs) (aix F (sdX F T xs (sd.take ((hdH hs).at' - k))) x (hdH hs))
 mutual
def anL (F:Pc)(T:Dc)(xs:List (Pc×Tm)):Lo->LH->Bool
  | .mk pc base m entry outs sd aw ms bn,h=>
   let F0:=aDH (bnF bn++F) xs pc
   let Fr:=ET h.inv++akv base F0
   (h.mt.lt (base+m)&&h.inv.all fun t=>t.lt (base+m))&&((h.mt.Qk||match ku base entry .I h.mt with|some mt'=>anG 2 F0 mt' h.ft|none=>false)&&h.inv.all (anJ base entry F0)&&(akx Fr T sd 0 aw h.sub h.xs&&aku base h.inv h.mt h.post Fr (akw Fr T sd 0 aw h.sub h.xs) [] outs))
def akx (F:Pc)(T:Dc):List (Pc×Side)->Nat->List Lo->List LH->List (Pc×Tm)->Bool
  |sd,_,[],_,xs=>adN F T xs sd
  |sd,k,x::r,hs,xs=>
   let n:=(hdH hs).at' - k
   adN F T xs (sd.take n)&&(let xs1:=sdX F T xs (sd.take n);anL F T xs1 x (hdH hs)&&akx F T (sd.drop n) (hdH hs).at' r (tlH hs) (aix F xs1 x (hdH hs)))
end
theorem Z4 {n:Nat}{a b:List AV}(h:n<=a.length):AgreeV n a (a++b):=fun i hi=>by
 rw [List.getD_eq_getElem?_getD,List.getD_eq_getElem?_getD,List.getElem?_append_left (by omega)]
theorem anM {S' S:List AV->Prop}{outs:List (Tm×Nat×List SV)}{ρ0:List AV}{base m:Nat}{inv:List Tm}{mt:Tm}{post:List (List Tm)}{Fb:Pc}{xs:List (Pc×Tm)}(hl0:ρ0.length=base)
  (hlt:(mt.lt (base+m)&&inv.all fun t=>t.lt (base+m))=true)
  (hFb:∀σ,AgreeV base ρ0 σ->Pc.holds σ Fb)
  (hS:∀σ,Pc.holds σ (ET inv++Fb)->S' σ->S σ/\AO σ xs)
  (ho:aku base inv mt post (ET inv++Fb) xs [] outs=true):∀{n:Nat} {vs:List AV} {k:Nat} {us:List AV},(mt.Qk=true\/0<n)->(∀t∈inv,(t.den (ρ0++vs)).B=true)->(mt.Qk=true\/(mt.den (ρ0++vs)).I<(n:Int))->anI mt.Qk S' outs ρ0 m n vs k us->af9 S outs ρ0 m n vs k us/\∀t∈abv post k,(t.den (ρ0++us)).B=true
 |0,_,_,_,h0,_,_,hr=>by
  rcases h0 with h0|h0
  .have hr':mt.Qk=false:=hr
   rw [h0] at hr';cases hr'
  .exact absurd h0 (Nat.lt_irrefl _)
 |n+1,vs,k,us,_,hi,hm,hr=>by
  obtain ⟨cs,h1,h2,h3,h4⟩:=hr
  rw [Bool.and_eq_true,List.all_eq_true] at hlt
  have hag:AgreeV (base+m) (ρ0++vs) (ρ0++vs++cs):=Z4 (by rw [List.length_append];omega)
  have hF:Pc.holds (ρ0++vs++cs) (ET inv++Fb):=uh (Xi fun t ht=>by rw [<- Tm.qP hag (hlt.2 t ht)];exact hi t ht) (hFb _ (by rw [List.append_assoc];exact Z4 (by omega)))
  have hb:base<=(ρ0++vs++cs).length:=by simp only [List.length_append];omega
  have ht:(ρ0++vs++cs).take base=ρ0:=by rw [List.append_assoc,<- hl0,List.take_left]
  have hX:=hS _ hF h3
  split at h4
  .exact h4.elim
  .rename_i l hsel
   have q:=abw hb hF hX.2 ho (fun x hx=>by cases hx) hsel
   simp only [aiz] at q
   rw [ht] at q
   obtain ⟨q1,q23⟩:=q
   have hq:(mt.Qk=true\/0<n)/\(mt.Qk=true\/(mt.den (ρ0++dU (ρ0++vs++cs) l)).I<(n:Int)):=by
    rcases q23 with q|⟨q2,q3⟩
    .exact ⟨.inl q,.inl q⟩
    .rw [<- Tm.qP hag hlt.1] at q2 q3
     rcases hm with hm|hm
     .exact ⟨.inl hm,.inl hm⟩
     .exact ⟨.inr (by omega),.inr (by omega)⟩
   obtain ⟨z1,z2⟩:=anM hl0 (by rw [Bool.and_eq_true,List.all_eq_true];exact hlt) hFb hS ho hq.1 q1 hq.2 h4
   exact ⟨⟨cs,h1,h2,hX.1,by rw [hsel];exact z1⟩,z2⟩
  .rename_i j l hsel
   have q:=abw hb hF hX.2 ho (fun x hx=>by cases hx) hsel
   simp only [aiz] at q
   rw [ht] at q
   obtain ⟨rfl,rfl⟩:=h4
   exact ⟨⟨cs,h1,h2,hX.1,by rw [hsel];exact ⟨rfl,rfl⟩⟩,q⟩
theorem anN {ρ:List AV}{base pos n:Nat}{pc:Pc}{l:List Tm}(h:Pc.holds ρ pc->∀t:Tm,t.lt (base+n)=true->(t∈l->((t.ren (shf base pos)).den ρ).B=true)){xs:List (Pc×Tm)}(hx:AO ρ xs):AO ρ (Ua base pos n pc l++xs):=by
 induction l with
 |nil=>exact hx
 |cons t r ih=>
  simp only [Ua]
  have ih':=ih fun hp t' h1 h2=>h hp t' h1 (List.mem_cons_of_mem _ h2)
  cases hl:t.lt (base+n)
  .exact ih'
  .exact ⟨fun hp=>h hp t hl (List.mem_cons_self ..),ih'⟩
theorem auW {ρ us:List AV}{base pos:Nat}(hb:base<=ρ.length)(h:∀(i:Nat) (u:AV),us[i]?=some u->ρ.getD (pos+i) eP=u){n:Nat}(hn:n<=us.length){t:Tm}(hl:t.lt (base+n)=true):(t.ren (shf base pos)).den ρ=t.den (ρ.take base++us):=by
 refine Tm.aqR (n:=base+n) (fun i hi=>?_) hl
 unfold shf
 cases hlt:Nat.blt i base
 .have hi':¬i<base:=fun q=>by rw [show Nat.blt i base=true by rw [Nat.blt_eq];exact q] at hlt;cases hlt
  have hl':(ρ.take base).length=base:=by rw [List.length_take];omega
  simp only [cond_false]
  have:i-base<us.length:=by omega
  have e:=h (i-base) us[i-base] (by simp [this])
  rw [Nat.add_comm,e,List.getD_eq_getElem?_getD,List.getElem?_append_right (by omega),hl']
  simp [this]
 .rw [Nat.blt_eq] at hlt
  simp only [cond_true]
  exact (U1 hb hlt).symm
theorem adS {ρ:List AV}:∀{outs:List (Tm×Nat×List SV)} {x:Nat×List SV},Ei ρ outs=some x->∃o∈outs,o.2=x
 |[],_,h=>by simp [Ei] at h
 |[o],x,h=>by simp only [Ei,Option.some.injEq] at h;exact ⟨o,by simp,h⟩
 |o::o'::r,x,h=>by
  simp only [Ei] at h
  cases hg:(o.1.den ρ).B
  .rw [hg] at h
   obtain ⟨q,q1,q2⟩:=adS h
   exact ⟨q,List.mem_cons_of_mem _ q1,q2⟩
  .rw [hg] at h
   simp only [cond_true,Option.some.injEq] at h
   exact ⟨o,List.mem_cons_self ..,h⟩
theorem anO {S:List AV->Prop}{outs:List (Tm×Nat×List SV)}{ρ0:List AV}{m:Nat}{ms:List Nat}(hL:adP outs ms=true):∀{n:Nat} {vs:List AV} {k:Nat} {us:List AV},af9 S outs ρ0 m n vs k us->k<ms.length/\ms.getD k 0<=us.length
 |0,_,_,_,h=>h.elim
 |n+1,vs,k,us,h=>by
  obtain ⟨cs,h1,h2,h3,h4⟩:=h
  split at h4
  .exact h4.elim
  .exact anO hL h4
  .rename_i j l hsel
   obtain ⟨rfl,rfl⟩:=h4
   obtain ⟨o,q1,q2⟩:=adS hsel
   unfold adP at hL
   rw [List.all_eq_true] at hL
   have:=hL o q1
   rw [q2,Bool.and_eq_true] at this
   rw [fZ]
   exact ⟨Nat.le_of_ble_eq_true this.1,Nat.le_of_ble_eq_true this.2⟩
theorem anP {ρ:List AV}{base pos n:Nat}{pc:Pc}{l:List Tm}{xs:List (Pc×Tm)}(h:Pc.holds ρ pc->base<=ρ.length/\∃us:List AV,n<=us.length/\(∀(i:Nat) (u:AV),us[i]?=some u->ρ.getD (pos+i) eP=u)/\∀t∈l,(t.den (ρ.take base++us)).B=true)(hx:AO ρ xs):AO ρ (Ua base pos n pc l++xs):=
 anN (fun hp t hl ht=>by
  obtain ⟨hb,us,h1,h2,h3⟩:=h hp
  rw [auW hb h2 h1 hl]
  exact h3 t ht) hx
def Lo.res (L:Lo)(post:List (List Tm))(ρ:List AV):Prop:=match L with
 | .mk pc base _ _ outs _ _ ms bn=>Pc.holds ρ pc->(∀t∈bn,(t.den ρ).R.length<=4294967296)->base<=ρ.length/\∃(k:Nat) (us:List AV),(adP outs ms=true->k<ms.length/\ms.getD k 0<=us.length)/\amG ρ base ms k us/\∀t∈abv post k,(t.den (ρ.take base++us)).B=true
theorem agF {ρ:List AV}{F:Pc}{xs:List (Pc×Tm)}{pc:Pc}{bn:List Tm}(hF:Pc.holds ρ F)(hx:AO ρ xs)(h:Pc.holds ρ (bnC F xs pc bn)):Pc.holds ρ pc/\∀t∈bn,(t.den ρ).R.length<=4294967296:=by
 have key:∀{t:Tm},((JZ (.rlen t) (.li big)).den ρ).B=true->(t.den ρ).R.length<=4294967296:=by
  intro t h
  have h2:mZ (t.den ρ).R<=big:=of_decide_eq_true h
  unfold mZ big at h2;omega
 unfold bnC at h
 dsimp only at h
 cases hq:(bn.all fun t=>aDO 1 (aDH F xs pc) (JZ (.rlen t) (.li big)))
 .rw [hq] at h
  simp only [cond_false] at h
  refine ⟨fun x hx=>h x (List.mem_append.2 (.inr hx)),fun t ht=>key (h (_,true) (List.mem_append.2 (.inl ?_)))⟩
  clear hq h
  induction bn with
  |nil=>cases ht
  |cons a r ih=>
   rcases List.mem_cons.1 ht with rfl|ht
   .exact List.mem_cons_self ..
   .exact List.mem_cons_of_mem _ (ih ht)
 .rw [hq] at h
  rw [List.all_eq_true] at hq
  exact ⟨h,fun t ht=>key (BK (hq t ht) (yY hF hx h))⟩
theorem anQ {ρ:List AV}{base n n' k k0:Nat}{us:List AV}{c:Pc}(hk0:k0=0\/k0=1)(hk:k<2)(hr:amG ρ base [n,n'] k us)(h:Pc.holds ρ (aqS base [n,n'] k0++c)):k=k0:=by
 have h1:=hr.1 (by show 1<2;omega)
 have e:(((Tm.bin .eql (.int .i64) (.var base []) (.li 0)).den ρ).B)=dZ ((aDt (ρ.getD base eP) []).D.I) 0:=rfl
 have e2:aDt (ρ.getD base eP) []=ρ.getD base eP:=by cases ρ.getD base eP<;>rfl
 rw [e2,h1] at e
 rcases hk0 with rfl|rfl
 .have q:=h (_,true) (List.mem_append.2 (.inl (List.mem_cons_self ..)))
  dsimp only at q
  rw [e,kP] at q
  omega
 .have q:=h (_,false) (List.mem_append.2 (.inl (List.mem_cons_self ..)))
  dsimp only at q
  rw [e,tK] at q
  omega
theorem anR {L:Lo}{H:LH}{ρ:List AV}{F:Pc}{xs:List (Pc×Tm)}(hF:Pc.holds ρ F)(hx:AO ρ xs)(h:L.res H.post ρ):AO ρ (aix F xs L H):=by
 obtain ⟨pc,base,m,entry,outs,sd,aw,ms,bn⟩:=L
 simp only [aix]
 split
 .exact hx
 .rename_i p _
  cases hL:adP outs ms
  .exact hx
  .simp only [cond_true]
   have sub:∀{a b:Pc},Pc.holds ρ (a++b)->Pc.holds ρ b:=fun h x hx=>h x (List.mem_append.2 (.inr hx))
   split
   .rename_i n
    refine anP (fun hp=>?_) hx
    obtain ⟨h1,h2⟩:=agF hF hx (sub hp)
    obtain ⟨hb,k,us,q1,q2,q3⟩:=h h1 h2
    have hk:=q1 hL
    have:k=0:=by have:=hk.1;simp at this;exact this
    subst this
    exact ⟨hb,us,hk.2,q2.2,q3⟩
   .rename_i n n'
    refine anP (fun hp=>?_) (anP (fun hp=>?_) hx)
    .obtain ⟨h1,h2⟩:=agF hF hx (sub hp)
     obtain ⟨hb,k,us,q1,q2,q3⟩:=h h1 h2
     have hk:=q1 hL
     have:=anQ (.inl rfl) hk.1 q2 hp
     subst this
     exact ⟨hb,us,hk.2,q2.2,q3⟩
    .obtain ⟨h1,h2⟩:=agF hF hx (sub hp)
     obtain ⟨hb,k,us,q1,q2,q3⟩:=h h1 h2
     have hk:=q1 hL
     have:=anQ (.inr rfl) hk.1 q2 hp
     subst this
     exact ⟨hb,us,hk.2,q2.2,q3⟩
   .exact hx
theorem Xj {P:Program}{T:Dc}{ρ:List AV}:∀{n:Nat} {sd:List (Pc×Side)},x9 P T ρ sd->x9 P T ρ (sd.take n)/\x9 P T ρ (sd.drop n)
 |0,sd,h=>⟨trivial,h⟩
 |n+1,[],h=>⟨trivial,trivial⟩
 |n+1,x::r,h=>⟨⟨h.1,(Xj (n:=n) h.2).1⟩,(Xj (n:=n) h.2).2⟩
theorem Ub {P:Program}{ρ:List AV}:∀{n:Nat} {sd:List (Pc×Side)},xw P ρ (sd.take n)->xw P ρ (sd.drop n)->xw P ρ sd
 |0,sd,_,h=>h
 |n+1,[],_,_=>trivial
 |n+1,x::r,h,k=>⟨h.1,Ub (n:=n) h.2 k⟩
 mutual
theorem anS {P:Program}{T:Dc}:∀{L:Lo} {H:LH} {ρ:List AV} {F:Pc} {xs:List (Pc×Tm)},anL F T xs L H=true->Pc.holds ρ F->AO ρ xs->L.wk P T H ρ->L.holds P ρ/\L.res H.post ρ
  | .mk pc base m entry outs sd aw ms bn,H,ρ,F,xs,h,hF,hx,hw=>by
   simp only [anL,Bool.and_eq_true] at h
   obtain ⟨h0,⟨hft,h1⟩,h4,h3⟩:=h
   have all:Pc.holds ρ pc->(∀t∈bn,(t.den ρ).R.length<=4294967296)->base<=ρ.length/\∃n k us,(af9 (fun σ=>jD P σ sd/\LoL P aw σ) outs (ρ.take base) m n (dU ρ entry) k us/\∀t∈abv H.post k,(t.den (ρ.take base++us)).B=true)/\amG ρ base ms k us:=by
    intro hp hbn
    simp only [Lo.wk] at hw
    obtain ⟨hb,n,k,us,⟨hn0,hn⟩,hr,hres⟩:=hw hp hbn
    have hF0:=yY (uh (anH hbn) hF) hx hp
    have hl:(ρ.take base).length=base:=by rw [List.length_take];omega
    rw [List.all_eq_true] at h1
    have hm:H.mt.Qk=true\/(H.mt.den (ρ.take base++dU ρ entry)).I<(n:Int):=by
     rw [Bool.or_eq_true] at hft
     rcases hft with hft|hft
     .exact .inl hft
     refine .inr ?_
     split at hft
     .rename_i mt' hm
      have q:=GY hb hm
      simp only [Jg] at q
      have q2:=abu hft hF0
      omega
     .cases hft
    refine ⟨hb,n,k,us,anM (xs:=akw (ET H.inv++akv base (aDH (bnF bn++F) xs pc)) T sd 0 aw H.sub H.xs) hl (by rw [Bool.and_eq_true];exact h0) (fun σ hag=>?_) (fun σ hF' hS=>?_) h3 (.inr hn0) (fun t ht=>anK hb (h1 t ht) hF0) hm hr,hres⟩
    .refine aiA (fun i hi=>?_) hF0
     rw [<- hag i hi]
     have:=U1 (ρ:=ρ) (m:=[]) hb hi
     simpa using this.symm
    .obtain ⟨z1,z2,z3⟩:=abx h4 hF' hS.1 hS.2.1 hS.2.2
     exact ⟨⟨z1.ok,z2⟩,z3⟩
   refine ⟨?_,?_⟩
   .unfold Lo.holds
    intro hp hbn
    obtain ⟨hb,n,k,us,⟨z1,_⟩,z2⟩:=all hp hbn
    exact ⟨hb,n,k,us,z1,z2⟩
   .intro hp hbn
    obtain ⟨hb,n,k,us,⟨z1,z3⟩,z2⟩:=all hp hbn
    exact ⟨hb,k,us,fun hL=>anO hL z1,z2,z3⟩
theorem abx {P:Program}{T:Dc}:∀{l:List Lo} {sd:List (Pc×Side)} {k:Nat} {hs:List LH} {ρ:List AV} {F:Pc} {xs:List (Pc×Tm)},akx F T sd k l hs xs=true->Pc.holds ρ F->AO ρ xs->x9 P T ρ sd->U2 P T l hs ρ->xw P ρ sd/\LoL P l ρ/\AO ρ (akw F T sd k l hs xs)
  |[],sd,k,hs,ρ,F,xs,h,hF,hx,hw,_=>by
   simp only [akx] at h
   obtain ⟨h1,h2⟩:=Xh hF hx h hw
   exact ⟨h1,trivial,h2⟩
  |x::r,sd,k,hs,ρ,F,xs,h,hF,hx,hw,hl=>by
   simp only [akx,Bool.and_eq_true] at h
   simp only [U2] at hl
   obtain ⟨w1,w2⟩:=Xj (n:=(hdH hs).at' - k) hw
   obtain ⟨a1,a2⟩:=Xh hF hx h.1 w1
   obtain ⟨b1,b2⟩:=anS h.2.1 hF a2 hl.1
   obtain ⟨c1,c2,c3⟩:=abx h.2.2 hF (anR hF a2 b2) w2 hl.2
   exact ⟨Ub a1 c1,⟨b1,c2⟩,c3⟩
end
 mutual
def agG : SV->Pc
  | .sc .sl t=>[(JZ (.rlen t) (.li big),true)]
  | .agg l=>G6 l
  | .fD l=>G6 l
  | .os _ _ _ t=>[(JZ t (.li big),true)]
  | .fn _ x y=>G6 x++G6 y
  |_=>[]
def G6 : List SV->Pc
  |[]=>[]
  |x::r=>agG x++G6 r
end
 mutual
theorem aqV {ρ:List AV}:∀{v:SV},(v.den ρ).bnd->Pc.holds ρ (agG v)
  | .sc k t,h=>by
   cases k<;>simp only [agG]<;>first|(intro x hx;cases hx;done)|skip
   exact Pc.jy (by
    have:(t.den ρ).R.length<=4294967296:=h.1
    show decide (mZ (t.den ρ).R<=big)=true
    exact decide_eq_true (by unfold mZ big;omega)) fun x hx=>by cases hx
  | .agg l,h=>by simp only [agG];exact BL h
  | .fD l,h=>by simp only [agG];exact BL h
  | .os b sz off t,h=>by
   simp only [agG]
   exact Pc.jy (by
    have:(t.den ρ).I.toNat<=4294967296:=h
    show decide ((t.den ρ).I<=big)=true
    exact decide_eq_true (by unfold big;omega)) fun x hx=>by cases hx
  | .c _,_=>fun x hx=>by cases hx
  | .nil,_=>fun x hx=>by cases hx
  | .sf _,_=>fun x hx=>by cases hx
  | .slc _ _,_=>fun x hx=>by cases hx
  | .vp _ _,_=>fun x hx=>by cases hx
  | .op _ _ _ _,_=>fun x hx=>by cases hx
  | .fn _ _ _,h=>by simp only [agG];exact uh (BL h.1) (BL h.2)
  | .mV _ _,_=>fun x hx=>by cases hx
  | .mp _,_=>fun x hx=>by cases hx
theorem BL {ρ:List AV}:∀{l:List SV},Nw (dU ρ l)->Pc.holds ρ (G6 l)
  |[],_=>fun x hx=>by cases hx
  |x::r,h=>by simp only [G6];exact uh (aqV h.1) (BL h.2)
end
def adT (args:List SV)(sp:Sp):Pc:=match sbL args sp.pre with
 |some l=>ET l
 |none=>[]
def adU (T:Dc)(sp:Sp)(args bd:List SV)(H:LH)(sd:List (Pc×Side))(aw:List Lo):Bool:=
 let F:=adT args sp++G6 bd
 akx F T sd 0 aw H.sub H.xs
theorem adV {ρ:List AV}{args:List SV}{sp:Sp}(h:oq (dU ρ args) sp.pre):Pc.holds ρ (adT args sp):=by
 unfold adT
 split
 .rename_i l hl
  exact Xi ((OX hl).2 h).mem
 .exact fun x hx=>by cases hx
theorem U3 {P:Program}{T:Dc}{sp:Sp}{ρ:List AV}{args bd:List SV}{H:LH}{sd:List (Pc×Side)}{aw:List Lo}(h:adU T sp args bd H sd aw=true)(hp:oq (dU ρ args) sp.pre)(hb:Pc.holds ρ (G6 bd))(hx:AO ρ H.xs)(hw:x9 P T ρ sd)(hl:U2 P T aw H.sub ρ):xw P ρ sd/\LoL P aw ρ/\AO ρ (akw (adT args sp++G6 bd) T sd 0 aw H.sub H.xs):=
 abx h (uh (adV hp) hb) hx hw hl
def aky (F:Pc)(xs:List (Pc×Tm))(l:SV->Option (List SV))(post:List Tm):Pc->List (Tm×SV)->Bool
  |_,[]=>true
  |G,[o]=>aiB F xs l post G o.2
  |G,o::o'::r=>aiB F xs l post (jK o.1 true G) o.2&&aky F xs l post (jK o.1 false G) (o'::r)
 where aiB (F:Pc) (xs:List (Pc×Tm)) (l:SV->Option (List SV)) (post:List Tm) (G:Pc) (v:SV):Bool:=match l v with
  |none=>false
  |some l=>match sbL l post with
   |none=>false
   |some q=>agE F xs q (q.map fun t=>(t,true)) 6 (akq G)
theorem aqW {ρ:List AV}{F:Pc}{xs:List (Pc×Tm)}{l:SV->Option (List SV)}{post:List Tm}{A:AV->List AV}(hl:∀v m,l v=some m->dU ρ m=A (v.den ρ))(hF:Pc.holds ρ F)(hx:AO ρ xs):∀{rs:List (Tm×SV)} {G:Pc},rs≠[]->aky F xs l post G rs=true->Pc.holds ρ G->oq (A (rQ ρ rs)) post:=by
 have one:∀{G:Pc} {v:SV},aky.aiB F xs l post G v=true->Pc.holds ρ G->oq (A (v.den ρ)) post:=by
  intro G v h hG
  unfold aky.aiB at h
  split at h
  .cases h
  rename_i m hm
  split at h
  .cases h
  rename_i q hq
  rw [<- hl v m hm]
  exact (OX hq).1 (Ql hF hx h (Qi hG))
 intro rs
 induction rs with
 |nil=>intro G hne;exact absurd rfl hne
 |cons o r ih=>
  intro G _ h hG
  cases r with
  |nil=>exact one h hG
  |cons o' r=>
   simp only [aky,Bool.and_eq_true] at h
   simp only [rQ]
   cases hg:(o.1.den ρ).B
   .exact ih (by simp) h.2 (gq hg hG)
   .exact one h.1 (gq hg hG)
def anT (args bd:List SV)(sp:Sp):Bool:=match sbL args sp.bnd with
 |none=>false
 |some l=>(G6 bd).all fun x=>x.2&&l.any fun t=>t.beq x.1
theorem anU {ρ:List AV}{args bd:List SV}{sp:Sp}(h:anT args bd sp=true)(hb:oq (dU ρ args) sp.bnd):Pc.holds ρ (G6 bd):=by
 unfold anT at h
 split at h
 .cases h
 rename_i l hl
 rw [List.all_eq_true] at h
 have hb':=((OX hl).2 hb).mem
 intro x hx
 have q:=h x hx
 rw [Bool.and_eq_true,List.any_eq_true] at q
 obtain ⟨q1,t,q2,q3⟩:=q
 rw [q1,<- Tm.beq_eq q3]
 exact hb' t q2
def adW (T:Dc)(sp:Sp)(args bd:List SV)(H:LH)(R:iE)(l:SV->Option (List SV)):Bool:=match sp.post with
 |[]=>true
 |post=>match R.rs with
  |[]=>false
  |_::_=>anT args bd sp&&(let F:=adT args sp++G6 bd;aky F (akw F T R.sd 0 R.aw H.sub H.xs) l post [] R.rs)
theorem aby {P:Program}{T:Dc}{sp:Sp}{ρ:List AV}{args bd:List SV}{H:LH}{R:iE}{l:SV->Option (List SV)}{A:AV->List AV}(hl:∀v m,l v=some m->dU ρ m=A (v.den ρ))(hc:adU T sp args bd H R.sd R.aw=true)(h:adW T sp args bd H R l=true)(hp:oq (dU ρ args) sp.pre)(hb:oq (dU ρ args) sp.bnd)(hx:AO ρ H.xs)(hw:x9 P T ρ R.sd)(hlw:U2 P T R.aw H.sub ρ):oq (A (rQ ρ R.rs)) sp.post:=by
 unfold adW at h
 split at h
 .rename_i e;rw [e];trivial
 .rename_i e
  split at h
  .cases h
  .rename_i er
   rw [Bool.and_eq_true] at h
   have hbd:=anU h.1 hb
   obtain ⟨-,-,hX⟩:=U3 hc hp hbd hx hw hlw
   exact aqW hl (uh (adV hp) hbd) hX (by rw [er];simp) h.2 (fun x hx=>by cases hx)
theorem azj {P:Program}(hm:P.follows .mixedOrders=true){X:qO}(hX:∀σ:List AV,iW σ=true->o7 P σ X){I0:Gv}(h0:∀σ:List AV,iW σ=true->oH P σ I0){md:Md}{FC:FuncId->BD}{vK CF f nv:Nat}{args:List SV}{R:iE}{az:List AV}{r:AV}{T:Dc}
  (h:jo P X I0 md FC vK CF f args nv=some R) (H:LH) (hc:(adU T (T.at f) args args H R.sd R.aw&&adW T (T.at f) args args H R fun v=>some (args++[v]))=true) (ρ:List AV) (hρ:iW ρ=true) (hx:AO ρ H.xs) (hw:x9 P T ρ R.sd) (hl:U2 P T R.aw H.sub ρ) (ha:dU ρ args=az) (hr:rQ ρ R.rs=r):CT P T f az r:=fun hpre=>by
 subst ha
 rw [Bool.and_eq_true] at hc
 refine ⟨auk fun hb=>?_,fun hb=>?_⟩
 .obtain ⟨h1,h2,-⟩:=U3 hc.1 hpre (BL hb) hx hw hl
  exact anf hm hX h0 (rs:=R.rs) (sd:=R.sd) (aw:=R.aw) h hρ h1 h2 rfl hr
 .subst hr
  exact aby (A:=fun r=>dU ρ args++[r]) (fun v m hm=>by simp only [Option.some.injEq] at hm;subst hm;exact Nc) hc.1 hc.2 hpre hb hx hw hl
theorem axb {P:Program}(hm:P.follows .mixedOrders=true){X:qO}(hX:∀σ:List AV,iW σ=true->o7 P σ X){I0:Gv}(h0:∀σ:List AV,iW σ=true->oH P σ I0){md:Md}{FC:FuncId->BD}{vK CF f nv:Nat}{args:List SV}{R:iE}{az:List AV}{r:AV}{p:List Nat}{sz:Nat}{T:Dc}
  (h:agm P X I0 md FC vK CF f args nv p sz=some R) (H:LH) (hc:(adU T (T.at f) args args H R.sd R.aw&&adW T (T.at f) args args H R fun v=>some (args++[v]))=true) (ρ:List AV) (hρ:iW ρ=true) (hx:AO ρ H.xs) (hw:x9 P T ρ R.sd) (hl:U2 P T R.aw H.sub ρ) (ha:dU ρ args=az) (hr:rQ ρ R.rs=r):CTo P T f az r p sz:=fun hpre=>by
 subst ha
 rw [Bool.and_eq_true] at hc
 refine ⟨aii fun hb=>?_,fun hb=>?_⟩
 .obtain ⟨h1,h2,-⟩:=U3 hc.1 hpre (BL hb) hx hw hl
  exact auz hm hX h0 (rs:=R.rs) (sd:=R.sd) (aw:=R.aw) h hρ h1 h2 rfl hr
 .subst hr
  exact aby (A:=fun r=>dU ρ args++[r]) (fun v m hm=>by simp only [Option.some.injEq] at hm;subst hm;exact Nc) hc.1 hc.2 hpre hb hx hw hl
def Z5 (vZ:List (Nat×Nat))(cs:List SV):Nat->List (Nat×SB)->Option (List SV)
 |_,[]=>some []
 |j,(b,k)::r=>match vZ.find? (fun x=>Nat.beq x.1 b) with
  |some _=>match Eh cs j with
   |some (.sc .sl t)=>match Z5 vZ cs (j+1) r with|some l=>some (.sc .sl t::l)|none=>none
   |_=>none
  |none=>match Z5 vZ cs j r with|some l=>some (k.sv::l)|none=>none
theorem auX {ρ:List AV}{k:SB}:k.sv.den ρ=(k.den ρ).av:=by cases k<;>rfl
theorem Sz {ρ:List AV}{vZ:List (Nat×Nat)}{cs:List SV}:∀{bl:List (Nat×SB)} {j:Nat} {l:List SV},Z5 vZ cs j bl=some l->dU ρ l=avB (uU ρ vZ (dU ρ cs) j bl)
 |[],j,l,h=>by simp only [Z5,Option.some.injEq] at h;subst h;rfl
 |(b,k)::r,j,l,h=>by
  simp only [Z5] at h
  simp only [uU]
  split at h
  .rename_i x hx
   rw [hx]
   split at h
   .rename_i t ht
    split at h
    .rename_i l' hl
     simp only [Option.some.injEq] at h;subst h
     have e:=Gn (ρ:=ρ) ht
     have ih:=Sz (ρ:=ρ) hl
     show _::dU ρ l'=_::avB (uU ρ vZ (dU ρ cs) (j+1) r)
     rw [ih]
     simp only [List.getD_eq_getElem?_getD,e,Option.getD_some]
     rfl
    .cases h
   .cases h
  .rename_i hx
   rw [hx]
   split at h
   .rename_i l' hl
    simp only [Option.some.injEq] at h;subst h
    have ih:=Sz (ρ:=ρ) hl
    show _::dU ρ l'=_::avB (uU ρ vZ (dU ρ cs) j r)
    rw [ih,auX]
   .cases h
def anV (args:List SV)(bl:List (Nat×SB))(vZ:List (Nat×Nat)):SV->Option (List SV)
 | .fD (r::cs)=>match Z5 vZ cs 0 bl with
  |some l=>some (args++Sv bl++(r::l))
  |none=>none
 |_=>none
def azk (az:List AV)(ρ:List AV)(vZ:List (Nat×Nat))(bl:List (Nat×SB)):AV->List AV
 | .fD (r::cs)=>az++(r::avB (uU ρ vZ cs 0 bl))
 |_=>[]
theorem axc {P:Program}(hm:P.follows .mixedOrders=true){X:qO}(hX:∀σ:List AV,iW σ=true->o7 P σ X){I0:Gv}(h0:∀σ:List AV,iW σ=true->oH P σ I0){md:Md}{FC:FuncId->BD}{vK CF f nv:Nat}{args:List SV}{R:iE}{az:List AV}{r:AV}{cs:List AV}{bl:List (Nat×SB)}{vZ:List (Nat×Nat)}{n0:Nat}{bin Nv:List (Nat×wB)}{T:Dc}
  (h:P_ P X I0 md FC vK CF f args nv bl vZ n0=some R) (H:LH) (hc:(adU T (T.atW f n0) (args++Sv bl) args H R.sd R.aw&&adW T (T.atW f n0) (args++Sv bl) args H R (anV args bl vZ))=true) (ρ:List AV) (hρ:iW ρ=true) (hx:AO ρ H.xs) (hw:x9 P T ρ R.sd) (hl:U2 P T R.aw H.sub ρ) (ha:dU ρ args=az) (hb:Iz ρ bl=bin) (hr:rQ ρ R.rs=.fD (r::cs)) (hb2:uU ρ vZ cs 0 bl=Nv):CTw P T f az bin n0 r Nv:=fun hpre=>by
 subst ha;subst hb;subst hb2
 rw [Bool.and_eq_true] at hc
 have e:dU ρ (args++Sv bl)=dU ρ args++avB (Iz ρ bl):=by rw [mF,GZ]
 rw [<- e] at hpre ⊢
 refine ⟨auD fun hbd=>?_,fun hbd=>?_⟩
 .obtain ⟨h1,h2,-⟩:=U3 hc.1 hpre (BL hbd) hx hw hl
  exact awZ hm hX h0 (rs:=R.rs) (sd:=R.sd) (aw:=R.aw) h hρ h1 h2 rfl rfl hr rfl
 .have q:=aby (A:=azk (dU ρ (args++Sv bl)) ρ vZ bl) (fun v m hm=>by
   unfold anV at hm
   split at hm
   .split at hm
    .rename_i l hl
     simp only [Option.some.injEq] at hm;subst hm
     rw [mF]
     show _=_++(_::avB (uU ρ vZ (dU ρ _) 0 bl))
     rw [<- Sz hl];rfl
    .cases hm
   .cases hm) hc.1 hc.2 hpre hbd hx hw hl
  rw [hr] at q
  exact q
end Go.Fw
end
section
namespace Go.Fw
variable [jY]
open Go.Lib
end Go.Fw
end
section
namespace Go.Fw
variable [jY]
abbrev V (n:Nat):Tm:=.var n []
abbrev W (n j:Nat):Tm:=.var n [j]
abbrev kI : Kd:=.int .i64
abbrev kU : Kd:=.int .u8
abbrev zI (t:Tm):SV:=.sc (.int .i64) t
abbrev zU (t:Tm):SV:=.sc (.int .u8) t
abbrev zB (t:Tm):SV:=.sc .bool t
abbrev zS (t:Tm):SV:=.sc .str t
abbrev zF (t:Tm):SV:=.sc .kC t
abbrev zL (t:Tm):SV:=.sc .sl t
abbrev qL (a b:Tm):Tm:=.bin .lss (.int .i64) a b
abbrev qM (a b:Tm):Tm:=.bin .leq (.int .i64) a b
abbrev qG (a b:Tm):Tm:=.bin .gtr (.int .i64) a b
abbrev qH (a b:Tm):Tm:=.bin .geq (.int .i64) a b
abbrev qE (a b:Tm):Tm:=.bin .eql (.int .i64) a b
abbrev qN (a b:Tm):Tm:=.bin .neq (.int .i64) a b
abbrev uE (a b:Tm):Tm:=.bin .eql (.int .u8) a b
abbrev uN (a b:Tm):Tm:=.bin .neq (.int .u8) a b
abbrev sE (a b:Tm):Tm:=.bin .eql .str a b
abbrev sN (a b:Tm):Tm:=.bin .neq .str a b
abbrev aI (a b:Tm):Tm:=.bin .add (.int .i64) a b
abbrev mI (a b:Tm):Tm:=.bin .sub (.int .i64) a b
abbrev cV (n:Nat)(l:List Kd):List SV:=kQ n [] 0 l
abbrev cW (n j:Nat)(l:List Kd):List SV:=kQ n [] j l
abbrev eI (n:Int):AV:=.p (.int .i64 n)
abbrev eU (n:Int):AV:=.p (.int .u8 n)
abbrev eB (b:Bool):AV:=.p (.bool b)
abbrev eF (n:Nat):AV:=.p (.float .f64 n)
abbrev eS (s:List UInt8):AV:=.str s
abbrev eL {α:Type}(f:α->List AV)(l:List α):AV:=.sl (List.map f l) false
class Fz (a:AV):Prop where h:a.fz=true
class Xk (l:List AV):Prop where h:iW l=true
class Yo {α:Type}(f:α->List AV):Prop where h:∀x,iW (f x)=true
instance {v : Value}:Fz (.p v):=⟨rfl⟩
instance {s : List UInt8}:Fz (.str s):=⟨rfl⟩
instance {l : List AV} [h:Xk l]:Fz (.agg l):=⟨h.h⟩
instance {l : List AV} [h:Xk l]:Fz (.fD l):=⟨h.h⟩
instance {α : Type} {f:α->List AV} [h:Yo f] {l:List α}:Fz (.sl (List.map f l) false):=⟨fzs h.h l⟩
instance : Xk []:=⟨rfl⟩
instance : Fz eP:=⟨rfl⟩
instance {a : AV} {l:List AV} [h:Fz a] [k:Xk l]:Xk (a::l):=⟨fO h.h k.h⟩
theorem aiC : ∀{a b:List AV},iW a=true->iW b=true->iW (a++b)=true
 |[],b,_,h=>h
 |x::r,b,h1,h2=>by
  simp only [iW,Bool.and_eq_true,List.cons_append] at h1 ⊢
  exact ⟨h1.1,aiC h1.2 h2⟩
instance {a b:List AV} [h:Xk a] [k:Xk b]:Xk (a++b):=⟨aiC h.h k.h⟩
instance (priority :=low) {α:Type} {f:α->List AV} [h:Yo f] {x:α}:Xk (f x):=⟨h.h x⟩
instance {b : Bool} {x y:List AV} [h:Xk x] [k:Xk y]:Xk (bif b then x else y):=⟨fzb h.h k.h⟩
instance : Yo rowB:=⟨aqd⟩
instance : Yo kY:=⟨aqe⟩
instance : Yo am3:=⟨am4⟩
instance : Yo aum:=⟨aqf⟩
instance {K V:Type} {f:K->List AV} {g:V->List AV} [h:Yo f] [k:Yo g]:Yo (BG f g):=⟨aqu h.h k.h⟩
class Un {α:Type}(f:α->List AV)(n:outParam Nat):Prop where h:∀x,(f x).length=n
instance : Un rowB 1:=⟨fun _=>rfl⟩
instance : Un kY 1:=⟨fun _=>rfl⟩
instance : Un am3 1:=⟨fun _=>rfl⟩
instance : Un aum 1:=⟨fun _=>rfl⟩
theorem Un.TI {α:Type}{f:α->List AV}{n:Nat}[h:Un f n](l:List α):lJ n (l.map f):=by
 intro row hr
 obtain ⟨x,-,rfl⟩:=List.mem_map.1 hr
 exact h.h x
section
variable {P : Program} {T:Dc} {ρ:List AV} {pc:Pc} {r:List (Pc×Side)}
theorem wn : x9 P T ρ []:=trivial
theorem wX {s:Side}(h:Pc.holds ρ pc->s.wk P T ρ)(k:x9 P T ρ r):x9 P T ρ ((pc,s)::r):=⟨h,k⟩
theorem wT (k:x9 P T ρ r){t:Tm}:x9 P T ρ ((pc,.tm t)::r):=⟨fun _ h=>h.1,k⟩
theorem leH {a b:Tm}(h:((JZ a b).den ρ).B=true):(a.den ρ).I<=(b.den ρ).I:=of_decide_eq_true h
theorem ltH {a b:Tm}(h:((tLt a b).den ρ).B=true):(a.den ρ).I<(b.den ρ).I:=of_decide_eq_true h
theorem wR {t i:Tm}{cells:List SV}{α:Type}{f:α->List AV}{l:List α}(ht:(t.den ρ).R=List.map f l)(k:x9 P T ρ r)[Inhabited α](hc:dU ρ cells=f (l.getD (i.den ρ).I.toNat default):=by rfl):x9 P T ρ ((pc,.row t i cells)::r):=by
 refine ⟨fun _ h=>?_,k⟩
 have h0:0<=(i.den ρ).I:=leH h.1
 have h1:(i.den ρ).I<mZ (t.den ρ).R:=ltH h.2.1
 refine ⟨h0,?_⟩
 rw [ht] at h1 ⊢
 rw [hc]
 exact (ar7 h0 (by simpa [mZ] using h1)).2
theorem wRd {t i:Tm}{off:Nat}{ty:Bool×Nat}{v:SV}{α:Type}{f:α->List AV}{l:List α}(ht:(t.den ρ).R=List.map f l)(k:x9 P T ρ r)[Inhabited α]{y:AV}(hv:v.den ρ=y:=by rfl)(hc:apart ty (f (l.getD (i.den ρ).I.toNat default)) off (fun x=>x=y):=by first|exact rfl|exact ⟨Nat.le_of_ble_eq_true rfl,rfl⟩):x9 P T ρ ((pc,.rd ty t i off v)::r):=by
 refine ⟨fun _ h=>?_,k⟩
 have h0:0<=(i.den ρ).I:=leH h.1
 have h1:(i.den ρ).I<mZ (t.den ρ).R:=ltH h.2.1
 refine ⟨f (l.getD (i.den ρ).I.toNat default),?_,?_⟩
 .rw [ht] at h1 ⊢
  exact (ar7 h0 (by simpa [mZ] using h1)).2
 .rw [hv];exact hc
theorem wSt {t i m:Tm}{off:Nat}{cells:List SV}{α:Type}{f:α->List AV}{l:List α}(y:α)(ht:(t.den ρ).R=List.map f l)(k:x9 P T ρ r)[Inhabited α]{N:Nat}[hn:Un f N](hm:(m.den ρ).R=List.map f (l.set (i.den ρ).I.toNat y):=by rfl)(hc:Nat.ble (off+cells.length) N=true:=by rfl)(hy:f y=lay (f (l.getD (i.den ρ).I.toNat default)) off (dU ρ cells):=by rfl):x9 P T ρ ((pc,.st t i off cells m)::r):=by
 refine ⟨fun _ h=>?_,k⟩
 have h0:0<=(i.den ρ).I:=leH h.1
 have h1:(i.den ρ).I<mZ (t.den ρ).R:=ltH h.2.1
 rw [ht] at h1
 have h2:(i.den ρ).I<(l.length:Int):=by simpa [mZ] using h1
 obtain ⟨row,q1,q2,q3⟩:=aqv (off:=off) (cells:=dU ρ cells) (f:=f) (l:=l) y h0 h2 hn.h (by rw [fZ];exact hc) hy
 exact ⟨row,by rw [ht];exact q1,by rw [<- fZ (ρ:=ρ)];exact q2,by rw [hm,ht];exact q3⟩
theorem azn {t m:Tm}{lo hi:Option Tm}{sz:Nat}{α:Type}{f:α->List AV}{l:List α}(ht:(t.den ρ).R=List.map f l)(k:x9 P T ρ r)[hn:Un f sz](hm:(m.den ρ).R=List.map f ((l.drop (Zf ρ 0 lo).toNat).take ((Zf ρ l.length hi).toNat-(Zf ρ 0 lo).toNat)):=by rfl):x9 P T ρ ((pc,.sub sz t lo hi m)::r):=by
 refine ⟨fun _ h=>?_,k⟩
 have e:(t.den ρ).R.length=l.length:=by rw [ht];simp
 show lJ sz (t.den ρ).R/\_
 rw [e]
 have hl:(((Tm.rlen t).den ρ).I:Int)=l.length:=by show mZ (t.den ρ).R=_;unfold mZ;rw [e]
 refine ⟨by rw [ht];exact Un.TI l,?_,?_,?_,by rw [hm,ht];simp⟩
 .cases lo with
  |none=>exact Int.le_refl _
  |some a=>cases hi with
   |none=>exact leH h.1
   |some b=>exact leH h.1
 .cases lo with
  |none=>cases hi with
   |none=>exact Int.natCast_nonneg _
   |some b=>exact leH h.1
  |some a=>cases hi with
   |none=>have:=leH h.2.1;rw [hl] at this;exact this
   |some b=>exact leH h.2.1
 .cases lo with
  |none=>cases hi with
   |none=>exact Int.le_refl _
   |some b=>have:=leH h.2.1;rw [hl] at this;exact this
  |some a=>cases hi with
   |none=>exact Int.le_refl _
   |some b=>have:=leH h.2.2.1;rw [hl] at this;exact this
theorem anW {k:Nat}:((anz k).den ρ).I=big-k:=by
 unfold anz;rw [yG,VF];rfl
theorem anX {t:Tm}:((Tm.rlen t).den ρ).I=((t.den ρ).R.length:Int):=rfl
theorem wMk {len cap m:Tm}{z:List SV}{α:Type}{f:α->List AV}(y:α)(hm:(m.den ρ).R=List.map f (List.replicate (len.den ρ).I.toNat y))(k:x9 P T ρ r)(hy:f y=dU ρ z:=by rfl):x9 P T ρ ((pc,.mk len cap z m)::r):=by
 refine ⟨fun _ h=>?_,k⟩
 exact ⟨leH h.1,leH h.2.1,leH h.2.2.1,by rw [hm,List.map_replicate,hy]⟩
theorem akz {x m:Tm}{y:List (List SV)}{sz:Nat}{α:Type}{f:α->List AV}{l:List α}(q:List α)(hx:(x.den ρ).R=List.map f l)(k:x9 P T ρ r)[hn:Un f sz](hy:iM ρ y=List.map f q:=by rfl)(hm:(m.den ρ).R=List.map f (l++q):=by rfl):x9 P T ρ ((pc,.app sz x y m)::r):=by
 refine ⟨fun _ h=>?_,k⟩
 have h1:=leH h.1
 rw [anW,anX] at h1
 unfold big at h1
 exact ⟨by rw [hx];exact Un.TI l,by omega,by rw [hm,hx,hy];simp⟩
theorem asl (k:x9 P T ρ r){m:Nat}{y:Tm}:x9 P T ρ ((pc,.len2 m y)::r):=by
 refine ⟨fun _ h=>?_,k⟩
 have h1:=leH h.1
 rw [anW,anX] at h1
 unfold big at h1
 show m+_<=_
 omega
theorem axd {m:Nat}{t:Tm}{α:Type}{f:α->List AV}{l:List α}(ht:(t.den ρ).R=List.map f l)(k:x9 P T ρ r)[hn:Un f m]:x9 P T ρ ((pc,.TI m t)::r):=
 ⟨fun _ _=>by show lJ m _;rw [ht];exact Un.TI l,k⟩
theorem aFp {x len y m:Tm}{α:Type}{f:α->List AV}{l q:List α}(hx:(x.den ρ).R=List.map f l)(hy:(y.den ρ).R=List.map f q)(k:x9 P T ρ r)(hm:(m.den ρ).R=List.map f (q.take (len.den ρ).I.toNat++l.drop (min q.length (len.den ρ).I.toNat)):=by rfl):x9 P T ρ ((pc,.cpy x len y m)::r):=by
 refine ⟨fun _ h=>?_,k⟩
 have h1:=leH h.1
 rw [anX] at h1
 exact ⟨by omega,by rw [hm,hx,hy];simp⟩
theorem wC {f:FuncId}{args:List SV}{v:SV}{az:List AV}{y:AV}(h:CT P T f az y)(k:x9 P T ρ r)(ha:dU ρ args=az:=by rfl)(hv:v.den ρ=y:=by rfl):x9 P T ρ ((pc,.call f args v)::r):=by
 subst ha;subst hv
 exact ⟨fun _=>h,k⟩
theorem ctP {f:FuncId}{az:List AV}{y:AV}(h:PC P f az y)(hT:T.at f=sp0:=by rfl):CT P T f az y:=fun _=>⟨h,fun _=>by rw [hT];trivial⟩
theorem ctW {f:FuncId}{az:List AV}{y:AV}(hr:y.flat=true)(h:CTw P T f az [] 0 y [])(h1:(T.atW f 0).pre=(T.at f).pre:=by rfl)(hT:(T.at f).post=[]:=by rfl):CT P T f az y:=fun hp=>by
 rw [<- h1] at hp
 exact ⟨anh hr (h (by simpa [avB] using hp)).1,fun _=>by rw [hT];trivial⟩
theorem wCp {f:FuncId}{args:List SV}{v:SV}{az:List AV}{y:AV}(h:Pc.holds ρ pc->CT P T f az y)(k:x9 P T ρ r)(ha:dU ρ args=az:=by rfl)(hv:v.den ρ=y:=by rfl):x9 P T ρ ((pc,.call f args v)::r):=by
 subst ha;subst hv
 exact ⟨h,k⟩
theorem aA3 {f:FuncId}{az:List AV}{y z:AV}{p:List Nat}{sz:Nat}(e:y=z)(h:CTo P T f az y p sz):CTo P T f az z p sz:=e▸h
theorem wO {f:FuncId}{args:List SV}{v:SV}{p:List Nat}{sz:Nat}{az:List AV}{y:AV}(h:CTo P T f az y p sz)(k:x9 P T ρ r)(ha:dU ρ args=az:=by rfl)(hv:v.den ρ=y:=by rfl):x9 P T ρ ((pc,.Px f args v p sz false)::r):=by
 subst ha;subst hv
 exact ⟨fun _=>⟨h,fun e=>by cases e⟩,k⟩
theorem wW {f:FuncId}{args:List SV}{bl JW:List (Nat×SB)}{n0:Nat}{v:SV}{az:List AV}{y:AV}{b b':List (Nat×wB)}(h:CTw P T f az b n0 y b')(k:x9 P T ρ r)(ha:dU ρ args=az:=by rfl)(hb:Iz ρ bl=b:=by rfl)(hv:v.den ρ=y:=by rfl)(hb':Iz ρ JW=b':=by rfl):x9 P T ρ ((pc,.qp f args bl n0 v JW)::r):=by
 subst ha;subst hb;subst hv;subst hb'
 exact ⟨fun _ _=>h,k⟩
theorem wWp {f:FuncId}{args:List SV}{bl JW:List (Nat×SB)}{n0:Nat}{v:SV}{az:List AV}{y:AV}{b b':List (Nat×wB)}(h:Pc.holds ρ pc->CTw P T f az b n0 y b')(k:x9 P T ρ r)(ha:dU ρ args=az:=by rfl)(hb:Iz ρ bl=b:=by rfl)(hv:v.den ρ=y:=by rfl)(hb':Iz ρ JW=b':=by rfl):x9 P T ρ ((pc,.qp f args bl n0 v JW)::r):=by
 subst ha;subst hb;subst hv;subst hb'
 exact ⟨fun hp _=>h hp,k⟩
theorem wU {pc':Pc}{s:Side}(h:x9 P T ρ [(pc',s)])(k:x9 P T ρ r):x9 P T ρ ((pc,.under pc' s)::r):=⟨fun _ hp=>h.1 hp,k⟩
theorem axf {t d len n:Tm}{u:List (Int×Bool)}{l:List Bool}(ht:(t.den ρ).R=List.map (BG kY rowB) u)(hd:(d.den ρ).R=List.map rowB l)(hk:Pc.holds ρ pc->∀e∈u,0<=e.1/\e.1<(len.den ρ).I)(k:x9 P T ρ r)(hn:(n.den ρ).R=List.map rowB (Qa u l):=by rfl):x9 P T ρ ((pc,.mark ⟨false,1,false,1⟩ t d len n)::r):=by
 refine ⟨fun hp h=>?_,k⟩
 have h1:(len.den ρ).I<=mZ (d.den ρ).R:=leH h.1
 have hk:=hk hp
 have e0:(t.den ρ).R.map (rW ⟨false,1,false,1⟩)=u.map fun e=>(.p (.int .i64 e.1),.p (.bool e.2)):=by
  rw [ht,List.map_map];rfl
 have e1:(d.den ρ).R.length=l.length:=by rw [hd,List.length_map]
 unfold mZ at h1
 refine ⟨by omega,?_,?_,?_⟩
 .rw [e0]
  intro e he
  obtain ⟨x,hx,rfl⟩:=List.mem_map.1 he
  have:=hk x hx
  exact ⟨_,_,rfl,this.1,by omega⟩
 .rw [hn,hd];simp [Qa]
 .intro i hi
  rw [e1] at hi
  rw [e0,hn,hd]
  have e2:((u.map fun e=>((AV.p (.int .i64 e.1),AV.p (.bool e.2)):AV×AV)).any fun e=>Nat.beq (kOf e.1) i)=u.any fun e=>Nat.beq e.1.toNat i:=by
   rw [List.any_map];rfl
  rw [e2]
  simp only [List.getElem?_map,Qa,List.getElem?_mapIdx]
  rw [List.getElem?_eq_getElem hi]
  simp only [Option.map_some]
  cases hq:u.any fun e=>Nat.beq e.1.toNat i
  .simp
  .simp [rowB,TT]
theorem asn {K V:Type}[DecidableEq K]{f:K->List AV}{g:V->List AV}{kt:TypeId}{m:MSh}{t ft:Tm}{kk z v:SV}(hk:∀a b:K,aeq P 10000 kt (nO m.ka (f a)) (nO m.ka (f b))=some (decide (a=b)))(key:K)(zero:V){l:List (K×V)}(ht:(t.den ρ).R=List.map (BG f g) l)(k:x9 P T ρ r)(hf:∀k,(f k).length=m.kn:=by intro _;rfl)(h1:kk.den ρ=nO m.ka (f key):=by rfl)(h2:z.den ρ=nO m.va (g zero):=by rfl)(h3:(ft.den ρ).B=(n_ zero key l).1:=by rfl)(h4:v.den ρ=nO m.va (g (n_ zero key l).2):=by rfl):x9 P T ρ ((pc,.look kt m t kk z ft v)::r):=by
 refine ⟨fun _ _=>?_,k⟩
 show ∃r,_
 rw [h1,h2,h3,h4,ht]
 exact ZR hk hf key zero l
theorem axg {K V:Type}[DecidableEq K]{f:K->List AV}{g:V->List AV}{kt:TypeId}{m:MSh}{t nt:Tm}{kk v:SV}(hk:∀a b:K,aeq P 10000 kt (nO m.ka (f a)) (nO m.ka (f b))=some (decide (a=b)))(key:K)(val:V){l:List (K×V)}(ht:(t.den ρ).R=List.map (BG f g) l)(k:x9 P T ρ r)(hf:∀k,(f k).length=m.kn:=by intro _;rfl)(h1:kk.den ρ=nO m.ka (f key):=by rfl)(h2:v.den ρ=nO m.va (g val):=by rfl)(h3:(nt.den ρ).R=List.map (BG f g) (og key val l):=by rfl):x9 P T ρ ((pc,.put kt m t kk v nt)::r):=by
 refine ⟨fun _ _=>?_,k⟩
 show ∃r,_
 rw [h1,h2,h3,ht]
 exact adF hk hf key val l
end
def nU (P:Program)(T:Dc)(L:Lo)(H:LH)(ρ0:List AV)(n:Nat)(vs:List AV)(r:Nat×List AV):Prop:=
 match L with
 | .mk _ _ m _ outs sd aw _ _=>anI H.mt.Qk (fun σ=>AO σ H.xs/\x9 P T σ sd/\U2 P T aw H.sub σ) outs ρ0 m n vs r.1 r.2
def axh (e:Bool)(S:List AV->Prop)(outs:List (Tm×Nat×List SV))(ρ0:List AV)(m n:Nat)(σ:List AV)(o:Option (Nat×List SV))(r:Nat×List AV):Prop:=
 match o with
 |none=>False
 |some (0,l)=>anI e S outs ρ0 m n (dU σ l) r.1 r.2
 |some (j+1,l)=>r.1=j/\r.2=dU σ l
def Uo (P:Program)(T:Dc)(L:Lo)(H:LH)(ρ0:List AV)(n:Nat)(σ:List AV)(o:Option (Nat×List SV))(r:Nat×List AV):Prop:=
 match L with
 | .mk _ _ m _ outs sd aw _ _=>axh H.mt.Qk (fun σ=>AO σ H.xs/\x9 P T σ sd/\U2 P T aw H.sub σ) outs ρ0 m n σ o r
theorem l0 {P:Program}{T:Dc}{L:Lo}{H:LH}{ρ0 vs:List AV}{r:Nat×List AV}(h:H.mt.Qk=false:=by rfl):nU P T L H ρ0 0 vs r:=by cases L;exact h
theorem EU {P:Program}{T:Dc}{H:LH}{ρ0 vs:List AV}{n:Nat}{r:Nat×List AV}{pc:Pc}{base m:Nat}{entry:List SV}{outs:List (Tm×Nat×List SV)}{sd:List (Pc×Side)}{aw:List Lo}{ms:List Nat}{bn:List Tm}{L:Lo}(hL:L=.mk pc base m entry outs sd aw ms bn)
  (cs:List AV) [hf:Xk (ρ0++vs++cs)] (hx:AO (ρ0++vs++cs) H.xs) (hw:x9 P T (ρ0++vs++cs) sd) (hl:U2 P T aw H.sub (ρ0++vs++cs)) (h:Uo P T L H ρ0 n (ρ0++vs++cs) (Ei (ρ0++vs++cs) outs) r) (hm:vs.length=m:=by rfl):nU P T L H ρ0 (n+1) vs r:=by
 subst hL
 refine ⟨cs,hm,hf.h,⟨hx,hw,hl⟩,?_⟩
 unfold Uo axh at h
 dsimp only at h
 split at h
 .exact h.elim
 .rename_i l e;first|exact h|(rw [e];exact h)
 .rename_i j l e;first|exact h|(rw [e];exact h)
theorem rcf {P:Program}{T:Dc}{L:Lo}{H:LH}{ρ0 σ:List AV}{n:Nat}{R:Type}(rk:R->Nat×List AV){g:Tm}{x:Nat×List SV}{y:Tm×Nat×List SV}{l:List (Tm×Nat×List SV)}{c:Bool}{a b:R}(h1:c=true->Uo P T L H ρ0 n σ (some x) (rk a))(h2:c=false->Uo P T L H ρ0 n σ (Ei σ (y::l)) (rk b))(hg:(g.den σ).B=c:=by rfl):Uo P T L H ρ0 n σ (Ei σ ((g,x)::y::l)) (rk (bif c then a else b)):=by
 simp only [Ei,hg]
 cases c
 .exact h2 rfl
 .exact h1 rfl
theorem rc {P:Program}{T:Dc}{L:Lo}{H:LH}{ρ0 σ:List AV}{n:Nat}{R:Type}(rk:R->Nat×List AV){g:Tm}{x:Nat×List SV}{y:Tm×Nat×List SV}{l:List (Tm×Nat×List SV)}{c:Bool}{a b:R}(h1:Uo P T L H ρ0 n σ (some x) (rk a))(h2:Uo P T L H ρ0 n σ (Ei σ (y::l)) (rk b))(hg:(g.den σ).B=c:=by rfl):Uo P T L H ρ0 n σ (Ei σ ((g,x)::y::l)) (rk (bif c then a else b)):=
 rcf rk (fun _=>h1) (fun _=>h2) hg
theorem rl {P:Program}{T:Dc}{L:Lo}{H:LH}{ρ0 σ:List AV}{n:Nat}{r:Nat×List AV}{g:Tm}{x:Nat×List SV}(h:Uo P T L H ρ0 n σ (some x) r):Uo P T L H ρ0 n σ (Ei σ [(g,x)]) r:=h
theorem rg {P:Program}{T:Dc}{L:Lo}{H:LH}{ρ0 σ vs:List AV}{n:Nat}{r:Nat×List AV}{l:List SV}(h:nU P T L H ρ0 n vs r)(hl:dU σ l=vs:=by rfl):Uo P T L H ρ0 n σ (some (0,l)) r:=by
 subst hl
 cases L;exact h
theorem rx {P:Program}{T:Dc}{L:Lo}{H:LH}{ρ0 σ:List AV}{n:Nat}{r:Nat×List AV}{j:Nat}{l:List SV}(h1:r.1=j:=by rfl)(h2:r.2=dU σ l:=by rfl):Uo P T L H ρ0 n σ (some (j+1,l)) r:=by
 cases L;exact ⟨h1,h2⟩
theorem EW {c a b:Bool}(h:c=false)(k:(bif c then a else b)=true):b=true:=by subst h;exact k
theorem ln {P:Program}{T:Dc}{hs:List LH}{ρ:List AV}:U2 P T [] hs ρ:=trivial
theorem fuR {α:Type}{f:α->List AV}{l:List α}:1*mZ (List.map f l)+0<((l.length+1:Nat):Int):=by simp [mZ];omega
theorem fuN {x:Int}:1*x+0<((x.toNat+1:Nat):Int):=by omega
theorem Z7 {P:Program}{T:Dc}{ρ ρ0 vs:List AV}{hs:List LH}{ls:List Lo}{n m0:Nat}{us:List AV}{pc:Pc}{base m:Nat}{entry:List SV}{outs:List (Tm×Nat×List SV)}{sd:List (Pc×Side)}{aw:List Lo}{bn:List Tm}{L:Lo}
  (h:nU P T L (hdH hs) ρ0 n vs (0,us)) (k:U2 P T ls (tlH hs) ρ) (hL:L=.mk pc base m entry outs sd aw [m0] bn:=by rfl) (hb:Nat.ble base ρ.length=true:=by rfl) (h0:ρ.take base=ρ0:=by rfl) (hv:dU ρ entry=vs:=by rfl)
  (hn:ftV ρ (hdH hs).ft<(n:Int):=by first|exact fuR|exact fuN) (hu:(ρ.drop base).take us.length=us:=by rfl) (hn0:Nat.blt 0 n=true:=by rfl):U2 P T (L::ls) hs ρ:=by
 subst hL;subst h0;subst hv
 refine ⟨?_,k⟩
 simp only [Lo.wk]
 rw [Nat.blt_eq] at hn0
 exact fun _ _=>⟨Nat.le_of_ble_eq_true hb,n,0,us,⟨hn0,hn⟩,h,fun h=>by simp at h,ZM hu⟩
theorem Yp {P:Program}{T:Dc}{ρ ρ0 vs:List AV}{hs:List LH}{ls:List Lo}{n m0 m1:Nat}{b:Bool}{u0 u1:List AV}{pc:Pc}{base m:Nat}{entry:List SV}{outs:List (Tm×Nat×List SV)}{sd:List (Pc×Side)}{aw:List Lo}{bn:List Tm}{L:Lo}
  (h:nU P T L (hdH hs) ρ0 n vs (Ny b u0 u1)) (k:U2 P T ls (tlH hs) ρ) (hL:L=.mk pc base m entry outs sd aw [m0,m1] bn:=by rfl) (hb:Nat.ble base ρ.length=true:=by rfl) (h0:ρ.take base=ρ0:=by rfl) (hv:dU ρ entry=vs:=by rfl)
  (hn:ftV ρ (hdH hs).ft<(n:Int):=by first|exact fuR|exact fuN) (hk:(ρ.getD base eP).D.I=ji b:=by rfl) (hu0:(ρ.drop (base+1)).take u0.length=u0:=by rfl) (hu1:(ρ.drop (base+1+m0)).take u1.length=u1:=by rfl) (hn0:Nat.blt 0 n=true:=by rfl):U2 P T (L::ls) hs ρ:=by
 subst hL;subst h0;subst hv
 refine ⟨?_,k⟩
 simp only [Lo.wk]
 rw [Nat.blt_eq] at hn0
 refine fun _ _=>⟨Nat.le_of_ble_eq_true hb,n,(Ny b u0 u1).1,(Ny b u0 u1).2,⟨hn0,hn⟩,h,fun _=>?_,?_⟩
 .rw [hk];cases b<;>rfl
 .cases b
  .intro i u hu
   have:=ZM hu1 i u hu
   have e:aDJ base [m0,m1] (Ny false u0 u1).1=base+1+m0:=by show (base+1)+(m0+0)=_;omega
   rw [e];exact this
  .intro i u hu
   have:=ZM hu0 i u hu
   have e:aDJ base [m0,m1] (Ny true u0 u1).1=base+1:=rfl
   rw [e];exact this
theorem xn {ρ:List AV}:AO ρ []:=trivial
theorem xc {ρ:List AV}{pc:Pc}{t:Tm}{r:List (Pc×Tm)}(h:(t.den ρ).B=true)(k:AO ρ r):AO ρ ((pc,t)::r):=⟨fun _=>h,k⟩
theorem xp {ρ:List AV}{pc:Pc}{t:Tm}{r:List (Pc×Tm)}(h:Pc.holds ρ pc->(t.den ρ).B=true)(k:AO ρ r):AO ρ ((pc,t)::r):=⟨h,k⟩
section
variable {P : Program} {T:Dc} {X:qO} {I0:Gv} {md:Md} {FC:FuncId->BD} {vK CF f nv:Nat} {args:List SV} {az:List AV} {r:AV} {R:iE}
theorem qY (hm:P.follows .mixedOrders=true)(hX:∀σ:List AV,iW σ=true->o7 P σ X)(h0:∀σ:List AV,iW σ=true->oH P σ I0)(h:jo P X I0 md FC vK CF f args nv=some R)(H:LH)(hc:(adU T (T.at f) args args H R.sd R.aw&&adW T (T.at f) args args H R fun v=>some (args++[v]))=true)(ρ:List AV)[hρ:Xk ρ](hx:AO ρ H.xs)(hw:x9 P T ρ R.sd)(hl:U2 P T R.aw H.sub ρ)(hr:rQ ρ R.rs=r)(ha:dU ρ args=az:=by rfl):CT P T f az r:=
 azj hm hX h0 h H hc ρ hρ.h hx hw hl ha hr
theorem mkO (hm:P.follows .mixedOrders=true)(hX:∀σ:List AV,iW σ=true->o7 P σ X)(h0:∀σ:List AV,iW σ=true->oH P σ I0){p:List Nat}{sz:Nat}(h:agm P X I0 md FC vK CF f args nv p sz=some R)(H:LH)(hc:(adU T (T.at f) args args H R.sd R.aw&&adW T (T.at f) args args H R fun v=>some (args++[v]))=true)(ρ:List AV)[hρ:Xk ρ](hx:AO ρ H.xs)(hw:x9 P T ρ R.sd)(hl:U2 P T R.aw H.sub ρ)(hr:rQ ρ R.rs=r)(ha:dU ρ args=az:=by rfl):CTo P T f az r p sz:=
 axb hm hX h0 h H hc ρ hρ.h hx hw hl ha hr
theorem mkW (hm:P.follows .mixedOrders=true)(hX:∀σ:List AV,iW σ=true->o7 P σ X)(h0:∀σ:List AV,iW σ=true->oH P σ I0){cs:List AV}{bl:List (Nat×SB)}{vZ:List (Nat×Nat)}{n0:Nat}{bin Nv:List (Nat×wB)}(h:P_ P X I0 md FC vK CF f args nv bl vZ n0=some R)(H:LH)(hc:(adU T (T.atW f n0) (args++Sv bl) args H R.sd R.aw&&adW T (T.atW f n0) (args++Sv bl) args H R (anV args bl vZ))=true)(ρ:List AV)[hρ:Xk ρ](hx:AO ρ H.xs)(hw:x9 P T ρ R.sd)(hl:U2 P T R.aw H.sub ρ)(hr:rQ ρ R.rs=.fD (r::cs))(ha:dU ρ args=az:=by rfl)(hb:Iz ρ bl=bin:=by rfl)(hb2:uU ρ vZ cs 0 bl=Nv:=by rfl):CTw P T f az bin n0 r Nv:=
 axc hm hX h0 h H hc ρ hρ.h hx hw hl ha hb hr hb2
end
end Go.Fw
end
section
namespace Go.Fw
def OY (x0:List UInt8):dI:=
 (dI.mk x0 0)
end Go.Fw
end
section
namespace Go.Fw
def pJ (r:dS×Int):AV:=.fD [(dS.av r.1),(.p (.int .i64 r.2))]
def iP (x0:dK)(u4:List Bool):Nat->Bool->Int->(List (Int×Bool))->(Bool×Bool×Int×List (Int×Bool)×Bool×List (Int×Bool))
 |0,_,_,_=>default
 |n+1,u5,u6,u7=>
  let v8:Bool:=u4.getD (u6:Int).toNat default
  let v9:Bool×Bool:=n_ false u6 u7
  let v10:List (Int×Bool):=og u6 true u7
  let v11:dS:=x0.Objects.getD (u6:Int).toNat default
  bif (!(!v8)) then (true,u5,u6,u7,default,default)
  else bif v9.2 then (false,default,default,default,true,u7)
  else bif (dZ v11.eu.Kind 1) then (true,u5,u6,v10,default,default)
  else iP x0 u4 n u5 v11.eu.Ref v10
def kZ (x0:dK)(u4:List Bool):Nat->Bool->Int->(List (Int×Bool))->Bool
 |0,_,_,_=>false
 |n+1,u5,u6,u7=>
  let v8:Bool:=u4.getD (u6:Int).toNat default
  let v9:Bool×Bool:=n_ false u6 u7
  let v10:List (Int×Bool):=og u6 true u7
  let v11:dS:=x0.Objects.getD (u6:Int).toNat default
  bif (!(!v8)) then true
  else bif v9.2 then true
  else bif (dZ v11.eu.Kind 1) then true
  else kZ x0 u4 n u5 v11.eu.Ref v10
def lN (x0:dK):Nat->Bool->Int->(List Bool)->(Bool×Bool×List Bool×Bool×List Bool)
 |0,_,_,_=>default
 |n+1,u2,u3,u4=>
  let r5:Bool×Bool×Int×List (Int×Bool)×Bool×List (Int×Bool):=iP x0 u4 (x0.Objects.length+3) u2 u3 []
  let v11:List Bool:=Qa r5.2.2.2.1 u4
  bif (!(decide ((u3:Int)<(je dS.enc x0.Objects)))) then (true,u2,u4,default,default)
  else bif (!(dZ (ji r5.1) 0)) then (false,default,default,r5.2.2.2.2.1,u4)
  else lN x0 n r5.2.1 (dY .i64 u3 1) v11
def qW (x0:dK):Bool:=
 let v1:List Bool:=List.replicate ((je dS.enc x0.Objects):Int).toNat false
 let r2:Bool×Bool×List Bool×Bool×List Bool:=lN x0 (x0.Objects.length+1) false 0 v1
 bif (!(dZ (ji r2.1) 0)) then r2.2.2.2.1
 else false
def nR (x0:dL)(x1:Int):Bool:=
 let v2:Bool:=iZ x0
 ((dZ x0.Kind x1)&&v2)
def AP (x0:dS):Int:=
 bif x0.Makes then 8
 else bif x0.Calls then 7
 else 6
def eH (x0:dK)(x1:dL):Bool:=
 let v2:Bool:=iZ x1
 let v3:Bool:=dM x1
 let v4:dS:=x0.Objects.getD (x1.Ref:Int).toNat default
 let v5:Int:=AP v4
 bif (!v2) then false
 else ((!v3)||((decide ((x1.Ref:Int)<(je dS.enc x0.Objects)))&&(dZ v5 x1.Kind)))
def jJ (x0:dK)(x2:Int):Nat->Bool->Int->(List dL)->(Bool×Bool×List dL×Bool×List dL)
 |0,_,_,_=>default
 |n+1,u6,u7,u8=>
  let v9:dL:=u8.getD (u7:Int).toNat default
  let v10:Bool:=dM v9
  let v11:Bool:=eH x0 v9
  bif (!(decide ((u7:Int)<2))) then (true,u6,u8,default,default)
  else bif (((!v10)||(!v11))||(decide ((v9.Ref:Int)>=x2))) then (false,default,default,false,u8)
  else jJ x0 x2 n u6 (dY .i64 u7 1) u8
def pK (x0:dK)(x1:dS)(x2:Int):Bool:=
 let v3:Bool:=nR x1.eu 1
 let v4:Bool:=nR x1.Target 1
 let v5:Bool:=nR x1.Handler 1
 let r6:Bool×Bool×List dL×Bool×List dL:=jJ x0 x2 ((2:Int).toNat+1) false 0 [x1.Target,x1.Handler]
 let v11:dS:=x0.Objects.getD (x1.Target.Ref:Int).toNat default
 bif (((((decide (((je dJ.enc x1.Props):Int) > 0))||x1.Ext)||(!v3))||(sNe x1.Text []))||(x1.Makes&&(!x1.Calls))) then false
 else bif (v4&&v5) then true
 else bif (!(dZ (ji r6.1) 0)) then r6.2.2.2.1
 else ((Nr v11.Calls x1.Calls)&&(Nr v11.Makes x1.Makes))
def iU (x0:Nat)(x1:List dJ):Nat->Int->Int->(Bool×Int×Int)
 |0,_,_=>default
 |n+1,u2,u3=>
  let v4:dJ:=x1.getD (u3:Int).toNat default
  let v5:Int×Bool:=iI v4.Key
  bif (!(decide ((u3:Int)<(je dJ.enc x1)))) then (true,u2,default)
  else bif (v5.2&&(decide ((v5.1:Int)>=(((FloatKind.f64.decode x0).toInt .zero).getD 0)))) then (false,default,u3)
  else iU x0 x1 n u2 (dY .i64 u3 1)
def mO (x0:Nat)(x1:List dJ):Int:=
 let r2:Bool×Int×Int:=iU x0 x1 (x1.length+1) 0 0
 bif (!(dZ (ji r2.1) 0)) then r2.2.2
 else (-1)
def jU (x0:Nat)(x1:List dJ):Bool:=
 let w2:Int:=mO x0 x1
 let r2:Int:=w2
 (decide ((r2:Int)>=0))
def xE (x0:List dJ):Bool:=
 let v1:dJ:=x0.getD (0:Int).toNat default
 let v2:dI:=OY [108,101,110,103,116,104]
 let v3:dJ:=x0.getD (0:Int).toNat default
 let v4:Bool:=lH v3.dV
 let w5:Bool:=jU v3.dV.Value.Num x0
 let r5:Bool:=w5
 bif ((dZ (je dJ.enc x0) 0)||(!((zW v1.Key.Str v2.Str)&&(dZ v1.Key.Sym v2.Sym)))) then false
 else bif (((((!v4)||v3.dV.eG)||v3.dV.Configurable)||(jC v3.dV.Value.Kind 3))||(!((Yd v3.dV.Value.Num 0)&&(UH v3.dV.Value.Num 4652218415073722368)))) then false
 else (!r5)
def jh (x0:List dJ)(x1:List UInt8):Nat->Int->Int->(Bool×Int×Int)
 |0,_,_=>default
 |n+1,u2,u3=>
  let v4:dJ:=x0.getD (u3:Int).toNat default
  let v5:Int×Bool:=iI v4.Key
  let v6:dI:=OY [108,101,110,103,116,104]
  bif (!(decide ((u3:Int)<(je dJ.enc x0)))) then (true,u2,default)
  else bif ((v5.2&&(decide ((v5.1:Int)<(sLen x1))))||((zW v4.Key.Str v6.Str)&&(dZ v4.Key.Sym v6.Sym))) then (false,default,u3)
  else jh x0 x1 n u2 (dY .i64 u3 1)
def nS (x0:List dJ)(x1:List UInt8):Int:=
 let r2:Bool×Int×Int:=jh x0 x1 (x0.length+1) 0 0
 bif (!(dZ (ji r2.1) 0)) then r2.2.2
 else (-1)
def lU (x0:List dJ)(x1:List UInt8):Bool:=
 let w2:Int:=nS x0 x1
 let r2:Int:=w2
 (decide ((r2:Int)>=0))
def xG (x0:List dJ)(x1:List UInt8):Bool:=
 let w2:Bool:=lU x0 x1
 let r2:Bool:=w2
 ((decide (((sLen x1):Int)<=4096))&&(!r2))
def ig (x0:dK)(v2:dS):Nat->Bool->Int->(Bool×Bool×Bool)
 |0,_,_=>default
 |n+1,u12,u13=>
  let v14:dJ:=v2.Props.getD (u13:Int).toNat default
  let v15:Bool:=eH x0 v14.dV.Value
  let v16:Bool:=eH x0 v14.dV.Get
  let v17:Bool:=eH x0 v14.dV.Set
  bif (!(decide ((u13:Int)<(je dJ.enc v2.Props)))) then (true,u12,default)
  else bif (((!v15)||(!v16))||(!v17)) then (false,default,false)
  else ig x0 v2 n u12 (dY .i64 u13 1)
def jv (x0:dK)(x1:Int):Bool:=
 let v2:dS:=x0.Objects.getD (x1:Int).toNat default
 let v3:Bool:=pK x0 v2 x1
 let v4:Bool:=dM v2.Target
 let v5:Bool:=eH x0 v2.Target
 let v6:dS:=x0.Objects.getD (v2.Target.Ref:Int).toNat default
 let v7:Bool:=nR v2.Target 0
 let v8:Bool:=nR v2.Handler 0
 let v9:Bool:=dM v2.eu
 let v10:Bool:=eH x0 v2.eu
 let v11:Int:=jF v2.Props
 let r12:Bool×Bool×Bool:=ig x0 v2 (v2.Props.length+1) false 0
 let v15:Bool:=xE v2.Props
 let v16:Bool:=xG v2.Props v2.Text
 bif (dZ v2.Kind 6) then v3
 else bif ((((!v7)&&(!(((((dZ v2.Kind 5)&&v4)&&(decide ((v2.Target.Ref:Int)<x1)))&&v5)&&(dZ v6.Kind 6))))||(!v8))||((sNe v2.Text [])&&(jC v2.Kind 3))) then false
 else bif ((((jC v2.eu.Kind 1)&&(!v9))||(!v10))||(jC v11 0)) then false
 else bif (!(dZ (ji r12.1) 0)) then r12.2.2
 else bif (dZ v2.Kind 1) then ((!v2.Calls)&&(!v2.Makes))
 else bif (dZ v2.Kind 2) then (((!v2.Calls)&&(!v2.Makes))&&v15)
 else bif (dZ v2.Kind 3) then (((!v2.Calls)&&(!v2.Makes))&&v16)
 else bif (dZ v2.Kind 4) then (v2.Calls&&v2.Makes)
 else bif (dZ v2.Kind 5) then v2.Calls
 else false
def qX (x0:dK):Nat->Int->Int->(Bool×Int×Int)
 |0,_,_=>default
 |n+1,u1,u2=>
  let v3:Bool:=jv x0 u2
  bif (!(decide ((u2:Int)<(je dS.enc x0.Objects)))) then (true,u1,default)
  else bif (!v3) then (false,default,9)
  else qX x0 n u1 (dY .i64 u2 1)
def kR (x0:dK):Int:=
 let r1:Bool×Int×Int:=qX x0 (x0.Objects.length+1) 0 0
 let v4:Bool:=qW x0
 bif (decide (((je dS.enc x0.Objects):Int) > 4096)) then 9
 else bif (!(dZ (ji r1.1) 0)) then r1.2.2
 else bif v4 then 9
 else 0
def Qm (x0:dS):dS:=
 x0
def ab1 (x0:dK):Nat->Int->(List dS)->(List dS)
 |0,_,_=>default
 |n+1,u3,u4=>
  let v5:dS:=u4.getD (u3:Int).toNat default
  let v6:dS:=Qm v5
  let v7:List dS:=u4.set (u3:Int).toNat v6
  bif (!(decide ((u3:Int)<(je dS.enc x0.Objects)))) then u4
  else ab1 x0 n (dY .i64 u3 1) v7
def ak_ (x0:dK):dK:=
 let v1:List dS:=List.replicate ((je dS.enc x0.Objects):Int).toNat (dS.mk 0 (dL.mk 0 0 [] 0) false [] (dL.mk 0 0 [] 0) (dL.mk 0 0 [] 0) [] false false)
 let v2:List dS:=x0.Objects.take ((je dS.enc x0.Objects):Int).toNat++v1.drop (min x0.Objects.length ((je dS.enc x0.Objects):Int).toNat)
 let r3:List dS:=ab1 x0 (x0.Objects.length+1) 0 v2
 let v4:List dS:=(r3.drop (0)).take (((je dS.enc x0.Objects):Int).toNat-0)
 (dK.mk v4)
def alf (x0:dK):dK:=
 let v1:List dS:=List.replicate ((je dS.enc x0.Objects):Int).toNat (dS.mk 0 (dL.mk 0 0 [] 0) false [] (dL.mk 0 0 [] 0) (dL.mk 0 0 [] 0) [] false false)
 let v2:List dS:=x0.Objects.take ((je dS.enc x0.Objects):Int).toNat++v1.drop (min x0.Objects.length ((je dS.enc x0.Objects):Int).toNat)
 let r3:List dS:=ab1 x0 (x0.Objects.length+1) 0 v2
 let v4:List dS:=(r3.drop (0)).take (((je dS.enc x0.Objects):Int).toNat-0)
 (dK.mk r3)
def Bo (x0:dK)(x1:Int):dS×Int:=
 let v2:Int:=kR x0
 let v3:dS:=x0.Objects.getD (x1:Int).toNat default
 let v4:dS:=Qm v3
 bif (jC v2 0) then ((dS.mk 0 (dL.mk 0 0 [] 0) false [] (dL.mk 0 0 [] 0) (dL.mk 0 0 [] 0) [] false false),v2)
 else bif ((decide ((x1:Int)<0))||(decide ((x1:Int)>=(je dS.enc x0.Objects)))) then ((dS.mk 0 (dL.mk 0 0 [] 0) false [] (dL.mk 0 0 [] 0) (dL.mk 0 0 [] 0) [] false false),2)
 else (v4,0)
def yc (x0:dL)(x1:dL):Bool:=
 ((dZ x0.Kind x1.Kind)&&((fEq (bif ((Ns x0.Num x0.Num)&&(Ns x1.Num x1.Num)) then 0 else x0.Num) (bif ((Ns x0.Num x0.Num)&&(Ns x1.Num x1.Num)) then 0 else x1.Num))&&((zW x0.Str x1.Str)&&(dZ x0.Ref x1.Ref))))
def lV (x0:List dJ)(x1:List dJ):Nat->Bool->Int->(Bool×Bool×Bool)
 |0,_,_=>default
 |n+1,u2,u3=>
  let v4:dJ:=x0.getD (u3:Int).toNat default
  let v5:dJ:=x1.getD (u3:Int).toNat default
  let v6:Bool:=yc v4.dV.Value v5.dV.Value
  let v7:Bool:=yc v4.dV.Get v5.dV.Get
  let v8:Bool:=yc v4.dV.Set v5.dV.Set
  bif (!(decide ((u3:Int)<(je dJ.enc x0)))) then (true,u2,default)
  else bif (!(((((((((zW v4.Key.Str v5.Key.Str)&&(dZ v4.Key.Sym v5.Key.Sym))&&(dZ v4.dV.Has v5.dV.Has))&&(Nr v4.dV.fB v5.dV.fB))&&(Nr v4.dV.eG v5.dV.eG))&&(Nr v4.dV.Configurable v5.dV.Configurable))&&v6)&&v7)&&v8)) then (false,default,false)
  else lV x0 x1 n u2 (dY .i64 u3 1)
def rH (x0:List dJ)(x1:List dJ):Bool:=
 let r2:Bool×Bool×Bool:=lV x0 x1 (x0.length+1) false 0
 bif (jC (je dJ.enc x0) (je dJ.enc x1)) then false
 else bif (!(dZ (ji r2.1) 0)) then r2.2.2
 else true
def aaF (x0:List dS)(x1:List dS):Nat->Bool->Int->(Bool×Bool×Bool)
 |0,_,_=>default
 |n+1,u2,u3=>
  let v4:dS:=x0.getD (u3:Int).toNat default
  let v5:dS:=x1.getD (u3:Int).toNat default
  let v6:Bool:=yc v4.eu v5.eu
  let v7:Bool:=yc v4.Target v5.Target
  let v8:Bool:=yc v4.Handler v5.Handler
  let w9:Bool:=rH v4.Props v5.Props
  let r9:Bool:=w9
  bif (!(decide ((u3:Int)<(je dS.enc x0)))) then (true,u2,default)
  else bif (!(((((((((dZ v4.Kind v5.Kind)&&v6)&&(Nr v4.Ext v5.Ext))&&v7)&&v8)&&(zW v4.Text v5.Text))&&(Nr v4.Calls v5.Calls))&&(Nr v4.Makes v5.Makes))&&r9)) then (false,default,false)
  else aaF x0 x1 n u2 (dY .i64 u3 1)
def vW (x0:List dS)(x1:List dS):Bool:=
 let r2:Bool×Bool×Bool:=aaF x0 x1 (x0.length+1) false 0
 bif (jC (je dS.enc x0) (je dS.enc x1)) then false
 else bif (!(dZ (ji r2.1) 0)) then r2.2.2
 else true
def SA (x0:dK)(x1:dK):Bool:=
 let w2:Bool:=vW x0.Objects x1.Objects
 let r2:Bool:=w2
 r2
end Go.Fw
end
section
namespace Go.Fw
def ltK (a b:dI):Bool:=(decide (((dW a).1:Int)<(dW b).1))||((dZ (dW a).1 (dW b).1)&&(decide (((dW a).2:Int)<(dW b).2)))
def Ej (l:List dI):Prop:=l.Pairwise fun a b=>ltK b a=false
end Go.Fw
end
section
namespace Go.Fw
end Go.Fw
end
section
namespace Go.Fw
end Go.Fw
end
section
namespace Go.Fw
end Go.Fw
end
section
namespace Go.Fw
inductive Full (s:Int):List dI->Prop
 |nil:Full s []
 |cons {b r:List dI}:(b.length:Int)=s->Ej b->Full s r->Full s (b++r)
end Go.Fw
end
section
namespace Go.Fw
end Go.Fw
end
section
namespace Go.Fw
def num (k:dI):Int:=(iI k).1
end Go.Fw
end
section
namespace Go.Fw
end Go.Fw
end
section
namespace Go.Fw
def u8 (n:Int):Prop:=0<=n/\n<=255
end Go.Fw
end
section
namespace Go.Fw
set_option maxRecDepth 20000
def hb (n:Int)(i:Nat):Bool:=n.toNat.testBit i
def agK (n:Int):Prop:=(jC (jZ .u8 n 1) 0=hb n 0/\jC (jZ .u8 n 2) 0=hb n 1/\jC (jZ .u8 n 4) 0=hb n 2/\jC (jZ .u8 n 8) 0=hb n 3/\jC (jZ .u8 n 16) 0=hb n 4/\jC (jZ .u8 n 32) 0=hb n 5/\
 dZ (jZ .u8 n 1) 0=(!hb n 0)/\dZ (jZ .u8 n 4) 0=(!hb n 2)/\dZ (jZ .u8 n 8) 0=(!hb n 3))
instance (n : Int):Decidable (agK n):=by unfold agK;infer_instance
def agL (n:Int):Prop:=(jC (jZ .u8 (Iy .u8 n) 1) 0=(!hb n 0)/\jC (jZ .u8 (Iy .u8 n) 2) 0=(!hb n 1)/\jC (jZ .u8 (Iy .u8 n) 4) 0=(!hb n 2)/\jC (jZ .u8 (Iy .u8 n) 8) 0=(!hb n 3)/\
 jC (jZ .u8 (Iy .u8 n) 16) 0=(!hb n 4)/\jC (jZ .u8 (Iy .u8 n) 32) 0=(!hb n 5))
instance (n : Int):Decidable (agL n):=by unfold agL;infer_instance
def agM (n:Int):Prop:=(jC (jZ .u8 n 12) 0=(hb n 2||hb n 3)/\jC (jZ .u8 n 3) 0=(hb n 0||hb n 1)/\dZ (jZ .u8 n 15) 0=(!((hb n 0||hb n 1)||(hb n 2||hb n 3)))/\jC (pV .u8 n 63) 0=decide (n > 63))
instance (n : Int):Decidable (agM n):=by unfold agM;infer_instance
def agN (n:Int):Prop:=(dZ (Ox .u8 (Ov .u8 n 1) 2) 1=hb n 0/\dZ (Ox .u8 (Ov .u8 n 2) 2) 1=hb n 1/\dZ (Ox .u8 (Ov .u8 n 4) 2) 1=hb n 2/\dZ (Ox .u8 (Ov .u8 n 8) 2) 1=hb n 3/\
 dZ (Ox .u8 (Ov .u8 n 16) 2) 1=hb n 4/\dZ (Ox .u8 (Ov .u8 n 32) 2) 1=hb n 5)
instance (n : Int):Decidable (agN n):=by unfold agN;infer_instance
def agO (n:Int):Prop:=(decide (n > 63)=false->(hb n 0||hb n 1)=false->iOr .u8 n 60=60)
instance (n : Int):Decidable (agO n):=by unfold agO;infer_instance
def agP (n:Int):Prop:=(decide (n > 63)=false->(hb n 2||hb n 3)=false->iOr .u8 n 51=51)
instance (n : Int):Decidable (agP n):=by unfold agP;infer_instance
def agQ (n:Int):Prop:=(decide (n > 63)=false->(hb n 0||hb n 1)=false->iOr .u8 (pV .u8 n 48) 60=60)
instance (n : Int):Decidable (agQ n):=by unfold agQ;infer_instance
def agR (n:Int):Prop:=(decide (n > 63)=false->(hb n 2||hb n 3)=false->iOr .u8 (pV .u8 n 48) 51=51)
instance (n : Int):Decidable (agR n):=by unfold agR;infer_instance
def agS (n:Int):Prop:=jC (jZ .u8 (pV .u8 n 48) 12) 0=(hb n 2||hb n 3)
instance (n : Int):Decidable (agS n):=by unfold agS;infer_instance
def agT (n:Int):Prop:=(n=51->(hb n 0=true/\hb n 1=true/\hb n 2=false/\hb n 3=false/\hb n 4=true/\hb n 5=true))
instance (n : Int):Decidable (agT n):=by unfold agT;infer_instance
def abH (n:Int):Prop:=(n=60->(hb n 0=false/\hb n 1=false/\hb n 2=true/\hb n 3=true/\hb n 4=true/\hb n 5=true))
instance (n : Int):Decidable (abH n):=by unfold abH;infer_instance
def abI (n:Int):Prop:=((hb n 2||hb n 3)=true->decide (n > 63)=false->(hb n 0||hb n 1)=false->jC n (iOr .u8 n 60)=!(dZ n 51||dZ n 60))
instance (n : Int):Decidable (abI n):=by unfold abI;infer_instance
def abJ (n:Int):Prop:=((hb n 2||hb n 3)=false->decide (n > 63)=false->jC n (iOr .u8 n 51)=!(dZ n 51||dZ n 60))
instance (n : Int):Decidable (abJ n):=by unfold abJ;infer_instance
end Go.Fw
end
section
namespace Go.Fw
end Go.Fw
end
section
namespace Go.Fw
end Go.Fw
end
section
namespace Go.Fw
end Go.Fw
end
section
namespace Go.Fw
end Go.Fw
end
section
namespace Go.Fw
end Go.Fw
end
section
namespace Go.Fw
set_option maxRecDepth 20000
def aq8 (n:Int):Prop:=(decide (n > 63)=false->(hb n 2||hb n 3)=false->jZ .u8 51 n=n)/\(decide (n > 63)=false->(hb n 0||hb n 1)=false->jZ .u8 60 n=n)
instance (n : Int):Decidable (aq8 n):=by unfold aq8;infer_instance
end Go.Fw
end
section
namespace Go.Fw
set_option maxRecDepth 20000
end Go.Fw
end
section
namespace Go.Fw
end Go.Fw
end
section
namespace Go.Fw
theorem aoi {α:Type}{f:α->List AV}{l:List α}{i:Nat}{x:α}:mZ (List.map f (l.set i x))=mZ (List.map f l):=by simp [mZ]
theorem LM {α β:Type}{f:α->β}{l:List α}:mZ (List.map f l)=l.length:=by simp [mZ]
def ag1 (x:Nat):Bool:=Yd x 0&&UH x 4652218415073722368
theorem arb {x:Nat}(h1:Yd x 0=true)(h2:UH x 4652218415073722368=true):ag1 x=true:=by simp [ag1,h1,h2]
theorem aoj {P:Program}{ρ:List AV}{x:Tm}{y:Nat}(h:ag1 y=true)(hx:(x.den ρ).F=y:=by rfl):Side.holds P ρ (.num .i64 x (.UJ x)):=by
 subst hx
 unfold ag1 at h
 rw [Bool.and_eq_true] at h
 exact awS h.1 h.2
theorem Qx {v:dL}(h:iZ v=true):0<=v.Ref:=by
 unfold iZ at h
 dsimp only at h
 cases hc:decide ((v.Ref:Int)<0) with
 |false=>have:=of_decide_eq_false hc;omega
 |true=>rw [hc] at h;simp at h
def hIn (h:dK)(v:dL):Prop:=dM v=true->0<=v.Ref/\v.Ref<h.Objects.length
theorem aiH {h:dK}{v:dL}(q:hIn h v)(i:dM v=true):v.Ref<mZ (List.map dS.enc h.Objects):=by rw [LM];exact (q i).2
theorem abM {h:dK}{v:dL}(q:eH h v=true):hIn h v:=by
 intro i
 unfold eH at q
 dsimp only at q
 cases hm:iZ v with
 |false=>rw [hm] at q;simp at q
 |true=>
  rw [hm,i] at q
  simp only [Bool.not_true,cond_false,Bool.false_or,Bool.and_eq_true,decide_eq_true_eq,iL] at q
  exact ⟨Qx hm,q.1⟩
theorem avb {h:dK}{v:dL}(q:eH h v=true):iZ v=true:=by
 unfold eH at q
 dsimp only at q
 cases hm:iZ v with
 |false=>rw [hm] at q;simp at q
 |true=>rfl
theorem aiI {h:dK}{v:dL}(q:eH h v=true):0<=v.Ref:=Qx (avb q)
theorem aiJ {h:dK}{v:dL}(q:eH h v=true)(i:dM v=true):v.Ref<mZ (List.map dS.enc h.Objects):=aiH (abM q) i
theorem abN {x0:dK}{x2:Int}{a b:dL}(h:ji (jJ x0 x2 ((2:Int).toNat+1) false 0 [a,b]).1=0):dM a=true/\eH x0 a=true/\a.Ref<x2:=by
 have e:(2:Int).toNat+1=2+1:=rfl
 rw [e] at h
 unfold jJ at h
 dsimp only at h
 have e1:(!decide ((0:Int)<2))=false:=by decide
 have e2:([a,b].getD (0:Int).toNat default)=a:=rfl
 rw [e1,e2] at h
 simp only [cond_false] at h
 cases hc:(!dM a||!eH x0 a||decide (a.Ref>=x2)) with
 |true=>rw [hc] at h;simp [ji] at h
 |false=>
  simp only [Bool.or_eq_false_iff,Bool.not_eq_false',decide_eq_false_iff_not] at hc
  exact ⟨hc.1.1,hc.1.2,by omega⟩
theorem aok {x0:dK}{x2:Int}{a b:dL}(h:ji (jJ x0 x2 ((2:Int).toNat+1) false 0 [a,b]).1=0):0<=a.Ref:=aiI (abN h).2.1
theorem aol {x0:dK}{x2:Int}{a b:dL}(h:ji (jJ x0 x2 ((2:Int).toNat+1) false 0 [a,b]).1=0):a.Ref<mZ (List.map dS.enc x0.Objects):=aiJ (abN h).2.1 (abN h).1
def Ce (h:dK)(i:Nat):Int:=(h.Objects.getD i default).eu.Kind
def Ci (h:dK)(i:Nat):Int:=(h.Objects.getD i default).eu.Ref
def JH (h:dK):Prop:=∀i,i<h.Objects.length->Ce h i≠1->0<=Ci h i/\Ci h i<h.Objects.length
theorem aiK {h:dK}{i:Nat}(hi:h.Objects.length<=i):Ci h i=0:=by
 unfold Ci;rw [List.getD_eq_getElem?_getD,List.getElem?_eq_none hi];rfl
theorem ad_ {h:dK}(hP:JH h){i:Nat}(hk:(h.Objects.getD i default).eu.Kind≠1):0<=(h.Objects.getD i default).eu.Ref:=by
 by_cases hi:i<h.Objects.length
 .exact (hP i hi hk).1
 .have:=aiK (h:=h) (i:=i) (by omega)
  unfold Ci at this;omega
theorem aiL {h:dK}(hP:JH h){u:Int}(hk:(h.Objects.getD u.toNat default).eu.Kind≠1)(h1:u<mZ (List.map dS.enc h.Objects))(h0:0<=u):(h.Objects.getD u.toNat default).eu.Ref<mZ (List.map dS.enc h.Objects):=by
 rw [LM] at h1 ⊢
 exact (hP u.toNat (by omega) hk).2
theorem Xz {m:List (Int×Bool)}(ha:∀e∈m,e.2=true)(k:Int):(n_ false k m).2=decide (k∈m.map (·.1)):=by
 induction m with
 |nil=>rfl
 |cons e r ih=>
  simp only [n_]
  by_cases h:k=e.1
  .simp [h,ha e (by simp)]
  .rw [if_neg h,ih fun x hx=>ha x (by simp [hx])]
   simp [h]
theorem aea {m:List (Int×Bool)}{k:Int}(h:k∉m.map (·.1)):og k true m=m++[(k,true)]:=by
 induction m with
 |nil=>rfl
 |cons e r ih=>
  simp only [List.map_cons,List.mem_cons,not_or] at h
  simp only [og,if_neg h.1,ih h.2,List.cons_append]
theorem aeb {x0:dK}{u4:List Bool}{S:List Int}(hS:∀u∈S,(x0.Objects.getD u.toNat default).eu.Kind≠1->(x0.Objects.getD u.toNat default).eu.Ref∈S){u5:Bool} :
  ∀(n:Nat) (u6:Int) (m:List (Int×Bool)),(m.map (·.1)).Nodup->(∀e∈m,e.2=true)->(∀k∈m.map (·.1),k∈S)->u6∈S->S.length<n+m.length->kZ x0 u4 n u5 u6 m=true
 |0,u6,m,hn,ha,hk,hu,hl=>by
  have:=List.Nodup.length_le_of_subset hn hk
  rw [List.length_map] at this
  omega
 |n+1,u6,m,hn,ha,hk,hu,hl=>by
  simp only [kZ]
  cases (!(!(u4.getD u6.toNat default))) with
  |true=>rfl
  |false=>
   simp only [cond_false]
   rw [Xz ha]
   cases hm:decide (u6∈m.map (·.1)) with
   |true=>rfl
   |false=>
    have hm:=of_decide_eq_false hm
    simp only [cond_false]
    cases hq:dZ (x0.Objects.getD u6.toNat default).eu.Kind 1 with
    |true=>rfl
    |false=>
     simp only [cond_false]
     rw [aea hm]
     refine aeb hS n _ _ ?_ ?_ ?_ (hS _ hu (tK.1 hq)) (by simp;omega)
     .rw [List.map_append,List.nodup_append]
      refine ⟨hn,by simp,fun a ha' b hb=>?_⟩
      simp at hb;subst hb
      intro e;subst e;exact hm ha'
     .intro e he
      rcases List.mem_append.1 he with he|he
      .exact ha e he
      .simp at he;subst he;rfl
     .intro k hk'
      rw [List.map_append] at hk'
      rcases List.mem_append.1 hk' with hk' | hk'
      .exact hk k hk'
      .simp at hk';subst hk';exact hu
theorem SI {x0:dK}(hP:JH x0){u4:List Bool}{u2:Bool}{u3:Int}:kZ x0 u4 (x0.Objects.length+3) u2 u3 []=true:=by
 refine aeb (S:=u3::0::(List.range x0.Objects.length).map Int.ofNat) (fun u hu hk=>?_) _ _ _ (by simp) (by simp) (by simp) (by simp) (by simp)
 by_cases hi:u.toNat<x0.Objects.length
 .obtain ⟨h1,h2⟩:=hP _ hi hk
  unfold Ci at h1 h2
  refine List.mem_cons_of_mem _ (List.mem_cons_of_mem _ (List.mem_map.2 ⟨(x0.Objects.getD u.toNat default).eu.Ref.toNat,List.mem_range.2 (by omega),?_⟩))
  simp only [Int.ofNat_eq_natCast];omega
 .have:=aiK (h:=x0) (i:=u.toNat) (by omega)
  unfold Ci at this
  rw [this];simp
theorem aec {x0:dK}(hP:JH x0){u4:List Bool}:∀{n:Nat} {u2:Bool} {u6:Int} {m:List (Int×Bool)},(∀e∈m,0<=e.1/\e.1<mZ (List.map dS.enc x0.Objects))->0<=u6->u6<mZ (List.map dS.enc x0.Objects)->∀e∈(iP x0 u4 n u2 u6 m).2.2.2.1,0<=e.1/\e.1<mZ (List.map dS.enc x0.Objects)
 |0,_,_,_,_,_,_=>fun e he=>by cases he
 |n+1,u2,u6,m,hm,h0,h1=>by
  have hput:∀{l:List (Int×Bool)},(∀e∈l,0<=e.1/\e.1<mZ (List.map dS.enc x0.Objects))->∀e∈og u6 true l,0<=e.1/\e.1<mZ (List.map dS.enc x0.Objects):=by
   intro l
   induction l with
   |nil=>intro _ e he;simp [og] at he;subst he;exact ⟨h0,h1⟩
   |cons a r ih=>
    intro hl e he
    simp only [og] at he
    by_cases hc:u6=a.1
    .rw [if_pos hc] at he
     rcases List.mem_cons.1 he with rfl|he
     .exact ⟨h0,h1⟩
     .exact hl e (by simp [he])
    .rw [if_neg hc] at he
     rcases List.mem_cons.1 he with rfl|he
     .exact hl e (by simp)
     .exact ih (fun x hx=>hl x (by simp [hx])) e he
  simp only [iP]
  cases (!(!(u4.getD u6.toNat default))) with
  |true=>exact hm
  |false=>
   simp only [cond_false]
   cases (n_ false u6 m).2 with
   |true=>intro e he;cases he
   |false=>
    simp only [cond_false]
    cases hq:dZ (x0.Objects.getD u6.toNat default).eu.Kind 1 with
    |true=>exact hput hm
    |false=>
     simp only [cond_false]
     exact aec hP (hput hm) (ad_ hP (tK.1 hq)) (aiL hP (tK.1 hq) h1 h0)
theorem aom {x0:dK}(hB:x0.Objects.length<=4294967296){u:Int}(h0:0<=u)(g:(!(decide ((u:Int)<(je dS.enc x0.Objects))))=false):0<=dY .i64 u 1:=by
 simp only [Bool.not_eq_false',decide_eq_true_eq,iL] at g
 rw [nG (by omega) (by omega)];omega
theorem zh {c b:Bool}(h:(bif c then false else b)=true):c=false/\b=true:=by cases c<;>simp_all
theorem Jj {x0:dK}{i:Int}(h:jv x0 i=true):(x0.Objects.getD i.toNat default).eu.Kind=1\/(dM (x0.Objects.getD i.toNat default).eu=true/\eH x0 (x0.Objects.getD i.toNat default).eu=true):=by
 unfold jv at h
 dsimp only at h
 generalize x0.Objects.getD i.toNat default=o at h ⊢
 cases h6:dZ o.Kind 6 with
 |true=>
  rw [h6] at h
  simp only [cond_true] at h
  unfold pK at h
  dsimp only at h
  obtain ⟨hc,-⟩:=zh h
  left
  simp only [Bool.or_eq_false_iff,Bool.not_eq_false'] at hc
  have:=hc.1.1.2
  unfold nR at this
  dsimp only at this
  rw [Bool.and_eq_true] at this
  exact kP.1 this.1
 |false=>
  rw [h6] at h
  simp only [cond_false] at h
  obtain ⟨hc,h⟩:=zh h
  obtain ⟨hd,h⟩:=zh h
  simp only [Bool.or_eq_false_iff,Bool.not_eq_false'] at hd
  by_cases hk:o.eu.Kind=1
  .exact .inl hk
  .right
   have h1:=hd.1.1
   rw [GL.2 hk] at h1
   simp only [Bool.true_and,Bool.not_eq_false'] at h1
   exact ⟨h1,hd.1.2⟩
open Classical in
theorem Qy {x0:dK}(hB:x0.Objects.length<=4294967296):∀(n j:Nat) (u1:Int),j<=x0.Objects.length->x0.Objects.length-j<n->qX x0 n u1 j=if ∀i,j<=i->i<x0.Objects.length->jv x0 (i:Nat)=true then (true,u1,default) else (false,default,9)
 |0,j,_,_,h=>by omega
 |n+1,j,u1,hj,hn=>by
  simp only [qX,iL]
  by_cases hlt:j<x0.Objects.length
  .have e1:(!decide ((j:Int)<(x0.Objects.length:Int)))=false:=by rw [decide_eq_true (by omega)];rfl
   rw [e1]
   simp only [cond_false]
   cases ho:jv x0 (j:Nat) with
   |false=>
    rw [if_neg (fun hh=>by have:=hh j (Nat.le_refl _) hlt;rw [ho] at this;cases this)]
    rfl
   |true=>
    simp only [Bool.not_true,cond_false]
    rw [nG (by omega) (by omega)]
    have e2:((j:Int)+1)=((j+1:Nat):Int):=by omega
    rw [e2,Qy hB n (j+1) u1 (by omega) (by omega)]
    have:(∀i,j+1<=i->i<x0.Objects.length->jv x0 (i:Nat)=true)↔(∀i,j<=i->i<x0.Objects.length->jv x0 (i:Nat)=true):=by
     constructor
     .intro hh i h1 h2
      by_cases e:i=j
      .subst e;exact ho
      .exact hh i (by omega) h2
     .intro hh i h1 h2;exact hh i (by omega) h2
    simp only [this]
  .have e1:(!decide ((j:Int)<(x0.Objects.length:Int)))=true:=by rw [decide_eq_false (by omega)];rfl
   rw [e1,if_pos (fun i h1 h2=>by omega)]
   rfl
theorem LP {x0:dK}(h:decide ((je dS.enc x0.Objects:Int) > 4096)=false):x0.Objects.length<=4294967296:=by
 have:=of_decide_eq_false h
 rw [iL] at this;omega
theorem Qz {x0:dK}(h:∀i,i<x0.Objects.length->jv x0 (i:Nat)=true):JH x0:=by
 intro i hi hk
 rcases Jj (h i hi) with h1|⟨h1,h2⟩
 .exact absurd h1 hk
 .have:=abM h2 h1
  exact this
theorem ard {x0:dK}(hB:x0.Objects.length<=4294967296)(h:ji (qX x0 (x0.Objects.length+1) 0 0).1=0):JH x0:=by
 have e:=Qy hB (x0.Objects.length+1) 0 0 (Nat.zero_le _) (by omega)
 have e0:((0:Nat):Int)=0:=rfl
 rw [e0] at e
 rw [e] at h
 split at h<;>rename_i hc
 .exact Qz fun i hi=>hc i (Nat.zero_le _) hi
 .simp [ji] at h
structure HOk (h:dK):Prop where
 len:h.Objects.length<=4096
 obj:∀i,i<h.Objects.length->jv h (i:Nat)=true
 lps:qW h=false
theorem Hl {h:dK}:kR h=0↔HOk h:=by
 unfold kR
 dsimp only
 rw [iL]
 by_cases hl:h.Objects.length<=4096
 .have e1:decide ((h.Objects.length:Int) > 4096)=false:=decide_eq_false (by omega)
  have e:=Qy (x0:=h) (by omega) (h.Objects.length+1) 0 0 (Nat.zero_le _) (by omega)
  have e0:((0:Nat):Int)=0:=rfl
  rw [e0] at e
  rw [e1,e]
  simp only [cond_false]
  by_cases hc:∀i,0<=i->i<h.Objects.length->jv h (i:Nat)=true
  .rw [if_pos hc]
   have e2:(!dZ (ji true) 0)=false:=rfl
   simp only [e2,cond_false]
   cases hL:qW h with
   |true=>exact ⟨fun h=>absurd h (by decide),fun h=>by have:=h.lps;rw [hL] at this;cases this⟩
   |false=>exact ⟨fun _=>⟨hl,fun i hi=>hc i (Nat.zero_le _) hi,hL⟩,fun _=>rfl⟩
  .rw [if_neg hc]
   have e2:(!dZ (ji false) 0)=true:=rfl
   simp only [e2,cond_true]
   exact ⟨fun h=>absurd h (by decide),fun h=>absurd (fun i _ hi=>h.obj i hi) hc⟩
 .have e1:decide ((h.Objects.length:Int) > 4096)=true:=decide_eq_true (by omega)
  rw [e1]
  exact ⟨fun h=>absurd h (by simp),fun h=>absurd h.len hl⟩
theorem aon {n i:Nat}:(List.replicate n false).getD i default=false:=by
 rw [List.getD_eq_getElem?_getD,List.getElem?_replicate]
 split<;>rfl
end Go.Fw
end
section
namespace Go.Fw
theorem aHY {α:Type}[Inhabited α]{l:List α}{i:Nat}:l.set i (l.getD i default)=l:=by
 apply List.ext_getElem?
 intro j
 rw [List.getElem?_set]
 by_cases h:i=j
 .subst h
  rw [if_pos rfl]
  by_cases h2:i<l.length
  .rw [if_pos h2,List.getD_eq_getElem?_getD,List.getElem?_eq_getElem h2];rfl
  .rw [if_neg h2,List.getElem?_eq_none (by omega)]
 .rw [if_neg h]
theorem aAL {x0:dK}(hB:x0.Objects.length<=4294967296):∀(n j:Nat) (l:List dS),j<=x0.Objects.length->x0.Objects.length-j<n->ab1 x0 n j l=l
 |0,j,l,_,h=>by omega
 |n+1,j,l,hj,hn=>by
  simp only [ab1,iL,Qm]
  by_cases hlt:j<x0.Objects.length
  .have e1:(!decide ((j:Int)<(x0.Objects.length:Int)))=false:=by rw [decide_eq_true (by omega)];rfl
   rw [e1,nG (by omega) (by omega)]
   simp only [cond_false]
   have e2:((j:Int)+1)=((j+1:Nat):Int):=by omega
   rw [e2,aHY,aAL hB n (j+1) l (by omega) (by omega)]
  .have e1:(!decide ((j:Int)<(x0.Objects.length:Int)))=true:=by rw [decide_eq_false (by omega)];rfl
   rw [e1];rfl
theorem aAY {x0:dK}(hB:x0.Objects.length<=4294967296){l:List dS}:ab1 x0 (x0.Objects.length+1) 0 l=l:=aAL hB _ 0 l (Nat.zero_le _) (by omega)
theorem arV {x0:dK}:∀(n:Nat) (j:Int) (l:List dS),(ab1 x0 n j l).length<=l.length
 |0,j,l=>Nat.zero_le _
 |n+1,j,l=>by
  simp only [ab1]
  cases (!(decide ((j:Int)<(je dS.enc x0.Objects)))) with
  |true=>exact Nat.le_refl _
  |false=>exact Nat.le_trans (arV n _ _) (by simp)
theorem atH (x0:dK):alf x0=ak_ x0:=by
 unfold alf ak_
 dsimp only
 rw [iL,Int.toNat_natCast]
 generalize hr:ab1 x0 (x0.Objects.length+1) 0 _=r
 have:=arV (x0:=x0) (x0.Objects.length+1) 0 (List.take x0.Objects.length x0.Objects++List.drop (min x0.Objects.length x0.Objects.length) (List.replicate x0.Objects.length (dS.mk 0 (dL.mk 0 0 [] 0) false [] (dL.mk 0 0 [] 0) (dL.mk 0 0 [] 0) [] false false)))
 rw [hr] at this
 rw [List.drop_zero,Nat.sub_zero,List.take_of_length_le]
 simpa using this
theorem ayl {x0:dK}(hb:x0.Objects.length<=4294967296):ak_ x0=x0:=by
 unfold ak_
 dsimp only
 rw [iL,Int.toNat_natCast,aAY hb]
 cases x0
 simp
end Go.Fw
end
section
namespace Go.Fw
def Yr (h:dK)(o:dS)(n:Int):Bool:=
 bif (dZ o.Kind 6) then pK h o n
 else bif ((((!(nR o.Target 0))&&(!(((((dZ o.Kind 5)&&dM o.Target)&&(decide ((o.Target.Ref:Int)<n)))&&eH h o.Target)&&(dZ (h.Objects.getD (o.Target.Ref:Int).toNat default).Kind 6))))||(!(nR o.Handler 0)))||((sNe o.Text [])&&(jC o.Kind 3))) then false
 else bif ((((jC o.eu.Kind 1)&&(!(dM o.eu)))||(!(eH h o.eu)))||(jC (jF o.Props) 0)) then false
 else bif (!(dZ (ji (ig h o (o.Props.length+1) false 0).1) 0)) then (ig h o (o.Props.length+1) false 0).2.2
 else bif (dZ o.Kind 1) then ((!o.Calls)&&(!o.Makes))
 else bif (dZ o.Kind 2) then (((!o.Calls)&&(!o.Makes))&&xE o.Props)
 else bif (dZ o.Kind 3) then (((!o.Calls)&&(!o.Makes))&&xG o.Props o.Text)
 else bif (dZ o.Kind 4) then (o.Calls&&o.Makes)
 else bif (dZ o.Kind 5) then o.Calls
 else false
theorem QB {h:dK}{n:Int}:jv h n=Yr h (h.Objects.getD n.toNat default) n:=rfl
theorem BN {α:Type}[Inhabited α]{l:List α}{i j:Nat}{x:α}(hi:i<l.length):(l.set i x).getD j default=if j=i then x else l.getD j default:=by
 rw [List.getD_eq_getElem?_getD,List.getElem?_set]
 by_cases h:i=j
 .subst h;simp [hi]
 .rw [if_neg h,if_neg (fun e=>h e.symm),List.getD_eq_getElem?_getD]
theorem Jk {l:List dJ}(h:jF l=0):l.length<=1024:=by
 by_cases hl:l.length<=1024
 .exact hl
 .unfold jF at h
  dsimp only at h
  rw [iL,decide_eq_true (by omega)] at h
  cases h
open Classical in
theorem ag3 {h:dK}{o:dS}(hB:o.Props.length<=4294967296):∀(n j:Nat) (a:Bool),j<=o.Props.length->o.Props.length-j<n->ig h o n a j=if ∀p∈o.Props.drop j,eH h p.dV.Value=true/\eH h p.dV.Get=true/\eH h p.dV.Set=true then (true,a,default) else (false,default,false)
 |0,j,_,_,hh=>by omega
 |n+1,j,a,hj,hn=>by
  simp only [ig,iL,Int.toNat_natCast]
  by_cases hlt:j<o.Props.length
  .have e1:(!decide ((j:Int)<(o.Props.length:Int)))=false:=by rw [decide_eq_true (by omega)];rfl
   have e4:o.Props.drop j=o.Props.getD j default::o.Props.drop (j+1):=by
    rw [List.drop_eq_getElem_cons hlt,List.getD_eq_getElem?_getD,List.getElem?_eq_getElem hlt];rfl
   rw [e1,nG (by omega) (by omega)]
   have e2:((j:Int)+1)=((j+1:Nat):Int):=by omega
   rw [e2]
   simp only [cond_false]
   rw [ag3 hB n (j+1) a (by omega) (by omega),e4]
   simp only [List.mem_cons,forall_eq_or_imp]
   generalize o.Props.getD j default=p
   cases eH h p.dV.Value<;>cases eH h p.dV.Get<;>cases eH h p.dV.Set<;>simp
  .have e1:(!decide ((j:Int)<(o.Props.length:Int)))=true:=by rw [decide_eq_false (by omega)];rfl
   rw [e1,if_pos (by rw [List.drop_eq_nil_of_le (by omega)];simp)]
   rfl
end Go.Fw
end
section
namespace Go.Fw
end Go.Fw
end
section
namespace Go.Fw
theorem aCA {h:dK}{n:Int}(hC:kR h=0)(h0:0<=n)(h1:n.toNat<h.Objects.length):Bo h n=(h.Objects.getD n.toNat default,0):=by
 unfold Bo
 dsimp only
 rw [wF.2 hC,iL]
 have e1:(decide (n<0)||decide (n>=(h.Objects.length:Int)))=false:=by rw [Bool.or_eq_false_iff];exact ⟨decide_eq_false (by omega),decide_eq_false (by omega)⟩
 rw [e1];rfl
end Go.Fw
end
section
namespace Go.Fw
theorem aai (v:dL):yc v v=true:=by
 unfold yc
 have e:Ns v.Num v.Num=!fEq v.Num v.Num:=rfl
 have s:zW v.Str v.Str=true:=by simp [zW]
 have i:∀x:Int,dZ x x=true:=fun x=>kP.2 rfl
 rw [e,s,i,i]
 cases hf:fEq v.Num v.Num with
 |true=>simp [hf]
 |false=>simp;decide +kernel
theorem asB (b:Bool):Nr b b=true:=by simp [Nr]
theorem asC (s:List UInt8):zW s s=true:=by simp [zW]
theorem asD (x:Int):dZ x x=true:=kP.2 rfl
theorem aov {l:List dJ}(hB:l.length<=4294967296):∀(n j:Nat) (u:Bool),j<=l.length->l.length-j<n->lV l l n u j=(true,u,default)
 |0,j,_,_,h=>by omega
 |n+1,j,u,hj,hn=>by
  simp only [lV,iL,aai,asB,asC,asD,Bool.and_self,Bool.not_true,cond_false]
  by_cases hlt:j<l.length
  .have e1:(!decide ((j:Int)<(l.length:Int)))=false:=by rw [decide_eq_true (by omega)];rfl
   rw [e1,nG (by omega) (by omega)]
   have e2:((j:Int)+1)=((j+1:Nat):Int):=by omega
   rw [e2]
   exact aov hB n (j+1) u (by omega) (by omega)
  .have e1:(!decide ((j:Int)<(l.length:Int)))=true:=by rw [decide_eq_false (by omega)];rfl
   rw [e1];rfl
theorem aow {l:List dJ}(hB:l.length<=4294967296):rH l l=true:=by
 unfold rH
 dsimp only
 have:=aov hB (l.length+1) 0 false (Nat.zero_le _) (by omega)
 have e0:((0:Nat):Int)=0:=rfl
 rw [e0] at this
 rw [this,wF.2 rfl];rfl
theorem aox {l:List dS}(hB:l.length<=4294967296)(hp:∀o∈l,o.Props.length<=4294967296):∀(n j:Nat) (u:Bool),j<=l.length->l.length-j<n->aaF l l n u j=(true,u,default)
 |0,j,_,_,h=>by omega
 |n+1,j,u,hj,hn=>by
  simp only [aaF,iL,aai,asB,asC,asD,Bool.and_self,Bool.not_true,cond_false,Bool.true_and,Int.toNat_natCast]
  by_cases hlt:j<l.length
  .have e1:(!decide ((j:Int)<(l.length:Int)))=false:=by rw [decide_eq_true (by omega)];rfl
   have hm:l.getD j default∈l:=by rw [List.getD_eq_getElem?_getD,List.getElem?_eq_getElem hlt];exact List.getElem_mem hlt
   rw [e1,nG (by omega) (by omega),aow (hp _ hm)]
   have e2:((j:Int)+1)=((j+1:Nat):Int):=by omega
   rw [e2]
   exact aox hB hp n (j+1) u (by omega) (by omega)
  .have e1:(!decide ((j:Int)<(l.length:Int)))=true:=by rw [decide_eq_false (by omega)];rfl
   rw [e1];rfl
theorem ag5 {h:dK}(hB:h.Objects.length<=4294967296)(hp:∀o∈h.Objects,o.Props.length<=4294967296):SA h h=true:=by
 unfold SA vW
 dsimp only
 have:=aox hB hp (h.Objects.length+1) 0 false (Nat.zero_le _) (by omega)
 have e0:((0:Nat):Int)=0:=rfl
 rw [e0] at this
 rw [this,wF.2 rfl];rfl
theorem ag6 {h:dK}{o:dS}{n:Int}(q:Yr h o n=true):o.Props.length<=1024:=by
 unfold Yr at q
 cases h6:dZ o.Kind 6 with
 |true=>
  rw [h6] at q
  simp only [cond_true] at q
  unfold pK at q
  dsimp only at q
  obtain ⟨hc,-⟩:=zh q
  rw [iL] at hc
  simp only [Bool.or_eq_false_iff,decide_eq_false_iff_not] at hc
  have:=hc.1.1.1.1
  omega
 |false=>
  rw [h6] at q
  simp only [cond_false] at q
  obtain ⟨-,q⟩:=zh q
  obtain ⟨q2,q⟩:=zh q
  simp only [Bool.or_eq_false_iff,Bool.not_eq_false'] at q2
  exact Jk (wF.1 q2.2)
theorem HOk.props {h:dK}(k:HOk h):∀o∈h.Objects,o.Props.length<=1024:=by
 intro o ho
 obtain ⟨i,hi,rfl⟩:=List.getElem_of_mem ho
 have:=k.obj i hi
 rw [QB,Int.toNat_natCast,List.getD_eq_getElem?_getD,List.getElem?_eq_getElem hi] at this
 exact ag6 this
theorem HOk.same {h:dK}(k:HOk h):SA h h=true:=ag5 (by have:=k.len;omega) fun o ho=>by have:=k.props o ho;omega
end Go.Fw
end
section
namespace Go.Fw
theorem aD8 {α:Type}[Inhabited α]{l:List α}{i:Nat}(hi:i<l.length):l.getD i default∈l:=by
 rw [List.getD_eq_getElem?_getD,List.getElem?_eq_getElem hi];exact List.getElem_mem hi
end Go.Fw
end
section
namespace Go.Fw
end Go.Fw
end
section
namespace Go.Fw
structure GBx where
 v:List Int
 deriving DecidableEq,Inhabited
def GBx.enc (v:GBx):List AV:=[.sl (List.map kY v.v) false]
def GBx.av (v:GBx):AV:=.agg v.enc
theorem GBx.iW (v:GBx):Go.Fw.iW v.enc=true:=fO (fzs aqe _) (fzn)
theorem GBx.fz (v:GBx):v.av.fz=true:=GBx.iW v
theorem GBx.len (v:GBx):v.enc.length=1:=rfl
end Go.Fw
end
section
namespace Go.Fw
def abq (r:dK×Int×Int):AV:=.fD [(dK.av r.1),(.p (.int .i64 r.2.1)),(.p (.int .i64 r.2.2))]
def Y1 (r:List Int×Int):AV:=.fD [(.sl (List.map kY r.1) false),(.p (.int .i64 r.2))]
def aA7 (r:dK×Int):AV:=.fD [(dK.av r.1),(.p (.int .i64 r.2))]
def aiQ : dL:=
 (dL.mk 1 0 [] 0)
def ab3 : dK:=
 let v0:dL:=aiQ
 (dK.mk [(dS.mk 1 v0 true [(dJ.mk (dI.mk [97] 0) (dN.mk 51 (dL.mk 3 4619567317775286272 [] 0) (dL.mk 0 0 [] 0) (dL.mk 0 0 [] 0) true true true))] (dL.mk 0 0 [] 0) (dL.mk 0 0 [] 0) [] false false),(dS.mk 1 (dL.mk 6 0 [] 0) true [] (dL.mk 0 0 [] 0) (dL.mk 0 0 [] 0) [] false false)])
def acd (x0:Int)(x1:Int):dS:=
 let v2:dL:=aiQ
 (dS.mk 6 v2 false [] (dL.mk 6 0 [] x0) (dL.mk 6 0 [] x1) [] false false)
def apc (x0:dK)(x1:dS):dK×Int×Int:=
 let v2:Int:=kR x0
 let v3:dK:=ak_ x0
 let v4:dS:=Qm x1
 let v5:List dS:=v3.Objects++[v4]
 let v6:Int:=kR (dK.mk v5)
 bif (jC v2 0) then ((dK.mk []),0,v2)
 else bif (dZ (je dS.enc x0.Objects) 4096) then ((dK.mk []),0,4)
 else bif (jC v6 0) then ((dK.mk []),0,v6)
 else ((dK.mk v5),(je dS.enc x0.Objects),0)
def aiY : Bool:=
 let v0:dK:=ab3
 let v1:dS:=acd 0 1
 let v2:dK×Int×Int:=apc v0 v1
 let v3:dS:=v2.1.Objects.getD (2:Int).toNat default
 let v4:dK:=ab3
 let v5:Int:=kR v4
 (((((dZ v2.2.2 0)&&(dZ v2.2.1 2))&&(dZ (je dS.enc v2.1.Objects) 3))&&(dZ v3.Kind 6))&&(dZ v5 0))
def ae_ (x0:dK):Nat->Bool->Int->(Bool×Bool×Bool)
 |0,_,_=>default
 |n+1,u1,u2=>
  let v3:dS:=x0.Objects.getD (u2:Int).toNat default
  bif (!(decide ((u2:Int)<(je dS.enc x0.Objects)))) then (true,u1,default)
  else bif (decide (((je dJ.enc v3.Props):Int) > 100)) then (false,default,true)
  else ae_ x0 n u1 (dY .i64 u2 1)
def ai0 (x0:dK):Bool:=
 let r1:Bool×Bool×Bool:=ae_ x0 (x0.Objects.length+1) false 0
 bif (((decide (((je dS.enc x0.Objects):Int) > 60))&&(decide (((je dS.enc x0.Objects):Int)<=4096)))||(decide (((je dS.enc x0.Objects):Int) > 5000))) then true
 else bif (!(dZ (ji r1.1) 0)) then r1.2.2
 else false
def dF (x0:dK)(x1:List Int):Nat->(List Int)->Int->Int->(Bool×List Int×Int×List Int×Int)
 |0,_,_,_=>default
 |n+1,u4,u5,u6=>
  let v7:Int:=x1.getD (u6:Int).toNat default
  bif (!(decide ((u6:Int)<(je kY x1)))) then (true,u4,u5,default,default)
  else bif ((decide ((v7:Int)<0))||(decide ((v7:Int)>=(je dS.enc x0.Objects)))) then (false,default,default,[],2)
  else dF x0 x1 n u4 u5 (dY .i64 u6 1)
def Y2 (x1:List Int):Nat->Int->(List Bool)->GBx->(List Bool×GBx)
 |0,_,_,_=>default
 |n+1,u9,u10,u11=>
  let v12:Int:=x1.getD (u9:Int).toNat default
  let v13:Bool:=u10.getD (v12:Int).toNat default
  let v14:List Bool:=u10.set (v12:Int).toNat true
  let v15:List Int:=u11.v++[v12]
  bif (!(decide ((u9:Int)<(je kY x1)))) then (u10,u11)
  else bif (!v13) then Y2 x1 n (dY .i64 u9 1) v14 (GBx.mk v15)
  else Y2 x1 n (dY .i64 u9 1) u10 u11
def lC (v14:dS):Nat->(List dL)->Int->GBx->(List dL×GBx)
 |0,_,_,_=>default
 |n+1,u15,u16,u17=>
  let v18:dJ:=v14.Props.getD (u16:Int).toNat default
  let v19:List dL:=u15++[v18.dV.Value,v18.dV.Get,v18.dV.Set]
  bif (!(decide ((u16:Int)<(je dJ.enc v14.Props)))) then (u15,u17)
  else lC v14 n v19 (dY .i64 u16 1) u17
def lX (r15:List dL×GBx):Nat->Int->(List Bool)->GBx->(List Bool×GBx)
 |0,_,_,_=>default
 |n+1,u17,u18,u19=>
  let v20:dL:=r15.1.getD (u17:Int).toNat default
  let v21:Bool:=dM v20
  let v22:Bool:=u18.getD (v20.Ref:Int).toNat default
  let v23:List Bool:=u18.set (v20.Ref:Int).toNat true
  let v24:List Int:=u19.v++[v20.Ref]
  bif (!(decide ((u17:Int)<(je dL.enc r15.1)))) then (u18,u19)
  else bif (v21&&(!v22)) then lX r15 n (dY .i64 u17 1) v23 (GBx.mk v24)
  else lX r15 n (dY .i64 u17 1) u18 u19
def aaG (x0:dK):Nat->(List Bool)->GBx->(List Bool×GBx)
 |0,_,_=>default
 |n+1,u11,u12=>
  let v13:Int:=u12.v.getD (0:Int).toNat default
  let v14:dS:=x0.Objects.getD (v13:Int).toNat default
  let r15:List dL×GBx:=lC v14 (v14.Props.length+1) [v14.eu,v14.Target,v14.Handler] 0 (GBx.mk (u12.v.drop 1))
  let r17:List Bool×GBx:=lX r15 (r15.1.length+1) 0 u11 r15.2
  bif (!(decide (((je kY u12.v):Int) > 0))) then (u11,u12)
  else aaG x0 n r17.1 r17.2
def abZ (x0:dK):Nat->(List Bool)->GBx->Bool
 |0,_,_=>false
 |n+1,u11,u12=>
  let v13:Int:=u12.v.getD (0:Int).toNat default
  let v14:dS:=x0.Objects.getD (v13:Int).toNat default
  let r15:List dL×GBx:=lC v14 (v14.Props.length+1) [v14.eu,v14.Target,v14.Handler] 0 (GBx.mk (u12.v.drop 1))
  let r17:List Bool×GBx:=lX r15 (r15.1.length+1) 0 u11 r15.2
  bif (!(decide (((je kY u12.v):Int) > 0))) then true
  else abZ x0 n r17.1 r17.2
def abY (x0:dK)(r11:List Bool×GBx):Nat->(List Int)->Int->(List Int)
 |0,_,_=>default
 |n+1,u13,u14=>
  let v15:Bool:=r11.1.getD (u14:Int).toNat default
  let v16:List Int:=u13++[u14]
  bif (!(decide ((u14:Int)<(je dS.enc x0.Objects)))) then u13
  else bif v15 then abY x0 r11 n v16 (dY .i64 u14 1)
  else abY x0 r11 n u13 (dY .i64 u14 1)
def lM (x0:dK)(x1:List Int):List Int×Int:=
 let v2:Int:=kR x0
 let v3:List Bool:=List.replicate ((je dS.enc x0.Objects):Int).toNat false
 let r4:Bool×List Int×Int×List Int×Int:=dF x0 x1 (x1.length+1) [] 0 0
 let r9:List Bool×GBx:=Y2 x1 (x1.length+1) 0 v3 (GBx.mk [])
 let r11:List Bool×GBx:=aaG x0 (x0.Objects.length+1) r9.1 r9.2
 let r13:List Int:=abY x0 r11 (x0.Objects.length+1) [] 0
 bif (jC v2 0) then ([],v2)
 else bif (decide (((je kY x1):Int) > 4096)) then ([],4)
 else bif (!(dZ (ji r4.1) 0)) then (r4.2.2.2.1,r4.2.2.2.2)
 else (r13,0)
def awz (x0:dK)(x1:Int)(x2:dS):dK×Int:=
 let v3:dS×Int:=Bo x0 x1
 let v4:dK:=ak_ x0
 let v5:dS:=Qm x2
 let v6:List dS:=v4.Objects.set (x1:Int).toNat v5
 let v7:List dS:=(v6.drop (0)).take (((je dS.enc v4.Objects):Int).toNat-0)
 let v8:Int:=kR (dK.mk v7)
 let v9:List dS:=(v6.drop (0)).take (((je dS.enc v4.Objects):Int).toNat-0)
 bif (jC v3.2 0) then ((dK.mk []),v3.2)
 else bif (jC v8 0) then ((dK.mk []),v8)
 else ((dK.mk v9),0)
def av3 (x1:Int)(v2:List Int×Int)(v3:List Int×Int):Nat->Bool->Bool->Int->(Bool×Bool×Bool×Bool)
 |0,_,_,_=>default
 |n+1,u4,u5,u6=>
  let v7:Int:=v3.1.getD (u6:Int).toNat default
  let v8:Int:=v2.1.getD (u6:Int).toNat default
  let v9:Int:=v2.1.getD (u6:Int).toNat default
  let v10:Int:=v2.1.getD ((iq .i64 u6 1):Int).toNat default
  let v11:Int:=v2.1.getD (u6:Int).toNat default
  bif (!(decide ((u6:Int)<(je kY v2.1)))) then (true,u4,u5,default)
  else bif ((jC v7 v8)||((decide ((u6:Int) > 0))&&(decide ((v9:Int)<=v10)))) then (false,default,default,false)
  else av3 x1 v2 v3 n u4 (u5||(dZ v11 x1)) (dY .i64 u6 1)
def awI (x0:dK)(x1:Int):Bool:=
 let v2:List Int×Int:=lM x0 [x1]
 let v3:List Int×Int:=lM x0 v2.1
 let r4:Bool×Bool×Bool×Bool:=av3 x1 v2 v3 (v2.1.length+1) false false 0
 bif (jC v2.2 0) then ((decide ((x1:Int)<0))||(decide ((x1:Int)>=(je dS.enc x0.Objects))))
 else bif ((jC v3.2 0)||(jC (je kY v3.1) (je kY v2.1))) then false
 else bif (!(dZ (ji r4.1) 0)) then r4.2.2.2
 else r4.2.2.1
def av7 (x0:dK)(x1:dS)(x2:Int):Bool:=
 let v3:Bool:=aiY
 let v4:Bool:=ai0 x0
 let v5:Int:=kR x0
 let v6:dS×Int:=Bo x0 x2
 let v7:dK:=ak_ x0
 let v8:Bool:=SA v7 x0
 let v9:Int:=kR v7
 let v10:dK×Int×Int:=apc x0 x1
 let v11:Int:=kR v10.1
 let v12:List dS:=(v10.1.Objects.drop ((0:Int).toNat)).take ((v10.2.1:Int).toNat-(0:Int).toNat)
 let v13:Bool:=SA (dK.mk v12) x0
 let v14:List dS:=(v10.1.Objects.drop ((v10.2.1:Int).toNat)).take (((je dS.enc v10.1.Objects):Int).toNat-(v10.2.1:Int).toNat)
 let v15:Bool:=SA (dK.mk v14) (dK.mk [x1])
 let v16:dK×Int:=awz x0 x2 x1
 let v17:dS×Int:=Bo v16.1 x2
 let v18:dS:=v7.Objects.getD (x2:Int).toNat default
 let v19:dK×Int:=awz v16.1 x2 v18
 let v20:Bool:=SA (dK.mk [v17.1]) (dK.mk [x1])
 let v21:Bool:=SA v19.1 x0
 let v22:Bool:=awI x0 x2
 bif (!v3) then false
 else bif (v4||(decide (((je dJ.enc x1.Props):Int) > 100))) then v3
 else bif (jC v5 0) then (dZ v6.2 9)
 else bif ((!v8)||(jC v9 0)) then false
 else bif ((dZ v10.2.2 0)&&((((jC v10.2.1 (je dS.enc x0.Objects))||(jC (je dS.enc v10.1.Objects) (dY .i64 v10.2.1 1)))||(jC v11 0))||(!v13))) then false
 else bif ((dZ v10.2.2 0)&&(!v15)) then false
 else bif ((dZ v16.2 0)&&(jC v17.2 0)) then false
 else bif ((dZ v16.2 0)&&(((!v20)||(jC (je dS.enc v16.1.Objects) (je dS.enc x0.Objects)))||((dZ v19.2 0)&&(!v21)))) then false
 else v22
end Go.Fw
end
section
namespace Go.Fw
def Lo.axo : Lo->Pc
 | .mk pc _ _ _ _ _ _ _ _=>pc
theorem azt {P:Program}{T:Dc}{ρ ρ0 vs:List AV}{hs:List LH}{ls:List Lo}{n m0:Nat}{us:List AV}{pc:Pc}{base m:Nat}{entry:List SV}{outs:List (Tm×Nat×List SV)}{sd:List (Pc×Side)}{aw:List Lo}{bn:List Tm}{L:Lo}
  (h:Pc.holds ρ L.axo->nU P T L (hdH hs) ρ0 n vs (0,us)) (k:U2 P T ls (tlH hs) ρ) (hL:L=.mk pc base m entry outs sd aw [m0] bn:=by rfl) (hb:Nat.ble base ρ.length=true:=by rfl) (h0:ρ.take base=ρ0:=by rfl) (hv:dU ρ entry=vs:=by rfl)
  (hn:ftV ρ (hdH hs).ft<(n:Int):=by first|exact fuR|exact fuN) (hu:(ρ.drop base).take us.length=us:=by rfl) (hn0:Nat.blt 0 n=true:=by rfl):U2 P T (L::ls) hs ρ:=by
 subst hL;subst h0;subst hv
 refine ⟨?_,k⟩
 simp only [Lo.wk]
 rw [Nat.blt_eq] at hn0
 exact fun p _=>⟨Nat.le_of_ble_eq_true hb,n,0,us,⟨hn0,hn⟩,h p,fun h=>by simp at h,ZM hu⟩
end Go.Fw
end
section
namespace Go.Fw
theorem alg {v:dL}{k:Int}(h:nR v k=true)(hk:k<6){x:dK}:hIn x v:=by
 intro hi
 unfold nR at h
 dsimp only at h
 rw [Bool.and_eq_true] at h
 have:=kP.1 h.1
 unfold dM at hi
 simp only [Bool.and_eq_true,decide_eq_true_eq] at hi
 omega
structure aBs (h:dK)(o:dS):Prop where
 pr:hIn h o.eu
 tg:hIn h o.Target
 hd:hIn h o.Handler
 ps:∀p∈o.Props,hIn h p.dV.Value/\hIn h p.dV.Get/\hIn h p.dV.Set
 pl:o.Props.length<=1024
theorem aB0 {h:dK}{n:Int}{a b:dL}(q:(jJ h n ((2:Int).toNat+1) false 0 [a,b]).1=true):eH h a=true/\eH h b=true:=by
 have q:(jJ h n 3 false 0 [a,b]).1=true:=q
 simp only [jJ] at q
 have a0:dY .i64 0 1=1:=rfl
 have a1:dY .i64 1 1=2:=rfl
 rw [a0,a1] at q
 have d0:(!decide ((0:Int)<2))=false:=rfl
 have d1:(!decide ((1:Int)<2))=false:=rfl
 rw [d0,d1] at q
 simp only [cond_false] at q
 have g0:[a,b].getD (0:Int).toNat default=a:=rfl
 have g1:[a,b].getD (1:Int).toNat default=b:=rfl
 rw [g0,g1] at q
 cases ha:(((!dM a)||(!eH h a))||(decide ((a.Ref:Int)>=n))) with
 |true=>rw [ha] at q;cases q
 |false=>
  rw [ha] at q
  simp only [cond_false] at q
  cases hb:(((!dM b)||(!eH h b))||(decide ((b.Ref:Int)>=n))) with
  |true=>rw [hb] at q;cases q
  |false=>
   simp only [Bool.or_eq_false_iff,Bool.not_eq_false'] at ha hb
   exact ⟨ha.1.2,hb.1.2⟩
theorem aqM {h:dK}(hC:kR h=0){i:Nat}(hi:i<h.Objects.length):aBs h (h.Objects.getD i default):=by
 have k:=Hl.1 hC
 have q:=k.obj i hi
 rw [QB,Int.toNat_natCast] at q
 have hlen:(h.Objects.getD i default).Props.length<=1024:=k.props _ (aD8 hi)
 generalize h.Objects.getD i default=o at q hlen
 unfold Yr at q
 cases h6:dZ o.Kind 6 with
 |true=>
  rw [h6] at q
  simp only [cond_true] at q
  unfold pK at q
  dsimp only at q
  obtain ⟨hc,q⟩:=zh q
  simp only [Bool.or_eq_false_iff,Bool.not_eq_false'] at hc
  have hp:=alg (x:=h) hc.1.1.2 (by omega)
  have he:=of_decide_eq_false hc.1.1.1.1
  rw [iL] at he
  have he:o.Props=[]:=List.length_eq_zero_iff.1 (by omega)
  cases hn:(nR o.Target 1&&nR o.Handler 1) with
  |true=>
   rw [Bool.and_eq_true] at hn
   exact ⟨hp,alg hn.1 (by omega),alg hn.2 (by omega),fun p hp=>(by rw [he] at hp;cases hp),hlen⟩
  |false=>
   rw [hn] at q
   simp only [cond_false] at q
   cases h1:(jJ h i ((2:Int).toNat+1) false 0 [o.Target,o.Handler]).1 with
   |true=>
    obtain ⟨a,b⟩:=aB0 h1
    exact ⟨hp,abM a,abM b,fun p hp=>(by rw [he] at hp;cases hp),hlen⟩
   |false=>
    rw [h1] at q
    have e2:(!dZ (ji false) 0)=true:=rfl
    simp only [e2,cond_true] at q
    exfalso
    have q0:(jJ h i 3 false 0 [o.Target,o.Handler]).2.2.2.1=true:=q
    have h0:(jJ h i 3 false 0 [o.Target,o.Handler]).1=false:=h1
    clear q h1
    simp only [jJ] at q0 h0
    have a0:dY .i64 0 1=1:=rfl
    have a1:dY .i64 1 1=2:=rfl
    have d0:(!decide ((0:Int)<2))=false:=rfl
    have d1:(!decide ((1:Int)<2))=false:=rfl
    have d2:(!decide ((2:Int)<2))=true:=rfl
    rw [a0,a1,d0,d1,d2] at q0 h0
    simp only [cond_false,cond_true] at q0 h0
    revert q0 h0
    generalize ((!dM ([o.Target,o.Handler].getD (0:Int).toNat default)||!eH h ([o.Target,o.Handler].getD (0:Int).toNat default))||decide (([o.Target,o.Handler].getD (0:Int).toNat default).Ref>=((i:Nat):Int)))=b0
    generalize ((!dM ([o.Target,o.Handler].getD (1:Int).toNat default)||!eH h ([o.Target,o.Handler].getD (1:Int).toNat default))||decide (([o.Target,o.Handler].getD (1:Int).toNat default).Ref>=((i:Nat):Int)))=b1
    cases b0<;>cases b1<;>simp
 |false=>
  rw [h6] at q
  simp only [cond_false] at q
  obtain ⟨q1,q⟩:=zh q
  obtain ⟨q2,q⟩:=zh q
  simp only [Bool.or_eq_false_iff,Bool.not_eq_false'] at q1 q2
  have tc:=wF.1 q2.2
  have e:=ag3 (h:=h) (o:=o) (by have:=Jk tc;omega) (o.Props.length+1) 0 false (Nat.zero_le _) (by omega)
  have e0:((0:Nat):Int)=0:=rfl
  rw [e0] at e
  rw [e] at q
  split at q<;>rename_i hc
  .refine ⟨abM q2.1.2,?_,alg q1.1.2 (by omega),fun p hp=>?_,hlen⟩
   .have:=q1.1.1
    cases ht:nR o.Target 0 with
    |true=>exact alg ht (by omega)
    |false=>
     rw [ht] at this
     simp only [Bool.not_false,Bool.true_and,Bool.not_eq_false',Bool.and_eq_true] at this
     exact abM this.1.2
   .obtain ⟨a,b,c⟩:=hc p (by simpa using hp)
    exact ⟨abM a,abM b,abM c⟩
  .simp [ji,dZ] at q
def cF (m:List Bool):Nat:=m.countP (!·)
def ab2 (s:List Bool×List Int)(j:Int):List Bool×List Int:=bif s.1.getD j.toNat default then s else (s.1.set j.toNat true,s.2++[j])
theorem azh {l:List Bool}{i:Nat}(hi:i<l.length)(h1:l.getD i default=false):cF (l.set i true)+1=cF l:=by
 have hg:l.getD i default=l[i]:=by simp [List.getD_eq_getElem?_getD,hi]
 rw [hg] at h1
 have:0<l.countP (!·):=List.countP_pos_iff.2 ⟨_,List.getElem_mem hi,by simp [h1]⟩
 unfold cF
 rw [List.countP_set hi,h1]
 simp;omega
structure RInv (h:dK)(m:List Bool)(t:GBx):Prop where
 ml:m.length=h.Objects.length
 rg:∀y∈t.v,0<=y/\y<h.Objects.length
 sz:t.v.length+cF m<=h.Objects.length
theorem RInv.add {h:dK}{m:List Bool}{t:GBx}(w:RInv h m t){j:Int}(h0:0<=j)(h1:j<h.Objects.length)(hn:m.getD j.toNat default=false):RInv h (m.set j.toNat true) ⟨t.v++[j]⟩:=by
 have hj:j.toNat<m.length:=by have:=w.ml;omega
 have:=azh hj hn
 have:=w.sz
 refine ⟨by rw [List.length_set];exact w.ml,fun y hy=>?_,by simp;omega⟩
 rcases List.mem_append.1 hy with hy|hy
 .exact w.rg y hy
 .simp at hy;subst hy;exact ⟨h0,h1⟩
theorem RInv.tail {h:dK}{m:List Bool}{t:GBx}(w:RInv h m t):RInv h m ⟨t.v.drop 1⟩:=
 ⟨w.ml,fun y hy=>w.rg y (List.mem_of_mem_drop hy),by have:=w.sz;simp;omega⟩
theorem ax4 {h:dK}:RInv h (List.replicate ((je dS.enc h.Objects):Int).toNat false) (GBx.mk []):=by
 rw [iL]
 exact ⟨by simp,fun y hy=>(by cases hy),by simp only [List.length_nil,Nat.zero_add];have:=List.countP_le_length (p:=fun b:Bool=>!b) (l:=List.replicate (h.Objects.length:Int).toNat false);unfold cF;simpa using this⟩
theorem atI {h:dK}{m:List Bool}{t:GBx}(w:RInv h m t):(mZ (List.map kY t.v):Int)<=mZ (List.map dS.enc h.Objects):=by
 rw [LM,LM];have:=w.sz;omega
def Rng (h:dK)(l:List Int):Prop:=∀y∈l,0<=y/\y<h.Objects.length
theorem aG9 {l:List Int}{i:Int}(h0:0<=i)(h1:i<mZ (List.map kY l)):l.getD i.toNat default∈l:=by
 rw [LM] at h1;exact aD8 (by omega)
theorem aCE {h:dK}{l:List Int}(w:Rng h l){i:Int}(h1:i<mZ (List.map kY l))(h0:0<=i):0<=l.getD i.toNat default:=(w _ (aG9 h0 h1)).1
theorem aCF {h:dK}{l:List Int}(w:Rng h l){i:Int}(h1:i<mZ (List.map kY l))(h0:0<=i):l.getD i.toNat default<mZ (List.map dS.enc h.Objects):=by rw [LM];exact (w _ (aG9 h0 h1)).2
theorem aCG {h:dK}{m:List Bool}{t:GBx}(w:RInv h m t)(h1:mZ (List.map kY t.v) > 0):0<=t.v.getD (0:Int).toNat default:=(w.rg _ (aG9 (Int.le_refl _) h1)).1
theorem aCH {h:dK}{m:List Bool}{t:GBx}(w:RInv h m t)(h1:mZ (List.map kY t.v) > 0):t.v.getD (0:Int).toNat default<mZ (List.map dS.enc h.Objects):=by rw [LM];exact (w.rg _ (aG9 (Int.le_refl _) h1)).2
theorem azi {x0:dK}{x1:List Int}(hB:x1.length<=4294967296):∀(n j:Nat) {a:List Int} {b:Int},j<=x1.length->x1.length-j<n->(dF x0 x1 n a b j).1=true->∀y∈x1.drop j,0<=y/\y<x0.Objects.length
 |0,j,_,_,_,h,_=>by omega
 |n+1,j,a,b,hj,hn,h=>by
  simp only [dF,iL] at h
  by_cases hlt:j<x1.length
  .have e1:(!decide ((j:Int)<(x1.length:Int)))=false:=by rw [decide_eq_true (by omega)];rfl
   rw [e1] at h
   simp only [cond_false] at h
   cases hc:((decide (x1.getD (j:Int).toNat default<0))||(decide (x1.getD (j:Int).toNat default>=(x0.Objects.length:Int)))) with
   |true=>rw [hc] at h;cases h
   |false=>
    rw [hc] at h
    simp only [cond_false] at h
    rw [nG (by omega) (by omega)] at h
    have e3:((j:Int)+1)=((j+1:Nat):Int):=by omega
    rw [e3] at h
    have ih:=azi hB n (j+1) (by omega) (by omega) h
    simp only [Bool.or_eq_false_iff,decide_eq_false_iff_not,Int.toNat_natCast] at hc
    have e4:x1.drop j=x1.getD j default::x1.drop (j+1):=by
     rw [List.drop_eq_getElem_cons hlt,List.getD_eq_getElem?_getD,List.getElem?_eq_getElem hlt];rfl
    rw [e4]
    intro y hy
    cases hy with
    |head=>omega
    |tail _ hy=>exact ih y hy
  .rw [List.drop_eq_nil_of_le (by omega)];intro y hy;cases hy
theorem av8 {x0:dK}{x1:List Int}(h1:decide ((je kY x1:Int) > 4096)=false)(h:dZ (ji (dF x0 x1 (x1.length+1) [] 0 0).1) 0=true):Rng x0 x1:=by
 have h1:=of_decide_eq_false h1
 rw [iL] at h1
 have hs:(dF x0 x1 (x1.length+1) [] 0 0).1=true:=by
  cases hb:(dF x0 x1 (x1.length+1) [] 0 0).1 with
  |true=>rfl
  |false=>rw [hb] at h;cases h
 have:=azi (x0:=x0) (x1:=x1) (by omega) (x1.length+1) 0 (Nat.zero_le _) (by omega) hs
 rw [List.drop_zero] at this
 exact this
theorem ash {x1:List Int}(hB:x1.length<=4294967296):∀(n j:Nat) {m:List Bool} {t:GBx},j<=x1.length->x1.length-j<n->Y2 x1 n j m t=(((x1.drop j).foldl ab2 (m,t.v)).1,⟨((x1.drop j).foldl ab2 (m,t.v)).2⟩)
 |0,j,_,_,_,h=>by omega
 |n+1,j,m,t,hj,hn=>by
  simp only [Y2,iL]
  by_cases hlt:j<x1.length
  .have e1:(!decide ((j:Int)<(x1.length:Int)))=false:=by rw [decide_eq_true (by omega)];rfl
   have e4:x1.drop j=x1.getD j default::x1.drop (j+1):=by
    rw [List.drop_eq_getElem_cons hlt,List.getD_eq_getElem?_getD,List.getElem?_eq_getElem hlt];rfl
   rw [e1,nG (by omega) (by omega)]
   have e3:((j:Int)+1)=((j+1:Nat):Int):=by omega
   rw [e3,e4]
   simp only [cond_false,Int.toNat_natCast,List.foldl_cons]
   cases hc:m.getD (x1.getD j default).toNat default with
   |true=>
    simp only [Bool.not_true,cond_false]
    rw [ash hB n (j+1) (by omega) (by omega)]
    have:ab2 (m,t.v) (x1.getD j default)=(m,t.v):=by unfold ab2;rw [hc];rfl
    rw [this]
   |false=>
    simp only [Bool.not_false,cond_true]
    rw [ash hB n (j+1) (by omega) (by omega)]
    have:ab2 (m,t.v) (x1.getD j default)=(m.set (x1.getD j default).toNat true,t.v++[x1.getD j default]):=by unfold ab2;rw [hc];rfl
    rw [this]
  .have e1:(!decide ((j:Int)<(x1.length:Int)))=true:=by rw [decide_eq_false (by omega)];rfl
   rw [e1,List.drop_eq_nil_of_le (by omega)]
   rfl
theorem apd {h:dK}:∀{l:List Int} {m:List Bool} {t:List Int},Rng h l->RInv h m ⟨t⟩->RInv h (l.foldl ab2 (m,t)).1 ⟨(l.foldl ab2 (m,t)).2⟩
 |[],_,_,_,w=>w
 |j::l,m,t,hl,w=>by
  simp only [List.foldl_cons]
  have hj:=hl j (by simp)
  have hl':Rng h l:=fun y hy=>hl y (by simp [hy])
  cases hc:m.getD j.toNat default with
  |true=>
   have:ab2 (m,t) j=(m,t):=by unfold ab2;rw [hc];rfl
   rw [this]
   exact apd hl' w
  |false=>
   have:ab2 (m,t) j=(m.set j.toNat true,t++[j]):=by unfold ab2;rw [hc];rfl
   rw [this]
   exact apd hl' (w.add hj.1 hj.2 hc)
theorem axH {x0:dK}{x1:List Int}(hR:Rng x0 x1)(h1:decide ((je kY x1:Int) > 4096)=false){m:List Bool}{t:GBx}(w:RInv x0 m t):RInv x0 (Y2 x1 (x1.length+1) 0 m t).1 (Y2 x1 (x1.length+1) 0 m t).2:=by
 have h1:=of_decide_eq_false h1
 rw [iL] at h1
 have e0:((0:Nat):Int)=0:=rfl
 rw [<- e0,ash (by omega) (x1.length+1) 0 (Nat.zero_le _) (by omega)]
 exact apd (by simpa using hR) w
def alC (o:dS):List dL:=[o.eu,o.Target,o.Handler]++o.Props.flatMap fun p=>[p.dV.Value,p.dV.Get,p.dV.Set]
theorem azl {o:dS}(hB:o.Props.length<=1024):∀(n j:Nat) {l:List dL} {t:GBx},j<=o.Props.length->o.Props.length-j<n->lC o n l j t=(l++(o.Props.drop j).flatMap (fun p=>[p.dV.Value,p.dV.Get,p.dV.Set]),t)
 |0,j,_,_,_,h=>by omega
 |n+1,j,l,t,hj,hn=>by
  simp only [lC,iL]
  by_cases hlt:j<o.Props.length
  .have e1:(!decide ((j:Int)<(o.Props.length:Int)))=false:=by rw [decide_eq_true (by omega)];rfl
   have e4:o.Props.drop j=o.Props.getD j default::o.Props.drop (j+1):=by
    rw [List.drop_eq_getElem_cons hlt,List.getD_eq_getElem?_getD,List.getElem?_eq_getElem hlt];rfl
   rw [e1,nG (by omega) (by omega)]
   have e3:((j:Int)+1)=((j+1:Nat):Int):=by omega
   rw [e3,e4]
   simp only [cond_false,Int.toNat_natCast,List.flatMap_cons]
   rw [azl hB n (j+1) (by omega) (by omega),List.append_assoc]
  .have e1:(!decide ((j:Int)<(o.Props.length:Int)))=true:=by rw [decide_eq_false (by omega)];rfl
   rw [e1,List.drop_eq_nil_of_le (by omega)]
   simp
theorem axI {o:dS}(hB:o.Props.length<=1024){t:GBx}:lC o (o.Props.length+1) [o.eu,o.Target,o.Handler] 0 t=(alC o,t):=by
 have:=azl hB (o.Props.length+1) 0 (l:=[o.eu,o.Target,o.Handler]) (t:=t) (Nat.zero_le _) (by omega)
 have e0:((0:Nat):Int)=0:=rfl
 rw [e0] at this
 rw [this];rfl
theorem ape {h:dK}{o:dS}(k:aBs h o):∀v∈alC o,hIn h v:=by
 intro v hv
 unfold alC at hv
 rcases List.mem_append.1 hv with hv|hv
 .simp at hv
  rcases hv with rfl|rfl|rfl
  .exact k.pr
  .exact k.tg
  .exact k.hd
 .obtain ⟨p,hp,hv⟩:=List.mem_flatMap.1 hv
  obtain ⟨a,b,c⟩:=k.ps p hp
  simp at hv
  rcases hv with rfl|rfl|rfl
  .exact a
  .exact b
  .exact c
def avY (h:dK)(l:List dL):Prop:=∀v∈l,hIn h v
theorem aCI {h:dK}{l:List dL}(w:avY h l){i:Int}(ho:dM (l.getD i.toNat default)=true)(h1:i<mZ (List.map dL.enc l))(h0:0<=i):0<=(l.getD i.toNat default).Ref:=(w _ (aD8 (by rw [LM] at h1;omega)) ho).1
theorem aCJ {h:dK}{l:List dL}(w:avY h l){i:Int}(ho:dM (l.getD i.toNat default)=true)(h1:i<mZ (List.map dL.enc l))(h0:0<=i):(l.getD i.toNat default).Ref<mZ (List.map dS.enc h.Objects):=by
 rw [LM];exact (w _ (aD8 (by rw [LM] at h1;omega)) ho).2
theorem axJ {h:dK}(hC:kR h=0){m:List Bool}{t:GBx}(w:RInv h m t)(h1:0<mZ (List.map kY t.v)):mZ (List.map dJ.enc (h.Objects.getD (t.v.getD (0:Int).toNat default).toNat default).Props)<=(1024:Int):=by
 obtain ⟨a,b⟩:=w.rg _ (aG9 (Int.le_refl _) h1)
 have:=(aqM hC (i:=(t.v.getD (0:Int).toNat default).toNat) (by omega)).pl
 rw [LM];omega
theorem azm {x0:dK}(hC:kR x0=0){m:List Bool}{t:GBx}(w:RInv x0 m t)(h1:0<mZ (List.map kY t.v)){q:GBx}:let o:=x0.Objects.getD (t.v.getD (0:Int).toNat default).toNat default
  avY x0 (lC o (o.Props.length+1) [o.eu,o.Target,o.Handler] 0 q).1/\(lC o (o.Props.length+1) [o.eu,o.Target,o.Handler] 0 q).2=q:=by
 obtain ⟨a,b⟩:=w.rg _ (aG9 (Int.le_refl _) h1)
 have k:=aqM hC (i:=(t.v.getD (0:Int).toNat default).toNat) (by omega)
 dsimp only
 rw [axI k.pl]
 exact ⟨ape k,rfl⟩
def aq1 (l:List dL):List Int:=(l.filter dM).map (·.Ref)
theorem apf {r:List dL×GBx}(hB:r.1.length<=4294967296):∀(n j:Nat) {m:List Bool} {t:GBx},j<=r.1.length->r.1.length-j<n->lX r n j m t=(((aq1 (r.1.drop j)).foldl ab2 (m,t.v)).1,⟨((aq1 (r.1.drop j)).foldl ab2 (m,t.v)).2⟩)
 |0,j,_,_,_,h=>by omega
 |n+1,j,m,t,hj,hn=>by
  simp only [lX,iL]
  by_cases hlt:j<r.1.length
  .have e1:(!decide ((j:Int)<(r.1.length:Int)))=false:=by rw [decide_eq_true (by omega)];rfl
   have e4:r.1.drop j=r.1.getD j default::r.1.drop (j+1):=by
    rw [List.drop_eq_getElem_cons hlt,List.getD_eq_getElem?_getD,List.getElem?_eq_getElem hlt];rfl
   rw [e1,nG (by omega) (by omega)]
   have e3:((j:Int)+1)=((j+1:Nat):Int):=by omega
   rw [e3,e4]
   simp only [cond_false,Int.toNat_natCast]
   cases ho:dM (r.1.getD j default) with
   |false=>
    simp only [Bool.false_and,cond_false]
    rw [apf hB n (j+1) (by omega) (by omega)]
    have:aq1 (r.1.getD j default::r.1.drop (j+1))=aq1 (r.1.drop (j+1)):=by unfold aq1;rw [List.filter_cons_of_neg (by rw [ho];simp)]
    rw [this]
   |true=>
    have e5:aq1 (r.1.getD j default::r.1.drop (j+1))=(r.1.getD j default).Ref::aq1 (r.1.drop (j+1)):=by unfold aq1;rw [List.filter_cons_of_pos ho];rfl
    rw [e5,List.foldl_cons]
    simp only [Bool.true_and]
    cases hc:m.getD (r.1.getD j default).Ref.toNat default with
    |true=>
     simp only [Bool.not_true,cond_false]
     rw [apf hB n (j+1) (by omega) (by omega)]
     have:ab2 (m,t.v) (r.1.getD j default).Ref=(m,t.v):=by unfold ab2;rw [hc];rfl
     rw [this]
    |false=>
     simp only [Bool.not_false,cond_true]
     rw [apf hB n (j+1) (by omega) (by omega)]
     have:ab2 (m,t.v) (r.1.getD j default).Ref=(m.set (r.1.getD j default).Ref.toNat true,t.v++[(r.1.getD j default).Ref]):=by unfold ab2;rw [hc];rfl
     rw [this]
  .have e1:(!decide ((j:Int)<(r.1.length:Int)))=true:=by rw [decide_eq_false (by omega)];rfl
   rw [e1,List.drop_eq_nil_of_le (by omega)]
   rfl
theorem at1 {h:dK}{l:List dL}(w:avY h l):Rng h (aq1 l):=by
 intro y hy
 unfold aq1 at hy
 obtain ⟨v,hv,rfl⟩:=List.mem_map.1 hy
 rw [List.mem_filter] at hv
 exact w v hv.1 hv.2
theorem avZ {o:dS}(h:o.Props.length<=1024):(alC o).length<=4294967296:=by
 unfold alC
 have:(o.Props.flatMap fun p=>[p.dV.Value,p.dV.Get,p.dV.Set]).length=3*o.Props.length:=by
  generalize o.Props=l
  induction l with
  |nil=>rfl
  |cons a l ih=>simp only [List.flatMap_cons,List.length_append,ih,List.length_cons,List.length_nil];omega
 rw [List.length_append,this]
 simp;omega
def ak9 (h:dK)(m:List Bool)(t:List Int):List Bool×List Int:=(aq1 (alC (h.Objects.getD (t.getD 0 default).toNat default))).foldl ab2 (m,t.drop 1)
theorem aHa {x0:dK}(hC:kR x0=0){m:List Bool}{t:GBx}(w:RInv x0 m t)(h1:0<t.v.length) :
  let o:=x0.Objects.getD (t.v.getD (0:Int).toNat default).toNat default
  let r:=lC o (o.Props.length+1) [o.eu,o.Target,o.Handler] 0 (GBx.mk (t.v.drop 1))
  lX r (r.1.length+1) 0 m r.2=((ak9 x0 m t.v).1,⟨(ak9 x0 m t.v).2⟩)/\RInv x0 (ak9 x0 m t.v).1 ⟨(ak9 x0 m t.v).2⟩:=by
 have h1':0<mZ (List.map kY t.v):=by rw [LM];omega
 obtain ⟨a,b⟩:=w.rg _ (aG9 (Int.le_refl _) h1')
 have k:=aqM hC (i:=(t.v.getD (0:Int).toNat default).toNat) (by omega)
 dsimp only
 rw [axI k.pl]
 have e0:((0:Nat):Int)=0:=rfl
 constructor
 .have:=apf (r:=(alC (x0.Objects.getD (t.v.getD (0:Int).toNat default).toNat default),GBx.mk (t.v.drop 1))) (avZ k.pl) ((alC (x0.Objects.getD (t.v.getD (0:Int).toNat default).toNat default)).length+1) 0 (m:=m) (t:=GBx.mk (t.v.drop 1)) (Nat.zero_le _) (by dsimp only;omega)
  rw [e0] at this
  rw [this]
  rfl
 .exact apd (at1 (ape k)) w.tail
theorem av9 {h:dK}:∀{l:List Int} {m:List Bool} {t:List Int},Rng h l->m.length=h.Objects.length->(l.foldl ab2 (m,t)).2.length+cF (l.foldl ab2 (m,t)).1=t.length+cF m
 |[],_,_,_,_=>rfl
 |j::l,m,t,hl,hm=>by
  simp only [List.foldl_cons]
  have hj:=hl j (by simp)
  have hl':Rng h l:=fun y hy=>hl y (by simp [hy])
  cases hc:m.getD j.toNat default with
  |true=>
   have:ab2 (m,t) j=(m,t):=by unfold ab2;rw [hc];rfl
   rw [this]
   exact av9 hl' hm
  |false=>
   have:ab2 (m,t) j=(m.set j.toNat true,t++[j]):=by unfold ab2;rw [hc];rfl
   rw [this,av9 hl' (by simp [hm])]
   have:=azh (l:=m) (i:=j.toNat) (by omega) hc
   simp;omega
theorem axa {x0:dK}(hC:kR x0=0){m:List Bool}{t:GBx}(w:RInv x0 m t)(h1:0<t.v.length):(ak9 x0 m t.v).2.length+cF (ak9 x0 m t.v).1+1=t.v.length+cF m:=by
 have h1':0<mZ (List.map kY t.v):=by rw [LM];omega
 obtain ⟨a,b⟩:=w.rg _ (aG9 (Int.le_refl _) h1')
 have k:=aqM hC (i:=(t.v.getD (0:Int).toNat default).toNat) (by omega)
 unfold ak9
 have e0:(0:Int).toNat=0:=rfl
 rw [e0] at k
 rw [av9 (at1 (ape k)) w.ml]
 simp;omega
theorem aBt {x0:dK}(hC:kR x0=0):∀(n:Nat) {m:List Bool} {t:GBx},RInv x0 m t->t.v.length+cF m<n->abZ x0 n m t=true
 |0,_,_,_,h=>by omega
 |n+1,m,t,w,hn=>by
  simp only [abZ,iL]
  by_cases h1:0<t.v.length
  .have e1:(!decide ((t.v.length:Int) > 0))=false:=by rw [decide_eq_true (by omega)];rfl
   rw [e1]
   simp only [cond_false]
   obtain ⟨r1,r2⟩:=aHa hC w h1
   rw [r1]
   have:=axa hC w h1
   exact aBt hC n r2 (by dsimp only;omega)
  .have e1:(!decide ((t.v.length:Int) > 0))=true:=by rw [decide_eq_false (by omega)];rfl
   rw [e1];rfl
theorem ayE {x0:dK}(hC:kR x0=0){m:List Bool}{t:GBx}(w:RInv x0 m t):abZ x0 (x0.Objects.length+1) m t=true:=aBt hC _ w (by have:=w.sz;omega)
theorem aCK {t:GBx}(g:(!(decide (((je kY t.v):Int) > 0)))=false):0<t.v.length:=by
 rw [iL] at g
 simp at g;omega
theorem ayF {x0:dK}(hC:kR x0=0){m:List Bool}{t:GBx}(w:RInv x0 m t)(g:(!(decide (((je kY t.v):Int) > 0)))=false) :
  let o:=x0.Objects.getD (t.v.getD (0:Int).toNat default).toNat default
  let r:=lC o (o.Props.length+1) [o.eu,o.Target,o.Handler] 0 (GBx.mk (t.v.drop 1))
  RInv x0 (lX r (r.1.length+1) 0 m r.2).1 (lX r (r.1.length+1) 0 m r.2).2:=by
 obtain ⟨r1,r2⟩:=aHa hC w (aCK g)
 dsimp only
 rw [r1];exact r2
theorem azp {x0:dK}(hC:kR x0=0){m:List Bool}{t:GBx}(w:RInv x0 m t)(g:decide (mZ (List.map kY t.v) > 0)=true) :
  let o:=x0.Objects.getD (t.v.getD (0:Int).toNat default).toNat default
  RInv x0 m (lC o (o.Props.length+1) [o.eu,o.Target,o.Handler] 0 (GBx.mk (t.v.drop 1))).2:=by
 dsimp only
 have:=(azm hC w (of_decide_eq_true g) (q:=GBx.mk (t.v.drop 1))).2
 rw [this]
 exact w.tail
theorem azq {x1:List Int}(h:decide ((je kY x1:Int) > 4096)=false):x1.length<=4294967296:=by
 have h:=of_decide_eq_false h
 rw [iL] at h;omega
theorem aCL {x1:List Int}(hB:x1.length<=4294967296){u:Int}(h0:0<=u)(g:(!(decide ((u:Int)<(je kY x1))))=false):0<=dY .i64 u 1:=by
 rw [iL] at g
 simp at g
 rw [nG (by omega) (by omega)];omega
theorem aA4 {x0:dK}(hC:kR x0=0){m:List Bool}{t:GBx}(w:RInv x0 m t)(h1:decide (mZ (List.map kY t.v) > 0)=true){q:GBx}:let o:=x0.Objects.getD (t.v.getD (0:Int).toNat default).toNat default
  (lC o (o.Props.length+1) [o.eu,o.Target,o.Handler] 0 q).1.length<=4294967296:=by
 obtain ⟨a,b⟩:=w.rg _ (aG9 (Int.le_refl _) (of_decide_eq_true h1))
 have k:=aqM hC (i:=(t.v.getD (0:Int).toNat default).toNat) (by omega)
 dsimp only
 rw [axI k.pl]
 exact avZ k.pl
theorem aBu {l:List dL}(hB:l.length<=4294967296){u:Int}(h0:0<=u)(g:(!(decide ((u:Int)<(je dL.enc l))))=false):0<=dY .i64 u 1:=by
 rw [iL] at g
 simp at g
 rw [nG (by omega) (by omega)];omega
theorem aFu {x0:dK}{x1:List Int}(hR:Rng x0 x1){m:List Bool}{t:GBx}(w:RInv x0 m t){i:Int}(k0:0<=i)(g0:(!(decide ((i:Int)<(je kY x1))))=false)(g1:(!(m.getD (x1.getD i.toNat default).toNat default))=true) :
  RInv x0 (m.set (x1.getD i.toNat default).toNat true) (GBx.mk (t.v++[x1.getD i.toNat default])):=by
 rw [iL] at g0
 simp at g0
 obtain ⟨a,b⟩:=hR _ (aD8 (l:=x1) (i:=i.toNat) (by omega))
 exact w.add a b (by simpa using g1)
theorem aCM {x0:dK}{l:List dL}(hV:avY x0 l){m:List Bool}{t:GBx}(w:RInv x0 m t){i:Int}(k0:0<=i)(g0:(!(decide ((i:Int)<(je dL.enc l))))=false)(g1:(dM (l.getD i.toNat default)&&(!(m.getD (l.getD i.toNat default).Ref.toNat default)))=true) :
  RInv x0 (m.set (l.getD i.toNat default).Ref.toNat true) (GBx.mk (t.v++[(l.getD i.toNat default).Ref])):=by
 rw [iL] at g0
 simp at g0
 rw [Bool.and_eq_true] at g1
 obtain ⟨a,b⟩:=hV _ (aD8 (l:=l) (i:=i.toNat) (by omega)) g1.1
 exact w.add a b (by simpa using g1.2)
theorem aA5 {l:List Int}:(List.map kY l).drop 1=List.map kY (l.drop 1):=List.map_drop.symm
theorem auc {x0:dK}{x1:List Int}(h:(lM x0 x1).2=0):kR x0=0/\x1.length<=4096/\Rng x0 x1:=by
 unfold lM at h
 dsimp only at h
 cases h2:jC (kR x0) 0 with
 |true=>rw [h2] at h;exact absurd h (GL.1 h2)
 |false=>
  rw [h2] at h
  simp only [cond_false] at h
  cases h3:decide (((je kY x1):Int) > 4096) with
  |true=>rw [h3] at h;simp at h
  |false=>
   rw [h3] at h
   simp only [cond_false] at h
   have hl:=of_decide_eq_false h3
   rw [iL] at hl
   cases h4:(dF x0 x1 (x1.length+1) [] 0 0).1 with
   |true=>exact ⟨wF.1 h2,by omega,av8 h3 (by rw [h4];rfl)⟩
   |false=>
    exfalso
    rw [h4] at h
    have e2:(!dZ (ji false) 0)=true:=rfl
    simp only [e2,cond_true] at h
    have:∀(n j:Nat) (a:List Int) (b:Int),j<=x1.length->x1.length-j<n->(dF x0 x1 n a b j).1=false->(dF x0 x1 n a b j).2.2.2.2=2:=by
     intro n
     induction n with
     |zero=>intro j a b _ h;omega
     |succ n ih=>
      intro j a b hj hn hf
      simp only [dF,iL] at hf ⊢
      by_cases hlt:j<x1.length
      .have e1:(!decide ((j:Int)<(x1.length:Int)))=false:=by rw [decide_eq_true (by omega)];rfl
       rw [e1] at hf ⊢
       simp only [cond_false] at hf ⊢
       cases hc:((decide (x1.getD (j:Int).toNat default<0))||(decide (x1.getD (j:Int).toNat default>=(x0.Objects.length:Int)))) with
       |true=>rfl
       |false=>
        rw [hc] at hf
        simp only [cond_false] at hf ⊢
        rw [nG (by omega) (by omega)] at hf ⊢
        have e3:((j:Int)+1)=((j+1:Nat):Int):=by omega
        rw [e3] at hf ⊢
        exact ih (j+1) a b (by omega) (by omega) hf
      .have e1:(!decide ((j:Int)<(x1.length:Int)))=true:=by rw [decide_eq_false (by omega)];rfl
       rw [e1] at hf;cases hf
    have e0:((0:Nat):Int)=0:=rfl
    have:=this (x1.length+1) 0 [] 0 (Nat.zero_le _) (by omega) (by rw [e0];exact h4)
    rw [e0] at this
    rw [this] at h;cases h
end Go.Fw
end
section
namespace Go.Fw
open Go.Proofs
set_option maxRecDepth 100000
theorem jc : Try.prog.follows .mixedOrders=true:=by kernel_rfl
theorem wu (x0:Nat):PC Try.prog 56 [.p (.float .f64 x0)] (.p (.int .u64 (oM x0))):=
 abg (fn:=Try.f56) (e:=Extern.MathFloatBits.float64bits) (by kernel_rfl) (by kernel_rfl) (by kernel_rfl) (by kernel_rfl) (by kernel_rfl) rfl rfl rfl rfl
theorem yw (x0:Int):PC Try.prog 55 [.p (.int .u64 x0)] (.p (.float .f64 (qw x0))):=
 abg (fn:=Try.f55) (e:=Extern.MathFloatBits.float64frombits) (by kernel_rfl) (by kernel_rfl) (by kernel_rfl) (by kernel_rfl) (by kernel_rfl) rfl rfl rfl rfl
theorem E8 (x0:Nat)(h:Cb x0):PC Try.prog 53 [.p (.float .f64 x0)] (.p (.float .f64 (jI x0))):=
 abg (fn:=Try.f53) (e:=Extern.MathFloor.toIntegral "math.archTrunc" .zero) (by kernel_rfl) (by kernel_rfl) (by kernel_rfl) (by kernel_rfl) (by kernel_rfl) rfl (akh h) rfl rfl
end Go.Fw
end
