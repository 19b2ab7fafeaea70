
import Derived.Test.YtlnenmklgkgaeaaFwF
set_option linter.unusedVariables false
set_option linter.unusedSimpArgs false
set_option linter.unusedSectionVars false
set_option linter.unnecessarySimpa false
section
namespace Go.Fw
def vw (x0:dP):Int:=
 bif (((decide ((x0.Sym:Int)<0))||(decide (((sLen x0.Str):Int) > 4096)))||((decide ((x0.Sym:Int) > 0))&&(sNe x0.Str []))) then 9
 else 0
def rY (x0:dN):Bool:=
 let v1:dN×Int:=yF x0
 ((dU v1.2 0)&&(dU v1.1.Has x0.Has))
def nD (x0:List dI):Nat->Int->Int->(List (dP×Int))->(Bool×Int×List (dP×Int)×Int×List (dP×Int))
 |0,_,_,_=>default|n+1,u1,u2,u3=>
  let v4:dI:=x0.getD (u2:Int).toNat default;let v5:Int:=vw v4.Key;let v6:Bool:=rY v4.dQ;let v7:Bool×Int:=mJ 0 v4.Key u3;let v8:List (dP×Int):=mM v4.Key (fK .i64 u2 1) u3
  bif (!(decide ((u2:Int)<(jT dI.enc x0)))) then (true,u1,u3,default,default)
  else bif (jk v5 0) then (false,default,default,v5,u3)
  else bif (!v6) then (false,default,default,90,u3)
  else bif (decide ((v7.2:Int) > 0)) then (false,default,default,100,u3)
  else nD x0 n u1 (fK .i64 u2 1) v8
def jG (x0:List dI):Int:=
 let r1:Bool×Int×List (dP×Int)×Int×List (dP×Int):=nD x0 (x0.length+1) 0 0 []
 bif (decide (((jT dI.enc x0):Int) > 1024)) then 4
 else bif (!(dU (mg r1.1) 0)) then r1.2.2.2.1
 else 0
def gV (x0:dP):Int:=
 bif (((decide ((x0.Sym:Int)<0))||(decide (((sLen x0.Str):Int) > 4096)))||((decide ((x0.Sym:Int) > 0))&&(decide (((sLen x0.Str):Int) > 0)))) then 9
 else 0
def pO (x0:List dI)(x1:dP):Nat->Int->Int->(Bool×Int×Int)
 |0,_,_=>default|n+1,u2,u3=>
  let v4:dI:=x0.getD (u3:Int).toNat default
  bif (!(decide ((u3:Int)<(jT dI.enc x0)))) then (true,u2,default)
  else bif ((Dw v4.Key.Str x1.Str)&&(dU v4.Key.Sym x1.Sym)) then (false,default,u3)
  else pO x0 x1 n u2 (fK .i64 u3 1)
def vC (x0:List dI)(x1:dP):Int:=
 let r2:Bool×Int×Int:=pO x0 x1 (x0.length+1) 0 0
 bif (!(dU (mg r2.1) 0)) then r2.2.2
 else (-1)
def r_ (x0:List dI):Nat->Int->Int->(Bool×Int×Int)
 |0,_,_=>default|n+1,u1,u2=>
  let v3:dI:=x0.getD (u2:Int).toNat default;let v4:Int:=gV v3.Key;let v5:dI:=x0.getD (u2:Int).toNat default;let v6:Bool:=gU v5.dQ;let v7:List dI:=(x0.drop ((0:Int).toNat)).take ((u2:Int).toNat-(0:Int).toNat);let v8:dI:=x0.getD (u2:Int).toNat default;let v9:Int:=vC v7 v8.Key
  bif (!(decide ((u2:Int)<(jT dI.enc x0)))) then (true,u1,default)
  else bif (jk v4 0) then (false,default,9)
  else bif (!v6) then (false,default,90)
  else bif (decide ((v9:Int)>=0)) then (false,default,100)
  else r_ x0 n u1 (fK .i64 u2 1)
def jV (x0:List dI):Int:=
 let r1:Bool×Int×Int:=r_ x0 (x0.length+1) 0 0
 bif (decide (((jT dI.enc x0):Int) > 1024)) then 4
 else bif (!(dU (mg r1.1) 0)) then r1.2.2
 else 0
def zO (x0:dP):Nat->Int->Bool->Int->Int->(Bool×Int×Bool×Int×Int×Bool)
 |0,_,_,_,_=>default|n+1,u1,u2,u3,u4=>
  bif (!(decide ((u4:Int)<(sLen x0.Str)))) then (true,u1,u2,u3,default,default)
  else bif ((decide (((((x0.Str.getD (u4:Int).toNat 0).toNat:Nat):Int):Int)<48))||(decide (((((x0.Str.getD (u4:Int).toNat 0).toNat:Nat):Int):Int) > 57))) then (false,default,default,default,0,false)
  else zO x0 n u1 u2 (fK .i64 (agu .i64 u3 10) (IntKind.wrap .i64 (mD .u8 (((x0.Str.getD (u4:Int).toNat 0).toNat:Nat):Int) 48))) (fK .i64 u4 1)
def vF (x0:dP):Int×Bool:=
 let r1:Bool×Int×Bool×Int×Int×Bool:=zO x0 (((sLen x0.Str):Int).toNat+1) 0 false 0 0
 bif ((((decide ((x0.Sym:Int) > 0))||(Dw x0.Str []))||(decide (((sLen x0.Str):Int) > 4)))||((decide (((sLen x0.Str):Int) > 1))&&(dU (((x0.Str.getD (0:Int).toNat 0).toNat:Nat):Int) 48))) then (0,false)
 else bif (!(dU (mg r1.1) 0)) then (r1.2.2.2.2.1,r1.2.2.2.2.2)
 else bif (decide ((r1.2.2.2.1:Int)>=1024)) then (0,false)
 else (r1.2.2.2.1,true)
def gZ (x0:dP):Int×Int:=
 let v1:Int×Bool:=vF x0
 bif v1.2 then (0,v1.1)
 else bif (decide ((x0.Sym:Int) > 0)) then (2,0)
 else (1,0)
def apo : Nat->Int->(List UInt8)->(Int×List UInt8)
 |0,_,_=>default|n+1,u2,u3=>
  bif (!(decide ((u2:Int)>=10))) then (u2,u3)
  else apo n (LU .i64 u2 10) ((aAP (IntKind.wrap .i32 (fK .i64 48 (LV .i64 u2 10))))++u3)
def asf (x0:Int):List UInt8:=
 let v1:List UInt8:=default;let r2:Int×List UInt8:=apo (x0.toNat+1) x0 []
 bif (decide ((x0:Int)<0)) then ([45]++v1)
 else ((aAP (IntKind.wrap .i32 (fK .i64 48 r2.1)))++r2.2)
def ah_ (x0:Int):List UInt8:=
 let v1:List UInt8:=default;let v2:List UInt8:=default;let v3:List UInt8:=asf x0
 bif ((decide ((x0:Int)<0))&&(decide (((mD .i64 0 x0):Int)<0))) then (v1++v2)
 else v3
def aiH (x0:dP):Nat->Int->Bool->Int->(Bool×Int×Bool×Int×Bool)
 |0,_,_,_=>default|n+1,u1,u2,u3=>
  let v4:List UInt8:=ah_ u3
  bif (!(decide ((u3:Int)<1024))) then (true,u1,u2,default,default)
  else bif (Dw v4 x0.Str) then (false,default,default,u3,true)
  else aiH x0 n u1 u2 (fK .i64 u3 1)
def ahe (x0:dP):Int×Bool:=
 let r1:Bool×Int×Bool×Int×Bool:=aiH x0 ((1024:Int).toNat+1) 0 false 0
 bif ((decide ((x0.Sym:Int) > 0))||(decide (((sLen x0.Str):Int) > 4))) then (0,false)
 else bif (!(dU (mg r1.1) 0)) then (r1.2.2.2.1,r1.2.2.2.2)
 else (0,false)
end Go.Fw
end
section
namespace Go.Fw
abbrev LF :=List (Nat×Int)
def LF.ev (v:Nat->Int):LF->Int
 |[]=>0|x::r=>x.2*v x.1+LF.ev v r
theorem LF.akA {v:Nat->Int}:∀{a b:LF},LF.ev v (a++b)=a.ev v+b.ev v
 |[],b=>by simp [LF.ev]
 |x::a,b=>by simp only [List.cons_append,LF.ev,LF.akA (a:=a) (b:=b)];omega
def cns (i:Nat)(c:Int)(l:LF):LF:=ZL c fun c=>match c with
 | .ofNat 0=>l|c=>(i,c)::l
theorem YK {v:Nat->Int}{i:Nat}{c:Int}{l:LF}:(cns i c l).ev v=c*v i+l.ev v:=by
 unfold cns;rw [Sl];split
 .simp
 .rfl
def mrg : Nat->LF->LF->LF
 |0,a,b=>a++b|n+1,a,b=>match a with
  |[]=>b|x::a'=>match b with
   |[]=>x::a'|y::b'=>bif Nat.blt x.1 y.1 then x::mrg n a' (y::b') else bif Nat.blt y.1 x.1 then y::mrg n (x::a') b' else cns x.1 (x.2+y.2) (mrg n a' b')
theorem Ux {v:Nat->Int}:∀{n:Nat} {a b:LF},(mrg n a b).ev v=a.ev v+b.ev v
 |0,a,b=>LF.akA|n+1,[],b=>by simp [mrg,LF.ev]
 |n+1,x::a,[]=>by simp [mrg,LF.ev]
 |n+1,x::a,y::b=>by
  simp only [mrg];cases h:Nat.blt x.1 y.1
  .simp only [cond_false];cases h2:Nat.blt y.1 x.1
   .have e:x.1=y.1:=by
     have h1:¬x.1<y.1:=fun q=>by rw [show Nat.blt x.1 y.1=true by rw [Nat.blt_eq];exact q] at h;cases h
     have h3:¬y.1<x.1:=fun q=>by rw [show Nat.blt y.1 x.1=true by rw [Nat.blt_eq];exact q] at h2;cases h2
     omega
    simp only [cond_false,YK,Ux (n:=n) (a:=a) (b:=b),LF.ev,e,Int.add_mul];omega
   .simp only [cond_true,LF.ev,Ux (n:=n) (a:=x::a) (b:=b)];omega
  .simp only [cond_true,LF.ev,Ux (n:=n) (a:=a) (b:=y::b)];omega
def QM (k:Int):LF->LF
 |[]=>[]|x::r=>cns x.1 (k*x.2) (QM k r)
theorem Fq {v:Nat->Int}{k:Int}:∀{a:LF},(QM k a).ev v=k*a.ev v
 |[]=>by simp [QM,LF.ev]
 |x::r=>by simp only [QM,YK,LF.ev,Fq (a:=r),Int.mul_add,Int.mul_assoc]
def Jz (a b:LF):LF:=mrg 60 a b
def oZ (a b:LF):LF:=mrg 60 a (QM (-1) b)
theorem CB {v:Nat->Int}{a b:LF}:(Jz a b).ev v=a.ev v+b.ev v:=Ux
theorem j_ {v:Nat->Int}{a b:LF}:(oZ a b).ev v=a.ev v-b.ev v:=by
 unfold oZ;rw [Ux,Fq];omega
def cof (i:Nat):LF->Int
 |[]=>0|x::r=>bif Nat.beq x.1 i then x.2 else cof i r
def ay5 : Int->Bool
 | .ofNat _=>false| .negSucc _=>true
theorem ahv {n:Int}:ay5 n=true↔n<0:=by cases n<;>simp [ay5]
def adB (n:Int):Int:=match n with | .ofNat m=>.ofNat m | .negSucc m=>.ofNat (m+1)
theorem afp {n:Int}:0<=adB n:=by
 cases n with
 |ofNat m=>simp [adB]|negSucc m=>simp [adB];omega
def azG (c d:Int)(N f:LF):LF:=bif Nat.beq c.natAbs d.natAbs then Jz N f else match adB d with
 | .ofNat 1=>Jz N (QM (adB c) f)|_=>Jz (QM (adB d) N) (QM (adB c) f)
theorem ank {v:Nat->Int}{c d:Int}{N f:LF}(hN:0<=N.ev v)(hf:0<=f.ev v):0<=(azG c d N f).ev v:=by
 have:=Int.mul_nonneg (afp (n:=d)) hN;have:=Int.mul_nonneg (afp (n:=c)) hf;unfold azG;cases Nat.beq c.natAbs d.natAbs
 .simp only [cond_false];split<;>simp only [CB,Fq]<;>omega
 .simp only [cond_true,CB];omega
def aoD (c d:Int):Bool:=Nat.blt d.natAbs c.natAbs&&Nat.ble c.natAbs 4
def opp (i:Nat)(ng:Bool):List LF->List LF
 |[]=>[]|f::r=>match cof i f with
  | .ofNat 0=>opp i ng r| .ofNat (_+1)=>bif ng then f::opp i ng r else opp i ng r
  | .negSucc _=>bif ng then opp i ng r else f::opp i ng r
theorem Jj {i:Nat}{ng:Bool}:∀{fs:List LF} {f:LF},f∈opp i ng fs->f∈fs
 |[],f,h=>by simp [opp] at h
 |g::r,f,h=>by
  unfold opp at h;split at h
  .exact List.mem_cons_of_mem _ (Jj h)
  .cases ng
   .exact List.mem_cons_of_mem _ (Jj h)
   .simp only [cond_true,List.mem_cons] at h;rcases h with h|h
    .simp [h]
    .exact List.mem_cons_of_mem _ (Jj h)
  .cases ng
   .simp only [cond_false,List.mem_cons] at h;rcases h with h|h
    .simp [h]
    .exact List.mem_cons_of_mem _ (Jj h)
   .exact List.mem_cons_of_mem _ (Jj h)
def Uy (fs:List LF):LF->Option (Int×Nat×Nat×List LF)->Option (Int×Nat×Nat×List LF)
 |[],b=>b|(0,_)::r,b=>Uy fs r b|(i+1,c)::r,b=>
  let o:=opp (i+1) (ay5 c) fs
  Oa o.length fun n=>match b with
   |none=>Uy fs r (some (c,i+1,n,o))|some (c',j,m,o')=>bif Nat.blt n m then Uy fs r (some (c,i+1,n,o)) else Uy fs r (some (c',j,m,o'))
theorem D6 {fs:List LF}:∀{N:LF} {b:Option (Int×Nat×Nat×List LF)} {x},(∀y,b=some y->∀f∈y.2.2.2,f∈fs)->Uy fs N b=some x->∀f∈x.2.2.2,f∈fs
 |[],b,x,hb,h=>hb x h|(0,_)::r,b,x,hb,h=>D6 (N:=r) hb h|(i+1,c)::r,b,x,hb,h=>by
  have hs:∀(n:Nat) (y:Int×Nat×Nat×List LF),some (c,i+1,n,opp (i+1) (ay5 c) fs)=some y->∀f∈y.2.2.2,f∈fs:=by
   intro n y hy f hf;simp only [Option.some.injEq] at hy;subst hy;exact Jj hf
  simp only [Uy,vP] at h;split at h
  .exact D6 (N:=r) (hs _) h
  .rename_i c' j m o';cases hl:Nat.blt (opp (i+1) (ay5 c) fs).length m
   .rw [hl] at h;exact D6 (N:=r) hb h
   .rw [hl] at h;exact D6 (N:=r) (hs _) h
def aqh (N:LF):Bool:=match N with
 |[(0,c)]=>ay5 c|_=>false
def akC (g:LF->Nat->Option Nat):List LF->Nat->Option Nat
 |[],b=>some b|f::r,b=>match g f b with
  |none=>none|some b'=>akC g r b'
def akD : LF->Bool
 |[]=>true|[_]=>true|[_,_]=>true|_=>false
def asx (o:List LF):List LF:=o.filter akD++o.filter fun f=>!(akD f)
theorem akE {o:List LF}{f:LF}(h:f∈asx o):f∈o:=by
 rcases List.mem_append.1 h with h|h<;>exact (List.mem_filter.1 h).1
def zQ : Nat->List LF->LF->Nat->Option Nat
 |0,_,_,b=>some b|d+1,fs,N,b=>match b with
  |0=>some 0|b+1=>match Uy fs N none with
   |none=>bif aqh N then none else some b
   |some (c,i,_,o)=>akC (fun f b=>match zQ d fs (azG c (cof i f) N f) b with
    |none=>none|some b'=>bif aoD c (cof i f) then zQ d fs (Jz N f) b' else some b') (asx o) b
theorem Xg {g:LF->Nat->Option Nat}:∀{l:List LF} {b:Nat},akC g l b=none->∃f∈l,∃b',g f b'=none
 |[],b,h=>by simp [akC] at h
 |f::r,b,h=>by
  simp only [akC] at h;split at h
  .rename_i hg;exact ⟨f,List.mem_cons_self ..,b,hg⟩
  .obtain ⟨f',hf',b',hb'⟩:=Xg h;exact ⟨f',List.mem_cons_of_mem _ hf',b',hb'⟩
theorem Fv {v:Nat->Int}(hv:v 0=1){fs:List LF}(hfs:∀f∈fs,0<=f.ev v):∀{d:Nat} {N:LF} {b:Nat},zQ d fs N b=none->¬0<=N.ev v
 |0,N,b,h=>by simp [zQ] at h
 |d+1,N,b,h=>by
  intro hN;simp only [zQ] at h;split at h
  .cases h
  split at h
  .cases hc:aqh N
   .rw [hc] at h;cases h
   .unfold aqh at hc;split at hc
    .rw [ahv] at hc;simp only [LF.ev,hv] at hN;omega
    .cases hc
  .rename_i c i n o hp;obtain ⟨f,hf,b',h⟩:=Xg h;have hm:=D6 (fs:=fs) (N:=N) (b:=none) (by simp) hp f (akE hf);split at h
   .rename_i h';exact Fv hv hfs h' (ank hN (hfs f hm))
   .cases hq:aoD c (cof i f)
    .rw [hq] at h;cases h
    .rw [hq] at h;exact Fv hv hfs h (by rw [CB];have:=hfs f hm;omega)
def ahw : Option Nat->Bool
 |none=>true|some _=>false
def Iw (fs:List LF)(f:LF):Bool:=ahw (zQ 3 fs (Jz (QM (-1) f) [(0,-1)]) 60)||(ahw (zQ 5 fs (Jz (QM (-1) f) [(0,-1)]) 300)||ahw (zQ 8 fs (Jz (QM (-1) f) [(0,-1)]) 1500))
theorem anl {o:Option Nat}(h:ahw o=true):o=none:=by cases o<;>first|rfl|cases h
theorem Jk {v:Nat->Int}(hv:v 0=1){fs:List LF}(hfs:∀f∈fs,0<=f.ev v){f:LF}(h:Iw fs f=true):0<=f.ev v:=by
 have:¬0<=(Jz (QM (-1) f) [(0,-1)]).ev v:=by
  simp only [Iw,Bool.or_eq_true] at h;rcases h with h|h|h<;>exact Fv hv hfs (anl h)
 rw [CB,Fq] at this;simp only [LF.ev,hv] at this;omega
def vl (ρ:List AV)(az:List Tm):Nat->Int
 |0=>1|i+1=>match az[i]? with
  |some t=>(t.den ρ).I|none=>0
def Hold (ρ:List AV)(az:List Tm)(f:LF)(x:Int):Prop:=∀bs,az <+: bs->f.ev (vl ρ bs)=x
def Pos (ρ:List AV)(az:List Tm)(f:LF):Prop:=∀bs,az <+: bs->0<=f.ev (vl ρ bs)
theorem Hold.mono {ρ:List AV}{az bs:List Tm}{f:LF}{x:Int}(h:Hold ρ az f x)(hp:az <+: bs):Hold ρ bs f x:=fun cs hc=>h cs (hp.trans hc)
theorem Pos.mono {ρ:List AV}{az bs:List Tm}{f:LF}(h:Pos ρ az f)(hp:az <+: bs):Pos ρ bs f:=fun cs hc=>h cs (hp.trans hc)
def yZ (ρ:List AV)(az:List Tm)(fs:List LF):Prop:=∀f∈fs,Pos ρ az f
theorem yZ.mono {ρ:List AV}{az bs:List Tm}{fs:List LF}(h:yZ ρ az fs)(hp:az <+: bs):yZ ρ bs fs:=fun f hf=>(h f hf).mono hp
theorem yZ.cons {ρ:List AV}{az:List Tm}{f:LF}{fs:List LF}(h:Pos ρ az f)(k:yZ ρ az fs):yZ ρ az (f::fs):=fun g hg=>by
 rcases List.mem_cons.1 hg with rfl|hg
 .exact h
 .exact k g hg
theorem yZ.app {ρ:List AV}{az:List Tm}{fs gs:List LF}(h:yZ ρ az fs)(k:yZ ρ az gs):yZ ρ az (fs++gs):=fun g hg=>by
 rcases List.mem_append.1 hg with hg|hg
 .exact h g hg
 .exact k g hg
theorem D7 {ρ:List AV}{az:List Tm}{fs:List LF}(hfs:yZ ρ az fs){f:LF}(h:Iw fs f=true):Pos ρ az f:=fun bs hb=>
 Jk rfl (fun g hg=>hfs g hg bs hb) h
def abd (t:Tm):Nat->List Tm->Option Nat
 |_,[]=>none|i,x::r=>bif x.beq t then some i else abd t (i+1) r
theorem abe {t:Tm}:∀{az:List Tm} {i j:Nat},abd t i az=some j->i<=j/\az[j-i]?=some t
 |[],i,j,h=>by simp [abd] at h
 |x::r,i,j,h=>by
  simp only [abd] at h;cases hb:x.beq t
  .rw [hb] at h;obtain ⟨h1,h2⟩:=abe (az:=r) h;refine ⟨by omega,?_⟩;have:j-i=(j-(i+1))+1:=(by omega);rw [this];simpa using h2
  .rw [hb] at h;simp only [cond_true,Option.some.injEq] at h;subst h;simp [Tm.beq_eq hb]
structure LR where
 az:List Tm
 fs:List LF
 f:LF
def OX (ρ:List AV)(az:List Tm)(r:LR)(x:Int):Prop:=az <+: r.az/\yZ ρ r.az r.fs/\Hold ρ r.az r.f x
def mV (t:Tm)(ex:Nat->List LF)(az:List Tm)(fs:List LF):LR:=
 match abd t 0 az with
 |some i=>⟨az,fs,[(i+1,1)]⟩|none=>Oa az.length fun n=>⟨az++[t],ex (n+1)++fs,[(n+1,1)]⟩
theorem afq {az bs:List Tm}{i:Nat}{t:Tm}(h:az[i]?=some t)(hp:az <+: bs):bs[i]?=some t:=by
 obtain ⟨c,rfl⟩:=hp;have:=(List.getElem?_eq_some_iff.1 h).1;rw [List.getElem?_append_left this,h]
theorem tN {v:Nat->Int}{i:Nat}:LF.ev v [(i,1)]=v i:=by simp [LF.ev]
theorem yR {ρ:List AV}{t:Tm}{ex:Nat->List LF}{az:List Tm}{fs:List LF}(hfs:yZ ρ az fs)
  (hex:∀v:Nat->Int,v 0=1->∀n,v n=(t.den ρ).I->(∀f∈fs,0<=f.ev v)->(∃bs,az <+: bs/\v=vl ρ bs)->∀f∈ex n,0<=f.ev v):OX ρ az (mV t ex az fs) (t.den ρ).I:=by
 unfold mV;split
 .rename_i i h;obtain ⟨-,h2⟩:=abe h;refine ⟨List.prefix_refl _,hfs,fun bs hb=>?_⟩;rw [tN];simp only [vl,afq (by simpa using h2) hb]
 .rw [vP];have hp:az <+: az++[t]:=List.prefix_append _ _;have hv:∀bs,az++[t] <+: bs->vl ρ bs (az.length+1)=(t.den ρ).I:=by
   intro bs hb;have:(az++[t])[az.length]?=some t:=(by simp);simp only [vl,afq this hb]
  refine ⟨hp,yZ.app (fun f hf bs hb=>?_) (hfs.mono hp),fun bs hb=>?_⟩
  .exact hex (vl ρ bs) rfl _ (hv bs hb) (fun g hg=>hfs g hg bs (hp.trans hb)) ⟨bs,hp.trans hb,rfl⟩ f hf
  .rw [tN];exact hv bs hb
def uH (k:IntKind)(fs:List LF)(f:LF):Bool:=Iw fs (oZ f [(0,k.min)])&&Iw fs (oZ [(0,k.max)] f)
theorem afr {k:IntKind}{n:Int}(h0:k.min<=n)(h1:n<=k.max):k.wrap n=n:=by
 cases k<;>simp only [IntKind.min,IntKind.max,IntKind.wrap,IntKind.signed,IntKind.bits] at *<;>simp at *<;>omega
theorem Uz {k:IntKind}{v:Nat->Int}(hv:v 0=1){fs:List LF}(hfs:∀f∈fs,0<=f.ev v){f:LF}(h:uH k fs f=true):k.wrap (f.ev v)=f.ev v:=by
 unfold uH at h;rw [Bool.and_eq_true] at h;have h1:=Jk hv hfs h.1;have h2:=Jk hv hfs h.2;rw [j_] at h1 h2;simp only [LF.ev,hv] at h1 h2;exact afr (by omega) (by omega)
def aoE (n:Nat)(f:LF)(c:Int):List LF:=[[(n,1)],oZ f (QM c [(n,1)]),oZ (Jz (QM c [(n,1)]) [(0,c-1)]) f]
def aoF (n:Nat)(f:LF)(c:Int):List LF:=[[(n,1)],oZ [(0,c-1)] [(n,1)],oZ f [(n,1)]]
def aoG (n:Nat)(f:LF)(c:Int):List LF:=[oZ f (QM c [(n,1)]),oZ (Jz (QM c [(n,1)]) [(0,c-1)]) f]
def YL (n:Nat):List LF:=[[(n,1)]]
def akF (n:Nat):List LF:=[[(n,1)],oZ [(0,255)] [(n,1)]]
def FB (_:Nat):List LF:=[]
def KY : Int->Bool
 | .ofNat (_+1)=>true|_=>false
theorem UA {c:Int}:KY c=true↔0<c:=by
 cases c with
 |ofNat n=>cases n<;>simp [KY]<;>omega
 |negSucc n=>simp [KY]
def adC : Tm->Option Int
 | .li c=>some c|_=>none
theorem MZ {t:Tm}{c:Int}(h:adC t=some c):t=.li c:=by
 cases t<;>simp [adC] at h;subst h;rfl
def aqi (o:BinOp)(k:IntKind)(x y:Tm)(rx ry:LR):LR:=
 let t:Tm:=.bin o (.int k) x y;match o with
 | .add=>let f:=Jz rx.f ry.f;bif uH k ry.fs f then ⟨ry.az,ry.fs,f⟩ else mV t FB ry.az ry.fs
 | .sub=>let f:=oZ rx.f ry.f;bif uH k ry.fs f then ⟨ry.az,ry.fs,f⟩ else mV t FB ry.az ry.fs
 | .mul=>match adC y with
  |some c=>let f:=QM c rx.f;bif uH k ry.fs f then ⟨ry.az,ry.fs,f⟩ else mV t FB ry.az ry.fs
  |none=>match adC x with
   |some c=>let f:=QM c ry.f;bif uH k ry.fs f then ⟨ry.az,ry.fs,f⟩ else mV t FB ry.az ry.fs
   |none=>mV t FB ry.az ry.fs
 | .quo=>match adC y with
  |some c=>bif KY c&&(Iw ry.fs rx.f&&uH k ry.fs rx.f) then mV t (fun n=>aoE n rx.f c) ry.az ry.fs else mV t FB ry.az ry.fs
  |none=>mV t FB ry.az ry.fs
 | .rem=>match adC y with
  |some c=>bif KY c&&Iw ry.fs rx.f then mV t (fun n=>aoF n rx.f c) ry.az ry.fs else mV t FB ry.az ry.fs
  |none=>mV t FB ry.az ry.fs
 | .shr=>match adC y with
  |some c=>bif Nat.beq c.toNat 1 then mV t (fun n=>aoG n rx.f 2) ry.az ry.fs else mV t FB ry.az ry.fs
  |none=>mV t FB ry.az ry.fs
 |_=>mV t FB ry.az ry.fs
def ayT (ks:Pc):Tm->Tm
 | .ite c x y=>match ks.known c with
  |some true=>ayT ks x|some false=>ayT ks y|none=>.ite c x y
 |t=>t
theorem adD {ρ:List AV}{ks:Pc}(hk:ks.holds ρ):∀{t:Tm},(ayT ks t).den ρ=t.den ρ:=by
 intro t;induction t with
 |ite c x y _ ql ihy=>
  simp only [ayT];split
  .rename_i h;rw [ql,Tm.oh,Pc.fM hk h];rfl
  .rename_i h;rw [ihy,Tm.oh,Pc.fM hk h];rfl
  .rfl
 |_=>rfl
def asy (l:List UInt8)(n:Nat):List LF:=Oa l.length fun m=>[[(n,1)],oZ [(0,(m:Int))] [(n,1)]]
def aqj : Tm->Option (List UInt8)
 | .ls l=>some l|_=>none
theorem anm {t:Tm}{l:List UInt8}(h:aqj t=some l):t=.ls l:=by
 cases t<;>simp [aqj] at h;subst h;rfl
def UC (ks:Pc):Tm->List Tm->List LF->LR
 | .ls l,az,fs=>⟨az,fs,Oa l.length fun n=>cns 0 (.ofNat n) []⟩| .bin o k x y,az,fs=>match o with
  | .add=>match k with
   | .str=>match UC ks x az fs with
    |⟨P9,fs1,f1⟩=>match UC ks y P9 fs1 with
     |⟨Xh,YM,f2⟩=>⟨Xh,YM,Jz f1 f2⟩
   |k=>mV (.slen (.bin .add k x y)) YL az fs
  |o=>mV (.slen (.bin o k x y)) YL az fs
 | .ite c x y,az,fs=>match ks.known c with
  |some true=>UC ks x az fs|some false=>UC ks y az fs|none=>mV (.slen (.ite c x y)) YL az fs
 | .Gj x lo hi,az,fs=>match aqj x with
  |some l=>mV (.slen (.Gj x lo hi)) (asy l) az fs|none=>mV (.slen (.Gj x lo hi)) YL az fs
 |t,az,fs=>mV (.slen t) YL az fs
def lin (ks:Pc):Tm->List Tm->List LF->LR
 | .li c,az,fs=>⟨az,fs,cns 0 c []⟩| .bin o kd x y,az,fs=>match kd with
  | .int k=>match lin ks x az fs with
   |⟨P9,fs1,f1⟩=>match lin ks y P9 fs1 with
    |⟨Xh,YM,f2⟩=>aqi o k x y ⟨P9,fs1,f1⟩ ⟨Xh,YM,f2⟩
  |kd=>mV (.bin o kd x y) FB az fs
 | .conv k x,az,fs=>match lin ks x az fs with
  |⟨P9,fs1,f1⟩=>bif uH k fs1 f1 then ⟨P9,fs1,f1⟩ else mV (.conv k x) FB P9 fs1
 | .ite c x y,az,fs=>match ks.known c with
  |some true=>lin ks x az fs|some false=>lin ks y az fs|none=>mV (.ite c x y) FB az fs
 | .rlen x,az,fs=>match ayT ks x with
  | .nl=>⟨az,fs,[]⟩|x'=>mV (.rlen x') YL az fs
 | .slen x,az,fs=>UC ks x az fs| .byte x i,az,fs=>mV (.byte x i) akF az fs|t,az,fs=>mV t FB az fs
theorem uI {ρ:List AV}{t:Tm}{az:List Tm}{fs:List LF}(hfs:yZ ρ az fs):OX ρ az (mV t FB az fs) (t.den ρ).I:=yR hfs (fun _ _ _ _ _ _ f hf=>by simp [FB] at hf)
theorem OX.up {ρ:List AV}{az bs:List Tm}{r:LR}{x:Int}(hp:az <+: bs)(h:OX ρ bs r x):OX ρ az r x:=⟨hp.trans h.1,h.2⟩
theorem akG {ρ:List AV}{az:List Tm}{fs:List LF}{k:IntKind}{f:LF}{x:Int}{t:Tm}(hfs:yZ ρ az fs)(hf:Hold ρ az f x)(ht:(t.den ρ).I=k.wrap x):OX ρ az (bif uH k fs f then ⟨az,fs,f⟩ else mV t FB az fs) (t.den ρ).I:=by
 cases h:uH k fs f
 .exact uI hfs
 .refine ⟨List.prefix_refl _,hfs,fun bs hb=>?_⟩;rw [ht,<- hf bs hb];exact (Uz rfl (fun g hg=>hfs g hg bs hb) h).symm
theorem Hold.add {ρ:List AV}{az:List Tm}{f g:LF}{x y:Int}(h:Hold ρ az f x)(k:Hold ρ az g y):Hold ρ az (Jz f g) (x+y):=fun bs hb=>by rw [CB,h bs hb,k bs hb]
theorem Hold.sub {ρ:List AV}{az:List Tm}{f g:LF}{x y:Int}(h:Hold ρ az f x)(k:Hold ρ az g y):Hold ρ az (oZ f g) (x-y):=fun bs hb=>by rw [j_,h bs hb,k bs hb]
theorem Hold.QM {ρ:List AV}{az:List Tm}{f:LF}{x c:Int}(h:Hold ρ az f x):Hold ρ az (Go.Fw.QM c f) (c*x):=fun bs hb=>by rw [Fq,h bs hb]
theorem ano {ρ:List AV}{o:BinOp}{k:IntKind}{x y:Tm}{rx ry:LR}(h1:Hold ρ rx.az rx.f (x.den ρ).I)(hp:rx.az <+: ry.az)(h2:Hold ρ ry.az ry.f (y.den ρ).I)(hfs:yZ ρ ry.az ry.fs) :
  OX ρ ry.az (aqi o k x y rx ry) ((Tm.bin o (.int k) x y).den ρ).I:=by
 have h1':=h1.mono hp;unfold aqi;cases o<;>dsimp only
 case add=>exact akG hfs (h1'.add h2) rfl
 case sub=>exact akG hfs (h1'.sub h2) rfl
 case mul=>
  split
  .rename_i c hc;have:=MZ hc;subst this;exact akG hfs (h1'.QM (c:=c)) (by show k.wrap ((x.den ρ).I*c)=_;rw [Int.mul_comm])
  .split
   .rename_i c hc;have:=MZ hc;subst this;exact akG hfs (h2.QM (c:=c)) rfl
   .exact uI hfs
 case quo=>
  split
  .rename_i c hc;have:=MZ hc;subst this;cases hq:KY c&&(Iw ry.fs rx.f&&uH k ry.fs rx.f)
   .exact uI hfs
   .simp only [Bool.and_eq_true] at hq;obtain ⟨q1,q2,q3⟩:=hq;rw [UA] at q1;rw [cond_true];refine yR hfs fun v hv n hn hg hbs f hf=>?_;obtain ⟨bs,hb,rfl⟩:=hbs;have a1:=Jk hv hg q2;have a2:=Uz hv hg q3;have e:=h1' bs hb;rw [e] at a1 a2;have hmax:(x.den ρ).I<=k.max/\k.min<=0:=by
     unfold uH at q3;rw [Bool.and_eq_true] at q3;have h2:=Jk hv hg q3.2;rw [j_,e] at h2;simp only [LF.ev,hv] at h2;exact ⟨by omega,by cases k<;>decide⟩
    have hn':(vl ρ bs) n=(x.den ρ).I / c:=by
     rw [hn];show k.wrap ((x.den ρ).I.tdiv c)=_;rw [Int.tdiv_eq_ediv_of_nonneg a1];have b1:0<=(x.den ρ).I / c:=Int.ediv_nonneg a1 (by omega);have b2:(x.den ρ).I / c<=(x.den ρ).I:=Int.ediv_le_self _ a1;exact afr (by omega) (by omega)
    have b1:0<=(x.den ρ).I / c:=Int.ediv_nonneg a1 (by omega);have b3:=Int.mul_ediv_add_emod (x.den ρ).I c;have b4:=Int.emod_nonneg (x.den ρ).I (show c≠0 by omega);have b5:=Int.emod_lt_of_pos (x.den ρ).I q1;simp only [aoE,List.mem_cons,List.not_mem_nil,or_false] at hf;rcases hf with rfl|rfl|rfl
    .rw [tN,hn'];exact b1
    .rw [j_,Fq,tN,e,hn'];omega
    .rw [j_,CB,Fq,tN,e,hn'];simp only [LF.ev,hv];omega
  .exact uI hfs
 case rem=>
  split
  .rename_i c hc;have:=MZ hc;subst this;cases hq:KY c&&Iw ry.fs rx.f
   .exact uI hfs
   .simp only [Bool.and_eq_true] at hq;obtain ⟨q1,q2⟩:=hq;rw [UA] at q1;rw [cond_true];refine yR hfs fun v hv n hn hg hbs f hf=>?_;obtain ⟨bs,hb,rfl⟩:=hbs;have a1:=Jk hv hg q2;have e:=h1' bs hb;rw [e] at a1;have hn':(vl ρ bs) n=(x.den ρ).I % c:=by
     rw [hn];show (x.den ρ).I.tmod c=_;exact Int.tmod_eq_emod_of_nonneg a1
    have b4:=Int.emod_nonneg (x.den ρ).I (show c≠0 by omega);have b5:=Int.emod_lt_of_pos (x.den ρ).I q1;have b3:=Int.mul_ediv_add_emod (x.den ρ).I c;have b6:0<=c*((x.den ρ).I / c):=Int.mul_nonneg (by omega) (Int.ediv_nonneg a1 (by omega));simp only [aoF,List.mem_cons,List.not_mem_nil,or_false] at hf;rcases hf with rfl|rfl|rfl
    .rw [tN,hn'];exact b4
    .rw [j_,tN,hn'];simp only [LF.ev,hv];omega
    .rw [j_,tN,e,hn'];omega
  .exact uI hfs
 case shr=>
  split
  .rename_i c hc;have:=MZ hc;subst this;cases hq:Nat.beq c.toNat 1
   .exact uI hfs
   .have hc1:c.toNat=1:=Nat.eq_of_beq_eq_true hq;rw [cond_true];refine yR hfs fun v hv n hn hg hbs f hf=>?_;obtain ⟨bs,hb,rfl⟩:=hbs;have e:=h1' bs hb;have hn':(vl ρ bs) n=(x.den ρ).I / 2:=by
     rw [hn];show (x.den ρ).I.fdiv (2 ^ (min c.toNat k.bits))=_;rw [hc1,Int.fdiv_eq_ediv_of_nonneg _ (Int.pow_nonneg (by omega))];cases k<;>rfl
    simp only [aoG,List.mem_cons,List.not_mem_nil,or_false] at hf;rcases hf with rfl|rfl
    .rw [j_,Fq,tN,e,hn'];omega
    .rw [j_,CB,Fq,tN,e,hn'];simp only [LF.ev,hv];omega
  .exact uI hfs
 all_goals exact uI hfs
theorem M_ {ρ:List AV}{x:Tm}{az:List Tm}{fs:List LF}(hfs:yZ ρ az fs):OX ρ az (mV (.slen x) YL az fs) ((Tm.slen x).den ρ).I:=by
 refine yR hfs fun v hv n hn hg hbs f hf=>?_;simp only [YL,List.mem_cons,List.not_mem_nil,or_false] at hf;subst hf;rw [tN,hn];exact Int.natCast_nonneg _
theorem anp {ρ:List AV}{ks:Pc}(hk:ks.holds ρ):∀{t:Tm} {az:List Tm} {fs:List LF},yZ ρ az fs->OX ρ az (UC ks t az fs) ((Tm.slen t).den ρ).I:=by
 intro t;induction t with
 |ls l=>exact fun {az fs} hfs=>⟨List.prefix_refl _,hfs,fun bs hb=>by simp only [UC,vP,YK];simp [LF.ev,vl,Tm.den,D.I,D.S,sLen]⟩
 |bin o k x y ql ihy=>
  intro az fs hfs;cases o<;>first|exact M_ hfs|skip
  cases k<;>first|exact M_ hfs|skip
  obtain ⟨a1,a2,a3⟩:=ql hfs;obtain ⟨b1,b2,b3⟩:=ihy (az:=(UC ks x az fs).az) (fs:=(UC ks x az fs).fs) a2;refine ⟨a1.trans b1,b2,fun bs hb=>?_⟩;have h1:=a3.mono b1 bs hb;have h2:=b3 bs hb;show LF.ev _ (Jz _ _)=_;rw [CB,h1,h2];simp [Tm.den,oL,D.I,D.S,sLen]
 |ite c x y _ ql ihy=>
  intro az fs hfs;simp only [UC];split
  .rename_i h;have:=Pc.fM hk h;have e:((Tm.slen (.ite c x y)).den ρ).I=((Tm.slen x).den ρ).I:=(by show (D.i (sLen ((Tm.ite c x y).den ρ).S)).I=_;rw [Tm.oh,this];rfl);rw [e];exact ql hfs
  .rename_i h;have:=Pc.fM hk h;have e:((Tm.slen (.ite c x y)).den ρ).I=((Tm.slen y).den ρ).I:=(by show (D.i (sLen ((Tm.ite c x y).den ρ).S)).I=_;rw [Tm.oh,this];rfl);rw [e];exact ihy hfs
  .exact M_ hfs
 |Gj x lo hi _ _ _=>
  intro az fs hfs;simp only [UC];split
  .rename_i l hl;have:=anm hl;subst this;refine yR hfs fun v hv n hn hg hbs f hf=>?_;simp only [asy,vP,List.mem_cons,List.not_mem_nil,or_false] at hf;have hle:((Tm.slen (.Gj (.ls l) lo hi)).den ρ).I<=(l.length:Int):=by
    simp only [Tm.den,D.I,D.S,sLen];rw [List.length_take,List.length_drop];omega
   rcases hf with rfl|rfl
   .rw [tN,hn];exact Int.natCast_nonneg _
   .rw [j_,tN,hn];simp only [LF.ev,hv];omega
  .exact M_ hfs
 |_=>intro az fs hfs;exact M_ hfs
theorem OY {ρ:List AV}{ks:Pc}(hk:ks.holds ρ):∀{t:Tm} {az:List Tm} {fs:List LF},yZ ρ az fs->OX ρ az (lin ks t az fs) (t.den ρ).I:=by
 intro t;induction t with
 |li c=>exact fun {az fs} hfs=>⟨List.prefix_refl _,hfs,fun bs hb=>by simp only [lin,YK];simp [LF.ev,vl,Tm.den,D.I]⟩
 |bin o kd x y ql ihy=>
  intro az fs hfs;cases kd with
  |int k=>
   obtain ⟨a1,a2,a3⟩:=ql hfs;obtain ⟨b1,b2,b3⟩:=ihy (az:=(lin ks x az fs).az) (fs:=(lin ks x az fs).fs) a2;exact OX.up (a1.trans b1) (ano (rx:=lin ks x az fs) a3 b1 b3 b2)
  |_=>exact uI hfs
 |conv k x ih=>
  intro az fs hfs;obtain ⟨a1,a2,a3⟩:=ih hfs;exact OX.up a1 (akG a2 a3 rfl)
 |ite c x y _ ql ihy=>
  intro az fs hfs;simp only [lin];split
  .rename_i h;have:=Pc.fM hk h;rw [Tm.oh,this];exact ql hfs
  .rename_i h;have:=Pc.fM hk h;rw [Tm.oh,this];exact ihy hfs
  .exact uI hfs
 |rlen x _=>
  intro az fs hfs;have e:((Tm.rlen x).den ρ).I=((Tm.rlen (ayT ks x)).den ρ).I:=by simp only [Tm.den,adD hk]
  rw [e];simp only [lin];split
  .rename_i hc;rw [hc];exact ⟨List.prefix_refl _,hfs,fun bs hb=>rfl⟩
  refine yR hfs fun v hv n hn hg hbs f hf=>?_;simp only [YL,List.mem_cons,List.not_mem_nil,or_false] at hf;subst hf;rw [tN,hn];exact Int.natCast_nonneg _
 |slen x _=>intro az fs hfs;exact anp hk hfs|byte x i _ _=>
  intro az fs hfs;refine yR hfs fun v hv n hn hg hbs f hf=>?_;have h0:((Tm.byte x i).den ρ).I=(((x.den ρ).S.getD (i.den ρ).I.toNat 0).toNat:Int):=rfl;have h1:=UInt8.toNat_lt ((x.den ρ).S.getD (i.den ρ).I.toNat 0);simp only [akF,List.mem_cons,List.not_mem_nil,or_false] at hf;rcases hf with rfl|rfl
  .rw [tN,hn,h0];omega
  .rw [j_,tN,hn,h0];simp only [LF.ev,hv];omega
 |_=>exact fun hfs=>uI hfs
def anq (o:BinOp)(b:Bool)(x y:LF):Option (List LF):=
 let one:LF:=[(0,1)];match o,b with
 | .lss,true=>some [oZ (oZ y x) one]| .lss,false=>some [oZ x y]| .leq,true=>some [oZ y x]| .leq,false=>some [oZ (oZ x y) one]| .gtr,true=>some [oZ (oZ x y) one]| .gtr,false=>some [oZ y x]| .geq,true=>some [oZ x y]| .geq,false=>some [oZ (oZ y x) one]| .eql,true=>some [oZ x y,oZ y x]| .neq,false=>some [oZ x y,oZ y x]|_,_=>none
def Xi (o:BinOp)(b:Bool):Bool:=match o,b with
 | .eql,false=>true| .neq,true=>true|_,_=>false
theorem afs {o:BinOp}{k:IntKind}{b:Bool}{x y:LF}{X Y:D}{v:Nat->Int}(hv:v 0=1){l:List LF}(h:anq o b x y=some l)(hx:x.ev v=X.I)(hy:y.ev v=Y.I):(∀f∈l,0<=f.ev v)↔(oL o (.int k) X Y).B=b:=by
 have one:LF.ev v [(0,1)]=1:=by simp [LF.ev,hv]
 cases o<;>cases b<;>simp only [anq] at h<;>first|(cases h;done)|skip
 all_goals
  simp only [Option.some.injEq] at h;subst h;simp only [List.mem_cons,List.not_mem_nil,or_false,forall_eq_or_imp,forall_eq,j_,hx,hy,one,oL,D.B,dU,jk,decide_eq_true_eq,decide_eq_false_iff_not,beq_iff_eq,bne_eq_false_iff_eq];omega
theorem abf {o:BinOp}{k:IntKind}{b:Bool}{X Y:D}(h:Xi o b=true):(oL o (.int k) X Y).B=b↔X.I≠Y.I:=by
 cases o<;>cases b<;>simp [Xi] at h<;>simp [oL,D.B,dU,jk]
structure AS where
 az:List Tm
 fs:List LF
def VB (ρ:List AV)(s:AS):Prop:=yZ ρ s.az s.fs
def aqk (ks:Pc)(o:BinOp)(b:Bool)(x y:Tm)(s:AS):AS:=
 match lin ks x s.az s.fs with
 |⟨P9,fs1,f1⟩=>match lin ks y P9 fs1 with
  |⟨Xh,YM,f2⟩=>match anq o b f1 f2 with
   |some l=>⟨Xh,l++YM⟩|none=>bif Xi o b then
     bif Iw YM (oZ f1 f2) then ⟨Xh,oZ (oZ f1 f2) [(0,1)]::YM⟩ else bif Iw YM (oZ f2 f1) then ⟨Xh,oZ (oZ f2 f1) [(0,1)]::YM⟩ else ⟨Xh,YM⟩
    else ⟨Xh,YM⟩
def Na (ks:Pc):Tm->Bool->AS->AS
 | .not x,b,s=>Na ks x (!b) s| .and x y,b,s=>match b with
  |true=>Na ks y true (Na ks x true s)|false=>s
 | .or x y,b,s=>match b with
  |true=>s|false=>Na ks y false (Na ks x false s)
 | .bin o kd x y,b,s=>match kd with
  | .int _=>aqk ks o b x y s|_=>s
 |_,_,s=>s
theorem anr {ρ:List AV}{ks:Pc}(hk:ks.holds ρ){o:BinOp}{k:IntKind}{b:Bool}{x y:Tm}{s:AS}(hs:VB ρ s)(h:((Tm.bin o (.int k) x y).den ρ).B=b):VB ρ (aqk ks o b x y s):=by
 obtain ⟨a1,a2,a3⟩:=OY hk (t:=x) hs;obtain ⟨b1,b2,b3⟩:=OY hk (t:=y) (az:=(lin ks x s.az s.fs).az) (fs:=(lin ks x s.az s.fs).fs) a2;have a3':=a3.mono b1;unfold aqk;dsimp only;split
 .rename_i l hl;exact yZ.app (fun f hf bs hb=>(afs (k:=k) rfl hl (a3' bs hb) (b3 bs hb)).2 h f hf) b2
 .cases hd:Xi o b
  .exact b2
  .have hne:=(abf (k:=k) hd).1 h;simp only [cond_true];have one:∀bs,LF.ev (vl ρ bs) [(0,1)]=1:=(by simp [LF.ev,vl]);cases h1:Iw (lin ks y (lin ks x s.az s.fs).az (lin ks x s.az s.fs).fs).fs (oZ (lin ks x s.az s.fs).f (lin ks y (lin ks x s.az s.fs).az (lin ks x s.az s.fs).fs).f)
   .simp only [cond_false];cases h2:Iw (lin ks y (lin ks x s.az s.fs).az (lin ks x s.az s.fs).fs).fs (oZ (lin ks y (lin ks x s.az s.fs).az (lin ks x s.az s.fs).fs).f (lin ks x s.az s.fs).f)
    .exact b2
    .refine yZ.cons (fun bs hb=>?_) b2;have q:=D7 b2 h2 bs hb;rw [j_,a3' bs hb,b3 bs hb] at q;rw [j_,j_,a3' bs hb,b3 bs hb,one];omega
   .refine yZ.cons (fun bs hb=>?_) b2;have q:=D7 b2 h1 bs hb;rw [j_,a3' bs hb,b3 bs hb] at q;rw [j_,j_,a3' bs hb,b3 bs hb,one];omega
theorem UD {ρ:List AV}{ks:Pc}(hk:ks.holds ρ):∀{t:Tm} {b:Bool} {s:AS},VB ρ s->(t.den ρ).B=b->VB ρ (Na ks t b s):=by
 intro t;induction t with
 |not x ih=>exact fun hs h=>ih hs (by rw [<- h];simp [Tm.den,D.B])
 |and x y ql ihy=>
  intro b s hs h;cases b
  .exact hs
  .have h':(x.den ρ).B=true/\(y.den ρ).B=true:=(by simpa [Tm.den,D.B] using h);exact ihy (ql hs h'.1) h'.2
 |or x y ql ihy=>
  intro b s hs h;cases b
  .have h':(x.den ρ).B=false/\(y.den ρ).B=false:=(by simpa [Tm.den,D.B] using h);exact ihy (ql hs h'.1) h'.2
  .exact hs
 |bin o kd x y _ _=>
  intro b s hs h;cases kd with
  |int k=>exact anr hk (k:=k) hs h|_=>exact hs
 |_=>exact fun hs _=>hs
def UE (ks:Pc):Pc->AS->AS
 |[],s=>s|x::r,s=>Na ks x.1 x.2 (UE ks r s)
theorem Jl {ρ:List AV}{ks:Pc}(hk:ks.holds ρ):∀{pc:Pc} {s:AS},pc.holds ρ->VB ρ s->VB ρ (UE ks pc s)
 |[],s,_,hs=>hs|x::r,s,hp,hs=>UD hk (Jl hk (fun y hy=>hp y (List.mem_cons_of_mem _ hy)) hs) (hp x (List.mem_cons_self ..))
def aql (ks:Pc)(o:BinOp)(b:Bool)(x y:Tm)(s:AS):Bool:=
 match lin ks x s.az s.fs with
 |⟨P9,fs1,f1⟩=>match lin ks y P9 fs1 with
  |⟨Xh,YM,f2⟩=>match anq o b f1 f2 with
   |some l=>l.all (Iw YM)|none=>Xi o b&&(Iw YM (oZ (oZ f1 f2) [(0,1)])||Iw YM (oZ (oZ f2 f1) [(0,1)]))
def Gq (ks:Pc):Tm->Bool->AS->Bool
 | .lb v,b,_=>v == b| .not x,b,s=>Gq ks x (!b) s| .and x y,b,s=>match b with
  |true=>Gq ks x true s&&Gq ks y true s|false=>Gq ks x false s||Gq ks y false (Na ks x true s)
 | .or x y,b,s=>match b with
  |true=>Gq ks x true s||Gq ks y true (Na ks x false s)
  |false=>Gq ks x false s&&Gq ks y false s
 | .bin o kd x y,b,s=>match ks.known (.bin o kd x y) with
  |some v=>v == b|none=>match kd with
   | .int _=>aql ks o b x y s|_=>false
 |t,b,_=>match ks.known t with
  |some v=>v == b|none=>false
theorem ant {ρ:List AV}{ks:Pc}(hk:ks.holds ρ){o:BinOp}{k:IntKind}{b:Bool}{x y:Tm}{s:AS}(hs:VB ρ s)(h:aql ks o b x y s=true):((Tm.bin o (.int k) x y).den ρ).B=b:=by
 obtain ⟨a1,a2,a3⟩:=OY hk (t:=x) hs;obtain ⟨b1,b2,b3⟩:=OY hk (t:=y) (az:=(lin ks x s.az s.fs).az) (fs:=(lin ks x s.az s.fs).fs) a2;have a3':=a3.mono b1;unfold aql at h;dsimp only at h;have rf:=List.prefix_refl (lin ks y (lin ks x s.az s.fs).az (lin ks x s.az s.fs).fs).az;split at h
 .rename_i l hl;rw [List.all_eq_true] at h;exact (afs (k:=k) rfl hl (a3' _ rf) (b3 _ rf)).1 fun f hf=>D7 b2 (h f hf) _ rf
 .rw [Bool.and_eq_true] at h;refine (abf (k:=k) h.1).2 ?_;have one:∀bs,LF.ev (vl ρ bs) [(0,1)]=1:=by simp [LF.ev,vl]
  have h2:=h.2;rw [Bool.or_eq_true] at h2;rcases h2 with h2|h2
  .have q:=D7 b2 h2 _ rf;rw [j_,j_,a3' _ rf,b3 _ rf,one] at q;intro e;omega
  .have q:=D7 b2 h2 _ rf;rw [j_,j_,a3' _ rf,b3 _ rf,one] at q;intro e;omega
theorem afu {ρ:List AV}{ks:Pc}(hk:ks.holds ρ):∀{t:Tm} {b:Bool} {s:AS},VB ρ s->Gq ks t b s=true->(t.den ρ).B=b:=by
 intro t
 have oth:∀{t:Tm} {b:Bool},(match ks.known t with|some v=>v == b|none=>false)=true->(t.den ρ).B=b:=by
  intro t b h;split at h
  .rename_i v hv;rw [Pc.fM hk hv];simpa using h
  .cases h
 induction t with
 |lb v=>exact fun hs h=>by simpa [Gq,Tm.den,D.B] using h
 |not x ih=>intro b s hs h;have:=ih (b:=!b) hs h;show (!(x.den ρ).B)=b;rw [this];simp|and x y ql ihy=>
  intro b s hs h;cases b
  .simp only [Gq,Bool.or_eq_true] at h;show ((x.den ρ).B&&(y.den ρ).B)=false;cases hx:(x.den ρ).B
   .rfl
   .rcases h with h|h
    .rw [ql hs h] at hx;cases hx
    .rw [ihy (UD hk hs hx) h];rfl
  .simp only [Gq,Bool.and_eq_true] at h;show ((x.den ρ).B&&(y.den ρ).B)=true;rw [ql hs h.1,ihy hs h.2];rfl
 |or x y ql ihy=>
  intro b s hs h;cases b
  .simp only [Gq,Bool.and_eq_true] at h;show ((x.den ρ).B||(y.den ρ).B)=false;rw [ql hs h.1,ihy hs h.2];rfl
  .simp only [Gq,Bool.or_eq_true] at h;show ((x.den ρ).B||(y.den ρ).B)=true;cases hx:(x.den ρ).B
   .rcases h with h|h
    .rw [ql hs h] at hx;cases hx
    .rw [ihy (UD hk hs hx) h];rfl
   .rfl
 |bin o kd x y _ _=>
  intro b s hs h;simp only [Gq] at h;split at h
  .rename_i v hv;rw [Pc.fM hk hv];simpa using h
  .split at h
   .exact ant hk hs h
   .cases h
 |_=>exact fun hs h=>oth h
def Iy : Tm->Option Tm
 | .ite c _ _=>some c| .bin _ _ x y=>match Iy x with|some c=>some c|none=>Iy y
 | .and x y=>match Iy x with|some c=>some c|none=>Iy y
 | .or x y=>match Iy x with|some c=>some c|none=>Iy y
 | .not x=>Iy x| .conv _ x=>Iy x| .rlen x=>Iy x| .slen x=>Iy x|_=>none
def Jm (ks:Pc):Pc->Option Tm
 |[]=>none|x::r=>match Iy x.1 with
  |some c=>match ks.known c with|none=>some c|some _=>Jm ks r
  |none=>Jm ks r
def asz : Tm->Bool->Bool
 | .not t,b=>asz t (!b)| .bin o (.int _) _ _,b=>Xi o b|_,_=>false
def auW (F:Pc):Pc:=F.filter fun x=>asz x.1 x.2
def azm : Tm->Bool
 | .not t=>azm t| .and x y=>azm x||azm y
 | .or x y=>azm x||azm y
 | .bin o _ x y=>match o with
  | .lss | .leq | .gtr | .geq | .eql | .neq=>azm x||azm y
  |_=>true
 | .conv _ _=>true| .ite _ _ _=>true|_=>false
def asF (F:Pc):AS:=UE F (auW F) (UE F (F.filter fun x=>azm x.1) (UE F (F.filter fun x=>!(azm x.1)) ⟨[],[]⟩))
theorem Pc.FD {ρ:List AV}{F:Pc}{p:Tm×Bool->Bool}(h:F.holds ρ):Pc.holds ρ (F.filter p):=fun x hx=>h x (List.mem_filter.1 hx).1
theorem YN {ρ:List AV}{F:Pc}(h:F.holds ρ):VB ρ (asF F):=Jl h (Pc.FD h) (Jl h (Pc.FD h) (Jl h (Pc.FD h) (fun f hf=>by cases hf)))
def hlf (pc:Pc):Tm->Bool->Pc
 | .and x y,b=>match b with
  |true=>[]|false=>match pc.known x with
   |some true=>(y,false)::hlf pc y false|_=>match pc.known y with
    |some true=>(x,false)::hlf pc x false|_=>[]
 | .or x y,b=>match b with
  |false=>[]|true=>match pc.known x with
   |some false=>(y,true)::hlf pc y true|_=>match pc.known y with
    |some false=>(x,true)::hlf pc x true|_=>[]
 | .not x,b=>hlf pc x (!b)|_,_=>[]
theorem aqn {ρ:List AV}{pc:Pc}(h:pc.holds ρ):∀{t:Tm} {b:Bool},(t.den ρ).B=b->Pc.holds ρ (hlf pc t b):=by
 intro t;induction t with
 |and x y ql ihy=>
  intro b e;cases b
  .have e':((x.den ρ).B&&(y.den ρ).B)=false:=e;simp only [hlf];split
   .rename_i hx;rw [Pc.fM h hx,Bool.true_and] at e';exact Pc.iw e' (ihy e')
   .split
    .rename_i hy;rw [Pc.fM h hy,Bool.and_true] at e';exact Pc.iw e' (ql e')
    .exact fun x hx=>by cases hx
  .exact fun x hx=>by cases hx
 |or x y ql ihy=>
  intro b e;cases b
  .exact fun x hx=>by cases hx
  .have e':((x.den ρ).B||(y.den ρ).B)=true:=e;simp only [hlf];split
   .rename_i hx;rw [Pc.fM h hx,Bool.false_or] at e';exact Pc.iw e' (ihy e')
   .split
    .rename_i hy;rw [Pc.fM h hy,Bool.or_false] at e';exact Pc.iw e' (ql e')
    .exact fun x hx=>by cases hx
 |not x ih=>
  intro b e;have e':(!(x.den ρ).B)=b:=e;exact ih (by rw [<- e'];simp)
 |_=>intro b e x hx;cases hx
def ahx (G:Pc):Pc:=G.flatMap (fun x=>hlf G x.1 x.2)++G
theorem Nb {ρ:List AV}{G:Pc}(h:G.holds ρ):Pc.holds ρ (ahx G):=fun x hx=>by
 rcases List.mem_append.1 hx with hx|hx
 .obtain ⟨y,hy,hx⟩:=List.mem_flatMap.1 hx;exact aqn h (h y hy) x hx
 .exact h x hx
def ayN : Nat->Pc->Tm->Bool
 |0,F,t=>Gq F t true (asF F)|n+1,F,t=>Gq F t true (asF F)||(match Jm F ((t,true)::F) with
  |none=>false|some c=>ayN n (ahx ((c,true)::F)) t&&ayN n (ahx ((c,false)::F)) t)
theorem yS {ρ:List AV}{t:Tm}:∀{n:Nat} {F:Pc},ayN n F t=true->F.holds ρ->(t.den ρ).B=true
 |0,F,h,hF=>afu hF (YN hF) h|n+1,F,h,hF=>by
  simp only [ayN,Bool.or_eq_true] at h;rcases h with h|h
  .exact afu hF (YN hF) h
  .split at h
   .cases h
   .rename_i c _;rw [Bool.and_eq_true] at h;cases hc:(c.den ρ).B
    .exact yS h.2 (Nb (Pc.iw hc hF))
    .exact yS h.1 (Nb (Pc.iw hc hF))
def azd (F:Pc):Bool:=match asF F with
 |⟨_,fs⟩=>fs.any fun f=>ahw (zQ 3 fs f 40)
theorem ahy {ρ:List AV}{F:Pc}(h:azd F=true)(hF:F.holds ρ):False:=by
 have hs:=YN hF;unfold azd at h;rw [List.any_eq_true] at h;obtain ⟨f,hf,h⟩:=h;unfold ahw at h;split at h
 .rename_i e;have hp:∀g∈(asF F).fs,0<=g.ev (vl ρ (asF F).az):=fun g hg=>hs g hg _ (List.prefix_refl _);exact Fv rfl hp e (hp f hf)
 .cases h
end Go.Fw
end
section
namespace Go.Fw
variable [iT]
inductive Ek where|B|I|F|S|R
def FH : Ek->D->D->Prop
 | .B,d,d'=>d.B=d'.B| .I,d,d'=>d.I=d'.I| .F,d,d'=>d.F=d'.F| .S,d,d'=>d.S=d'.S| .R,d,d'=>d.R=d'.R
theorem FH.of_eq {e:Ek}{d d':D}(h:d=d'):FH e d d':=by subst h;cases e<;>rfl
def OZ : SV->List Nat->Option SV
 |v,[]=>some v| .agg l,j::p=>match zu l j with|some x=>OZ x p|none=>none
 | .gW l,j::p=>match zu l j with|some x=>OZ x p|none=>none
 |_,_::_=>none
def afv : Ek->SV->Option Tm
 | .B,.sc .bool t=>some t| .I,.sc (.int _) t=>some t| .F,.sc .jL t=>some t| .S,.sc .str t=>some t| .R,.sc .sl t=>some t| .R,.sf t=>some t| .R,.nil=>some .nl| .R,.slc [] _=>some .nl|_,_=>none
def afw (base:Nat)(l:List SV)(i:Nat)(p:List Nat):Option SV:=match zu l (i-base) with
 |some v=>OZ v p|none=>none
def aoH : SV->Option Tm
 | .slc rows _=>Oa rows.length fun n=>some (.li (.ofNat n))
 |v=>match afv .R v with|some t=>some (.rlen t)|none=>none
def asA : Kd->Option Ek
 | .bool=>some .B| .int _=>some .I| .jL=>some .F| .str=>some .S| .sl=>none
def azr : Tm->Option (Nat×List Nat)
 | .var i p=>some (i,p)|_=>none
theorem akH {t:Tm}{x:Nat×List Nat}(h:azr t=some x):t=.var x.1 x.2:=by
 cases t<;>simp [azr] at h;subst h;rfl
def jh (base:Nat)(l:List SV):Ek->Tm->Option Tm
 |_,.lb v=>some (.lb v)|_,.li v=>some (.li v)|_,.lf v=>some (.lf v)|_,.ls v=>some (.ls v)|_,.nl=>some .nl|e,.var i p=>bif Nat.blt i base then some (.var i p) else match afw base l i p with
  |some v=>afv e v|none=>none
 |_,.bin o k x y=>match asA k with
  |none=>none|some e=>match jh base l e x with
   |none=>none|some x'=>match jh base l e y with
    |none=>none|some y'=>some (.bin o k x' y')
 |_,.not x=>match jh base l .B x with|none=>none|some x'=>some (.not x')
 |_,.and x y=>match jh base l .B x with
  |none=>none|some x'=>match jh base l .B y with|none=>none|some y'=>some (.and x' y')
 |_,.or x y=>match jh base l .B x with
  |none=>none|some x'=>match jh base l .B y with|none=>none|some y'=>some (.or x' y')
 |e,.ite c x y=>match jh base l .B c with
  |none=>none|some c'=>match jh base l e x with
   |none=>none|some x'=>match jh base l e y with|none=>none|some y'=>some (.ite c' x' y')
 |_,.conv k x=>match jh base l .I x with|none=>none|some x'=>some (.conv k x')
 |_,.slen x=>match jh base l .S x with|none=>none|some x'=>some (.slen x')
 |_,.rlen x=>match azr x with
  |some q=>bif Nat.blt q.1 base then some (.rlen (.var q.1 q.2)) else match afw base l q.1 q.2 with
   |some v=>aoH v|none=>none
  |none=>match jh base l .R x with|none=>none|some x'=>some (.rlen x')
 |_,.byte x i=>match jh base l .S x with
  |none=>none|some x'=>match jh base l .I i with|none=>none|some i'=>some (.byte x' i')
 |_,_=>none
theorem UF {ρ:List AV}:∀{p:List Nat} {v w:SV},OZ v p=some w->ayr (v.den ρ) p=w.den ρ
 |[],v,w,h=>by
  simp only [OZ,Option.some.injEq] at h;subst h;cases v.den ρ<;>rfl
 |j::p,v,w,h=>by
  cases v<;>simp only [OZ] at h<;>first|(cases h;done)|skip
  all_goals
   split at h
   .rename_i l x hx;have e:=DC (ρ:=ρ) hx;simp only [SV.den,ayr,List.getD_eq_getElem?_getD,e,Option.getD_some];exact UF h
   .cases h
theorem Xj {ρ:List AV}{e:Ek}{v:SV}{t:Tm}(h:afv e v=some t):FH e (t.den ρ) (v.den ρ).D:=by
 unfold afv at h;split at h<;>first|(cases h;done)|(simp only [Option.some.injEq] at h;subst h;rfl)
theorem QN {ρ:List AV}{base i:Nat}{m:List AV}(hb:base<=ρ.length)(hi:i<base):(ρ.take base++m).getD i eX=ρ.getD i eX:=by
 have:i<(ρ.take base).length:=by rw [List.length_take];omega
 rw [List.getD_eq_getElem?_getD,List.getD_eq_getElem?_getD,List.getElem?_append_left this,List.getElem?_take,if_pos hi]
theorem O0 {ρ:List AV}{base:Nat}{l:List SV}(hb:base<=ρ.length){i:Nat}{p:List Nat}{v:SV}(hi:¬i<base)(h:afw base l i p=some v):ayr ((ρ.take base++dK ρ l).getD i eX) p=v.den ρ:=by
 unfold afw at h;split at h
 .rename_i w hw;have hl:(ρ.take base).length=base:=by rw [List.length_take];omega
  rw [List.getD_eq_getElem?_getD,List.getElem?_append_right (by omega),hl,DC hw];exact UF h
 .cases h
theorem D8 {ρ:List AV}{base:Nat}{l:List SV}(hb:base<=ρ.length):∀{t:Tm} {e:Ek} {t':Tm},jh base l e t=some t'->FH e (t'.den ρ) (t.den (ρ.take base++dK ρ l)):=by
 intro t;induction t with
 |lb v=>intro e t' h;simp only [jh,Option.some.injEq] at h;subst h;exact .of_eq rfl|li v=>intro e t' h;simp only [jh,Option.some.injEq] at h;subst h;exact .of_eq rfl|lf v=>intro e t' h;simp only [jh,Option.some.injEq] at h;subst h;exact .of_eq rfl|ls v=>intro e t' h;simp only [jh,Option.some.injEq] at h;subst h;exact .of_eq rfl|nl=>intro e t' h;simp only [jh,Option.some.injEq] at h;subst h;exact .of_eq rfl|var i p=>
  intro e t' h;simp only [jh] at h;cases hi:Nat.blt i base
  .rw [hi] at h;have hi':¬i<base:=fun q=>by rw [show Nat.blt i base=true by rw [Nat.blt_eq];exact q] at hi;cases hi
   simp only [cond_false] at h;split at h
   .rename_i v hv;have:=Xj (ρ:=ρ) h;simp only [Tm.den,O0 hb hi' hv];exact this
   .cases h
  .rw [hi] at h;simp only [cond_true,Option.some.injEq] at h;subst h;rw [Nat.blt_eq] at hi;exact .of_eq (by simp only [Tm.den,QN hb hi])
 |bin o k x y ql ihy=>
  intro e t' h;simp only [jh] at h;split at h
  .cases h
  rename_i e' he;split at h
  .cases h
  rename_i x' hx;split at h
  .cases h
  rename_i y' hy;simp only [Option.some.injEq] at h;subst h;have h1:=ql hx;have h2:=ihy hy;refine .of_eq ?_;cases k<;>simp only [asA,Option.some.injEq] at he<;>first|(cases he;done)|skip
  all_goals
   subst he;simp only [FH] at h1 h2;simp only [Tm.den];cases o<;>simp only [oL,h1,h2]
 |not x ih=>
  intro e t' h;simp only [jh] at h;split at h
  .cases h
  rename_i x' hx;simp only [Option.some.injEq] at h;subst h;have h1:=ih hx;simp only [FH] at h1;exact .of_eq (by simp only [Tm.den,h1])
 |and x y ql ihy=>
  intro e t' h;simp only [jh] at h;split at h
  .cases h
  rename_i x' hx;split at h
  .cases h
  rename_i y' hy;simp only [Option.some.injEq] at h;subst h;have h1:=ql hx;have h2:=ihy hy;simp only [FH] at h1 h2;exact .of_eq (by simp only [Tm.den,h1,h2])
 |or x y ql ihy=>
  intro e t' h;simp only [jh] at h;split at h
  .cases h
  rename_i x' hx;split at h
  .cases h
  rename_i y' hy;simp only [Option.some.injEq] at h;subst h;have h1:=ql hx;have h2:=ihy hy;simp only [FH] at h1 h2;exact .of_eq (by simp only [Tm.den,h1,h2])
 |ite c x y ihc ql ihy=>
  intro e t' h;simp only [jh] at h;split at h
  .cases h
  rename_i c' hc;split at h
  .cases h
  rename_i x' hx;split at h
  .cases h
  rename_i y' hy;simp only [Option.some.injEq] at h;subst h;have h0:=ihc hc;have h1:=ql hx;have h2:=ihy hy;simp only [FH] at h0;rw [Tm.oh,Tm.oh,h0];cases (c.den (ρ.take base++dK ρ l)).B
  .exact h2
  .exact h1
 |conv k x ih=>
  intro e t' h;simp only [jh] at h;split at h
  .cases h
  rename_i x' hx;simp only [Option.some.injEq] at h;subst h;have h1:=ih hx;simp only [FH] at h1;exact .of_eq (by simp only [Tm.den,h1])
 |slen x ih=>
  intro e t' h;simp only [jh] at h;split at h
  .cases h
  rename_i x' hx;simp only [Option.some.injEq] at h;subst h;have h1:=ih hx;simp only [FH] at h1;exact .of_eq (by simp only [Tm.den,h1])
 |rlen x ih=>
  intro e t' h;simp only [jh] at h;split at h
  .rename_i q hq;have:=akH hq;subst this;obtain ⟨i,p⟩:=q;dsimp only at h ⊢;cases hi:Nat.blt i base
   .rw [hi] at h;have hi':¬i<base:=fun q=>by rw [show Nat.blt i base=true by rw [Nat.blt_eq];exact q] at hi;cases hi
    simp only [cond_false] at h;split at h
    .rename_i v hv;unfold aoH at h;split at h
     .rename_i rows fl;simp only [vP,Option.some.injEq] at h;subst h;refine .of_eq ?_;simp only [Tm.den,O0 hb hi' hv,SV.den,AV.D,D.R,nM,fC];rfl
     .split at h
      .rename_i t0 ht0;simp only [Option.some.injEq] at h;subst h;have:=Xj (ρ:=ρ) ht0;simp only [FH] at this;refine .of_eq ?_;simp only [Tm.den,O0 hb hi' hv,this]
      .cases h
    .cases h
   .rw [hi] at h;simp only [cond_true,Option.some.injEq] at h;subst h;rw [Nat.blt_eq] at hi;exact .of_eq (by simp only [Tm.den,QN hb hi])
  .split at h
   .cases h
   rename_i x' hx;simp only [Option.some.injEq] at h;subst h;have h1:=ih hx;simp only [FH] at h1;exact .of_eq (by simp only [Tm.den,h1])
 |byte x y ql ihy=>
  intro e t' h;simp only [jh] at h;split at h
  .cases h
  rename_i x' hx;split at h
  .cases h
  rename_i y' hy;simp only [Option.some.injEq] at h;subst h;have h1:=ql hx;have h2:=ihy hy;simp only [FH] at h1 h2;exact .of_eq (by simp only [Tm.den,h1,h2])
 |_=>intro e t' h;simp [jh] at h
def Gw (a b:Tm):Tm:=.bin .leq (.int .i64) a b
def tLt (a b:Tm):Tm:=.bin .lss (.int .i64) a b
def tEq (a b:Tm):Tm:=.bin .eql (.int .i64) a b
def anu (a b:Tm):Tm:=.bin .add (.int .i64) a b
def big : Int:=4294967296
def akI (n:Nat):Tm:=Oa n fun n=>ZL (big-(n:Int)) .li
def anv (n:Nat):Tm:=Oa n fun n=>.li (.ofNat n)
def aoI (x:Tm):Tm:=.bin .sub (.int .i64) (.li big) x
def Side.cnd : Side->List Tm
 | .tm t=>[t]| .row t i _=>[Gw (.li 0) i,tLt i (.rlen t)]| .rd _ t i _ _=>[Gw (.li 0) i,tLt i (.rlen t)]| .st t i _ _ _=>[Gw (.li 0) i,tLt i (.rlen t)]| .sub _ t lo hi _=>match lo,hi with
  |none,none=>[]|none,some h=>[Gw (.li 0) h,Gw h (.rlen t)]|some l,none=>[Gw (.li 0) l,Gw l (.rlen t)]|some l,some h=>[Gw (.li 0) l,Gw l h,Gw h (.rlen t)]
 | .mk len cap _ _=>[Gw (.li 0) len,Gw len cap,Gw cap (.li big)]| .app _ x y _=>[Gw (.rlen x) (akI y.length)]| .ZQ _ x y _=>[Gw (.rlen y) (.li big),Gw (.rlen x) (aoI (.rlen y))]| .len2 m y=>[Gw (.rlen y) (akI m)]| .cat x y=>[Gw (.slen y) (.li big),Gw (.slen x) (aoI (.slen y))]| .cpy x len _ _=>[Gw len (.rlen x)]| .mark _ _ d len _=>[Gw len (.rlen d)]| .agy _ x y _=>[Gw (.rlen y) (akI x.length)]|_=>[]
def mO (ρ:List AV):List Tm->Prop
 |[]=>True|t::r=>(t.den ρ).B=true/\mO ρ r
theorem mO.of {ρ:List AV}:∀{l:List Tm},(∀t∈l,(t.den ρ).B=true)->mO ρ l
 |[],_=>trivial|t::r,h=>⟨h t (List.mem_cons_self ..),mO.of fun x hx=>h x (List.mem_cons_of_mem _ hx)⟩
theorem mO.mem {ρ:List AV}:∀{l:List Tm},mO ρ l->∀t∈l,(t.den ρ).B=true
 |[],_,t,ht=>by cases ht
 |x::r,h,t,ht=>by
  rcases List.mem_cons.1 ht with rfl|ht
  .exact h.1
  .exact mO.mem h.2 t ht
structure Sp where
 pre:List Tm
 bnd:List Tm
 post:List Tm
structure Bh where
 c:List (Nat×Sp)
 w:List (Nat×Nat×Sp)
def sp0 : Sp:=⟨[],[],[]⟩
def Bh.at (T:Bh)(f:Nat):Sp:=go T.c
 where go:List (Nat×Sp)->Sp
  |[]=>sp0|x::r=>bif Nat.beq x.1 f then x.2 else go r
def Bh.atW (T:Bh)(f n0:Nat):Sp:=go T.w
 where go:List (Nat×Nat×Sp)->Sp
  |[]=>sp0|x::r=>bif Nat.beq x.1 f&&Nat.beq x.2.1 n0 then x.2.2 else go r
def qO.av : qO->AV
 | .rows _ rs=>.sl rs false| .iD _ _ rs=>.sl rs false|_=>.sl [] true
def avB (l:List (Nat×qO)):List AV:=l.map fun x=>x.2.av
def SB.sv : SB->SV
 | .rows _ rs=>.slc rs false| .iD _ _ rs=>.slc rs false| .fZ _ t=>.sc .sl t|_=>.nil
def SB.okv : SB->Bool
 | .mQ ..=>false|_=>true
theorem akJ {ρ:List AV}{k:SB}(h:k.okv=true):k.sv.den ρ=(k.den ρ).av:=by cases k<;>first|rfl|cases h
def JA (bl:List (Nat×SB)):List SV:=bl.map fun x=>x.2.sv
def YO : List (Nat×SB)->Bool
 |[]=>true|x::r=>x.2.okv&&YO r
theorem D9 {ρ:List AV}:∀{bl:List (Nat×SB)},YO bl=true->dK ρ (JA bl)=avB (Gl ρ bl)
 |[],_=>rfl|x::r,h=>by
  simp only [YO,Bool.and_eq_true] at h;have ih:=D9 (ρ:=ρ) (bl:=r) h.2;simp only [JA,avB,Gl,List.map_cons,dK,List.cons.injEq] at ih ⊢;exact ⟨akJ h.1,by simpa using ih⟩
def CT (P:Program)(T:Bh)(f:FuncId)(az:List AV)(r:AV):Prop:=
 mO az (T.at f).pre->PC P f az r/\(mO az (T.at f).bnd->mO (az++[r]) (T.at f).post)
def CTo (P:Program)(T:Bh)(f:FuncId)(az:List AV)(r:AV)(p:List Nat)(sz:Nat):Prop:=
 mO az (T.at f).pre->PCo P f az r p sz/\(mO az (T.at f).bnd->mO (az++[r]) (T.at f).post)
def CTw (P:Program)(T:Bh)(f:FuncId)(az:List AV)(bin:List (Nat×qO))(n0:Nat)(r:AV)(Jw:List (Nat×qO)):Prop:=
 mO (az++avB bin) (T.atW f n0).pre->PWL P f az bin n0 r Jw/\(mO (az++avB bin) (T.atW f n0).bnd->mO (az++avB bin++(r::avB Jw)) (T.atW f n0).post)
def spS (T:Bh):Side->Option (Sp×List SV×List SV)
 | .call f args r=>some (T.at f,args,args++[r])| .PL f args r _ _ _=>some (T.at f,args,args++[r])| .BQ f args bl n0 r Gt=>bif YO bl&&YO Gt then some (T.atW f n0,args++JA bl,args++JA bl++(r::JA Gt)) else some ({T.atW f n0 with pre:=[.lb false]},[],[])
 |_=>none
def sbL (l:List SV):List Tm->Option (List Tm)
 |[]=>some []|t::r=>match jh 0 l .B t with
  |none=>none|some t'=>match sbL l r with|none=>none|some r'=>some (t'::r')
theorem KZ {ρ:List AV}{l:List SV}:∀{ts us:List Tm},sbL l ts=some us->(mO ρ us↔mO (dK ρ l) ts)
 |[],us,h=>by simp only [sbL,Option.some.injEq] at h;subst h;exact Iff.rfl
 |t::r,us,h=>by
  simp only [sbL] at h;split at h
  .cases h
  rename_i t' ht;split at h
  .cases h
  rename_i r' hr;simp only [Option.some.injEq] at h;subst h;have h1:=D8 (ρ:=ρ) (Nat.zero_le _) ht;simp only [FH,List.take_zero,List.nil_append] at h1;exact and_congr (by rw [h1]) (KZ hr)
 mutual
def osV : SV->Option (Nat×Tm)
  | .os b _ _ t=>some (b,t)| .agg l=>osL l| .fn _ x y=>match osL x with|some z=>some z|none=>osL y
  |_=>none
def osL : List SV->Option (Nat×Tm)
  |[]=>none|x::r=>match osV x with|some z=>some z|none=>osL r
end
def blT (b:Nat):List (Nat×SB)->Option Tm
 |[]=>none|x::r=>bif Nat.beq x.1 b then (match x.2 with | .fZ _ t=>some t|_=>none) else blT b r
def osT (args:List SV)(bl:List (Nat×SB)):Tm×Tm:=match osL args with
 |some (b,t)=>match blT b bl with|some t'=>(t,t')|none=>(.li 0,.nl)
 |none=>(.li 0,.nl)
def Side.osE : Side->List Tm
 | .BQ _ args bl _ _ _=>match osL args with
  |some _=>[tEq (osT args bl).1 (.rlen (osT args bl).2)]|none=>[]
 |_=>[]
theorem mO.app {ρ:List AV}:∀{a b:List Tm},mO ρ (a++b)->mO ρ a/\mO ρ b
 |[],b,h=>⟨trivial,h⟩|x::r,b,h=>⟨⟨h.1,(mO.app h.2).1⟩,(mO.app h.2).2⟩
def Side.wk (P:Program)(T:Bh)(ρ:List AV):Side->Prop
 | .under pc s=>Pc.holds ρ pc->s.wk P T ρ| .call f args r=>CT P T f (dK ρ args) (r.den ρ)| .PL f args r p sz fl=>CTo P T f (dK ρ args) (r.den ρ) p sz/\(fl=true->∀row∈Dy p (r.den ρ),y8 row=true)| .BQ f args bl n0 r Gt=>mO ρ (Side.osE (.BQ f args bl n0 r Gt))->CTw P T f (dK ρ args) (Gl ρ bl) n0 (r.den ρ) (Gl ρ Gt)|s=>mO ρ s.cnd->s.holds P ρ
def Xk (T:Bh)(s:Side):Option (List Tm):=match spS T s with
 |some (sp,l,_)=>match sp.pre with
  |[]=>some s.osE|p=>match sbL l p with|some q=>some (q++s.osE)|none=>none
 |none=>some s.cnd
def Dh (F:Pc)(l:List Tm):Bool:=l.all (ayN 2 F)||azd F
theorem D_ {ρ:List AV}{F:Pc}{l:List Tm}(h:Dh F l=true)(hF:F.holds ρ):mO ρ l:=by
 unfold Dh at h;rw [Bool.or_eq_true,List.all_eq_true] at h;rcases h with h|h
 .exact mO.of fun t ht=>yS (h t ht) hF
 .exact (ahy h hF).elim
theorem qF {ρ:List AV}{a b:Pc}(h:Pc.holds ρ a)(k:Pc.holds ρ b):Pc.holds ρ (a++b):=fun x hx=>by
 rcases List.mem_append.1 hx with hx|hx
 .exact h x hx
 .exact k x hx
theorem afx {ρ:List AV}{a b:Pc}(h:Pc.holds ρ (a++b)):Pc.holds ρ a:=fun x hx=>h x (List.mem_append.2 (.inl hx))
theorem afy {ρ:List AV}{a b:Pc}(h:Pc.holds ρ (a++b)):Pc.holds ρ b:=fun x hx=>h x (List.mem_append.2 (.inr hx))
def xZ (ρ:List AV):List (Pc×Tm)->Prop
 |[]=>True|x::r=>(Pc.holds ρ x.1->(x.2.den ρ).B=true)/\xZ ρ r
def adE (pc:Pc)(t:Tm):Option Bool:=match pc.known t with
 |some b=>some b|none=>match t with
  | .bin .eql k x y=>match k with
   | .int k=>(match pc.known (.bin .neq (.int k) x y) with|some b=>some (!b)|none=>none)|_=>none
  | .bin .neq k x y=>match k with
   | .int k=>(match pc.known (.bin .eql (.int k) x y) with|some b=>some (!b)|none=>none)|_=>none
  |_=>none
theorem ahA {ρ:List AV}{pc:Pc}(hp:pc.holds ρ){t:Tm}{b:Bool}(h:adE pc t=some b):(t.den ρ).B=b:=by
 unfold adE at h;split at h
 .rename_i v hv;simp only [Option.some.injEq] at h;subst h;exact Pc.fM hp hv
 .split at h
  .split at h
   .split at h
    .rename_i v hv;simp only [Option.some.injEq] at h;subst h;have:=Pc.fM hp hv;rw [<- this];simp [Tm.den,oL,D.B,dU,jk,bne]
    .cases h
   .cases h
  .split at h
   .split at h
    .rename_i v hv;simp only [Option.some.injEq] at h;subst h;have:=Pc.fM hp hv;rw [<- this];simp [Tm.den,oL,D.B,dU,jk,bne]
    .cases h
   .cases h
  .cases h
def Nc (pc:Pc)(l:Pc):Bool:=l.all fun e=>match adE pc e.1 with|some b=>b == e.2|none=>false
theorem abg {ρ:List AV}{pc l:Pc}(h:Nc pc l=true)(hp:pc.holds ρ):Pc.holds ρ l:=by
 unfold Nc at h;rw [List.all_eq_true] at h;intro e he;have:=h e he;split at this
 .rename_i b hb;rw [ahA hp hb];simpa using this
 .cases this
def xsF (pc:Pc):List (Pc×Tm)->Pc
 |[]=>[]|x::r=>bif Nc pc x.1 then (x.2,true)::xsF pc r else xsF pc r
theorem adF {ρ:List AV}{pc:Pc}(hp:pc.holds ρ):∀{xs:List (Pc×Tm)},xZ ρ xs->Pc.holds ρ (xsF pc xs)
 |[],_=>fun x hx=>by cases hx
 |x::r,h=>by
  simp only [xsF];cases hk:Nc pc x.1
  .exact adF hp h.2
  .exact Pc.iw (h.1 (abg hk hp)) (adF hp h.2)
def adG : Tm->Bool->Pc->Pc
 | .and x y,true,acc=>adG x true (adG y true acc)| .or x y,false,acc=>adG x false (adG y false acc)| .not x,b,acc=>adG x (!b) acc|t,b,acc=>(t,b)::acc
theorem anw {ρ:List AV}:∀{t:Tm} {b:Bool} {acc:Pc},(t.den ρ).B=b->Pc.holds ρ acc->Pc.holds ρ (adG t b acc):=by
 intro t;induction t with
 |and x y ql ihy=>
  intro b acc h k;cases b with
  |false=>exact Pc.iw h k|true=>
   have h2:((x.den ρ).B&&(y.den ρ).B)=true:=h;rw [Bool.and_eq_true] at h2;exact ql h2.1 (ihy h2.2 k)
 |or x y ql ihy=>
  intro b acc h k;cases b with
  |true=>exact Pc.iw h k|false=>
   have h2:((x.den ρ).B||(y.den ρ).B)=false:=h;rw [Bool.or_eq_false_iff] at h2;exact ql h2.1 (ihy h2.2 k)
 |not x ih=>
  intro b acc h k;have h2:(!(x.den ρ).B)=b:=h;exact ih (by rw [<- h2,Bool.not_not]) k
 |_=>intro b acc h k;exact Pc.iw h k
def azF : Pc->Pc
 |[]=>[]|x::r=>adG x.1 x.2 (azF r)
theorem afz {ρ:List AV}:∀{pc:Pc},Pc.holds ρ pc->Pc.holds ρ (azF pc)
 |[],h=>h|x::r,h=>anw (h x (List.mem_cons_self ..)) (afz fun y hy=>h y (List.mem_cons_of_mem _ hy))
def ayE (F:Pc)(xs:List (Pc×Tm))(pc:Pc):Pc:=pc++(xsF (azF pc++F) xs++F)
theorem wJ {ρ:List AV}{F:Pc}{xs:List (Pc×Tm)}{pc:Pc}(hF:Pc.holds ρ F)(hx:xZ ρ xs)(hp:Pc.holds ρ pc):Pc.holds ρ (ayE F xs pc):=
 qF hp (qF (adF (qF (afz hp) hF) hx) hF)
def akK (F:Pc)(T:Bh)(xs:List (Pc×Tm)):Pc->Side->Bool
 |pc,.under pc' s=>akK F T xs (pc'++pc) s|pc,s=>match Xk T s with
  |none=>false|some []=>true|some l=>Dh (ayE F xs pc) l
def mkX (pc:Pc):Tm->Pc×Tm
 | .or c d=>((c,false)::pc,d)|t=>(pc,t)
theorem aqo {ρ:List AV}{pc:Pc}{t:Tm}(h:Pc.holds ρ pc->(t.den ρ).B=true):Pc.holds ρ (mkX pc t).1->((mkX pc t).2.den ρ).B=true:=by
 cases t<;>try exact h
 rename_i c d;intro hp;have h1:((c.den ρ).B||(d.den ρ).B)=true:=h fun x hx=>hp x (List.mem_cons_of_mem _ hx);have h2:(c.den ρ).B=false:=hp (c,false) (List.mem_cons_self ..);rw [Bool.or_eq_true] at h1;rcases h1 with h1|h1
 .rw [h1] at h2;cases h2
 .exact h1
def aqp : Side->List (Pc×Tm)
 | .st t _ _ _ n=>[([],tEq (.rlen n) (.rlen t))]| .mk len _ _ n=>[([],tEq (.rlen n) len)]| .app _ x y n=>[([],tEq (.rlen n) (anu (.rlen x) (anv y.length)))]| .ZQ _ x y n=>[([],tEq (.rlen n) (anu (.rlen x) (.rlen y)))]| .agy _ x y n=>[([],tEq (.rlen n) (anu (.rlen y) (anv x.length)))]| .cpy x _ _ n=>[([],tEq (.rlen n) (.rlen x))]| .mark _ _ d _ n=>[([],tEq (.rlen n) (.rlen d))]| .sub _ t lo hi n=>match lo,hi with
  |none,none=>[([],tEq (.rlen n) (.rlen t))]|none,some h=>[([],tEq (.rlen n) h)]|some l,none=>[([],Gw (.rlen n) (.rlen t)),([(Gw (.rlen t) (.li big),true)],tEq (.rlen n) (.bin .sub (.int .i64) (.rlen t) l))]|some l,some h=>[([],Gw (.rlen n) (.rlen t)),([(Gw (.rlen t) (.li big),true)],tEq (.rlen n) (.bin .sub (.int .i64) h l))]
 |_=>[]
def YP (pc:Pc):List (Pc×Tm)->List (Pc×Tm)
 |[]=>[]|x::r=>(x.1++pc,x.2)::YP pc r
theorem Xl {ρ:List AV}{pc:Pc}:∀{l xs:List (Pc×Tm)},(Pc.holds ρ pc->xZ ρ l)->xZ ρ xs->xZ ρ (YP pc l++xs)
 |[],xs,_,h=>h|x::r,xs,h,k=>⟨fun hp=>(h (afy hp)).1 (afx hp),Xl (fun hp=>(h hp).2) k⟩
def anx (pc:Pc):List Tm->List (Pc×Tm)
 |[]=>[]|t::r=>mkX pc t::anx pc r
theorem afA {ρ:List AV}{pc:Pc}:∀{l:List Tm} {xs:List (Pc×Tm)},(Pc.holds ρ pc->mO ρ l)->xZ ρ xs->xZ ρ (anx pc l++xs)
 |[],xs,_,h=>h|t::r,xs,h,k=>⟨aqo fun hp=>(h hp).1,afA (fun hp=>(h hp).2) k⟩
def JR (F:Pc)(T:Bh)(xs:List (Pc×Tm)):Pc->Side->List (Pc×Tm)
 |pc,.under pc' s=>JR F T xs (pc'++pc) s|pc,s=>match spS T s with
  |none=>YP pc (aqp s)++xs|some (sp,l,l2)=>match sp.post with
   |[]=>xs|post=>match sbL l sp.bnd with
    |none=>xs|some b=>bif Dh (ayE F xs pc) b then (match sbL l2 post with|some q=>anx pc q++xs|none=>xs) else xs
def wP (P:Program)(T:Bh)(ρ:List AV):List (Pc×Side)->Prop
 |[]=>True|x::r=>(Pc.holds ρ x.1->x.2.wk P T ρ)/\wP P T ρ r
def abh (F:Pc)(T:Bh)(xs:List (Pc×Tm)):List (Pc×Side)->Bool
 |[]=>true|x::r=>akK F T xs x.1 x.2&&abh F T (JR F T xs x.1 x.2) r
def sdX (F:Pc)(T:Bh)(xs:List (Pc×Tm)):List (Pc×Side)->List (Pc×Tm)
 |[]=>xs|x::r=>sdX F T (JR F T xs x.1 x.2) r
theorem anz {P:Program}{ρ:List AV}{s:Side}(h:s.holds P ρ):xZ ρ (aqp s):=by
 have eq:∀{a b:Tm},(a.den ρ).I=(b.den ρ).I->((tEq a b).den ρ).B=true:=fun h=>by
  show dU _ _=true;exact rQ.2 h
 have rl:∀{t:Tm},((Tm.rlen t).den ρ).I=((t.den ρ).R.length:Int):=rfl;have nat:∀{n:Nat},((anv n).den ρ).I=(n:Int):=by intro n;unfold anv;rw [vP];rfl
 have add:∀{a b:Tm},((anu a b).den ρ).I=fK .i64 (a.den ρ).I (b.den ρ).I:=rfl;cases s<;>try exact trivial
 case st t i off cells n=>
  obtain ⟨row,-,-,h3⟩:=h;exact ⟨fun _=>eq (by rw [rl,rl,h3];simp),trivial⟩
 case mk len cap z n=>
  obtain ⟨h1,-,-,h4⟩:=h;exact ⟨fun _=>eq (by rw [rl,h4];simp;omega),trivial⟩
 case app sz x y n=>
  obtain ⟨-,h2,h3⟩:=h;refine ⟨fun _=>eq ?_,trivial⟩;rw [rl,h3,add,rl,nat,G_ (by omega) (by omega)];simp [fC]
 case ZQ sz x y n=>
  obtain ⟨-,-,h2,h3⟩:=h;refine ⟨fun _=>eq ?_,trivial⟩;rw [rl,h3,add,rl,rl,G_ (by omega) (by omega)];simp
 case agy sz x y n=>
  obtain ⟨h2,h3⟩:=h;refine ⟨fun _=>eq ?_,trivial⟩;rw [rl,h3,add,rl,nat,G_ (by omega) (by omega)];simp [fC];omega
 case cpy x len y n=>
  obtain ⟨h1,h2⟩:=h;refine ⟨fun _=>eq ?_,trivial⟩;rw [rl,rl,h2];simp only [List.length_append,List.length_take,List.length_drop];omega
 case mark m t d len n=>
  obtain ⟨-,-,h3,-⟩:=h;exact ⟨fun _=>eq (by rw [rl,rl,h3]),trivial⟩
 case sub sz t lo hi n=>
  obtain ⟨-,h1,h2,h3,h4⟩:=h;have hl:=congrArg List.length h4;rw [List.length_take,List.length_drop] at hl;have asG:Pc.holds ρ [(Gw (.rlen t) (.li big),true)]->((t.den ρ).R.length:Int)<=4294967296:=fun hp=>by
   have:=hp (_,true) (List.mem_cons_self ..);have q:nM (t.den ρ).R<=big:=of_decide_eq_true this;unfold nM big at q;exact q
  have le:((Gw (.rlen n) (.rlen t)).den ρ).B=true:=by
   show decide (nM (n.den ρ).R<=nM (t.den ρ).R)=true;exact decide_eq_true (by unfold nM;omega)
  cases lo with
  |none=>
   cases hi with
   |none=>
    have e1:X6 ρ 0 none=0:=rfl;have e2:X6 ρ (t.den ρ).R.length none=(t.den ρ).R.length:=rfl;rw [e1,e2] at hl;exact ⟨fun _=>eq (by rw [rl,rl];omega),trivial⟩
   |some b=>
    have e1:X6 ρ 0 none=0:=rfl;have e2:X6 ρ (t.den ρ).R.length (some b)=(b.den ρ).I:=rfl;rw [e1,e2] at hl;rw [e2] at h3;rw [e1,e2] at h2;exact ⟨fun _=>eq (by rw [rl];omega),trivial⟩
  |some a=>
   have e1:X6 ρ 0 (some a)=(a.den ρ).I:=rfl;rw [e1] at h1;cases hi with
   |none=>
    have e2:X6 ρ (t.den ρ).R.length none=(t.den ρ).R.length:=rfl;rw [e1,e2] at h2;rw [e1,e2] at hl;refine ⟨fun _=>le,fun hp=>eq ?_,trivial⟩;have hb:=asG hp;show _=mD .i64 (nM (t.den ρ).R) (a.den ρ).I;unfold nM;rw [rl,ZK (by omega) (by omega)];omega
   |some b=>
    have e2:X6 ρ (t.den ρ).R.length (some b)=(b.den ρ).I:=rfl;rw [e1,e2] at h2;rw [e1,e2] at hl;rw [e2] at h3;refine ⟨fun _=>le,fun hp=>eq ?_,trivial⟩;have hb:=asG hp;show _=mD .i64 (b.den ρ).I (a.den ρ).I;rw [rl,ZK (by omega) (by omega)];omega
theorem Jo {ρ:List AV}{a:List SV}{b:SV}:dK ρ (a++[b])=dK ρ a++[b.den ρ]:=by rw [jr];rfl
theorem anA {P:Program}{ρ:List AV}{F:Pc}{T:Bh}{xs:List (Pc×Tm)}(hF:Pc.holds ρ F)(hx:xZ ρ xs):∀{s:Side} {pc:Pc},akK F T xs pc s=true->(Pc.holds ρ pc->s.wk P T ρ)->(Pc.holds ρ pc->s.holds P ρ)/\xZ ρ (JR F T xs pc s):=by
 intro s;have plain:∀{s:Side} {pc:Pc},(∀pc' s',s≠.under pc' s')->spS T s=none->(s.wk P T ρ↔(mO ρ s.cnd->s.holds P ρ))->akK F T xs pc s=true->(Pc.holds ρ pc->s.wk P T ρ)->(Pc.holds ρ pc->s.holds P ρ)/\xZ ρ (JR F T xs pc s):=by
  intro s pc hu hs hwk h hw;have hh:Pc.holds ρ pc->s.holds P ρ:=fun hp=>by
   refine hwk.1 (hw hp) ?_
   have h':(match Xk T s with|none=>false|some []=>true|some l=>Dh (ayE F xs pc) l)=true:=by
    cases s<;>first|exact h|exact absurd rfl (hu _ _)
   unfold Xk at h';rw [hs] at h';dsimp only at h';split at h'
   .cases h'
   .rename_i e;simp only [Option.some.injEq] at e;rw [e];trivial
   .rename_i l _ e;simp only [Option.some.injEq] at e;rw [e];exact D_ h' (wJ hF hx hp)
  have e:JR F T xs pc s=YP pc (aqp s)++xs:=by
   cases s<;>first|exact absurd rfl (hu _ _)|(simp only [JR,hs])
  rw [e];exact ⟨hh,Xl (fun hp=>anz (hh hp)) hx⟩
 have calls:∀{s:Side} {pc:Pc} {sp:Sp} {l l2:List SV} {A:Prop},spS T s=some (sp,l,l2)->(∀pc' s',s≠.under pc' s')->(s.wk P T ρ->mO ρ s.osE->mO (dK ρ l) sp.pre->s.holds P ρ/\(mO (dK ρ l) sp.bnd->mO (dK ρ l2) sp.post))->akK F T xs pc s=true->(Pc.holds ρ pc->s.wk P T ρ)->(Pc.holds ρ pc->s.holds P ρ)/\xZ ρ (JR F T xs pc s):=by
  intro s pc sp l l2 A hs hu hwk h hw;have hpre:Pc.holds ρ pc->mO ρ s.osE/\mO (dK ρ l) sp.pre:=fun hp=>by
   have h':(match Xk T s with|none=>false|some []=>true|some l=>Dh (ayE F xs pc) l)=true:=by
    cases s<;>first|exact h|exact absurd rfl (hu _ _)
   have h2:∃l',Xk T s=some l'/\mO ρ l':=by
    split at h'
    .cases h'
    .rename_i e;exact ⟨_,e,trivial⟩
    .rename_i l' _ e;exact ⟨_,e,D_ h' (wJ hF hx hp)⟩
   obtain ⟨l',e,hl'⟩:=h2;unfold Xk at e;rw [hs] at e;dsimp only at e;split at e
   .rename_i ep;simp only [Option.some.injEq] at e;subst e;rw [ep];exact ⟨hl',trivial⟩
   .split at e
    .rename_i q hq;simp only [Option.some.injEq] at e;subst e;exact ⟨(mO.app hl').2,(KZ hq).1 (mO.app hl').1⟩
    .cases e
  refine ⟨fun hp=>(hwk (hw hp) (hpre hp).1 (hpre hp).2).1,?_⟩
  have e:JR F T xs pc s=(match sp.post with
   |[]=>xs|post=>match sbL l sp.bnd with
    |none=>xs|some b=>bif Dh (ayE F xs pc) b then (match sbL l2 post with|some q=>anx pc q++xs|none=>xs) else xs):=by
   cases s<;>first|exact absurd rfl (hu _ _)|(simp only [JR,hs])
  rw [e];split
  .exact hx
  .split
   .exact hx
   .rename_i b hb;cases hpv:Dh (ayE F xs pc) b
    .exact hx
    .simp only [cond_true];split
     .rename_i q hq;refine afA (fun hp=>?_) hx;have h1:=(KZ hb).1 (D_ hpv (wJ hF hx hp));exact (KZ hq).2 ((hwk (hw hp) (hpre hp).1 (hpre hp).2).2 h1)
     .exact hx
 induction s with
 |under pc' s ih=>
  intro pc h hw;obtain ⟨h1,h2⟩:=ih (pc:=pc'++pc) h (fun hp=>hw (afy hp) (afx hp));exact ⟨fun hp hp'=>h1 (qF hp' hp),h2⟩
 |call f args r=>
  intro pc h hw;refine calls (A:=True) rfl (by intro _ _ e;cases e) (fun hk _ hp=>?_) h hw;have:=hk hp;exact ⟨this.1,fun hb=>by rw [Jo];exact this.2 hb⟩
 |PL f args r p sz fl=>
  intro pc h hw;refine calls (A:=True) rfl (by intro _ _ e;cases e) (fun hk _ hp=>?_) h hw;have:=hk.1 hp;exact ⟨⟨this.1,hk.2⟩,fun hb=>by rw [Jo];exact this.2 hb⟩
 |BQ f args bl n0 r Gt=>
  intro pc h hw;cases Zm:YO bl&&YO Gt
  .refine calls (A:=True) (sp:={T.atW f n0 with pre:=[.lb false]}) (l:=[]) (l2:=[]) (by simp only [spS,Zm,cond_false]) (by intro _ _ e;cases e) (fun hk ho hp=>?_) h hw;exact absurd hp.1 (by simp [Tm.den,D.B])
  have ho1:=Zm;rw [Bool.and_eq_true] at ho1;refine calls (A:=True) (sp:=T.atW f n0) (l:=args++JA bl) (l2:=args++JA bl++(r::JA Gt)) (by simp only [spS,Zm,cond_true]) (by intro _ _ e;cases e) (fun hk ho hp=>?_) h hw;rw [jr,D9 ho1.1] at hp;have:=hk ho hp;refine ⟨this.1,fun hb=>?_⟩;rw [jr,D9 ho1.1] at hb;have q:=this.2 hb;rw [jr,jr,D9 ho1.1];show mO (_++(r.den ρ::dK ρ (JA Gt))) _;rw [D9 ho1.2];exact q
 |_=>intro pc h hw;exact plain (by intro _ _ e;cases e) rfl Iff.rfl h hw
theorem UG {P:Program}{ρ:List AV}{F:Pc}{T:Bh}(hF:Pc.holds ρ F):∀{sd:List (Pc×Side)} {xs:List (Pc×Tm)},xZ ρ xs->abh F T xs sd=true->wP P T ρ sd->uO P ρ sd/\xZ ρ (sdX F T xs sd)
 |[],xs,hx,_,_=>⟨trivial,hx⟩|x::r,xs,hx,h,hw=>by
  simp only [abh,Bool.and_eq_true] at h;obtain ⟨h1,h2⟩:=anA hF hx h.1 hw.1;obtain ⟨h3,h4⟩:=UG hF h2 h.2 hw.2;exact ⟨⟨h1,h3⟩,h4⟩
inductive LH where
 |mk (inv:List Tm) (mt:Tm) (ft:List (Tm×Int)) (xs:List (Pc×Tm)) (at':Nat) (sub:List LH) (post:List (List Tm))
def LH.inv : LH->List Tm | .mk a _ _ _ _ _ _=>a
def LH.mt : LH->Tm | .mk _ a _ _ _ _ _=>a
def Tm.Nh : Tm->Bool | .nl=>true|_=>false
def LH.ft : LH->List (Tm×Int) | .mk _ _ a _ _ _ _=>a
def LH.xs : LH->List (Pc×Tm) | .mk _ _ _ a _ _ _=>a
def LH.at' : LH->Nat | .mk _ _ _ _ a _ _=>a
def LH.sub : LH->List LH | .mk _ _ _ _ _ a _=>a
def LH.post : LH->List (List Tm) | .mk _ _ _ _ _ _ a=>a
def K_ : LH:=.mk [] (.li 0) [] [] 0 [] []
def hdH : List LH->LH | []=>K_|x::_=>x
def tlH : List LH->List LH | []=>[]|_::r=>r
def ftV (ρ:List AV):List (Tm×Int)->Int
 |[]=>0|x::r=>x.2*(x.1.den ρ).I+ftV ρ r
def ftL (ks:Pc):List (Tm×Int)->List Tm->List LF->LR
 |[],az,fs=>⟨az,fs,[]⟩|x::r,az,fs=>match lin ks x.1 az fs with
  |⟨P9,fs1,f1⟩=>match ftL ks r P9 fs1 with
   |⟨Xh,YM,f2⟩=>⟨Xh,YM,Jz (QM x.2 f1) f2⟩
theorem akL {ρ:List AV}{ks:Pc}(hk:ks.holds ρ):∀{l:List (Tm×Int)} {az:List Tm} {fs:List LF},yZ ρ az fs->OX ρ az (ftL ks l az fs) (ftV ρ l)
 |[],az,fs,h=>⟨List.prefix_refl _,h,fun bs hb=>rfl⟩|x::r,az,fs,h=>by
  obtain ⟨a1,a2,a3⟩:=OY hk (t:=x.1) h;obtain ⟨b1,b2,b3⟩:=akL hk (l:=r) (az:=(lin ks x.1 az fs).az) (fs:=(lin ks x.1 az fs).fs) a2;exact ⟨a1.trans b1,b2,(a3.mono b1).QM.add b3⟩
def akM (F:Pc)(s:AS)(mt:Tm)(ft:List (Tm×Int)):Bool:=
 match s with
 |⟨az,fs⟩=>match lin F mt az fs with
  |⟨P9,fs1,f1⟩=>match ftL F ft P9 fs1 with
   |⟨_,YM,f2⟩=>Iw YM (Go.Fw.oZ f2 f1)
theorem akN {ρ:List AV}{F:Pc}{mt:Tm}{ft:List (Tm×Int)}{s:AS}(h0:VB ρ s)(h:akM F s mt ft=true)(hF:F.holds ρ):(mt.den ρ).I<=ftV ρ ft:=by
 unfold akM at h;obtain ⟨a1,a2,a3⟩:=OY hF (t:=mt) h0;obtain ⟨b1,b2,b3⟩:=akL hF (l:=ft) a2;have q:=D7 b2 h _ (List.prefix_refl _);rw [j_,(a3.mono b1) _ (List.prefix_refl _),b3 _ (List.prefix_refl _)] at q;omega
def akO (F:Pc)(mt:Tm)(ft:List (Tm×Int)):Bool:=akM F (asF F) mt ft
def akP : Nat->Pc->Tm->List (Tm×Int)->Bool
 |0,F,mt,ft=>akO F mt ft|n+1,F,mt,ft=>akO F mt ft||(match Jm F ((mt,true)::F) with
  |none=>false|some c=>akP n ((c,true)::F) mt ft&&akP n ((c,false)::F) mt ft)
theorem abj {ρ:List AV}{F:Pc}{mt:Tm}{ft:List (Tm×Int)}(h:akO F mt ft=true)(hF:F.holds ρ):(mt.den ρ).I<=ftV ρ ft:=akN (YN hF) h hF
theorem YQ {ρ:List AV}{mt:Tm}{ft:List (Tm×Int)}:∀{n:Nat} {F:Pc},akP n F mt ft=true->F.holds ρ->(mt.den ρ).I<=ftV ρ ft
 |0,F,h,hF=>abj h hF|n+1,F,h,hF=>by
  simp only [akP,Bool.or_eq_true] at h;rcases h with h|h
  .exact abj h hF
  .split at h
   .cases h
   .rename_i c _;rw [Bool.and_eq_true] at h;cases hc:(c.den ρ).B
    .exact YQ h.2 (Pc.iw hc hF)
    .exact YQ h.1 (Pc.iw hc hF)
def Tm.ren (f:Nat->Nat):Tm->Tm
 | .var i p=>Oa (f i) fun j=>.var j p
 | .bin o k x y=>.bin o k (x.ren f) (y.ren f)| .and x y=>.and (x.ren f) (y.ren f)| .or x y=>.or (x.ren f) (y.ren f)| .byte x y=>.byte (x.ren f) (y.ren f)| .not x=>.not (x.ren f)| .neg k x=>.neg k (x.ren f)| .com k x=>.com k (x.ren f)| .conv k x=>.conv k (x.ren f)| .toF x=>.toF (x.ren f)| .ZJ x=>.ZJ (x.ren f)| .slen x=>.slen (x.ren f)| .rlen x=>.rlen (x.ren f)| .bts x=>.bts (x.ren f)| .G9 n x=>.G9 n (x.ren f)| .sbs x=>.sbs (x.ren f)| .ite c x y=>.ite (c.ren f) (x.ren f) (y.ren f)| .Gj c x y=>.Gj (c.ren f) (x.ren f) (y.ren f)|t=>t
theorem Tm.anB {f:Nat->Nat}{n:Nat}{ρ σ:List AV}(h:∀i,i<n->ρ.getD (f i) eX=σ.getD i eX):∀{t:Tm},t.lt n=true->(t.ren f).den ρ=t.den σ:=by
 intro t;induction t with
 |lb|li|lf|ls|nl=>intro _;rfl|var i p=>intro hl;simp only [Tm.ren,vP,Tm.den];rw [h i (Nat.le_of_ble_eq_true hl)]|bin o k x y ql ihy=>intro hl;simp only [Tm.lt,Bool.and_eq_true] at hl;simp only [Tm.ren,Tm.den,ql hl.1,ihy hl.2]|and x y ql ihy=>intro hl;simp only [Tm.lt,Bool.and_eq_true] at hl;simp only [Tm.ren,Tm.den,ql hl.1,ihy hl.2]|or x y ql ihy=>intro hl;simp only [Tm.lt,Bool.and_eq_true] at hl;simp only [Tm.ren,Tm.den,ql hl.1,ihy hl.2]|byte x y ql ihy=>intro hl;simp only [Tm.lt,Bool.and_eq_true] at hl;simp only [Tm.ren,Tm.den,ql hl.1,ihy hl.2]|ite c x y ihc ql ihy=>intro hl;simp only [Tm.lt,Bool.and_eq_true] at hl;simp only [Tm.ren,Tm.den,ihc hl.1,ql hl.2.1,ihy hl.2.2]|Gj c x y ihc ql ihy=>intro hl;simp only [Tm.lt,Bool.and_eq_true] at hl;simp only [Tm.ren,Tm.den,ihc hl.1,ql hl.2.1,ihy hl.2.2]|not x ih=>intro hl;simp only [Tm.ren,Tm.den,ih hl]|neg k x ih=>intro hl;simp only [Tm.ren,Tm.den,ih hl]
 |com k x ih=>intro hl;simp only [Tm.ren,Tm.den,ih hl]|conv k x ih=>intro hl;simp only [Tm.ren,Tm.den,ih hl]|toF x ih=>intro hl;simp only [Tm.ren,Tm.den,ih hl]|ZJ x ih=>intro hl;simp only [Tm.ren,Tm.den,ih hl]|slen x ih=>intro hl;simp only [Tm.ren,Tm.den,ih hl]|rlen x ih=>intro hl;simp only [Tm.ren,Tm.den,ih hl]|bts x ih=>intro hl;simp only [Tm.ren,Tm.den,ih hl]|G9 k x ih=>intro hl;simp only [Tm.ren,Tm.den,ih hl]|sbs x ih=>intro hl;simp only [Tm.ren,Tm.den,ih hl]
def shf (base pos i:Nat):Nat:=bif Nat.blt i base then i else i-base+pos
def P_ (base:Nat)(pos n:Nat)(pc:Pc):List Tm->List (Pc×Tm)
 |[]=>[]|t::r=>bif t.lt (base+n) then (pc,t.ren (shf base pos))::P_ base pos n pc r else P_ base pos n pc r
def YR : List (List Tm)->Nat->List Tm
 |[],_=>[]|x::_,0=>x|_::r,k+1=>YR r k
def anC (base:Nat)(ms:List Nat)(k:Nat):Pc:=match ms with
 |[_,_]=>match k with
  |0=>[(.bin .eql (.int .i64) (.var base []) (.li 0),true)]|_=>[(.bin .eql (.int .i64) (.var base []) (.li 0),false)]
 |_=>[]
def bnF : List Tm->Pc
 |[]=>[]|t::r=>(Gw (.rlen t) (.li big),true)::bnF r
theorem akQ {ρ:List AV}:∀{bn:List Tm},(∀t∈bn,(t.den ρ).R.length<=4294967296)->Pc.holds ρ (bnF bn)
 |[],_=>fun x hx=>by cases hx
 |t::r,h=>Pc.iw (by
  have:=h t (List.mem_cons_self ..);show decide (nM (t.den ρ).R<=big)=true;exact decide_eq_true (by unfold nM big;omega)) (akQ fun x hx=>h x (List.mem_cons_of_mem _ hx))
def abk (outs:List (Tm×Nat×List SV))(ms:List Nat):Bool:=outs.all fun o=>match o.2.1 with
 |0=>true|k+1=>Nat.ble (k+1) ms.length&&Nat.ble (ms.getD k 0) o.2.2.length
def bnC (F:Pc)(xs:List (Pc×Tm))(pc:Pc)(bn:List Tm):Pc:=
 bif (let F':=ayE F xs pc;bn.all fun t=>ayN 1 F' (Gw (.rlen t) (.li big))) then pc else bnF bn++pc
def afC (F:Pc)(xs:List (Pc×Tm)):Lo->LH->List (Pc×Tm)
 | .mk pc base _ _ outs _ _ ms bn,h=>match h.post with
  |[]=>xs|p=>bif abk outs ms then match ms with
    |[n]=>let c:=bnC F xs pc bn;P_ base (ayH base ms 0) n (anC base ms 0++c) (YR p 0)++xs|[n,n']=>let c:=bnC F xs pc bn;P_ base (ayH base ms 0) n (anC base ms 0++c) (YR p 0)++(P_ base (ayH base ms 1) n' (anC base ms 1++c) (YR p 1)++xs)|_=>xs
   else xs
def akR (e:Bool)(S:List AV->Prop)(outs:List (Tm×Nat×List SV))(ρ0:List AV)(m:Nat):Nat->List AV->Nat->List AV->Prop
 |0,_,_,_=>e=false|n+1,vs,k,us=>∃cs,vs.length=m/\fU (ρ0++vs++cs)=true/\S (ρ0++vs++cs)/\
  match BF (ρ0++vs++cs) outs with
  |none=>False|some (0,l)=>akR e S outs ρ0 m n (dK (ρ0++vs++cs) l) k us|some (j+1,l)=>k=j/\us=dK (ρ0++vs++cs) l
 mutual
def Lo.wk (P:Program)(T:Bh):Lo->LH->List AV->Prop
  | .mk pc base m entry outs sd aw ms bn,h=>fun ρ=>Pc.holds ρ pc->(∀t∈bn,(t.den ρ).R.length<=4294967296)->base<=ρ.length/\∃(n k:Nat) (us:List AV),(0<n/\ftV ρ h.ft<(n:Int))/\
   akR h.mt.Nh (fun σ=>xZ σ h.xs/\wP P T σ sd/\Xm P T aw h.sub σ) outs (ρ.take base) m n (dK ρ entry) k us/\ajo ρ base ms k us
def Xm (P:Program)(T:Bh):List Lo->List LH->List AV->Prop
  |[],_=>fun _=>True
  |x::r,hs=>fun σ=>x.wk P T (hdH hs) σ/\Xm P T r (tlH hs) σ
end
def akS (base:Nat)(l:List SV)(F:Pc)(t:Tm):Bool:=match jh base l .B t with
 |some t'=>ayN 2 F t'|none=>false
theorem akT {ρ:List AV}{base:Nat}{l:List SV}(hb:base<=ρ.length){F:Pc}{t:Tm}(h:akS base l F t=true)(hF:Pc.holds ρ F):(t.den (ρ.take base++dK ρ l)).B=true:=by
 unfold akS at h;split at h
 .rename_i t' ht;have h1:=yS h hF;have h2:=D8 hb ht;simp only [FH] at h2;rw [<- h2];exact h1
 .cases h
def adH (F:Pc)(xs:List (Pc×Tm))(q:List Tm)(Q:Pc):Nat->Pc->Bool
 |0,G=>Dh (ayE F xs G) q|n+1,G=>match Jm (ayE F xs G) Q with
  |none=>Dh (ayE F xs G) q|some c=>adH F xs q Q n (gJ c true G)&&adH F xs q Q n (gJ c false G)
theorem Nj {ρ:List AV}{F:Pc}{xs:List (Pc×Tm)}{q:List Tm}{Q:Pc}(hF:Pc.holds ρ F)(hx:xZ ρ xs):∀{n:Nat} {G:Pc},adH F xs q Q n G=true->Pc.holds ρ G->mO ρ q
 |0,G,h,hG=>D_ h (wJ hF hx hG)|n+1,G,h,hG=>by
  simp only [adH] at h;split at h
  .exact D_ h (wJ hF hx hG)
  .rename_i c _;rw [Bool.and_eq_true] at h;cases hc:(c.den ρ).B
   .exact Nj hF hx h.2 (dY hc hG)
   .exact Nj hF hx h.1 (dY hc hG)
def aqr (F:Pc)(xs:List (Pc×Tm))(t:Tm)(G:Pc):Bool:=match Jm (ayE F xs G) [(t,true)] with
 |none=>false|some c=>adH F xs [t] [(t,true)] 3 (ahx (gJ c true G))&&adH F xs [t] [(t,true)] 3 (ahx (gJ c false G))
theorem anD {ρ:List AV}{F:Pc}{xs:List (Pc×Tm)}{t:Tm}{G:Pc}(hF:Pc.holds ρ F)(hx:xZ ρ xs)(h:aqr F xs t G=true)(hG:Pc.holds ρ G):(t.den ρ).B=true:=by
 unfold aqr at h;split at h
 .cases h
 .rename_i c _;rw [Bool.and_eq_true] at h;cases hc:(c.den ρ).B
  .exact (Nj hF hx h.2 (Nb (dY hc hG))).1
  .exact (Nj hF hx h.1 (Nb (dY hc hG))).1
def anE (base:Nat)(l:List SV)(F:Pc)(xs:List (Pc×Tm))(G:Pc)(t:Tm):Bool:=match jh base l .B t with
 |some t'=>ayN 2 (ayE F xs G) t'||aqr F xs t' G
 |none=>false
theorem afD {ρ:List AV}{base:Nat}{l:List SV}(hb:base<=ρ.length){F:Pc}{xs:List (Pc×Tm)}{G:Pc}{t:Tm}(hF:Pc.holds ρ F)(hx:xZ ρ xs)(h:anE base l F xs G t=true)(hG:Pc.holds ρ G):(t.den (ρ.take base++dK ρ l)).B=true:=by
 unfold anE at h;split at h
 .rename_i t' ht;have h2:=D8 hb ht;simp only [FH] at h2;rw [<- h2];rw [Bool.or_eq_true] at h;rcases h with h|h
  .exact yS h (wJ hF hx hG)
  .exact anD hF hx h hG
 .cases h
def abl (base:Nat)(inv:List Tm)(mt:Tm)(post:List (List Tm))(F:Pc)(xs:List (Pc×Tm))(G:Pc)(k:Nat)(l:List SV):Bool:=
 match k with
 |0=>
  let F':=ayE F xs G
  inv.all (anE base l F xs G)&&(mt.Nh||(ayN 2 F' (Gw (.li 1) mt)&&(match jh base l .I mt with|some mt'=>ayN 2 F' (tLt mt' mt)|none=>false)))
 |k+1=>match YR post k with
  |[]=>true|p=>p.all (anE base l F xs G)
def ahB (base:Nat)(inv:List Tm)(mt:Tm)(post:List (List Tm))(F:Pc)(xs:List (Pc×Tm)):Pc->List (Tm×Nat×List SV)->Bool
 |_,[]=>true|G,[o]=>abl base inv mt post F xs G o.2.1 o.2.2|G,o::o'::r=>abl base inv mt post F xs (gJ o.1 true G) o.2.1 o.2.2&&ahB base inv mt post F xs (gJ o.1 false G) (o'::r)
def afE (base:Nat)(inv:List Tm)(mt:Tm)(post:List (List Tm))(ρ:List AV)(k:Nat)(l:List SV):Prop:=match k with
 |0=>(∀t∈inv,(t.den (ρ.take base++dK ρ l)).B=true)/\(mt.Nh=true\/(1<=(mt.den ρ).I/\(mt.den (ρ.take base++dK ρ l)).I<(mt.den ρ).I))|k+1=>∀t∈YR post k,(t.den (ρ.take base++dK ρ l)).B=true
theorem abm {ρ:List AV}{base:Nat}{inv:List Tm}{mt:Tm}{post:List (List Tm)}{F:Pc}{xs:List (Pc×Tm)}{G:Pc}{k:Nat}{l:List SV}(hb:base<=ρ.length)(h:abl base inv mt post F xs G k l=true)(hF:Pc.holds ρ F)(hx:xZ ρ xs)(hG:Pc.holds ρ G):afE base inv mt post ρ k l:=by
 have hF':=wJ hF hx hG;cases k with
 |zero=>
  simp only [abl,Bool.and_eq_true,Bool.or_eq_true] at h;obtain ⟨h1,h23⟩:=h;rw [List.all_eq_true] at h1;refine ⟨fun t ht=>afD hb hF hx (h1 t ht) hG,?_⟩;rcases h23 with h23|⟨h2,h3⟩
  .exact .inl h23
  refine .inr ⟨?_,?_⟩
  .exact of_decide_eq_true (p:=(1:Int)<=(mt.den ρ).I) (yS h2 hF')
  .split at h3
   .rename_i mt' hm;have q:=D8 hb hm;simp only [FH] at q;rw [<- q];exact of_decide_eq_true (p:=(mt'.den ρ).I<(mt.den ρ).I) (yS h3 hF')
   .cases h3
 |succ k=>
  simp only [abl] at h;intro t ht;split at h
  .rename_i e;rw [e] at ht;cases ht
  .rw [List.all_eq_true] at h;exact afD hb hF hx (h t ht) hG
theorem YS {ρ:List AV}{base:Nat}{inv:List Tm}{mt:Tm}{post:List (List Tm)}{F:Pc}{xs:List (Pc×Tm)}(hb:base<=ρ.length)(hF:Pc.holds ρ F)(hx:xZ ρ xs):∀{outs:List (Tm×Nat×List SV)} {G:Pc} {k:Nat} {l:List SV},ahB base inv mt post F xs G outs=true->Pc.holds ρ G->BF ρ outs=some (k,l)->afE base inv mt post ρ k l
 |[],G,k,l,_,_,hs=>by simp [BF] at hs
 |[o],G,k,l,h,hG,hs=>by
  simp only [BF,Option.some.injEq] at hs;simp only [ahB,hs] at h;exact abm hb h hF hx hG
 |o::o'::r,G,k,l,h,hG,hs=>by
  simp only [ahB,Bool.and_eq_true] at h;simp only [BF] at hs;cases hg:(o.1.den ρ).B
  .rw [hg] at hs;exact YS hb hF hx h.2 (dY hg hG) hs
  .rw [hg] at hs;simp only [cond_true,Option.some.injEq] at hs;rw [hs] at h;exact abm hb h.1 hF hx (dY hg hG)
def ahC (n:Nat):Pc->Pc
 |[]=>[]|x::r=>bif x.1.lt n then x::ahC n r else ahC n r
theorem afF {n:Nat}{ρ σ:List AV}(h:AgreeV n ρ σ):∀{pc:Pc},pc.holds ρ->(ahC n pc).holds σ
 |[],_=>fun x hx=>by cases hx
 |x::r,hp=>by
  have ih:=afF h (pc:=r) fun y hy=>hp y (List.mem_cons_of_mem _ hy);simp only [ahC];cases hl:x.1.lt n
  .exact ih
  .exact Pc.iw (by rw [<- Tm.lq h hl];exact hp x (List.mem_cons_self ..)) ih
def CG (l:List Tm):Pc:=l.map fun t=>(t,true)
theorem UH {ρ:List AV}{l:List Tm}(h:∀t∈l,(t.den ρ).B=true):Pc.holds ρ (CG l):=fun x hx=>by
 unfold CG at hx;obtain ⟨t,ht,rfl⟩:=List.mem_map.1 hx;exact h t ht
def ahD (F:Pc)(T:Bh):List (Pc×Side)->Nat->List Lo->List LH->List (Pc×Tm)->List (Pc×Tm)
 |sd,_,[],_,xs=>sdX F T xs sd|sd,k,x::r,hs,xs=>ahD F T (sd.drop ((hdH hs).at' - k)) (hdH hs).at' r (tlH hs) (afC F (sdX F T xs (sd.take ((hdH hs).at' - k))) x (hdH hs))
 mutual
def akU (F:Pc)(T:Bh)(xs:List (Pc×Tm)):Lo->LH->Bool
  | .mk pc base m entry outs sd aw ms bn,h=>
   let F0:=ayE (bnF bn++F) xs pc;let Fr:=CG h.inv++ahC base F0
   (h.mt.lt (base+m)&&h.inv.all fun t=>t.lt (base+m))&&((h.mt.Nh||match jh base entry .I h.mt with|some mt'=>akP 2 F0 mt' h.ft|none=>false)&&h.inv.all (akS base entry F0)&&(ahF Fr T sd 0 aw h.sub h.xs&&ahB base h.inv h.mt h.post Fr (ahD Fr T sd 0 aw h.sub h.xs) [] outs))
def ahF (F:Pc)(T:Bh):List (Pc×Side)->Nat->List Lo->List LH->List (Pc×Tm)->Bool
  |sd,_,[],_,xs=>abh F T xs sd|sd,k,x::r,hs,xs=>
   let n:=(hdH hs).at' - k
   abh F T xs (sd.take n)&&(let xs1:=sdX F T xs (sd.take n);akU F T xs1 x (hdH hs)&&ahF F T (sd.drop n) (hdH hs).at' r (tlH hs) (afC F xs1 x (hdH hs)))
end
theorem Xn {n:Nat}{a b:List AV}(h:n<=a.length):AgreeV n a (a++b):=fun i hi=>by
 rw [List.getD_eq_getElem?_getD,List.getD_eq_getElem?_getD,List.getElem?_append_left (by omega)]
theorem akV {S' S:List AV->Prop}{outs:List (Tm×Nat×List SV)}{ρ0:List AV}{base m:Nat}{inv:List Tm}{mt:Tm}{post:List (List Tm)}{Fb:Pc}{xs:List (Pc×Tm)}(hl0:ρ0.length=base)
  (hlt:(mt.lt (base+m)&&inv.all fun t=>t.lt (base+m))=true)
  (hFb:∀σ,AgreeV base ρ0 σ->Pc.holds σ Fb)
  (hS:∀σ,Pc.holds σ (CG inv++Fb)->S' σ->S σ/\xZ σ xs)
  (ho:ahB base inv mt post (CG inv++Fb) xs [] outs=true):∀{n:Nat} {vs:List AV} {k:Nat} {us:List AV},(mt.Nh=true\/0<n)->(∀t∈inv,(t.den (ρ0++vs)).B=true)->(mt.Nh=true\/(mt.den (ρ0++vs)).I<(n:Int))->akR mt.Nh S' outs ρ0 m n vs k us->ac3 S outs ρ0 m n vs k us/\∀t∈YR post k,(t.den (ρ0++us)).B=true
 |0,_,_,_,h0,_,_,hr=>by
  rcases h0 with h0|h0
  .have hr':mt.Nh=false:=hr;rw [h0] at hr';cases hr'
  .exact absurd h0 (Nat.lt_irrefl _)
 |n+1,vs,k,us,_,hi,hm,hr=>by
  obtain ⟨cs,h1,h2,h3,h4⟩:=hr;rw [Bool.and_eq_true,List.all_eq_true] at hlt;have hag:AgreeV (base+m) (ρ0++vs) (ρ0++vs++cs):=Xn (by rw [List.length_append];omega);have hF:Pc.holds (ρ0++vs++cs) (CG inv++Fb):=qF (UH fun t ht=>by rw [<- Tm.lq hag (hlt.2 t ht)];exact hi t ht) (hFb _ (by rw [List.append_assoc];exact Xn (by omega)));have hb:base<=(ρ0++vs++cs).length:=by simp only [List.length_append];omega
  have ht:(ρ0++vs++cs).take base=ρ0:=by rw [List.append_assoc,<- hl0,List.take_left]
  have hX:=hS _ hF h3;split at h4
  .exact h4.elim
  .rename_i l hsel;have q:=YS hb hF hX.2 ho (fun x hx=>by cases hx) hsel;simp only [afE] at q;rw [ht] at q;obtain ⟨q1,q23⟩:=q;have hq:(mt.Nh=true\/0<n)/\(mt.Nh=true\/(mt.den (ρ0++dK (ρ0++vs++cs) l)).I<(n:Int)):=by
    rcases q23 with q|⟨q2,q3⟩
    .exact ⟨.inl q,.inl q⟩
    .rw [<- Tm.lq hag hlt.1] at q2 q3;rcases hm with hm|hm
     .exact ⟨.inl hm,.inl hm⟩
     .exact ⟨.inr (by omega),.inr (by omega)⟩
   obtain ⟨z1,z2⟩:=akV hl0 (by rw [Bool.and_eq_true,List.all_eq_true];exact hlt) hFb hS ho hq.1 q1 hq.2 h4;exact ⟨⟨cs,h1,h2,hX.1,by rw [hsel];exact z1⟩,z2⟩
  .rename_i j l hsel;have q:=YS hb hF hX.2 ho (fun x hx=>by cases hx) hsel;simp only [afE] at q;rw [ht] at q;obtain ⟨rfl,rfl⟩:=h4;exact ⟨⟨cs,h1,h2,hX.1,by rw [hsel];exact ⟨rfl,rfl⟩⟩,q⟩
theorem akW {ρ:List AV}{base pos n:Nat}{pc:Pc}{l:List Tm}(h:Pc.holds ρ pc->∀t:Tm,t.lt (base+n)=true->(t∈l->((t.ren (shf base pos)).den ρ).B=true)){xs:List (Pc×Tm)}(hx:xZ ρ xs):xZ ρ (P_ base pos n pc l++xs):=by
 induction l with
 |nil=>exact hx|cons t r ih=>
  simp only [P_];have ih':=ih fun hp t' h1 h2=>h hp t' h1 (List.mem_cons_of_mem _ h2);cases hl:t.lt (base+n)
  .exact ih'
  .exact ⟨fun hp=>h hp t hl (List.mem_cons_self ..),ih'⟩
theorem aqs {ρ us:List AV}{base pos:Nat}(hb:base<=ρ.length)(h:∀(i:Nat) (u:AV),us[i]?=some u->ρ.getD (pos+i) eX=u){n:Nat}(hn:n<=us.length){t:Tm}(hl:t.lt (base+n)=true):(t.ren (shf base pos)).den ρ=t.den (ρ.take base++us):=by
 refine Tm.anB (n:=base+n) (fun i hi=>?_) hl;unfold shf;cases hlt:Nat.blt i base
 .have hi':¬i<base:=fun q=>by rw [show Nat.blt i base=true by rw [Nat.blt_eq];exact q] at hlt;cases hlt
  have hl':(ρ.take base).length=base:=by rw [List.length_take];omega
  simp only [cond_false];have:i-base<us.length:=by omega
  have e:=h (i-base) us[i-base] (by simp [this]);rw [Nat.add_comm,e,List.getD_eq_getElem?_getD,List.getElem?_append_right (by omega),hl'];simp [this]
 .rw [Nat.blt_eq] at hlt;simp only [cond_true];exact (QN hb hlt).symm
theorem abn {ρ:List AV}:∀{outs:List (Tm×Nat×List SV)} {x:Nat×List SV},BF ρ outs=some x->∃o∈outs,o.2=x
 |[],_,h=>by simp [BF] at h
 |[o],x,h=>by simp only [BF,Option.some.injEq] at h;exact ⟨o,by simp,h⟩
 |o::o'::r,x,h=>by
  simp only [BF] at h;cases hg:(o.1.den ρ).B
  .rw [hg] at h;obtain ⟨q,q1,q2⟩:=abn h;exact ⟨q,List.mem_cons_of_mem _ q1,q2⟩
  .rw [hg] at h;simp only [cond_true,Option.some.injEq] at h;exact ⟨o,List.mem_cons_self ..,h⟩
theorem akX {S:List AV->Prop}{outs:List (Tm×Nat×List SV)}{ρ0:List AV}{m:Nat}{ms:List Nat}(hL:abk outs ms=true):∀{n:Nat} {vs:List AV} {k:Nat} {us:List AV},ac3 S outs ρ0 m n vs k us->k<ms.length/\ms.getD k 0<=us.length
 |0,_,_,_,h=>h.elim|n+1,vs,k,us,h=>by
  obtain ⟨cs,h1,h2,h3,h4⟩:=h;split at h4
  .exact h4.elim
  .exact akX hL h4
  .rename_i j l hsel;obtain ⟨rfl,rfl⟩:=h4;obtain ⟨o,q1,q2⟩:=abn hsel;unfold abk at hL;rw [List.all_eq_true] at hL;have:=hL o q1;rw [q2,Bool.and_eq_true] at this;rw [dX];exact ⟨Nat.le_of_ble_eq_true this.1,Nat.le_of_ble_eq_true this.2⟩
theorem akY {ρ:List AV}{base pos n:Nat}{pc:Pc}{l:List Tm}{xs:List (Pc×Tm)}(h:Pc.holds ρ pc->base<=ρ.length/\∃us:List AV,n<=us.length/\(∀(i:Nat) (u:AV),us[i]?=some u->ρ.getD (pos+i) eX=u)/\∀t∈l,(t.den (ρ.take base++us)).B=true)(hx:xZ ρ xs):xZ ρ (P_ base pos n pc l++xs):=
 akW (fun hp t hl ht=>by
  obtain ⟨hb,us,h1,h2,h3⟩:=h hp;rw [aqs hb h2 h1 hl];exact h3 t ht) hx
def Lo.res (L:Lo)(post:List (List Tm))(ρ:List AV):Prop:=match L with
 | .mk pc base _ _ outs _ _ ms bn=>Pc.holds ρ pc->(∀t∈bn,(t.den ρ).R.length<=4294967296)->base<=ρ.length/\∃(k:Nat) (us:List AV),(abk outs ms=true->k<ms.length/\ms.getD k 0<=us.length)/\ajo ρ base ms k us/\∀t∈YR post k,(t.den (ρ.take base++us)).B=true
theorem adI {ρ:List AV}{F:Pc}{xs:List (Pc×Tm)}{pc:Pc}{bn:List Tm}(hF:Pc.holds ρ F)(hx:xZ ρ xs)(h:Pc.holds ρ (bnC F xs pc bn)):Pc.holds ρ pc/\∀t∈bn,(t.den ρ).R.length<=4294967296:=by
 have key:∀{t:Tm},((Gw (.rlen t) (.li big)).den ρ).B=true->(t.den ρ).R.length<=4294967296:=by
  intro t h;have h2:nM (t.den ρ).R<=big:=of_decide_eq_true h;unfold nM big at h2;omega
 unfold bnC at h;dsimp only at h;cases hq:(bn.all fun t=>ayN 1 (ayE F xs pc) (Gw (.rlen t) (.li big)))
 .rw [hq] at h;simp only [cond_false] at h;refine ⟨fun x hx=>h x (List.mem_append.2 (.inr hx)),fun t ht=>key (h (_,true) (List.mem_append.2 (.inl ?_)))⟩;clear hq h;induction bn with
  |nil=>cases ht
  |cons a r ih=>
   rcases List.mem_cons.1 ht with rfl|ht
   .exact List.mem_cons_self ..
   .exact List.mem_cons_of_mem _ (ih ht)
 .rw [hq] at h;rw [List.all_eq_true] at hq;exact ⟨h,fun t ht=>key (yS (hq t ht) (wJ hF hx h))⟩
theorem akZ {ρ:List AV}{base n n' k k0:Nat}{us:List AV}{c:Pc}(hk0:k0=0\/k0=1)(hk:k<2)(hr:ajo ρ base [n,n'] k us)(h:Pc.holds ρ (anC base [n,n'] k0++c)):k=k0:=by
 have h1:=hr.1 (by show 1<2;omega);have e:(((Tm.bin .eql (.int .i64) (.var base []) (.li 0)).den ρ).B)=dU ((ayr (ρ.getD base eX) []).D.I) 0:=rfl;have e2:ayr (ρ.getD base eX) []=ρ.getD base eX:=by cases ρ.getD base eX<;>rfl
 rw [e2,h1] at e;rcases hk0 with rfl|rfl
 .have q:=h (_,true) (List.mem_append.2 (.inl (List.mem_cons_self ..)));dsimp only at q;rw [e,rQ] at q;omega
 .have q:=h (_,false) (List.mem_append.2 (.inl (List.mem_cons_self ..)));dsimp only at q;rw [e,Cj] at q;omega
theorem ak0 {L:Lo}{H:LH}{ρ:List AV}{F:Pc}{xs:List (Pc×Tm)}(hF:Pc.holds ρ F)(hx:xZ ρ xs)(h:L.res H.post ρ):xZ ρ (afC F xs L H):=by
 obtain ⟨pc,base,m,entry,outs,sd,aw,ms,bn⟩:=L;simp only [afC];split
 .exact hx
 .rename_i p _;cases hL:abk outs ms
  .exact hx
  .simp only [cond_true];have sub:∀{a b:Pc},Pc.holds ρ (a++b)->Pc.holds ρ b:=fun h x hx=>h x (List.mem_append.2 (.inr hx));split
   .rename_i n;refine akY (fun hp=>?_) hx;obtain ⟨h1,h2⟩:=adI hF hx (sub hp);obtain ⟨hb,k,us,q1,q2,q3⟩:=h h1 h2;have hk:=q1 hL;have:k=0:=(by have:=hk.1;simp at this;exact this);subst this;exact ⟨hb,us,hk.2,q2.2,q3⟩
   .rename_i n n';refine akY (fun hp=>?_) (akY (fun hp=>?_) hx)
    .obtain ⟨h1,h2⟩:=adI hF hx (sub hp);obtain ⟨hb,k,us,q1,q2,q3⟩:=h h1 h2;have hk:=q1 hL;have:=akZ (.inl rfl) hk.1 q2 hp;subst this;exact ⟨hb,us,hk.2,q2.2,q3⟩
    .obtain ⟨h1,h2⟩:=adI hF hx (sub hp);obtain ⟨hb,k,us,q1,q2,q3⟩:=h h1 h2;have hk:=q1 hL;have:=akZ (.inr rfl) hk.1 q2 hp;subst this;exact ⟨hb,us,hk.2,q2.2,q3⟩
   .exact hx
theorem UJ {P:Program}{T:Bh}{ρ:List AV}:∀{n:Nat} {sd:List (Pc×Side)},wP P T ρ sd->wP P T ρ (sd.take n)/\wP P T ρ (sd.drop n)
 |0,sd,h=>⟨trivial,h⟩|n+1,[],h=>⟨trivial,trivial⟩|n+1,x::r,h=>⟨⟨h.1,(UJ (n:=n) h.2).1⟩,(UJ (n:=n) h.2).2⟩
theorem Qa {P:Program}{ρ:List AV}:∀{n:Nat} {sd:List (Pc×Side)},uO P ρ (sd.take n)->uO P ρ (sd.drop n)->uO P ρ sd
 |0,sd,_,h=>h|n+1,[],_,_=>trivial|n+1,x::r,h,k=>⟨h.1,Qa (n:=n) h.2 k⟩
 mutual
theorem ak1 {P:Program}{T:Bh}:∀{L:Lo} {H:LH} {ρ:List AV} {F:Pc} {xs:List (Pc×Tm)},akU F T xs L H=true->Pc.holds ρ F->xZ ρ xs->L.wk P T H ρ->L.holds P ρ/\L.res H.post ρ
  | .mk pc base m entry outs sd aw ms bn,H,ρ,F,xs,h,hF,hx,hw=>by
   simp only [akU,Bool.and_eq_true] at h;obtain ⟨h0,⟨hft,h1⟩,h4,h3⟩:=h;have all:Pc.holds ρ pc->(∀t∈bn,(t.den ρ).R.length<=4294967296)->base<=ρ.length/\∃n k us,(ac3 (fun σ=>qR P σ sd/\QD P aw σ) outs (ρ.take base) m n (dK ρ entry) k us/\∀t∈YR H.post k,(t.den (ρ.take base++us)).B=true)/\ajo ρ base ms k us:=by
    intro hp hbn;simp only [Lo.wk] at hw;obtain ⟨hb,n,k,us,⟨hn0,hn⟩,hr,hres⟩:=hw hp hbn;have hF0:=wJ (qF (akQ hbn) hF) hx hp;have hl:(ρ.take base).length=base:=(by rw [List.length_take];omega);rw [List.all_eq_true] at h1;have hm:H.mt.Nh=true\/(H.mt.den (ρ.take base++dK ρ entry)).I<(n:Int):=by
     rw [Bool.or_eq_true] at hft;rcases hft with hft|hft
     .exact .inl hft
     refine .inr ?_;split at hft
     .rename_i mt' hm;have q:=D8 hb hm;simp only [FH] at q;have q2:=YQ hft hF0;omega
     .cases hft
    refine ⟨hb,n,k,us,akV (xs:=ahD (CG H.inv++ahC base (ayE (bnF bn++F) xs pc)) T sd 0 aw H.sub H.xs) hl (by rw [Bool.and_eq_true];exact h0) (fun σ hag=>?_) (fun σ hF' hS=>?_) h3 (.inr hn0) (fun t ht=>akT hb (h1 t ht) hF0) hm hr,hres⟩
    .refine afF (fun i hi=>?_) hF0;rw [<- hag i hi];have:=QN (ρ:=ρ) (m:=[]) hb hi;simpa using this.symm
    .obtain ⟨z1,z2,z3⟩:=YT h4 hF' hS.1 hS.2.1 hS.2.2;exact ⟨⟨z1.ok,z2⟩,z3⟩
   refine ⟨?_,?_⟩
   .unfold Lo.holds;intro hp hbn;obtain ⟨hb,n,k,us,⟨z1,_⟩,z2⟩:=all hp hbn;exact ⟨hb,n,k,us,z1,z2⟩
   .intro hp hbn;obtain ⟨hb,n,k,us,⟨z1,z3⟩,z2⟩:=all hp hbn;exact ⟨hb,k,us,fun hL=>akX hL z1,z2,z3⟩
theorem YT {P:Program}{T:Bh}:∀{l:List Lo} {sd:List (Pc×Side)} {k:Nat} {hs:List LH} {ρ:List AV} {F:Pc} {xs:List (Pc×Tm)},ahF F T sd k l hs xs=true->Pc.holds ρ F->xZ ρ xs->wP P T ρ sd->Xm P T l hs ρ->uO P ρ sd/\QD P l ρ/\xZ ρ (ahD F T sd k l hs xs)
  |[],sd,k,hs,ρ,F,xs,h,hF,hx,hw,_=>by
   simp only [ahF] at h;obtain ⟨h1,h2⟩:=UG hF hx h hw;exact ⟨h1,trivial,h2⟩
  |x::r,sd,k,hs,ρ,F,xs,h,hF,hx,hw,hl=>by
   simp only [ahF,Bool.and_eq_true] at h;simp only [Xm] at hl;obtain ⟨w1,w2⟩:=UJ (n:=(hdH hs).at' - k) hw;obtain ⟨a1,a2⟩:=UG hF hx h.1 w1;obtain ⟨b1,b2⟩:=ak1 h.2.1 hF a2 hl.1;obtain ⟨c1,c2,c3⟩:=YT h.2.2 hF (ak0 hF a2 b2) w2 hl.2;exact ⟨Qa a1 c1,⟨b1,c2⟩,c3⟩
end
 mutual
def adJ : SV->Pc
  | .sc .sl t=>[(Gw (.rlen t) (.li big),true)]| .agg l=>Ea l| .gW l=>Ea l| .os _ _ _ t=>[(Gw t (.li big),true)]| .fn _ x y=>Ea x++Ea y|_=>[]
def Ea : List SV->Pc
  |[]=>[]|x::r=>adJ x++Ea r
end
 mutual
theorem anF {ρ:List AV}:∀{v:SV},(v.den ρ).bnd->Pc.holds ρ (adJ v)
  | .sc k t,h=>by
   cases k<;>simp only [adJ]<;>first|(intro x hx;cases hx;done)|skip
   exact Pc.iw (by
    have:(t.den ρ).R.length<=4294967296:=h.1;show decide (nM (t.den ρ).R<=big)=true;exact decide_eq_true (by unfold nM big;omega)) fun x hx=>by cases hx
  | .agg l,h=>by simp only [adJ];exact yT h
  | .gW l,h=>by simp only [adJ];exact yT h
  | .os b sz off t,h=>by
   simp only [adJ];exact Pc.iw (by
    have:(t.den ρ).I.toNat<=4294967296:=h;show decide ((t.den ρ).I<=big)=true;exact decide_eq_true (by unfold big;omega)) fun x hx=>by cases hx
  | .c _,_=>fun x hx=>by cases hx
  | .nil,_=>fun x hx=>by cases hx
  | .nan,_=>fun x hx=>by cases hx
  | .ost ..,_=>fun x hx=>by cases hx
  | .sf _,_=>fun x hx=>by cases hx
  | .slc _ _,_=>fun x hx=>by cases hx
  | .vp _ _,_=>fun x hx=>by cases hx
  | .op _ _ _ _,_=>fun x hx=>by cases hx
  | .fn _ _ _,h=>by simp only [adJ];exact qF (yT h.1) (yT h.2)
  | .kY _ _,_=>fun x hx=>by cases hx
  | .mp _,_=>fun x hx=>by cases hx
theorem yT {ρ:List AV}:∀{l:List SV},Fe (dK ρ l)->Pc.holds ρ (Ea l)
  |[],_=>fun x hx=>by cases hx
  |x::r,h=>by simp only [Ea];exact qF (anF h.1) (yT h.2)
end
def abo (args:List SV)(sp:Sp):Pc:=match sbL args sp.pre with
 |some l=>CG l|none=>[]
def abp (T:Bh)(sp:Sp)(args bd:List SV)(H:LH)(sd:List (Pc×Side))(aw:List Lo):Bool:=
 let F:=abo args sp++Ea bd
 ahF F T sd 0 aw H.sub H.xs
theorem abq {ρ:List AV}{args:List SV}{sp:Sp}(h:mO (dK ρ args) sp.pre):Pc.holds ρ (abo args sp):=by
 unfold abo;split
 .rename_i l hl;exact UH ((KZ hl).2 h).mem
 .exact fun x hx=>by cases hx
theorem QO {P:Program}{T:Bh}{sp:Sp}{ρ:List AV}{args bd:List SV}{H:LH}{sd:List (Pc×Side)}{aw:List Lo}(h:abp T sp args bd H sd aw=true)(hp:mO (dK ρ args) sp.pre)(hb:Pc.holds ρ (Ea bd))(hx:xZ ρ H.xs)(hw:wP P T ρ sd)(hl:Xm P T aw H.sub ρ):uO P ρ sd/\QD P aw ρ/\xZ ρ (ahD (abo args sp++Ea bd) T sd 0 aw H.sub H.xs):=
 YT h (qF (abq hp) hb) hx hw hl
def ahG (F:Pc)(xs:List (Pc×Tm))(l:SV->Option (List SV))(post:List Tm):Pc->List (Tm×SV)->Bool
  |_,[]=>true|G,[o]=>afG F xs l post G o.2|G,o::o'::r=>afG F xs l post (gJ o.1 true G) o.2&&ahG F xs l post (gJ o.1 false G) (o'::r)
 where afG (F:Pc) (xs:List (Pc×Tm)) (l:SV->Option (List SV)) (post:List Tm) (G:Pc) (v:SV):Bool:=match l v with
  |none=>false|some l=>match sbL l post with
   |none=>false|some q=>adH F xs q (q.map fun t=>(t,true)) 6 (ahx G)
theorem anG {ρ:List AV}{F:Pc}{xs:List (Pc×Tm)}{l:SV->Option (List SV)}{post:List Tm}{A:AV->List AV}(hl:∀v m,l v=some m->dK ρ m=A (v.den ρ))(hF:Pc.holds ρ F)(hx:xZ ρ xs):∀{rs:List (Tm×SV)} {G:Pc},rs≠[]->ahG F xs l post G rs=true->Pc.holds ρ G->mO (A (pU ρ rs)) post:=by
 have one:∀{G:Pc} {v:SV},ahG.afG F xs l post G v=true->Pc.holds ρ G->mO (A (v.den ρ)) post:=by
  intro G v h hG;unfold ahG.afG at h;split at h
  .cases h
  rename_i m hm;split at h
  .cases h
  rename_i q hq;rw [<- hl v m hm];exact (KZ hq).1 (Nj hF hx h (Nb hG))
 intro rs;induction rs with
 |nil=>intro G hne;exact absurd rfl hne|cons o r ih=>
  intro G _ h hG;cases r with
  |nil=>exact one h hG|cons o' r=>
   simp only [ahG,Bool.and_eq_true] at h;simp only [pU];cases hg:(o.1.den ρ).B
   .exact ih (by simp) h.2 (dY hg hG)
   .exact one h.1 (dY hg hG)
def ak2 (args bd:List SV)(sp:Sp):Bool:=match sbL args sp.bnd with
 |none=>false|some l=>(Ea bd).all fun x=>x.2&&l.any fun t=>t.beq x.1
theorem ak3 {ρ:List AV}{args bd:List SV}{sp:Sp}(h:ak2 args bd sp=true)(hb:mO (dK ρ args) sp.bnd):Pc.holds ρ (Ea bd):=by
 unfold ak2 at h;split at h
 .cases h
 rename_i l hl;rw [List.all_eq_true] at h;have hb':=((KZ hl).2 hb).mem;intro x hx;have q:=h x hx;rw [Bool.and_eq_true,List.any_eq_true] at q;obtain ⟨q1,t,q2,q3⟩:=q;rw [q1,<- Tm.beq_eq q3];exact hb' t q2
def abr (T:Bh)(sp:Sp)(args bd:List SV)(H:LH)(R:kR)(l:SV->Option (List SV)):Bool:=match sp.post with
 |[]=>true|post=>match R.rs with
  |[]=>false|_::_=>ak2 args bd sp&&(let F:=abo args sp++Ea bd;ahG F (ahD F T R.sd 0 R.aw H.sub H.xs) l post [] R.rs)
theorem YU {P:Program}{T:Bh}{sp:Sp}{ρ:List AV}{args bd:List SV}{H:LH}{R:kR}{l:SV->Option (List SV)}{A:AV->List AV}(hl:∀v m,l v=some m->dK ρ m=A (v.den ρ))(hc:abp T sp args bd H R.sd R.aw=true)(h:abr T sp args bd H R l=true)(hp:mO (dK ρ args) sp.pre)(hb:mO (dK ρ args) sp.bnd)(hx:xZ ρ H.xs)(hw:wP P T ρ R.sd)(hlw:Xm P T R.aw H.sub ρ):mO (A (pU ρ R.rs)) sp.post:=by
 unfold abr at h;split at h
 .rename_i e;rw [e];trivial
 .rename_i e;split at h
  .cases h
  .rename_i er;rw [Bool.and_eq_true] at h;have hbd:=ak3 h.1 hb;obtain ⟨-,-,hX⟩:=QO hc hp hbd hx hw hlw;exact anG hl (qF (abq hp) hbd) hX (by rw [er];simp) h.2 (fun x hx=>by cases hx)
theorem au1 {P:Program}(hm:P.follows .mixedOrders=true){X:oN}(hX:∀σ:List AV,fU σ=true->ny P σ X){I0:B_}(h0:∀σ:List AV,fU σ=true->lT P σ I0){md:Md}{FC:FuncId->wQ}{sU CF f nv:Nat}{args:List SV}{R:kR}{az:List AV}{r:AV}{T:Bh}
  (h:pK P X I0 md FC sU CF f args nv=some R) (H:LH) (hc:(abp T (T.at f) args args H R.sd R.aw&&abr T (T.at f) args args H R fun v=>some (args++[v]))=true) (ρ:List AV) (hρ:fU ρ=true) (hx:xZ ρ H.xs) (hw:wP P T ρ R.sd) (hl:Xm P T R.aw H.sub ρ) (ha:dK ρ args=az) (hr:pU ρ R.rs=r):CT P T f az r:=fun hpre=>by
 subst ha;rw [Bool.and_eq_true] at hc;refine ⟨ajI fun hb=>?_,fun hb=>?_⟩
 .obtain ⟨h1,h2,-⟩:=QO hc.1 hpre (yT hb) hx hw hl;exact akn hm hX h0 (rs:=R.rs) (sd:=R.sd) (aw:=R.aw) h hρ h1 h2 rfl hr
 .subst hr;exact YU (A:=fun r=>dK ρ args++[r]) (fun v m hm=>by simp only [Option.some.injEq] at hm;subst hm;exact Jo) hc.1 hc.2 hpre hb hx hw hl
theorem asJ {P:Program}(hm:P.follows .mixedOrders=true){X:oN}(hX:∀σ:List AV,fU σ=true->ny P σ X){I0:B_}(h0:∀σ:List AV,fU σ=true->lT P σ I0){md:Md}{FC:FuncId->wQ}{sU CF f nv:Nat}{args:List SV}{R:kR}{az:List AV}{r:AV}{p:List Nat}{sz:Nat}{T:Bh}
  (h:ahr P X I0 md FC sU CF f args nv p sz=some R) (H:LH) (hc:(abp T (T.at f) args args H R.sd R.aw&&abr T (T.at f) args args H R fun v=>some (args++[v]))=true) (ρ:List AV) (hρ:fU ρ=true) (hx:xZ ρ H.xs) (hw:wP P T ρ R.sd) (hl:Xm P T R.aw H.sub ρ) (ha:dK ρ args=az) (hr:pU ρ R.rs=r):CTo P T f az r p sz:=fun hpre=>by
 subst ha;rw [Bool.and_eq_true] at hc;refine ⟨anf fun hb=>?_,fun hb=>?_⟩
 .obtain ⟨h1,h2,-⟩:=QO hc.1 hpre (yT hb) hx hw hl;exact ap8 hm hX h0 (rs:=R.rs) (sd:=R.sd) (aw:=R.aw) h hρ h1 h2 rfl hr
 .subst hr;exact YU (A:=fun r=>dK ρ args++[r]) (fun v m hm=>by simp only [Option.some.injEq] at hm;subst hm;exact Jo) hc.1 hc.2 hpre hb hx hw hl
def Xo (tK:List (Nat×Nat))(cs:List SV):Nat->List (Nat×SB)->Option (List SV)
 |_,[]=>some []|j,(b,k)::r=>match tK.find? (fun x=>Nat.beq x.1 b) with
  |some _=>match zu cs j with
   |some (.sc .sl t)=>match Xo tK cs (j+1) r with|some l=>some (.sc .sl t::l)|none=>none
   |_=>none
  |none=>match k.okv,Xo tK cs j r with|true,some l=>some (k.sv::l)|_,_=>none
theorem O1 {ρ:List AV}{tK:List (Nat×Nat)}{cs:List SV}:∀{bl:List (Nat×SB)} {j:Nat} {l:List SV},Xo tK cs j bl=some l->dK ρ l=avB (rW ρ tK (dK ρ cs) j bl)
 |[],j,l,h=>by simp only [Xo,Option.some.injEq] at h;subst h;rfl
 |(b,k)::r,j,l,h=>by
  simp only [Xo] at h;simp only [rW];split at h
  .rename_i x hx;rw [hx];split at h
   .rename_i t ht;split at h
    .rename_i l' hl;simp only [Option.some.injEq] at h;subst h;have e:=DC (ρ:=ρ) ht;have ih:=O1 (ρ:=ρ) hl;show _::dK ρ l'=_::avB (rW ρ tK (dK ρ cs) (j+1) r);rw [ih];simp only [List.getD_eq_getElem?_getD,e,Option.getD_some];rfl
    .cases h
   .cases h
  .rename_i hx;rw [hx];split at h
   .rename_i l' hk hl;simp only [Option.some.injEq] at h;subst h;have ih:=O1 (ρ:=ρ) hl;show _::dK ρ l'=_::avB (rW ρ tK (dK ρ cs) j r);rw [ih,akJ hk]
   .cases h
def ak4 (args:List SV)(bl:List (Nat×SB))(tK:List (Nat×Nat)):SV->Option (List SV)
 | .gW (r::cs)=>match Xo tK cs 0 bl with
  |some l=>some (args++JA bl++(r::l))|none=>none
 |_=>none
def au2 (az:List AV)(ρ:List AV)(tK:List (Nat×Nat))(bl:List (Nat×SB)):AV->List AV
 | .gW (r::cs)=>az++(r::avB (rW ρ tK cs 0 bl))|_=>[]
theorem asK {P:Program}(hm:P.follows .mixedOrders=true){X:oN}(hX:∀σ:List AV,fU σ=true->ny P σ X){I0:B_}(h0:∀σ:List AV,fU σ=true->lT P σ I0){md:Md}{FC:FuncId->wQ}{sU CF f nv:Nat}{args:List SV}{R:kR}{az:List AV}{r:AV}{cs:List AV}{bl:List (Nat×SB)}{tK:List (Nat×Nat)}{n0:Nat}{bin Jw:List (Nat×qO)}{T:Bh}
  (h:Ur P X I0 md FC sU CF f args nv bl tK n0=some R) (H:LH) (hc:(abp T (T.atW f n0) (args++JA bl) args H R.sd R.aw&&abr T (T.atW f n0) (args++JA bl) args H R (ak4 args bl tK))=true) (ρ:List AV) (hρ:fU ρ=true) (hx:xZ ρ H.xs) (hw:wP P T ρ R.sd) (hl:Xm P T R.aw H.sub ρ) (ha:dK ρ args=az) (hb:Gl ρ bl=bin) (hr:pU ρ R.rs=.gW (r::cs)) (hb2:rW ρ tK cs 0 bl=Jw) (Zm:YO bl=true):CTw P T f az bin n0 r Jw:=fun hpre=>by
 subst ha;subst hb;subst hb2;rw [Bool.and_eq_true] at hc;have e:dK ρ (args++JA bl)=dK ρ args++avB (Gl ρ bl):=by rw [jr,D9 Zm]
 rw [<- e] at hpre ⊢;refine ⟨aqb fun hbd=>?_,fun hbd=>?_⟩
 .obtain ⟨h1,h2,-⟩:=QO hc.1 hpre (yT hbd) hx hw hl;exact asu hm hX h0 (rs:=R.rs) (sd:=R.sd) (aw:=R.aw) h hρ h1 h2 rfl rfl hr rfl
 .have q:=YU (A:=au2 (dK ρ (args++JA bl)) ρ tK bl) (fun v m hm=>by
   unfold ak4 at hm;split at hm
   .split at hm
    .rename_i l hl;simp only [Option.some.injEq] at hm;subst hm;rw [jr];show _=_++(_::avB (rW ρ tK (dK ρ _) 0 bl));rw [<- O1 hl];rfl
    .cases hm
   .cases hm) hc.1 hc.2 hpre hbd hx hw hl
  rw [hr] at q;exact q
end Go.Fw
end
section
namespace Go.Fw
variable [iT]
open Go.Lib
end Go.Fw
end
section
namespace Go.Fw
variable [iT]
abbrev V (n:Nat):Tm:=.var n []
abbrev W (n j:Nat):Tm:=.var n [j]
abbrev kI : Kd:=.int .i64
abbrev kU : Kd:=.int .u8
abbrev zI (t:Tm):SV:=.sc (.int .i64) t
abbrev zU (t:Tm):SV:=.sc (.int .u8) t
abbrev zB (t:Tm):SV:=.sc .bool t
abbrev zS (t:Tm):SV:=.sc .str t
abbrev zF (t:Tm):SV:=.sc .jL t
abbrev zL (t:Tm):SV:=.sc .sl t
abbrev qL (a b:Tm):Tm:=.bin .lss (.int .i64) a b
abbrev qM (a b:Tm):Tm:=.bin .leq (.int .i64) a b
abbrev qG (a b:Tm):Tm:=.bin .gtr (.int .i64) a b
abbrev qH (a b:Tm):Tm:=.bin .geq (.int .i64) a b
abbrev qE (a b:Tm):Tm:=.bin .eql (.int .i64) a b
abbrev qN (a b:Tm):Tm:=.bin .neq (.int .i64) a b
abbrev uE (a b:Tm):Tm:=.bin .eql (.int .u8) a b
abbrev uN (a b:Tm):Tm:=.bin .neq (.int .u8) a b
abbrev sE (a b:Tm):Tm:=.bin .eql .str a b
abbrev sN (a b:Tm):Tm:=.bin .neq .str a b
abbrev aI (a b:Tm):Tm:=.bin .add (.int .i64) a b
abbrev mI (a b:Tm):Tm:=.bin .sub (.int .i64) a b
abbrev cV (n:Nat)(l:List Kd):List SV:=kG n [] 0 l
abbrev cW (n j:Nat)(l:List Kd):List SV:=kG n [] j l
abbrev eI (n:Int):AV:=.p (.int .i64 n)
abbrev eU (n:Int):AV:=.p (.int .u8 n)
abbrev eB (b:Bool):AV:=.p (.bool b)
abbrev eF (n:Nat):AV:=.p (.float .f64 n)
abbrev eS (s:List UInt8):AV:=.str s
abbrev eL {α:Type}(f:α->List AV)(l:List α):AV:=.sl (List.map f l) false
class Fz (a:AV):Prop where h:a.fz=true
class YV (l:List AV):Prop where h:fU l=true
class UK {α:Type}(f:α->List AV):Prop where h:∀x,fU (f x)=true
instance {v : Value}:Fz (.p v):=⟨rfl⟩
instance {s : List UInt8}:Fz (.str s):=⟨rfl⟩
instance {l : List AV} [h:YV l]:Fz (.agg l):=⟨h.h⟩
instance {l : List AV} [h:YV l]:Fz (.gW l):=⟨h.h⟩
instance {α : Type} {f:α->List AV} [h:UK f] {l:List α}:Fz (.sl (List.map f l) false):=⟨fzs h.h l⟩
instance : YV []:=⟨rfl⟩
instance : Fz eX:=⟨rfl⟩
instance {a : AV} {l:List AV} [h:Fz a] [k:YV l]:YV (a::l):=⟨eP h.h k.h⟩
theorem afH : ∀{a b:List AV},fU a=true->fU b=true->fU (a++b)=true
 |[],b,_,h=>h|x::r,b,h1,h2=>by
  simp only [fU,Bool.and_eq_true,List.cons_append] at h1 ⊢;exact ⟨h1.1,afH h1.2 h2⟩
instance {a b:List AV} [h:YV a] [k:YV b]:YV (a++b):=⟨afH h.h k.h⟩
instance (priority :=low) {α:Type} {f:α->List AV} [h:UK f] {x:α}:YV (f x):=⟨h.h x⟩
instance {b : Bool} {x y:List AV} [h:YV x] [k:YV y]:YV (bif b then x else y):=⟨fzb h.h k.h⟩
instance : UK rowB:=⟨amZ⟩
instance : UK Bc:=⟨YD⟩
instance : UK aj1:=⟨aj2⟩
instance : UK ap0:=⟨am0⟩
instance {K V:Type} {f:K->List AV} {g:V->List AV} [h:UK f] [k:UK g]:UK (yQ f g):=⟨ang h.h k.h⟩
class Qp {α:Type}(f:α->List AV)(n:outParam Nat):Prop where h:∀x,(f x).length=n
instance : Qp rowB 1:=⟨fun _=>rfl⟩
instance : Qp Bc 1:=⟨fun _=>rfl⟩
instance : Qp aj1 1:=⟨fun _=>rfl⟩
instance : Qp ap0 1:=⟨fun _=>rfl⟩
theorem Qp.Lh {α:Type}{f:α->List AV}{n:Nat}[h:Qp f n](l:List α):jy n (l.map f):=by
 intro row hr;obtain ⟨x,-,rfl⟩:=List.mem_map.1 hr;exact h.h x
section
variable {P : Program} {T:Bh} {ρ:List AV} {pc:Pc} {r:List (Pc×Side)}
theorem wn : wP P T ρ []:=trivial
theorem wX {s:Side}(h:Pc.holds ρ pc->s.wk P T ρ)(k:wP P T ρ r):wP P T ρ ((pc,s)::r):=⟨h,k⟩
theorem wT (k:wP P T ρ r){t:Tm}:wP P T ρ ((pc,.tm t)::r):=⟨fun _ h=>h.1,k⟩
theorem leH {a b:Tm}(h:((Gw a b).den ρ).B=true):(a.den ρ).I<=(b.den ρ).I:=of_decide_eq_true h
theorem ltH {a b:Tm}(h:((tLt a b).den ρ).B=true):(a.den ρ).I<(b.den ρ).I:=of_decide_eq_true h
theorem wR {t i:Tm}{cells:List SV}{α:Type}{f:α->List AV}{l:List α}(ht:(t.den ρ).R=List.map f l)(k:wP P T ρ r)[Inhabited α](hc:dK ρ cells=f (l.getD (i.den ρ).I.toNat default):=by rfl):wP P T ρ ((pc,.row t i cells)::r):=by
 refine ⟨fun _ h=>?_,k⟩;have h0:0<=(i.den ρ).I:=leH h.1;have h1:(i.den ρ).I<nM (t.den ρ).R:=ltH h.2.1;refine ⟨h0,?_⟩;rw [ht] at h1 ⊢;rw [hc];exact (aox h0 (by simpa [nM] using h1)).2
theorem wRd {t i:Tm}{off:Nat}{ty:Bool×Nat}{v:SV}{α:Type}{f:α->List AV}{l:List α}(ht:(t.den ρ).R=List.map f l)(k:wP P T ρ r)[Inhabited α]{y:AV}(hv:v.den ρ=y:=by rfl)(hc:apart ty (f (l.getD (i.den ρ).I.toNat default)) off (fun x=>x=y):=by first|exact rfl|exact ⟨Nat.le_of_ble_eq_true rfl,rfl⟩):wP P T ρ ((pc,.rd ty t i off v)::r):=by
 refine ⟨fun _ h=>?_,k⟩;have h0:0<=(i.den ρ).I:=leH h.1;have h1:(i.den ρ).I<nM (t.den ρ).R:=ltH h.2.1;refine ⟨f (l.getD (i.den ρ).I.toNat default),?_,?_⟩
 .rw [ht] at h1 ⊢;exact (aox h0 (by simpa [nM] using h1)).2
 .rw [hv];exact hc
theorem wSt {t i m:Tm}{off:Nat}{cells:List SV}{α:Type}{f:α->List AV}{l:List α}(y:α)(ht:(t.den ρ).R=List.map f l)(k:wP P T ρ r)[Inhabited α]{N:Nat}[hn:Qp f N](hm:(m.den ρ).R=List.map f (l.set (i.den ρ).I.toNat y):=by rfl)(hc:Nat.ble (off+cells.length) N=true:=by rfl)(hy:f y=lay (f (l.getD (i.den ρ).I.toNat default)) off (dK ρ cells):=by rfl):wP P T ρ ((pc,.st t i off cells m)::r):=by
 refine ⟨fun _ h=>?_,k⟩;have h0:0<=(i.den ρ).I:=leH h.1;have h1:(i.den ρ).I<nM (t.den ρ).R:=ltH h.2.1;rw [ht] at h1;have h2:(i.den ρ).I<(l.length:Int):=by simpa [nM] using h1
 obtain ⟨row,q1,q2,q3⟩:=anh (off:=off) (cells:=dK ρ cells) (f:=f) (l:=l) y h0 h2 hn.h (by rw [dX];exact hc) hy;exact ⟨row,by rw [ht];exact q1,by rw [<- dX (ρ:=ρ)];exact q2,by rw [hm,ht];exact q3⟩
theorem az0 {t m:Tm}{lo hi:Option Tm}{sz:Nat}{α:Type}{f:α->List AV}{l:List α}(ht:(t.den ρ).R=List.map f l)(k:wP P T ρ r)[hn:Qp f sz](hm:(m.den ρ).R=List.map f ((l.drop (X6 ρ 0 lo).toNat).take ((X6 ρ l.length hi).toNat-(X6 ρ 0 lo).toNat)):=by rfl):wP P T ρ ((pc,.sub sz t lo hi m)::r):=by
 refine ⟨fun _ h=>?_,k⟩;have e:(t.den ρ).R.length=l.length:=by rw [ht];simp
 show jy sz (t.den ρ).R/\_;rw [e];have hl:(((Tm.rlen t).den ρ).I:Int)=l.length:=by show nM (t.den ρ).R=_;unfold nM;rw [e]
 refine ⟨by rw [ht];exact Qp.Lh l,?_,?_,?_,by rw [hm,ht];simp⟩
 .cases lo with
  |none=>exact Int.le_refl _|some a=>cases hi with
   |none=>exact leH h.1|some b=>exact leH h.1
 .cases lo with
  |none=>cases hi with
   |none=>exact Int.natCast_nonneg _|some b=>exact leH h.1
  |some a=>cases hi with
   |none=>have:=leH h.2.1;rw [hl] at this;exact this|some b=>exact leH h.2.1
 .cases lo with
  |none=>cases hi with
   |none=>exact Int.le_refl _|some b=>have:=leH h.2.1;rw [hl] at this;exact this
  |some a=>cases hi with
   |none=>exact Int.le_refl _|some b=>have:=leH h.2.2.1;rw [hl] at this;exact this
theorem ak5 {k:Nat}:((akI k).den ρ).I=big-k:=by
 unfold akI;rw [vP,Sl];rfl
theorem adK {t:Tm}:((Tm.rlen t).den ρ).I=((t.den ρ).R.length:Int):=rfl
theorem wMk {len cap m:Tm}{z:List SV}{α:Type}{f:α->List AV}(y:α)(hm:(m.den ρ).R=List.map f (List.replicate (len.den ρ).I.toNat y))(k:wP P T ρ r)(hy:f y=dK ρ z:=by rfl):wP P T ρ ((pc,.mk len cap z m)::r):=by
 refine ⟨fun _ h=>?_,k⟩;exact ⟨leH h.1,leH h.2.1,leH h.2.2.1,by rw [hm,List.map_replicate,hy]⟩
theorem au5 {x m:Tm}{y:List (List SV)}{sz:Nat}{α:Type}{f:α->List AV}{l:List α}(q:List α)(hx:(x.den ρ).R=List.map f l)(k:wP P T ρ r)[hn:Qp f sz](hy:fQ ρ y=List.map f q:=by rfl)(hm:(m.den ρ).R=List.map f (l++q):=by rfl):wP P T ρ ((pc,.app sz x y m)::r):=by
 refine ⟨fun _ h=>?_,k⟩;have h1:=leH h.1;rw [ak5,adK] at h1;unfold big at h1;exact ⟨by rw [hx];exact Qp.Lh l,by omega,by rw [hm,hx,hy];simp⟩
theorem asL (k:wP P T ρ r){m:Nat}{y:Tm}:wP P T ρ ((pc,.len2 m y)::r):=by
 refine ⟨fun _ h=>?_,k⟩;have h1:=leH h.1;rw [ak5,adK] at h1;unfold big at h1;show m+_<=_;omega
theorem asM {m:Nat}{t:Tm}{α:Type}{f:α->List AV}{l:List α}(ht:(t.den ρ).R=List.map f l)(k:wP P T ρ r)[hn:Qp f m]:wP P T ρ ((pc,.Lh m t)::r):=
 ⟨fun _ _=>by show jy m _;rw [ht];exact Qp.Lh l,k⟩
theorem axK (k:wP P T ρ r){x y:Tm}:wP P T ρ ((pc,.cat x y)::r):=by
 refine ⟨fun _ h=>?_,k⟩;have h1:=leH h.1;have h2:=leH h.2.1;have e:(((aoI (.slen y)).den ρ).I)=mD .i64 big (sLen (y.den ρ).S):=rfl;have h1':((y.den ρ).S.length:Int)<=big:=h1;rw [e,ZK (by unfold sLen;unfold big at *;omega) (by unfold sLen;unfold big at *;omega)] at h2;have h2':((x.den ρ).S.length:Int)<=big-((y.den ρ).S.length:Int):=h2;unfold big at h2';show _+_<=_;omega
theorem wC {f:FuncId}{args:List SV}{v:SV}{az:List AV}{y:AV}(h:CT P T f az y)(k:wP P T ρ r)(ha:dK ρ args=az:=by rfl)(hv:v.den ρ=y:=by rfl):wP P T ρ ((pc,.call f args v)::r):=by
 subst ha;subst hv;exact ⟨fun _=>h,k⟩
theorem ctP {f:FuncId}{az:List AV}{y:AV}(h:PC P f az y)(hT:T.at f=sp0:=by rfl):CT P T f az y:=fun _=>⟨h,fun _=>by rw [hT];trivial⟩
theorem ctW {f:FuncId}{az:List AV}{y:AV}(hr:y.flat=true)(h:CTw P T f az [] 0 y [])(h1:(T.atW f 0).pre=(T.at f).pre:=by rfl)(hT:(T.at f).post=[]:=by rfl):CT P T f az y:=fun hp=>by
 rw [<- h1] at hp;exact ⟨akp hr (h (by simpa [avB] using hp)).1,fun _=>by rw [hT];trivial⟩
theorem wCp {f:FuncId}{args:List SV}{v:SV}{az:List AV}{y:AV}(h:Pc.holds ρ pc->CT P T f az y)(k:wP P T ρ r)(ha:dK ρ args=az:=by rfl)(hv:v.den ρ=y:=by rfl):wP P T ρ ((pc,.call f args v)::r):=by
 subst ha;subst hv;exact ⟨h,k⟩
theorem wO {f:FuncId}{args:List SV}{v:SV}{p:List Nat}{sz:Nat}{az:List AV}{y:AV}(h:CTo P T f az y p sz)(k:wP P T ρ r)(ha:dK ρ args=az:=by rfl)(hv:v.den ρ=y:=by rfl):wP P T ρ ((pc,.PL f args v p sz false)::r):=by
 subst ha;subst hv;exact ⟨fun _=>⟨h,fun e=>by cases e⟩,k⟩
theorem wW {f:FuncId}{args:List SV}{bl Gt:List (Nat×SB)}{n0:Nat}{v:SV}{az:List AV}{y:AV}{b b':List (Nat×qO)}(h:CTw P T f az b n0 y b')(k:wP P T ρ r)(ha:dK ρ args=az:=by rfl)(hb:Gl ρ bl=b:=by rfl)(hv:v.den ρ=y:=by rfl)(hb':Gl ρ Gt=b':=by rfl):wP P T ρ ((pc,.BQ f args bl n0 v Gt)::r):=by
 subst ha;subst hb;subst hv;subst hb';exact ⟨fun _ _=>h,k⟩
theorem wWp {f:FuncId}{args:List SV}{bl Gt:List (Nat×SB)}{n0:Nat}{v:SV}{az:List AV}{y:AV}{b b':List (Nat×qO)}(h:Pc.holds ρ pc->CTw P T f az b n0 y b')(k:wP P T ρ r)(ha:dK ρ args=az:=by rfl)(hb:Gl ρ bl=b:=by rfl)(hv:v.den ρ=y:=by rfl)(hb':Gl ρ Gt=b':=by rfl):wP P T ρ ((pc,.BQ f args bl n0 v Gt)::r):=by
 subst ha;subst hb;subst hv;subst hb';exact ⟨fun hp _=>h hp,k⟩
theorem asN {t d len n:Tm}{u:List (Int×Bool)}{l:List Bool}(ht:(t.den ρ).R=List.map (yQ Bc rowB) u)(hd:(d.den ρ).R=List.map rowB l)(hk:Pc.holds ρ pc->∀e∈u,0<=e.1/\e.1<(len.den ρ).I)(k:wP P T ρ r)(hn:(n.den ρ).R=List.map rowB (MS u l):=by rfl):wP P T ρ ((pc,.mark ⟨false,1,false,1⟩ t d len n)::r):=by
 refine ⟨fun hp h=>?_,k⟩;have h1:(len.den ρ).I<=nM (d.den ρ).R:=leH h.1;have hk:=hk hp;have e0:(t.den ρ).R.map (pV ⟨false,1,false,1⟩)=u.map fun e=>(.p (.int .i64 e.1),.p (.bool e.2)):=by
  rw [ht,List.map_map];rfl
 have e1:(d.den ρ).R.length=l.length:=by rw [hd,List.length_map]
 unfold nM at h1;refine ⟨by omega,?_,?_,?_⟩
 .rw [e0];intro e he;obtain ⟨x,hx,rfl⟩:=List.mem_map.1 he;have:=hk x hx;exact ⟨_,_,rfl,this.1,by omega⟩
 .rw [hn,hd];simp [MS]
 .intro i hi;rw [e1] at hi;rw [e0,hn,hd];have e2:((u.map fun e=>((AV.p (.int .i64 e.1),AV.p (.bool e.2)):AV×AV)).any fun e=>Nat.beq (kOf e.1) i)=u.any fun e=>Nat.beq e.1.toNat i:=by
   rw [List.any_map];rfl
  rw [e2];simp only [List.getElem?_map,MS,List.getElem?_mapIdx];rw [List.getElem?_eq_getElem hi];simp only [Option.map_some];cases hq:u.any fun e=>Nat.beq e.1.toNat i
  .simp
  .simp [rowB,TT]
theorem aoL {K V:Type}[DecidableEq K]{f:K->List AV}{g:V->List AV}{kt:TypeId}{m:MSh}{t ft:Tm}{kk z v:SV}(hk:∀a b:K,aeq P 10000 kt (lQ m.ka (f a)) (lQ m.ka (f b))=some (decide (a=b)))(key:K)(zero:V){l:List (K×V)}(ht:(t.den ρ).R=List.map (yQ f g) l)(k:wP P T ρ r)(hf:∀k,(f k).length=m.kn:=by intro _;rfl)(h1:kk.den ρ=lQ m.ka (f key):=by rfl)(h2:z.den ρ=lQ m.va (g zero):=by rfl)(h3:(ft.den ρ).B=(mJ zero key l).1:=by rfl)(h4:v.den ρ=lQ m.va (g (mJ zero key l).2):=by rfl):wP P T ρ ((pc,.look kt m t kk z ft v)::r):=by
 refine ⟨fun _ _=>?_,k⟩;show ∃r,_;rw [h1,h2,h3,h4,ht];exact Xe hk hf key zero l
theorem asO {K V:Type}[DecidableEq K]{f:K->List AV}{g:V->List AV}{kt:TypeId}{m:MSh}{t nt:Tm}{kk v:SV}(hk:∀a b:K,aeq P 10000 kt (lQ m.ka (f a)) (lQ m.ka (f b))=some (decide (a=b)))(key:K)(val:V){l:List (K×V)}(ht:(t.den ρ).R=List.map (yQ f g) l)(k:wP P T ρ r)(hf:∀k,(f k).length=m.kn:=by intro _;rfl)(h1:kk.den ρ=lQ m.ka (f key):=by rfl)(h2:v.den ρ=lQ m.va (g val):=by rfl)(h3:(nt.den ρ).R=List.map (yQ f g) (mM key val l):=by rfl):wP P T ρ ((pc,.put kt m t kk v nt)::r):=by
 refine ⟨fun _ _=>?_,k⟩;show ∃r,_;rw [h1,h2,h3,ht];exact aa8 hk hf key val l
end
def Gs (P:Program)(T:Bh)(L:Lo)(H:LH)(ρ0:List AV)(n:Nat)(vs:List AV)(r:Nat×List AV):Prop:=
 match L with
 | .mk _ _ m _ outs sd aw _ _=>akR H.mt.Nh (fun σ=>xZ σ H.xs/\wP P T σ sd/\Xm P T aw H.sub σ) outs ρ0 m n vs r.1 r.2
def asP (e:Bool)(S:List AV->Prop)(outs:List (Tm×Nat×List SV))(ρ0:List AV)(m n:Nat)(σ:List AV)(o:Option (Nat×List SV))(r:Nat×List AV):Prop:=
 match o with
 |none=>False|some (0,l)=>akR e S outs ρ0 m n (dK σ l) r.1 r.2|some (j+1,l)=>r.1=j/\r.2=dK σ l
def Qq (P:Program)(T:Bh)(L:Lo)(H:LH)(ρ0:List AV)(n:Nat)(σ:List AV)(o:Option (Nat×List SV))(r:Nat×List AV):Prop:=
 match L with
 | .mk _ _ m _ outs sd aw _ _=>asP H.mt.Nh (fun σ=>xZ σ H.xs/\wP P T σ sd/\Xm P T aw H.sub σ) outs ρ0 m n σ o r
theorem l0 {P:Program}{T:Bh}{L:Lo}{H:LH}{ρ0 vs:List AV}{r:Nat×List AV}(h:H.mt.Nh=false:=by rfl):Gs P T L H ρ0 0 vs r:=by cases L;exact h
theorem lmk {P:Program}{T:Bh}{H:LH}{ρ0 vs:List AV}{n:Nat}{r:Nat×List AV}{pc:Pc}{base m:Nat}{entry:List SV}{outs:List (Tm×Nat×List SV)}{sd:List (Pc×Side)}{aw:List Lo}{ms:List Nat}{bn:List Tm}{L:Lo}(hL:L=.mk pc base m entry outs sd aw ms bn)
  (cs:List AV) [hf:YV (ρ0++vs++cs)] (hx:xZ (ρ0++vs++cs) H.xs) (hw:wP P T (ρ0++vs++cs) sd) (hl:Xm P T aw H.sub (ρ0++vs++cs)) (h:Qq P T L H ρ0 n (ρ0++vs++cs) (BF (ρ0++vs++cs) outs) r) (hm:vs.length=m:=by rfl):Gs P T L H ρ0 (n+1) vs r:=by
 subst hL;refine ⟨cs,hm,hf.h,⟨hx,hw,hl⟩,?_⟩;unfold Qq asP at h;dsimp only at h;split at h
 .exact h.elim
 .rename_i l e;first|exact h|(rw [e];exact h)
 .rename_i j l e;first|exact h|(rw [e];exact h)
theorem rcf {P:Program}{T:Bh}{L:Lo}{H:LH}{ρ0 σ:List AV}{n:Nat}{R:Type}(rk:R->Nat×List AV){g:Tm}{x:Nat×List SV}{y:Tm×Nat×List SV}{l:List (Tm×Nat×List SV)}{c:Bool}{a b:R}(h1:c=true->Qq P T L H ρ0 n σ (some x) (rk a))(h2:c=false->Qq P T L H ρ0 n σ (BF σ (y::l)) (rk b))(hg:(g.den σ).B=c:=by rfl):Qq P T L H ρ0 n σ (BF σ ((g,x)::y::l)) (rk (bif c then a else b)):=by
 simp only [BF,hg];cases c
 .exact h2 rfl
 .exact h1 rfl
theorem rc {P:Program}{T:Bh}{L:Lo}{H:LH}{ρ0 σ:List AV}{n:Nat}{R:Type}(rk:R->Nat×List AV){g:Tm}{x:Nat×List SV}{y:Tm×Nat×List SV}{l:List (Tm×Nat×List SV)}{c:Bool}{a b:R}(h1:Qq P T L H ρ0 n σ (some x) (rk a))(h2:Qq P T L H ρ0 n σ (BF σ (y::l)) (rk b))(hg:(g.den σ).B=c:=by rfl):Qq P T L H ρ0 n σ (BF σ ((g,x)::y::l)) (rk (bif c then a else b)):=
 rcf rk (fun _=>h1) (fun _=>h2) hg
theorem rl {P:Program}{T:Bh}{L:Lo}{H:LH}{ρ0 σ:List AV}{n:Nat}{r:Nat×List AV}{g:Tm}{x:Nat×List SV}(h:Qq P T L H ρ0 n σ (some x) r):Qq P T L H ρ0 n σ (BF σ [(g,x)]) r:=h
theorem rg {P:Program}{T:Bh}{L:Lo}{H:LH}{ρ0 σ vs:List AV}{n:Nat}{r:Nat×List AV}{l:List SV}(h:Gs P T L H ρ0 n vs r)(hl:dK σ l=vs:=by rfl):Qq P T L H ρ0 n σ (some (0,l)) r:=by
 subst hl;cases L;exact h
theorem rx {P:Program}{T:Bh}{L:Lo}{H:LH}{ρ0 σ:List AV}{n:Nat}{r:Nat×List AV}{j:Nat}{l:List SV}(h1:r.1=j:=by rfl)(h2:r.2=dK σ l:=by rfl):Qq P T L H ρ0 n σ (some (j+1,l)) r:=by
 cases L;exact ⟨h1,h2⟩
theorem ak6 {c a b:Bool}(h:c=false)(k:(bif c then a else b)=true):b=true:=by subst h;exact k
theorem ln {P:Program}{T:Bh}{hs:List LH}{ρ:List AV}:Xm P T [] hs ρ:=trivial
theorem fuR {α:Type}{f:α->List AV}{l:List α}:1*nM (List.map f l)+0<((l.length+1:Nat):Int):=by simp [nM];omega
theorem fuN {x:Int}:1*x+0<((x.toNat+1:Nat):Int):=by omega
theorem lc1 {P:Program}{T:Bh}{ρ ρ0 vs:List AV}{hs:List LH}{ls:List Lo}{n m0:Nat}{us:List AV}{pc:Pc}{base m:Nat}{entry:List SV}{outs:List (Tm×Nat×List SV)}{sd:List (Pc×Side)}{aw:List Lo}{bn:List Tm}{L:Lo}
  (h:Gs P T L (hdH hs) ρ0 n vs (0,us)) (k:Xm P T ls (tlH hs) ρ) (hL:L=.mk pc base m entry outs sd aw [m0] bn:=by rfl) (hb:Nat.ble base ρ.length=true:=by rfl) (h0:ρ.take base=ρ0:=by rfl) (hv:dK ρ entry=vs:=by rfl)
  (hn:ftV ρ (hdH hs).ft<(n:Int):=by first|exact fuR|exact fuN) (hu:(ρ.drop base).take us.length=us:=by rfl) (hn0:Nat.blt 0 n=true:=by rfl):Xm P T (L::ls) hs ρ:=by
 subst hL;subst h0;subst hv;refine ⟨?_,k⟩;simp only [Lo.wk];rw [Nat.blt_eq] at hn0;exact fun _ _=>⟨Nat.le_of_ble_eq_true hb,n,0,us,⟨hn0,hn⟩,h,fun h=>by simp at h,aj6 hu⟩
theorem lc2 {P:Program}{T:Bh}{ρ ρ0 vs:List AV}{hs:List LH}{ls:List Lo}{n m0 m1:Nat}{b:Bool}{u0 u1:List AV}{pc:Pc}{base m:Nat}{entry:List SV}{outs:List (Tm×Nat×List SV)}{sd:List (Pc×Side)}{aw:List Lo}{bn:List Tm}{L:Lo}
  (h:Gs P T L (hdH hs) ρ0 n vs (rk2 b u0 u1)) (k:Xm P T ls (tlH hs) ρ) (hL:L=.mk pc base m entry outs sd aw [m0,m1] bn:=by rfl) (hb:Nat.ble base ρ.length=true:=by rfl) (h0:ρ.take base=ρ0:=by rfl) (hv:dK ρ entry=vs:=by rfl)
  (hn:ftV ρ (hdH hs).ft<(n:Int):=by first|exact fuR|exact fuN) (hk:(ρ.getD base eX).D.I=mg b:=by rfl) (hu0:(ρ.drop (base+1)).take u0.length=u0:=by rfl) (hu1:(ρ.drop (base+1+m0)).take u1.length=u1:=by rfl) (hn0:Nat.blt 0 n=true:=by rfl):Xm P T (L::ls) hs ρ:=by
 subst hL;subst h0;subst hv;refine ⟨?_,k⟩;simp only [Lo.wk];rw [Nat.blt_eq] at hn0;refine fun _ _=>⟨Nat.le_of_ble_eq_true hb,n,(rk2 b u0 u1).1,(rk2 b u0 u1).2,⟨hn0,hn⟩,h,fun _=>?_,?_⟩
 .rw [hk];cases b<;>rfl
 .cases b
  .intro i u hu;have:=aj6 hu1 i u hu;have e:ayH base [m0,m1] (rk2 false u0 u1).1=base+1+m0:=(by show (base+1)+(m0+0)=_;omega);rw [e];exact this
  .intro i u hu;have:=aj6 hu0 i u hu;have e:ayH base [m0,m1] (rk2 true u0 u1).1=base+1:=rfl;rw [e];exact this
theorem xn {ρ:List AV}:xZ ρ []:=trivial
theorem xc {ρ:List AV}{pc:Pc}{t:Tm}{r:List (Pc×Tm)}(h:(t.den ρ).B=true)(k:xZ ρ r):xZ ρ ((pc,t)::r):=⟨fun _=>h,k⟩
theorem xp {ρ:List AV}{pc:Pc}{t:Tm}{r:List (Pc×Tm)}(h:Pc.holds ρ pc->(t.den ρ).B=true)(k:xZ ρ r):xZ ρ ((pc,t)::r):=⟨h,k⟩
section
variable {P : Program} {T:Bh} {X:oN} {I0:B_} {md:Md} {FC:FuncId->wQ} {sU CF f nv:Nat} {args:List SV} {az:List AV} {r:AV} {R:kR}
theorem Gx (hm:P.follows .mixedOrders=true)(hX:∀σ:List AV,fU σ=true->ny P σ X)(h0:∀σ:List AV,fU σ=true->lT P σ I0)(h:pK P X I0 md FC sU CF f args nv=some R)(H:LH)(hc:(abp T (T.at f) args args H R.sd R.aw&&abr T (T.at f) args args H R fun v=>some (args++[v]))=true)(ρ:List AV)[hρ:YV ρ](hx:xZ ρ H.xs)(hw:wP P T ρ R.sd)(hl:Xm P T R.aw H.sub ρ)(hr:pU ρ R.rs=r)(ha:dK ρ args=az:=by rfl):CT P T f az r:=
 au1 hm hX h0 h H hc ρ hρ.h hx hw hl ha hr
theorem mkO (hm:P.follows .mixedOrders=true)(hX:∀σ:List AV,fU σ=true->ny P σ X)(h0:∀σ:List AV,fU σ=true->lT P σ I0){p:List Nat}{sz:Nat}(h:ahr P X I0 md FC sU CF f args nv p sz=some R)(H:LH)(hc:(abp T (T.at f) args args H R.sd R.aw&&abr T (T.at f) args args H R fun v=>some (args++[v]))=true)(ρ:List AV)[hρ:YV ρ](hx:xZ ρ H.xs)(hw:wP P T ρ R.sd)(hl:Xm P T R.aw H.sub ρ)(hr:pU ρ R.rs=r)(ha:dK ρ args=az:=by rfl):CTo P T f az r p sz:=
 asJ hm hX h0 h H hc ρ hρ.h hx hw hl ha hr
theorem mkW (hm:P.follows .mixedOrders=true)(hX:∀σ:List AV,fU σ=true->ny P σ X)(h0:∀σ:List AV,fU σ=true->lT P σ I0){cs:List AV}{bl:List (Nat×SB)}{tK:List (Nat×Nat)}{n0:Nat}{bin Jw:List (Nat×qO)}(h:Ur P X I0 md FC sU CF f args nv bl tK n0=some R)(H:LH)(hc:(abp T (T.atW f n0) (args++JA bl) args H R.sd R.aw&&abr T (T.atW f n0) (args++JA bl) args H R (ak4 args bl tK))=true)(ρ:List AV)[hρ:YV ρ](hx:xZ ρ H.xs)(hw:wP P T ρ R.sd)(hl:Xm P T R.aw H.sub ρ)(hr:pU ρ R.rs=.gW (r::cs))(ha:dK ρ args=az:=by rfl)(hb:Gl ρ bl=bin:=by rfl)(hb2:rW ρ tK cs 0 bl=Jw:=by rfl)(Zm:YO bl=true:=by rfl):CTw P T f az bin n0 r Jw:=
 asK hm hX h0 h H hc ρ hρ.h hx hw hl ha hb hr hb2 Zm
end
end Go.Fw
end
section
namespace Go.Fw
def UL (x0:List UInt8):dP:=
 (dP.mk x0 0)
end Go.Fw
end
section
namespace Go.Fw
def alY (r:dJ×Int):AV:=.gW [(dJ.av r.1),(.p (.int .i64 r.2))]
def f_ (x0:dH)(u4:List Bool):Nat->Bool->Int->(List (Int×Bool))->(Bool×Bool×Int×List (Int×Bool)×Bool×List (Int×Bool))
 |0,_,_,_=>default|n+1,u5,u6,u7=>
  let v8:Bool:=u4.getD (u6:Int).toNat default;let v9:Bool×Bool:=mJ false u6 u7;let v10:List (Int×Bool):=mM u6 true u7;let v11:dJ:=x0.Objects.getD (u6:Int).toNat default
  bif (!(!v8)) then (true,u5,u6,u7,default,default)
  else bif v9.2 then (false,default,default,default,true,u7)
  else bif (dU v11.fA.Kind 1) then (true,u5,u6,v10,default,default)
  else f_ x0 u4 n u5 v11.fA.Ref v10
def jM (x0:dH)(u4:List Bool):Nat->Bool->Int->(List (Int×Bool))->Bool
 |0,_,_,_=>false|n+1,u5,u6,u7=>
  let v8:Bool:=u4.getD (u6:Int).toNat default;let v9:Bool×Bool:=mJ false u6 u7;let v10:List (Int×Bool):=mM u6 true u7;let v11:dJ:=x0.Objects.getD (u6:Int).toNat default
  bif (!(!v8)) then true
  else bif v9.2 then true
  else bif (dU v11.fA.Kind 1) then true
  else jM x0 u4 n u5 v11.fA.Ref v10
def jZ (x0:dH):Nat->Bool->Int->(List Bool)->(Bool×Bool×List Bool×Bool×List Bool)
 |0,_,_,_=>default|n+1,u2,u3,u4=>
  let r5:Bool×Bool×Int×List (Int×Bool)×Bool×List (Int×Bool):=f_ x0 u4 (x0.Objects.length+3) u2 u3 [];let v11:List Bool:=MS r5.2.2.2.1 u4
  bif (!(decide ((u3:Int)<(jT dJ.enc x0.Objects)))) then (true,u2,u4,default,default)
  else bif (!(dU (mg r5.1) 0)) then (false,default,default,r5.2.2.2.2.1,u4)
  else jZ x0 n r5.2.1 (fK .i64 u3 1) v11
def qy (x0:dH):Bool:=
 let v1:List Bool:=List.replicate ((jT dJ.enc x0.Objects):Int).toNat false;let r2:Bool×Bool×List Bool×Bool×List Bool:=jZ x0 (x0.Objects.length+1) false 0 v1
 bif (!(dU (mg r2.1) 0)) then r2.2.2.2.1
 else false
def oG (x0:dL)(x1:Int):Bool:=
 let v2:Bool:=iI x0
 ((dU x0.Kind x1)&&v2)
def Eb (x0:dJ):Int:=
 bif x0.Makes then 8
 else bif x0.Calls then 7
 else 6
def dZ (x0:dH)(x1:dL):Bool:=
 let v2:Bool:=iI x1;let v3:Bool:=dR x1;let v4:dJ:=x0.Objects.getD (x1.Ref:Int).toNat default;let v5:Int:=Eb v4
 bif (!v2) then false
 else ((!v3)||((decide ((x1.Ref:Int)<(jT dJ.enc x0.Objects)))&&(dU v5 x1.Kind)))
def jO (x0:dH)(x2:Int):Nat->Bool->Int->(List dL)->(Bool×Bool×List dL×Bool×List dL)
 |0,_,_,_=>default|n+1,u6,u7,u8=>
  let v9:dL:=u8.getD (u7:Int).toNat default;let v10:Bool:=dR v9;let v11:Bool:=dZ x0 v9
  bif (!(decide ((u7:Int)<2))) then (true,u6,u8,default,default)
  else bif (((!v10)||(!v11))||(decide ((v9.Ref:Int)>=x2))) then (false,default,default,false,u8)
  else jO x0 x2 n u6 (fK .i64 u7 1) u8
def sJ (x0:dH)(x1:dJ)(x2:Int):Bool:=
 let v3:Bool:=oG x1.fA 1;let v4:Bool:=oG x1.Target 1;let v5:Bool:=oG x1.Handler 1;let r6:Bool×Bool×List dL×Bool×List dL:=jO x0 x2 ((2:Int).toNat+1) false 0 [x1.Target,x1.Handler];let v11:dJ:=x0.Objects.getD (x1.Target.Ref:Int).toNat default
 bif (((((decide (((jT dI.enc x1.Props):Int) > 0))||x1.Ext)||(!v3))||(sNe x1.Text []))||(x1.Makes&&(!x1.Calls))) then false
 else bif (v4&&v5) then true
 else bif (!(dU (mg r6.1) 0)) then r6.2.2.2.1
 else ((Qy v11.Calls x1.Calls)&&(Qy v11.Makes x1.Makes))
def jQ (x0:Nat)(x1:List dI):Nat->Int->Int->(Bool×Int×Int)
 |0,_,_=>default|n+1,u2,u3=>
  let v4:dI:=x1.getD (u3:Int).toNat default;let v5:Int×Bool:=vF v4.Key
  bif (!(decide ((u3:Int)<(jT dI.enc x1)))) then (true,u2,default)
  else bif (v5.2&&(decide ((v5.1:Int)>=(((FloatKind.f64.decode x0).toInt .zero).getD 0)))) then (false,default,u3)
  else jQ x0 x1 n u2 (fK .i64 u3 1)
def nP (x0:Nat)(x1:List dI):Int:=
 let r2:Bool×Int×Int:=jQ x0 x1 (x1.length+1) 0 0
 bif (!(dU (mg r2.1) 0)) then r2.2.2
 else (-1)
def lX (x0:Nat)(x1:List dI):Bool:=
 let w2:Int:=nP x0 x1;let r2:Int:=w2
 (decide ((r2:Int)>=0))
def Bj (x0:List dI):Bool:=
 let v1:dI:=x0.getD (0:Int).toNat default;let v2:dP:=UL [108,101,110,103,116,104];let v3:dI:=x0.getD (0:Int).toNat default;let v4:Bool:=kE v3.dQ;let w5:Bool:=lX v3.dQ.Value.Num x0;let r5:Bool:=w5
 bif ((dU (jT dI.enc x0) 0)||(!((Dw v1.Key.Str v2.Str)&&(dU v1.Key.Sym v2.Sym)))) then false
 else bif (((((!v4)||v3.dQ.dS)||v3.dQ.Configurable)||(jk v3.dQ.Value.Kind 3))||(!((ZI v3.dQ.Value.Num 0)&&(XZ v3.dQ.Value.Num 4652218415073722368)))) then false
 else (!r5)
def ku (x0:List dI)(x1:List UInt8):Nat->Int->Int->(Bool×Int×Int)
 |0,_,_=>default|n+1,u2,u3=>
  let v4:dI:=x0.getD (u3:Int).toNat default;let v5:Int×Bool:=vF v4.Key;let v6:dP:=UL [108,101,110,103,116,104]
  bif (!(decide ((u3:Int)<(jT dI.enc x0)))) then (true,u2,default)
  else bif ((v5.2&&(decide ((v5.1:Int)<(sLen x1))))||((Dw v4.Key.Str v6.Str)&&(dU v4.Key.Sym v6.Sym))) then (false,default,u3)
  else ku x0 x1 n u2 (fK .i64 u3 1)
def pR (x0:List dI)(x1:List UInt8):Int:=
 let r2:Bool×Int×Int:=ku x0 x1 (x0.length+1) 0 0
 bif (!(dU (mg r2.1) 0)) then r2.2.2
 else (-1)
def nG (x0:List dI)(x1:List UInt8):Bool:=
 let w2:Int:=pR x0 x1;let r2:Int:=w2
 (decide ((r2:Int)>=0))
def Bl (x0:List dI)(x1:List UInt8):Bool:=
 let w2:Bool:=nG x0 x1;let r2:Bool:=w2
 ((decide (((sLen x1):Int)<=4096))&&(!r2))
def gG (x0:dH)(v2:dJ):Nat->Bool->Int->(Bool×Bool×Bool)
 |0,_,_=>default|n+1,u12,u13=>
  let v14:dI:=v2.Props.getD (u13:Int).toNat default;let v15:Bool:=dZ x0 v14.dQ.Value;let v16:Bool:=dZ x0 v14.dQ.Get;let v17:Bool:=dZ x0 v14.dQ.Set
  bif (!(decide ((u13:Int)<(jT dI.enc v2.Props)))) then (true,u12,default)
  else bif (((!v15)||(!v16))||(!v17)) then (false,default,false)
  else gG x0 v2 n u12 (fK .i64 u13 1)
def jH (x0:dH)(x1:Int):Bool:=
 let v2:dJ:=x0.Objects.getD (x1:Int).toNat default;let v3:Bool:=sJ x0 v2 x1;let v4:Bool:=dR v2.Target;let v5:Bool:=dZ x0 v2.Target;let v6:dJ:=x0.Objects.getD (v2.Target.Ref:Int).toNat default;let v7:Bool:=oG v2.Target 0;let v8:Bool:=oG v2.Handler 0;let v9:Bool:=dR v2.fA;let v10:Bool:=dZ x0 v2.fA;let v11:Int:=jG v2.Props;let r12:Bool×Bool×Bool:=gG x0 v2 (v2.Props.length+1) false 0;let v15:Bool:=Bj v2.Props;let v16:Bool:=Bl v2.Props v2.Text
 bif (dU v2.Kind 6) then v3
 else bif ((((!v7)&&(!(((((dU v2.Kind 5)&&v4)&&(decide ((v2.Target.Ref:Int)<x1)))&&v5)&&(dU v6.Kind 6))))||(!v8))||((sNe v2.Text [])&&(jk v2.Kind 3))) then false
 else bif ((((jk v2.fA.Kind 1)&&(!v9))||(!v10))||(jk v11 0)) then false
 else bif (!(dU (mg r12.1) 0)) then r12.2.2
 else bif (dU v2.Kind 1) then ((!v2.Calls)&&(!v2.Makes))
 else bif (dU v2.Kind 2) then (((!v2.Calls)&&(!v2.Makes))&&v15)
 else bif (dU v2.Kind 3) then (((!v2.Calls)&&(!v2.Makes))&&v16)
 else bif (dU v2.Kind 4) then (v2.Calls&&v2.Makes)
 else bif (dU v2.Kind 5) then v2.Calls
 else false
def o7 (x0:dH):Nat->Int->Int->(Bool×Int×Int)
 |0,_,_=>default|n+1,u1,u2=>
  let v3:Bool:=jH x0 u2
  bif (!(decide ((u2:Int)<(jT dJ.enc x0.Objects)))) then (true,u1,default)
  else bif (!v3) then (false,default,9)
  else o7 x0 n u1 (fK .i64 u2 1)
def lY (x0:dH):Int:=
 let r1:Bool×Int×Int:=o7 x0 (x0.Objects.length+1) 0 0;let v4:Bool:=qy x0
 bif (decide (((jT dJ.enc x0.Objects):Int) > 4096)) then 9
 else bif (!(dU (mg r1.1) 0)) then r1.2.2
 else bif v4 then 9
 else 0
end Go.Fw
end
section
namespace Go.Fw
def ltK (a b:dP):Bool:=(decide (((gZ a).1:Int)<(gZ b).1))||((dU (gZ a).1 (gZ b).1)&&(decide (((gZ a).2:Int)<(gZ b).2)))
def Srt (l:List dP):Prop:=l.Pairwise fun a b=>ltK b a=false
end Go.Fw
end
section
namespace Go.Fw
end Go.Fw
end
section
namespace Go.Fw
end Go.Fw
end
section
namespace Go.Fw
end Go.Fw
end
section
namespace Go.Fw
inductive Full (s:Int):List dP->Prop
 |nil:Full s []
 |cons {b r:List dP}:(b.length:Int)=s->Srt b->Full s r->Full s (b++r)
end Go.Fw
end
section
namespace Go.Fw
def pv : List UInt8->Int->Option Int
 |[],a=>some a|c::r,a=>if c.toNat<48\/c.toNat > 57 then none else pv r (10*a+(c.toNat-48))
def tD (n:Nat):List UInt8:=
 if n<10 then [UInt8.ofNat (48+n)] else if n<100 then [UInt8.ofNat (48+n / 10),UInt8.ofNat (48+n % 10)]
 else if n<1000 then [UInt8.ofNat (48+n / 100),UInt8.ofNat (48+n / 10 % 10),UInt8.ofNat (48+n % 10)]
 else [UInt8.ofNat (48+n / 1000),UInt8.ofNat (48+n / 100 % 10),UInt8.ofNat (48+n / 10 % 10),UInt8.ofNat (48+n % 10)]
theorem auX : ∀n<1024,ah_ ((n:Nat):Int)=tD n:=by decide +kernel
theorem awS : ∀n<1024,vF ⟨ah_ ((n:Nat):Int),0⟩=(((n:Nat):Int),true):=by decide +kernel
theorem att {s:List UInt8}{a b:Int}:∀(n:Nat) {u1:Int} {u2:Bool} {u3 u4:Int},zO ⟨s,a⟩ n u1 u2 u3 u4=zO ⟨s,b⟩ n u1 u2 u3 u4
 |0,_,_,_,_=>rfl|n+1,u1,u2,u3,u4=>by
  simp only [zO];rw [att (a:=a) (b:=b) n]
theorem axL {s:List UInt8}{a:Int}(h:¬a > 0):vF ⟨s,a⟩=vF ⟨s,0⟩:=by
 unfold vF;dsimp only;rw [att (a:=a) (b:=0),decide_eq_false h,decide_eq_false (by omega:¬(0:Int) > 0)]
theorem awT {k:dP}(h:k.Sym > 0):vF k=(0,false):=by
 unfold vF;dsimp only;rw [decide_eq_true h];rfl
theorem wsub {c:UInt8}(h:48<=c.toNat):IntKind.wrap .i64 (mD .u8 ((c.toNat:Nat):Int) 48)=c.toNat-48:=by
 have hc:=c.toNat_lt;have e:mD .u8 ((c.toNat:Nat):Int) 48=c.toNat-48:=by
  show (if (false&&decide (((c.toNat:Int)-48) % 2 ^ 8>=2 ^ (8-1)))=true then ((c.toNat:Int)-48) % 2 ^ 8-2 ^ 8 else ((c.toNat:Int)-48) % 2 ^ 8)=_;simp;omega
 rw [e];have:=G_ (a:=(c.toNat:Int)-48) (b:=0) (by omega) (by omega);unfold fK at this;simpa using this
theorem av6 (s:List UInt8):sLen s=(s.length:Int):=rfl
theorem awU {s:List UInt8}{b:Int}(hs:s.length<=4):∀(n j:Nat) {u1:Int} {u2:Bool} {a:Int},j<=s.length->s.length-j<n->0<=a->((j=0/\a<=0)\/(j=1/\a<=9)\/(j=2/\a<=99)\/(j=3/\a<=999)\/(j=4/\a<=9999))->
  ∃r,zO ⟨s,b⟩ n u1 u2 a j=r/\(match pv (s.drop j) a with|none=>r.1=false/\r.2.2.2.2=(0,false)|some v=>r.1=true/\r.2.2.2.1=v)
 |0,j,_,_,a,hj,hn,_,_=>by omega
 |n+1,j,u1,u2,a,hj,hn,h0,h1=>by
  simp only [zO,Int.toNat_natCast];by_cases hlt:j<s.length
  .have e:s.drop j=s.getD j 0::s.drop (j+1):=by
    rw [List.drop_eq_getElem_cons hlt];simp [List.getD_eq_getElem?_getD,hlt]
   rw [e];have hd:decide ((j:Int)<(sLen s:Int))=true:=decide_eq_true (show (j:Int)<(s.length:Int) by omega);simp only [hd,Bool.not_true,cond_false,pv];obtain ⟨c,hcc⟩:∃c,s.getD j 0=c:=⟨_,rfl⟩;simp only [hcc];by_cases hc:c.toNat<48\/c.toNat > 57
   .have:(decide (((c.toNat:Nat):Int)<48)||decide (((c.toNat:Nat):Int) > 57))=true:=by
     rw [<- Bool.decide_or];exact decide_eq_true (by omega)
    simp only [this,cond_true,hc,if_true];exact ⟨_,rfl,rfl,rfl⟩
   .have:(decide (((c.toNat:Nat):Int)<48)||decide (((c.toNat:Nat):Int) > 57))=false:=by
     rw [<- Bool.decide_or];exact decide_eq_false (by omega)
    simp only [this,cond_false,hc,if_false];rw [wsub (by omega),aAO (by omega) (by omega),G_ (by omega) (by omega),akz (by omega),show a*10+(↑c.toNat-48)=10*a+(↑c.toNat-48) by omega];exact awU hs n (j+1) (by omega) (by omega) (by omega) (by omega)
  .rw [List.drop_eq_nil_iff.2 (by omega)];have hd:decide ((j:Int)<(sLen s:Int))=false:=decide_eq_false (show ¬(j:Int)<(s.length:Int) by omega);simp only [hd,Bool.not_false,cond_true,pv];exact ⟨_,rfl,rfl,rfl⟩
theorem aFX {s:List UInt8}:vF ⟨s,0⟩=if s=[]\/s.length > 4\/(s.length > 1/\(s.getD 0 0).toNat=48) then (0,false) else match pv s 0 with|none=>(0,false)|some v=>if v>=1024 then (0,false) else (v,true):=by
 unfold vF;dsimp only;have hg:(((decide ((0:Int) > 0)||Dw s [])||decide ((sLen s:Int) > 4))||(decide ((sLen s:Int) > 1)&&dU (((s.getD (0:Int).toNat 0).toNat:Nat):Int) 48))=decide (s=[]\/s.length > 4\/(s.length > 1/\(s.getD 0 0).toNat=48)):=by
  rw [auT,aqf,av6,<- Bool.decide_or,<- Bool.decide_or,<- Bool.decide_and,<- Bool.decide_or];apply decide_eq_decide.2;have:(0:Int).toNat=0:=rfl;rw [this];constructor
  .rintro (((h|h)|h)|⟨h1,h2⟩)
   .omega
   .exact Or.inl h
   .exact Or.inr (Or.inl (by omega))
   .exact Or.inr (Or.inr ⟨by omega,by omega⟩)
  .rintro (h|h|⟨h1,h2⟩)
   .exact Or.inl (Or.inl (Or.inr h))
   .exact Or.inl (Or.inr (by omega))
   .exact Or.inr ⟨by omega,by omega⟩
 rw [hg];by_cases h:s=[]\/s.length > 4\/(s.length > 1/\(s.getD 0 0).toNat=48)
 .rw [if_pos h,decide_eq_true h];rfl
 .rw [if_neg h,decide_eq_false h];obtain ⟨r,hr,hm⟩:=awU (s:=s) (b:=0) (by omega) ((sLen s:Int).toNat+1) 0 (u1:=0) (u2:=false) (a:=0) (by omega) (by rw [av6];omega) (by omega) (by omega);simp only [show (((0:Nat):Int))=0 from rfl,List.drop_zero] at hr hm;rw [hr];cases hp:pv s 0 with
  |none=>
   rw [hp] at hm;rw [aht,hm.1,hm.2];rfl
  |some v=>
   rw [hp] at hm;rw [aht,hm.1,hm.2];by_cases hv:v>=1024<;>simp [hv]
theorem aub {a:UInt8}{n:Nat}(h:a.toNat=n):UInt8.ofNat n=a:=by subst h;simp
theorem awV {s:List UInt8}{v:Int}(h:vF ⟨s,0⟩=(v,true)):∃n:Nat,v=n/\n<1024/\ah_ (n:Int)=s:=by
 rw [aFX] at h;split at h
 .cases h
 rename_i hg;cases hp:pv s 0 with
 |none=>rw [hp] at h;cases h
 |some w=>
  rw [hp] at h;simp only at h;split at h
  .cases h
  rename_i hw;simp only [Prod.mk.injEq,and_true] at h;subst h;match s,hg,hp with
  |[],hg,hp=>exact absurd (Or.inl rfl) hg|[a],hg,hp=>
   simp only [pv] at hp;split at hp
   .cases hp
   simp only [Option.some.injEq] at hp;refine ⟨a.toNat-48,by omega,by omega,?_⟩;rw [auX _ (by omega)];unfold tD;rw [if_pos (by omega),aub (a:=a) (by omega)]
  |[a,b],hg,hp=>
   simp only [pv] at hp;split at hp
   .cases hp
   split at hp
   .cases hp
   simp only [Option.some.injEq] at hp;simp at hg;refine ⟨10*(a.toNat-48)+(b.toNat-48),by omega,by omega,?_⟩;rw [auX _ (by omega)];unfold tD;rw [if_neg (by omega),if_pos (by omega),aub (a:=a) (by omega),aub (a:=b) (by omega)]
  |[a,b,c],hg,hp=>
   simp only [pv] at hp;split at hp
   .cases hp
   split at hp
   .cases hp
   split at hp
   .cases hp
   simp only [Option.some.injEq] at hp;simp at hg;refine ⟨100*(a.toNat-48)+10*(b.toNat-48)+(c.toNat-48),by omega,by omega,?_⟩;rw [auX _ (by omega)];unfold tD;rw [if_neg (by omega),if_neg (by omega),if_pos (by omega),aub (a:=a) (by omega),aub (a:=b) (by omega),aub (a:=c) (by omega)]
  |[a,b,c,d],hg,hp=>
   simp only [pv] at hp;split at hp
   .cases hp
   split at hp
   .cases hp
   split at hp
   .cases hp
   split at hp
   .cases hp
   simp only [Option.some.injEq] at hp;simp at hg;refine ⟨1000*(a.toNat-48)+100*(b.toNat-48)+10*(c.toNat-48)+(d.toNat-48),by omega,by omega,?_⟩;rw [auX _ (by omega)];unfold tD;rw [if_neg (by omega),if_neg (by omega),if_neg (by omega),aub (a:=a) (by omega),aub (a:=b) (by omega),aub (a:=c) (by omega),aub (a:=d) (by omega)]
  |a::b::c::d::e::r,hg,hp=>exact absurd (Or.inr (Or.inl (by simp))) hg
end Go.Fw
end
section
namespace Go.Fw
theorem awv {s:List UInt8}{x:Int}(h:vF ⟨s,0⟩=(x,false)):x=0:=by
 rw [aFX] at h;split at h
 .cases h;rfl
 .split at h
  .cases h;rfl
  .split at h
   .cases h;rfl
   .cases h
theorem av7 {k:dP}:∀(n j:Nat) {u1:Int} {u2:Bool},j<=1024->1024-j<n->(∀i<j,ah_ ((i:Nat):Int)≠k.Str)->
  ∃r,aiH k n u1 u2 j=r/\((r.1=false/\r.2.2.2.2=true/\∃m:Nat,m<1024/\r.2.2.2.1=m/\ah_ (m:Int)=k.Str)\/(r.1=true/\∀i<1024,ah_ ((i:Nat):Int)≠k.Str))
 |0,j,_,_,hj,hn,hm=>by omega
 |n+1,j,u1,u2,hj,hn,hm=>by
  simp only [aiH];by_cases hlt:j<1024
  .have hd:decide ((j:Int)<1024)=true:=decide_eq_true (by omega);simp only [hd,Bool.not_true,cond_false,auT];by_cases he:ah_ (j:Int)=k.Str
   .simp only [decide_eq_true he,cond_true];exact ⟨_,rfl,Or.inl ⟨rfl,rfl,j,hlt,rfl,he⟩⟩
   .simp only [decide_eq_false he,cond_false,akz (show j<=4294967296 by omega)];exact av7 n (j+1) (by omega) (by omega) (fun i hi=>by
     by_cases h:i=j
     .subst h;exact he
     .exact hm i (by omega))
  .have hd:decide ((j:Int)<1024)=false:=decide_eq_false (by omega);simp only [hd,Bool.not_false,cond_true];exact ⟨_,rfl,Or.inr ⟨rfl,fun i hi=>hm i (by omega)⟩⟩
theorem av8 (k:dP):ahe k=vF k:=by
 by_cases hs:k.Sym > 0
 .rw [awT hs];unfold ahe;dsimp only;rw [decide_eq_true hs];rfl
 obtain ⟨s,a⟩:=k;rw [axL hs];by_cases hl:s.length > 4
 .rw [aFX,if_pos (Or.inr (Or.inl hl))];unfold ahe;dsimp only;have:decide ((sLen s:Int) > 4)=true:=decide_eq_true (show (s.length:Int) > 4 by omega);rw [this,Bool.or_true];rfl
 unfold ahe;dsimp only;have h1:decide ((sLen s:Int) > 4)=false:=decide_eq_false (show ¬(s.length:Int) > 4 by omega);have h2:decide (a > 0)=false:=decide_eq_false hs;rw [h1,h2];obtain ⟨r,hr,hc⟩:=av7 (k:=⟨s,a⟩) ((1024:Int).toNat+1) 0 (u1:=0) (u2:=false) (by omega) (by show 1024-0<1025;omega) (fun i hi=>by omega);simp only [show (((0:Nat):Int))=0 from rfl] at hr;rw [hr];rcases hc with ⟨c1,c2,m,c3,c4,c5⟩|⟨c1,c2⟩
 .simp only at c5;rw [aht,c1,c2,c4,<- c5,awS m c3];rfl
 .rw [aht,c1];generalize hk:vF ⟨s,0⟩=x;obtain ⟨v,b⟩:=x;cases b with
  |true=>
   obtain ⟨m,q1,q2,q3⟩:=awV hk;exact absurd q3 (c2 m q2)
  |false=>rw [awv hk];rfl
end Go.Fw
end
section
namespace Go.Fw
end Go.Fw
end
section
namespace Go.Fw
theorem UM {x:Nat}(h:x<2 ^ 64):uG x=Ji x:=by
 unfold uG Ji Ir;dsimp only;have ht:Fj x=iH x:=rfl;have ha:MW x=x % 9223372036854775808:=azz h;have hs:zM x=(jm x).neg:=anj h;rw [ht,ha,hs,Bf,MV x 0,D5];by_cases hn:vg x=true
 .simp [hn]
 .have hn:vg x=false:=by simpa using hn
  rw [akx x hn,hn];cases hx:jm x with
  |nan s t=>unfold vg at hn;rw [hx] at hn;cases hn
  |infinity s=>
   have:(ZI x 14069245235905429503&&XZ x 4845873199050653695)=false:=by
    unfold ZI XZ Ieee.Format.order;show (((Ieee.Datum.order (jm x) _ == _)||(Ieee.Datum.order (jm x) _ == _))&&((Ieee.Datum.order (jm x) _ == _)||(Ieee.Datum.order (jm x) _ == _)))=false;rw [hx];have e1:FloatKind.f64.format.read 4845873199050653695=.number false 9007199254740991 0:=OM;have e2:FloatKind.f64.format.read 14069245235905429503=.number true 9007199254740991 0:=KR;rw [e1,e2];cases s<;>rfl
   simp [this]
  |number s m i=>
   rw [Uu hx];simp only [MV,Ieee.Datum.neg];cases m with
   |zero=>
    rw [akw hx];simp only [Ieee.Datum.isZero];generalize (ZI x 14069245235905429503&&XZ x 4845873199050653695)=A;generalize fEq (FloatKind.f64.nearest (((FloatKind.f64.decode x).toInt .zero).getD 0)) x=B;cases A<;>cases B<;>cases s<;>rfl
   |succ m=>
    simp only [Ieee.Datum.isZero];generalize (ZI x 14069245235905429503&&XZ x 4845873199050653695)=A;generalize fEq (FloatKind.f64.nearest (((FloatKind.f64.decode x).toInt .zero).getD 0)) x=B;cases A<;>cases B<;>cases s<;>rfl
theorem Nk : uG 0=true:=by decide +kernel
theorem UN {x:Nat}(h:x<2 ^ 64):(fEq x 0&&uG x)=iU x:=by
 unfold iU;by_cases hz:fEq x 0=true
 .rw [UM h];rw [D5] at hz;cases hx:jm x with
  |nan s t=>rw [hx] at hz;cases hz
  |infinity s=>rw [hx] at hz;cases hz
  |number s m i=>
   cases m with
   |succ m=>rw [hx] at hz;cases hz
   |zero=>
    have hn:vg x=false:=(by unfold vg;rw [hx]);rw [adA hx];unfold Ji Ir;dsimp only;rw [akw hx,Bf,hn];have hz':fEq x 0=true:=(by rw [D5,hx];rfl);have e1:ZI x 14069245235905429503=true:=by
     unfold ZI Ieee.Format.order;show ((Ieee.Datum.order (jm x) (jm _) == _)||(Ieee.Datum.order (jm x) (jm _) == _))=true;have e:jm 14069245235905429503=.number true 9007199254740991 0:=KR;rw [hx,e];simp only [Ieee.Datum.order,aku,sg0,Ieee.signed,if_true,decide_eq_true_eq];have:=Int.natCast_nonneg (9007199254740991 <<< (0-min i 0).toNat);generalize ((9007199254740991 <<< (0-min i 0).toNat:Nat):Int)=q at this ⊢;omega
    have e2:XZ x 4845873199050653695=true:=by
     unfold XZ Ieee.Format.order;show ((Ieee.Datum.order (jm x) (jm _) == _)||(Ieee.Datum.order (jm x) (jm _) == _))=true;have e:jm 4845873199050653695=.number false 9007199254740991 0:=OM;rw [hx,e];simp only [Ieee.Datum.order,akt,sg0,Ieee.signed,if_true,decide_eq_true_eq,Bool.false_eq_true,if_false];have:=Int.natCast_nonneg (9007199254740991 <<< (0-min i 0).toNat);generalize ((9007199254740991 <<< (0-min i 0).toNat:Nat):Int)=q at this ⊢;omega
    have e3:fEq (FloatKind.f64.nearest (((FloatKind.f64.decode x).toInt .zero).getD 0)) x=true:=by
     rw [<- Uu hx];have:iH x=FloatKind.f64.format.word s 0:=by
      unfold iH FloatKind.decode FloatKind.encode;show FloatKind.f64.format.write ((jm x).integral .zero)=_;rw [hx];simp only [Ieee.Datum.integral,MN,Nat.shiftLeft_eq,Ieee.Format.write,Nat.zero_mul,Nat.zero_div,Xf]
     rw [this,akv];unfold fEq Ieee.Format.order;show (Ieee.Datum.order (jm x) (jm _) == _)=true;rw [adz,hx];simp only [Ieee.Datum.order,ayY,sg0];rfl
    rw [e1,e2,MV,e3,hz'];cases s<;>rfl
 .have hz:fEq x 0=false:=by simpa using hz
  simp [hz]
def u8 (n:Int):Prop:=0<=n/\n<=255
def dL.ok (v:dL):Prop:=u8 v.Kind/\v.Num<2 ^ 64
theorem abt {n:Int}(h:u8 n):n=0\/n=1\/n=2\/n=3\/n=4\/n=5\/n=6\/n=7\/n=8\/n > 8:=by unfold u8 at h;omega
theorem FZ {x:Nat}:KW x 0=iU x:=by
 unfold KW iU;rw [Bf,Bf];have h0:vg 0=false:=by rfl
 rw [h0,MV,D5];cases hx:jm x with
 |nan s t=>simp [vg,hx,Ieee.Datum.isZero]|infinity s=>simp [vg,hx,Ieee.Datum.isZero]|number s m i=>
  cases m with
  |succ m=>simp [vg,hx,Ieee.Datum.isZero]|zero=>
   rw [adA hx,ayL hx,ayL afo];have:vg x=false:=(by simp [vg,hx]);rw [this];cases s<;>rfl
theorem FI {v:dL}(h:v.ok):iI v=kT v:=by
 obtain ⟨k,n,s,r⟩:=v;obtain ⟨hk,hn⟩:=h;dsimp only at hk hn;have hN:=UN hn;have hM:=UM hn;unfold iI kT;dsimp only;have hlen:(sLen s > 4096)=¬(sLen s<=4096):=by simp
 have hr0:∀r:Int,(decide (r<0)=!(dU r 0||decide (r > 0))):=by
  intro r;unfold dU;by_cases h1:r<0
  .have h2:¬r=0:=(by omega);have h3:¬r > 0:=(by omega);simp [h1,h2,h3]
  .by_cases h2:r=0
   . simp [h2]
   . have h3:r > 0:=by omega
     simp [h1,h2,h3]
 rw [<- hN,<- hM];have hse:Dw s []=true->sLen s<=4096:=by
  intro e;have:s=[]:=of_decide_eq_true e;subst this;simp [sLen]
 simp only [hlen,decide_not,hr0,Nk,MV];have hz:fEq 0 0=true:=by rfl
 generalize hA:decide (sLen s<=4096)=A;have hAs:Dw s []=true->A=true:=fun e=>by rw [<- hA];exact decide_eq_true (hse e)
 have hr1:dU r 0=true->decide (r > 0)=false:=fun e=>by
  have:r=0:=by simpa [dU] using e
  subst this;rfl
 have au8:Dw ([]:List UInt8) []=true:=by rfl
 have hi0:dU 0 0=true:=by rfl
 have hkk:dU k k=true:=by simp [dU]
 rw [hkk];rcases abt hk with rfl|rfl|rfl|rfl|rfl|rfl|rfl|rfl|rfl|h8
 all_goals first
  |(have hgt:decide (k > 8)=true:=decide_eq_true h8
    simp only [hgt,Bool.true_or,cond_true]
    done)
  |(simp only [dU] at hr1
    simp only [dU,Int.reduceBEq,Int.reduceGT,Int.reduceGE,decide_true,decide_false,cond_true,cond_false,Bool.or_true,Bool.true_or,Bool.or_false,Bool.false_or,Bool.and_true,Bool.true_and,Bool.and_false,Bool.false_and,Bool.not_true,Bool.not_false,hz,au8,hi0,Nk];generalize Dw s []=S at *;generalize (r == 0)=R at *;generalize decide (r > 0)=Q at *;generalize uG n=M at *;generalize fEq n 0=Z at *;generalize fEq n 4607182418800017408=O at *;clear hN hM hn hk;revert hAs hr1;clear hA hse hr0;revert A S R Q M Z O;decide)
end Go.Fw
end
section
namespace Go.Fw
set_option maxRecDepth 20000
def hb (n:Int)(i:Nat):Bool:=n.toNat.testBit i
structure Bits (n:Int):Prop where
 a1:jk (jl .u8 n 1) 0=hb n 0
 a2:jk (jl .u8 n 2) 0=hb n 1
 a4:jk (jl .u8 n 4) 0=hb n 2
 a8:jk (jl .u8 n 8) 0=hb n 3
 a16:jk (jl .u8 n 16) 0=hb n 4
 a32:jk (jl .u8 n 32) 0=hb n 5
 z1:dU (jl .u8 n 1) 0=!hb n 0
 z4:dU (jl .u8 n 4) 0=!hb n 2
 z8:dU (jl .u8 n 8) 0=!hb n 3
 c1:jk (jl .u8 (EM .u8 n) 1) 0=!hb n 0
 c2:jk (jl .u8 (EM .u8 n) 2) 0=!hb n 1
 c4:jk (jl .u8 (EM .u8 n) 4) 0=!hb n 2
 c8:jk (jl .u8 (EM .u8 n) 8) 0=!hb n 3
 c16:jk (jl .u8 (EM .u8 n) 16) 0=!hb n 4
 c32:jk (jl .u8 (EM .u8 n) 32) 0=!hb n 5
 a12:jk (jl .u8 n 12) 0=(hb n 2||hb n 3)
 a3:jk (jl .u8 n 3) 0=(hb n 0||hb n 1)
 z15:dU (jl .u8 n 15) 0=!((hb n 0||hb n 1)||(hb n 2||hb n 3))
 n63:jk (nK .u8 n 63) 0=decide (n > 63)
 r1:dU (LV .u8 (LU .u8 n 1) 2) 1=hb n 0
 r2:dU (LV .u8 (LU .u8 n 2) 2) 1=hb n 1
 r4:dU (LV .u8 (LU .u8 n 4) 2) 1=hb n 2
 r8:dU (LV .u8 (LU .u8 n 8) 2) 1=hb n 3
 r16:dU (LV .u8 (LU .u8 n 16) 2) 1=hb n 4
 r32:dU (LV .u8 (LU .u8 n 32) 2) 1=hb n 5
 o60:decide (n > 63)=false->(hb n 0||hb n 1)=false->ZH .u8 n 60=60
 o51:decide (n > 63)=false->(hb n 2||hb n 3)=false->ZH .u8 n 51=51
 p60:decide (n > 63)=false->(hb n 0||hb n 1)=false->ZH .u8 (nK .u8 n 48) 60=60
 p51:decide (n > 63)=false->(hb n 2||hb n 3)=false->ZH .u8 (nK .u8 n 48) 51=51
 p12:jk (jl .u8 (nK .u8 n 48) 12) 0=(hb n 2||hb n 3)
 e51:n=51->(hb n 0=true/\hb n 1=true/\hb n 2=false/\hb n 3=false/\hb n 4=true/\hb n 5=true)
 e60:n=60->(hb n 0=false/\hb n 1=false/\hb n 2=true/\hb n 3=true/\hb n 4=true/\hb n 5=true)
 w60:(hb n 2||hb n 3)=true->decide (n > 63)=false->(hb n 0||hb n 1)=false->jk n (ZH .u8 n 60)=!(dU n 51||dU n 60)
 w51:(hb n 2||hb n 3)=false->decide (n > 63)=false->jk n (ZH .u8 n 51)=!(dU n 51||dU n 60)
def adL (n:Int):Prop:=(jk (jl .u8 n 1) 0=hb n 0/\jk (jl .u8 n 2) 0=hb n 1/\jk (jl .u8 n 4) 0=hb n 2/\jk (jl .u8 n 8) 0=hb n 3/\jk (jl .u8 n 16) 0=hb n 4/\jk (jl .u8 n 32) 0=hb n 5/\
 dU (jl .u8 n 1) 0=(!hb n 0)/\dU (jl .u8 n 4) 0=(!hb n 2)/\dU (jl .u8 n 8) 0=(!hb n 3))
instance (n : Int):Decidable (adL n):=by unfold adL;infer_instance
theorem ahI : ∀k:Fin 256,adL ((k:Nat):Int):=by decide +kernel
def adM (n:Int):Prop:=(jk (jl .u8 (EM .u8 n) 1) 0=(!hb n 0)/\jk (jl .u8 (EM .u8 n) 2) 0=(!hb n 1)/\jk (jl .u8 (EM .u8 n) 4) 0=(!hb n 2)/\jk (jl .u8 (EM .u8 n) 8) 0=(!hb n 3)/\
 jk (jl .u8 (EM .u8 n) 16) 0=(!hb n 4)/\jk (jl .u8 (EM .u8 n) 32) 0=(!hb n 5))
instance (n : Int):Decidable (adM n):=by unfold adM;infer_instance
theorem ahJ : ∀k:Fin 256,adM ((k:Nat):Int):=by decide +kernel
def adN (n:Int):Prop:=(jk (jl .u8 n 12) 0=(hb n 2||hb n 3)/\jk (jl .u8 n 3) 0=(hb n 0||hb n 1)/\dU (jl .u8 n 15) 0=(!((hb n 0||hb n 1)||(hb n 2||hb n 3)))/\jk (nK .u8 n 63) 0=decide (n > 63))
instance (n : Int):Decidable (adN n):=by unfold adN;infer_instance
theorem ahK : ∀k:Fin 256,adN ((k:Nat):Int):=by decide +kernel
def adO (n:Int):Prop:=(dU (LV .u8 (LU .u8 n 1) 2) 1=hb n 0/\dU (LV .u8 (LU .u8 n 2) 2) 1=hb n 1/\dU (LV .u8 (LU .u8 n 4) 2) 1=hb n 2/\dU (LV .u8 (LU .u8 n 8) 2) 1=hb n 3/\
 dU (LV .u8 (LU .u8 n 16) 2) 1=hb n 4/\dU (LV .u8 (LU .u8 n 32) 2) 1=hb n 5)
instance (n : Int):Decidable (adO n):=by unfold adO;infer_instance
theorem ahM : ∀k:Fin 256,adO ((k:Nat):Int):=by decide +kernel
def adP (n:Int):Prop:=(decide (n > 63)=false->(hb n 0||hb n 1)=false->ZH .u8 n 60=60)
instance (n : Int):Decidable (adP n):=by unfold adP;infer_instance
theorem ahO : ∀k:Fin 256,adP ((k:Nat):Int):=by decide +kernel
def adQ (n:Int):Prop:=(decide (n > 63)=false->(hb n 2||hb n 3)=false->ZH .u8 n 51=51)
instance (n : Int):Decidable (adQ n):=by unfold adQ;infer_instance
theorem ahP : ∀k:Fin 256,adQ ((k:Nat):Int):=by decide +kernel
def adR (n:Int):Prop:=(decide (n > 63)=false->(hb n 0||hb n 1)=false->ZH .u8 (nK .u8 n 48) 60=60)
instance (n : Int):Decidable (adR n):=by unfold adR;infer_instance
theorem ahQ : ∀k:Fin 256,adR ((k:Nat):Int):=by decide +kernel
def adS (n:Int):Prop:=(decide (n > 63)=false->(hb n 2||hb n 3)=false->ZH .u8 (nK .u8 n 48) 51=51)
instance (n : Int):Decidable (adS n):=by unfold adS;infer_instance
theorem ahR : ∀k:Fin 256,adS ((k:Nat):Int):=by decide +kernel
def adT (n:Int):Prop:=jk (jl .u8 (nK .u8 n 48) 12) 0=(hb n 2||hb n 3)
instance (n : Int):Decidable (adT n):=by unfold adT;infer_instance
theorem ahS : ∀k:Fin 256,adT ((k:Nat):Int):=by decide +kernel
def adU (n:Int):Prop:=(n=51->(hb n 0=true/\hb n 1=true/\hb n 2=false/\hb n 3=false/\hb n 4=true/\hb n 5=true))
instance (n : Int):Decidable (adU n):=by unfold adU;infer_instance
theorem ahT : ∀k:Fin 256,adU ((k:Nat):Int):=by decide +kernel
def YW (n:Int):Prop:=(n=60->(hb n 0=false/\hb n 1=false/\hb n 2=true/\hb n 3=true/\hb n 4=true/\hb n 5=true))
instance (n : Int):Decidable (YW n):=by unfold YW;infer_instance
theorem adV : ∀k:Fin 256,YW ((k:Nat):Int):=by decide +kernel
def YX (n:Int):Prop:=((hb n 2||hb n 3)=true->decide (n > 63)=false->(hb n 0||hb n 1)=false->jk n (ZH .u8 n 60)=!(dU n 51||dU n 60))
instance (n : Int):Decidable (YX n):=by unfold YX;infer_instance
theorem adW : ∀k:Fin 256,YX ((k:Nat):Int):=by decide +kernel
def YZ (n:Int):Prop:=((hb n 2||hb n 3)=false->decide (n > 63)=false->jk n (ZH .u8 n 51)=!(dU n 51||dU n 60))
instance (n : Int):Decidable (YZ n):=by unfold YZ;infer_instance
theorem adX : ∀k:Fin 256,YZ ((k:Nat):Int):=by decide +kernel
theorem bits {n:Int}(h:u8 n):Bits n:=by
 obtain ⟨h0,h1⟩:=h;have e':((n.toNat:Nat):Int)=n:=by omega
 have q0:=ahI ⟨n.toNat,by omega⟩;rw [show ((((⟨n.toNat,by omega⟩:Fin 256):Nat)):Int)=n from e'] at q0;have q1:=ahJ ⟨n.toNat,by omega⟩;rw [show ((((⟨n.toNat,by omega⟩:Fin 256):Nat)):Int)=n from e'] at q1;have q2:=ahK ⟨n.toNat,by omega⟩;rw [show ((((⟨n.toNat,by omega⟩:Fin 256):Nat)):Int)=n from e'] at q2;have q3:=ahM ⟨n.toNat,by omega⟩;rw [show ((((⟨n.toNat,by omega⟩:Fin 256):Nat)):Int)=n from e'] at q3;have q4:=ahO ⟨n.toNat,by omega⟩;rw [show ((((⟨n.toNat,by omega⟩:Fin 256):Nat)):Int)=n from e'] at q4;have q5:=ahP ⟨n.toNat,by omega⟩;rw [show ((((⟨n.toNat,by omega⟩:Fin 256):Nat)):Int)=n from e'] at q5;have q6:=ahQ ⟨n.toNat,by omega⟩;rw [show ((((⟨n.toNat,by omega⟩:Fin 256):Nat)):Int)=n from e'] at q6;have q7:=ahR ⟨n.toNat,by omega⟩;rw [show ((((⟨n.toNat,by omega⟩:Fin 256):Nat)):Int)=n from e'] at q7;have q8:=ahS ⟨n.toNat,by omega⟩;rw [show ((((⟨n.toNat,by omega⟩:Fin 256):Nat)):Int)=n from e'] at q8
 have q9:=ahT ⟨n.toNat,by omega⟩;rw [show ((((⟨n.toNat,by omega⟩:Fin 256):Nat)):Int)=n from e'] at q9;have q10:=adV ⟨n.toNat,by omega⟩;rw [show ((((⟨n.toNat,by omega⟩:Fin 256):Nat)):Int)=n from e'] at q10;have q11:=adW ⟨n.toNat,by omega⟩;rw [show ((((⟨n.toNat,by omega⟩:Fin 256):Nat)):Int)=n from e'] at q11;have q12:=adX ⟨n.toNat,by omega⟩;rw [show ((((⟨n.toNat,by omega⟩:Fin 256):Nat)):Int)=n from e'] at q12;obtain ⟨a,b,c,d,e,f,g,h,i⟩:=q0;obtain ⟨j,k,l,m,o,p⟩:=q1;obtain ⟨q,r,s,t⟩:=q2;obtain ⟨u,v,w,x,y,z⟩:=q3;exact ⟨a,b,c,d,e,f,g,h,i,j,k,l,m,o,p,q,r,s,t,u,v,w,x,y,z,q4,q5,q6,q7,q8,q9,q10,q11,q12⟩
def dN.ok (v:dN):Prop:=u8 v.Has/\v.Value.ok/\v.Get.ok/\v.Set.ok
def UO (v:dL):Bool:=(dU v.Kind 0)&&((fEq v.Num 0)&&((Dw v.Str [])&&(dU v.Ref 0)))
theorem ayZ {v:dL}(h:v.ok):iC v=(iI v&&UO v):=by
 rw [FI h];unfold iC Iq UO kT;dsimp only;rw [FZ];have hn:iU v.Num=(fEq v.Num 0&&iU v.Num):=by
  unfold iU;cases fEq v.Num 0<;>rfl
 rw [hn];by_cases hk:v.Kind=0
 .rw [hk];have e1:decide ((0:Int) > 8)=false:=rfl;have e2:dU 0 3=false:=rfl;have e3:dU 0 2=false:=rfl;have e4:dU 0 4=false:=rfl;have e5:dU 0 0=true:=rfl;have e6:decide ((0:Int)>=5)=false:=rfl;simp only [e1,e2,e3,e4,e5,e6,cond_false,Bool.false_and,Bool.or_false,Bool.true_and];cases Dw v.Str []<;>cases dU v.Ref 0<;>cases fEq v.Num 0<;>cases iU v.Num<;>rfl
 .have e5:dU v.Kind 0=false:=by simp [dU,hk]
  simp [e5]
theorem Xp {v:dL}(h:v.ok):lC v=iq v:=by
 unfold lC iq;dsimp only;rw [FI h];rfl
theorem UQ {v:dL}:(lC v&&UO v)=(iI v&&UO v):=by
 unfold lC UO;dsimp only;cases iI v<;>cases dU v.Kind 0<;>simp
theorem Nl {x:dN}(h:x.ok):rX x=jv x:=by
 obtain ⟨h1,h2,h3,h4⟩:=h;have B:=bits h1;unfold rX jv kE iy jP iJ fP;dsimp only;rw [<- FI h2,ayZ h2,ayZ h3,ayZ h4,<- Xp h3,<- Xp h4,<- UQ (v:=x.Get),<- UQ (v:=x.Set)];have n2:((dU x.Value.Kind 0)&&((fEq x.Value.Num 0)&&((Dw x.Value.Str [])&&(dU x.Value.Ref 0))))=UO x.Value:=rfl;have n3:((dU x.Get.Kind 0)&&((fEq x.Get.Num 0)&&((Dw x.Get.Str [])&&(dU x.Get.Ref 0))))=UO x.Get:=rfl;have n4:((dU x.Set.Kind 0)&&((fEq x.Set.Num 0)&&((Dw x.Set.Str [])&&(dU x.Set.Ref 0))))=UO x.Set:=rfl;rw [n2,n3,n4,B.a12,B.a3,B.n63,B.c1,B.c2,B.c4,B.c8,B.c16,B.c32,B.r1,B.r2,B.r4,B.r8,B.r16,B.r32];generalize iI x.Value=M;generalize lC x.Get=G;generalize lC x.Set=S;generalize UO x.Value=N2;generalize UO x.Get=N3;generalize UO x.Set=N4;generalize hb x.Has 0=b0;generalize hb x.Has 1=b1;generalize hb x.Has 2=b2;generalize hb x.Has 3=b3;generalize hb x.Has 4=b4;generalize hb x.Has 5=b5;generalize decide (x.Has > 63)=big
 generalize x.eH=w;generalize x.dS=e;generalize x.Configurable=c;have key:((((((big||((b0||b1)&&(b2||b3)))||(!M))||(!G))||(!S))||((((!b0)&&(!N2))||((!b2)&&(!N3)))||((!b3)&&(!N4))))||((((!b1)&&w)||((!b4)&&e))||((!b5)&&c))) =
   ((big||((b0||b1)&&(b2||b3)))||((((!(bif b0 then M else (M&&N2)))||(!(bif b2 then G else (G&&N3))))||(!(bif b3 then S else (S&&N4))))||(!((((!w)||b1)&&((!e)||b4))&&((!c)||b5))))):=by
  cases big
  .cases M
   .cases b0<;>simp
   .cases G
    .cases b2<;>simp
    .cases S
     .cases b3<;>simp
     .clear B h1 h2 h3 h4 n2 n3 n4;revert N2 N3 N4 b0 b1 b2 b3 b4 b5 w e c;decide +kernel
  .simp
 have two:∀p q:Bool,(bif p then (90:Int) else bif q then 90 else 0)=bif (p||q) then 90 else 0:=by intro p q;cases p<;>rfl
 have three:∀p q r:Bool,(bif p then (90:Int) else bif q then 90 else bif r then 90 else 0)=bif ((p||q)||r) then 90 else 0:=by intro p q r;cases p<;>cases q<;>rfl
 rw [three,two];rw [<- key]
end Go.Fw
end
section
namespace Go.Fw
theorem abu {n:Nat}(h:n<2 ^ 64)(hz:iU n=true):n=0:=by
 unfold iU at hz;rw [Bool.and_eq_true,D5] at hz;obtain ⟨h1,h2⟩:=hz;have hs:=aoC n;cases hx:jm n with
 |nan s t=>rw [hx] at h1;cases h1
 |infinity s=>rw [hx] at h1;cases h1
 |number s m i=>
  cases m with
  |succ m=>rw [hx] at h1;cases h1
  |zero=>
   rw [adA hx] at h2;have hs2:s=false:=(by simpa using h2);rw [hx,hs2] at hs;have e:(2:Nat) ^ 64=18446744073709551616:=(by decide);rw [e] at h;have hd:n / 9223372036854775808=0:=by
    simp only [Ieee.Datum.neg] at hs;have:n / 9223372036854775808 % 2≠1:=by
     intro k;rw [k] at hs;cases hs
    omega
   have hr:n % 9223372036854775808=0:=by
    unfold jm Ieee.Format.read at hx;have e:FloatKind.f64.format.signWeight=9223372036854775808:=(by rfl);have e3:FloatKind.f64.format.binade=4503599627370496:=(by rfl);simp only [e,e3] at hx;split at hx
    .simp only [Ieee.Datum.number.injEq] at hx;exact hx.2.1
    .split at hx
     .simp only [Ieee.Datum.number.injEq] at hx;omega
     .split at hx<;>cases hx
   omega
theorem Ed {v:dL}(h:v.ok)(hb:iC v=true):v=dL.mk 0 0 [] 0:=by
 obtain ⟨k,n,s,r⟩:=v;unfold iC Iq at hb;dsimp only at hb;rw [FZ] at hb;simp only [Bool.and_eq_true,dU,Dw,beq_iff_eq,decide_eq_true_eq] at hb;obtain ⟨⟨⟨rfl,rfl⟩,rfl⟩,hn⟩:=hb;obtain rfl:=abu h.2 hn;rfl
structure Chk (x:dN):Prop where
 big:decide (x.Has > 63)=false
 da:((hb x.Has 0||hb x.Has 1)&&(hb x.Has 2||hb x.Has 3))=false
 w:(hb x.Has 1||!x.eH)=true
 e:(hb x.Has 4||!x.dS)=true
 c:(hb x.Has 5||!x.Configurable)=true
 v:hb x.Has 0=false->x.Value=dL.mk 0 0 [] 0
 g:hb x.Has 2=false->x.Get=dL.mk 0 0 [] 0
 s:hb x.Has 3=false->x.Set=dL.mk 0 0 [] 0
theorem vG {x:dN}(h:x.ok):jv x=90\/(jv x=0/\Chk x):=by
 obtain ⟨h1,h2,h3,h4⟩:=h;have B:=bits h1;have z2:=Ed h2;have z3:=Ed h3;have z4:=Ed h4;by_cases hc:jv x=90
 .exact .inl hc
 .refine .inr ?_;unfold jv jP iJ fP at hc ⊢;dsimp only at hc ⊢;rw [B.r1,B.r2,B.r4,B.r8,B.r16,B.r32] at hc ⊢;generalize hA:(decide (x.Has > 63)||((hb x.Has 0||hb x.Has 1)&&(hb x.Has 2||hb x.Has 3)))=A at hc ⊢;cases A
  .simp only [cond_false] at hc ⊢;generalize hQ:((((!(bif hb x.Has 0 then kT x.Value else iC x.Value))||(!(bif hb x.Has 2 then iq x.Get else iC x.Get)))||(!(bif hb x.Has 3 then iq x.Set else iC x.Set)))||(!((((!x.eH)||hb x.Has 1)&&((!x.dS)||hb x.Has 4))&&((!x.Configurable)||hb x.Has 5))))=Q at hc ⊢;cases Q
   .refine ⟨rfl,?_⟩;simp only [Bool.or_eq_false_iff,Bool.not_eq_false',Bool.and_eq_true] at hQ hA;obtain ⟨⟨⟨q1,q2⟩,q3⟩,⟨q4,q5⟩,q6⟩:=hQ;refine ⟨hA.1,hA.2,by rw [Bool.or_comm];exact q4,by rw [Bool.or_comm];exact q5,by rw [Bool.or_comm];exact q6,fun e=>?_,fun e=>?_,fun e=>?_⟩
    .rw [e] at q1;exact z2 q1
    .rw [e] at q2;exact z3 q2
    .rw [e] at q3;exact z4 q3
   .exact absurd rfl hc
  .exact absurd rfl hc
theorem CJ {x:dN}(h:u8 x.Has):iy x=(hb x.Has 2||hb x.Has 3):=(bits h).a12
theorem O3 {x:dN}(h:u8 x.Has)(c:Chk x):jk x.Has (kS x).Has=!(dU x.Has 51||dU x.Has 60):=by
 have B:=bits h;unfold kS;dsimp only;rw [CJ h];have hda:=c.da;cases ha:(hb x.Has 2||hb x.Has 3)
 .simp only [cond_false];exact B.w51 ha c.big
 .rw [ha,Bool.and_true] at hda;simp only [cond_true];exact B.w60 ha c.big hda
theorem vok {v:dL}(h:v.wf):v.ok:=⟨h.Kind,h.Num⟩
theorem dok {v:dN}(h:v.wf):v.ok:=⟨h.Has,vok h.Value,vok h.Get,vok h.Set⟩
end Go.Fw
end
section
namespace Go.Fw
def pl (l:List dI)(k:dP):Option Nat:=l.findIdx? (fun p=>decide (p.Key=k))
theorem abv (x0:List dI)(x1:dP)(hl:x0.length<=4294967296):∀(n j:Nat) (u2:Int),j<=x0.length->x0.length-j<n->
  pO x0 x1 n u2 j=match (x0.drop j).findIdx? (fun p=>decide (p.Key=x1)) with|some i=>(false,default,((j+i:Nat):Int))|none=>(true,u2,default)
 |0,j,u2,hj,hn=>by omega
 |n+1,j,u2,hj,hn=>by
  simp only [pO,azE,azo,akz (show j<=4294967296 by omega),Int.toNat_natCast];by_cases hlt:j<x0.length
  .rw [YJ x0 j hlt];simp only [hlt,decide_true,Bool.not_true,cond_false,List.findIdx?_cons];by_cases hk:(x0.getD j default).Key=x1
   .simp only [hk,decide_true,cond_true,if_true,Nat.add_zero]
   .simp only [hk,decide_false,cond_false,Bool.false_eq_true,if_false];rw [abv x0 x1 hl n (j+1) u2 (by omega) (by omega)];cases (x0.drop (j+1)).findIdx? (fun p=>decide (p.Key=x1)) with
    |none=>rfl|some i=>simp only [Option.map_some];congr 3;omega
  .simp only [hlt,decide_false,Bool.not_false,cond_true];rw [List.drop_eq_nil_iff.2 (by omega)];rfl
theorem Np (x0:List dI)(x1:dP)(hl:x0.length<=4294967296):vC x0 x1=match pl x0 x1 with|some i=>(i:Int)|none => -1:=by
 unfold vC pl;dsimp only;rw [show (0:Int)=((0:Nat):Int) from rfl,abv x0 x1 hl _ 0 _ (by omega) (by omega),List.drop_zero];cases List.findIdx? (fun p:dI=>decide (p.Key=x1)) x0 with
 |none=>rfl|some i=>simp [aht,mg,dU]
end Go.Fw
end
section
namespace Go.Fw
theorem vH (k:dP):vw k=gV k:=by
 have:sNe k.Str []=decide ((sLen k.Str:Int) > 0):=by
  unfold sNe sLen;cases k.Str with
  |nil=>simp|cons a r=>simp<;>omega
 unfold vw gV;rw [this]
theorem UR (k:dP):gV k=9\/gV k=0:=by
 unfold gV;generalize (_||_)=b;cases b<;>simp
theorem aoO {x:dN}(h:x.ok):rY x=gU x:=by
 unfold rY yF gU;dsimp only;rw [Nl h];rcases vG h with h9|⟨h0,hc⟩
 .simp [h9,jk,dU]
 .have:=O3 h.1 hc;have e:dU (kS x).Has x.Has=(dU x.Has 51||dU x.Has 60):=by
   rw [auU] at this;rw [aqf,decide_eq_decide.2 (eq_comm (a:=(kS x).Has) (b:=x.Has))];exact Bool.not_inj this
  simp [h0,jk,dU] at e ⊢;exact e
def O5 (pre:List dP):List dI->Int
 |[]=>0|p::r=>bif jk (gV p.Key) 0 then 9 else bif !gU p.dQ then 90 else bif decide (p.Key∈pre) then 100 else O5 (pre++[p.Key]) r
theorem adZ {m:List (dP×Int)}{k k':dP}{v:Int}:(mJ (0:Int) k' (mM k v m)).2=if k'=k then v else (mJ (0:Int) k' m).2:=by
 induction m with
 |nil=>
  simp only [mM,mJ];by_cases h:k'=k<;>simp [h]
 |cons e r ih=>
  simp only [mM];by_cases h:k=e.1
  .simp only [h,if_true,mJ];by_cases h2:k'=e.1<;>simp [h2]
  .simp only [h,if_false,mJ];by_cases h2:k'=e.1
   .have:¬k'=k:=fun e2=>h (e2▸h2);simp only [h2,if_true];have h3:¬e.1=k:=fun e2=>h e2.symm;simp [h3]
   .simp only [h2,if_false];exact ih
theorem Xr (x0:List dI)(hl:x0.length<=4294967296)(hok:∀p∈x0,p.dQ.ok):∀(n j:Nat) (u1:Int) (m:List (dP×Int)),j<=x0.length->x0.length-j<n->
  (∀k,decide ((mJ (0:Int) k m).2 > 0)=decide (k∈(x0.take j).map (·.Key)))->
  (bif !(dU (mg (nD x0 n u1 j m).1) 0) then (nD x0 n u1 j m).2.2.2.1 else 0)=O5 ((x0.take j).map (·.Key)) (x0.drop j)
 |0,j,u1,m,hj,hn,hm=>by omega
 |n+1,j,u1,m,hj,hn,hm=>by
  simp only [nD,azE,akz (show j<=4294967296 by omega),Int.toNat_natCast];by_cases hlt:j<x0.length
  .rw [YJ x0 j hlt];have hp:=aqg x0 j hlt;simp only [hlt,decide_true,Bool.not_true,cond_false,O5,vH,aoO (hok _ hp),hm];cases h1:jk (gV (x0.getD j default).Key) 0 with
   |true=>
    rcases UR (x0.getD j default).Key with h9|h9
    .rw [h9];rfl
    .rw [h9] at h1;cases h1
   |false=>
    simp only [cond_false];cases h2:gU (x0.getD j default).dQ with
    |false=>rfl|true=>
     simp only [Bool.not_true,cond_false];by_cases h3:(x0.getD j default).Key∈(x0.take j).map (·.Key)
     .simp only [h3,decide_true,cond_true,aht,Bool.not_false]
     .simp only [h3,decide_false,cond_false];have hk:(x0.take (j+1)).map (·.Key)=(x0.take j).map (·.Key)++[(x0.getD j default).Key]:=(by rw [aky x0 j hlt,List.map_append];rfl);rw [Xr x0 hl hok n (j+1) u1 _ (by omega) (by omega) ?_,hk];intro k;rw [adZ,hk];by_cases he:k=(x0.getD j default).Key
      .subst he;simp<;>omega
      .simp only [he,if_false,hm k];simp only [List.mem_append,List.mem_singleton,he,or_false]
  .simp only [hlt,decide_false,Bool.not_false,cond_true];rw [List.drop_eq_nil_iff.2 (by omega)];rfl
theorem ak9 {l:List dI}{k:dP}:(pl l k).isSome=decide (k∈l.map (·.Key)):=by
 unfold pl;rw [List.findIdx?_isSome,Bool.eq_iff_iff,List.any_eq_true,decide_eq_true_iff,List.mem_map];constructor
 .rintro ⟨x,hx,h⟩;exact ⟨x,hx,of_decide_eq_true h⟩
 .rintro ⟨x,hx,h⟩;exact ⟨x,hx,decide_eq_true h⟩
theorem ahU {l:List dI}{k:dP}(hl:l.length<=4294967296):decide (vC l k>=0)=decide (k∈l.map (·.Key)):=by
 rw [Np l k hl,<- ak9];cases pl l k<;>simp
theorem Xt (x0:List dI)(hl:x0.length<=4294967296):∀(n j:Nat) (u1:Int),j<=x0.length->x0.length-j<n->
  (bif !(dU (mg (r_ x0 n u1 j).1) 0) then (r_ x0 n u1 j).2.2 else 0)=O5 ((x0.take j).map (·.Key)) (x0.drop j)
 |0,j,u1,hj,hn=>by omega
 |n+1,j,u1,hj,hn=>by
  simp only [r_,azE,akz (show j<=4294967296 by omega),Int.toNat_natCast,List.drop_zero,Int.toNat_zero,Nat.sub_zero];by_cases hlt:j<x0.length
  .rw [YJ x0 j hlt];generalize hx:x0.getD j default=p;have hlk:(x0.take j).length<=4294967296:=(by simp;omega);simp only [hlt,decide_true,Bool.not_true,cond_false,O5,ahU hlk];cases h1:jk (gV p.Key) 0 with
   |true=>simp [aht]|false=>
    simp only [cond_false];cases h2:gU p.dQ with
    |false=>simp [aht]|true=>
     simp only [Bool.not_true,cond_false];by_cases h3:p.Key∈(x0.take j).map (·.Key)
     .simp only [h3,decide_true,cond_true,aht,Bool.not_false]
     .simp only [h3,decide_false,cond_false];have hk:(x0.take (j+1)).map (·.Key)=(x0.take j).map (·.Key)++[p.Key]:=(by rw [aky x0 j hlt,hx];simp);rw [Xt x0 hl n (j+1) u1 (by omega) (by omega),hk]
  .simp only [hlt,decide_false,Bool.not_false,cond_true];rw [List.drop_eq_nil_iff.2 (by omega)];simp [aht,O5]
theorem Jp (x0:List dI)(hl:x0.length<=4294967296):jV x0=bif decide ((x0.length:Int) > 1024) then 4 else O5 [] x0:=by
 unfold jV;simp only [jF];have:=Xt x0 hl (x0.length+1) 0 0 (by omega) (by omega);simp only [List.take_zero,List.map_nil,List.drop_zero] at this;rw [<- this];rfl
theorem O6 (x0:List dI)(hl:x0.length<=4294967296)(hok:∀p∈x0,p.dQ.ok):jG x0=jV x0:=by
 rw [Jp x0 hl];unfold jG;simp only [jF];have:=Xr x0 hl hok (x0.length+1) 0 0 [] (by omega) (by omega) (by intro k;simp [mJ]);simp only [List.take_zero,List.map_nil,List.drop_zero] at this;rw [<- this];rfl
end Go.Fw
end
section
namespace Go.Fw
end Go.Fw
end
section
namespace Go.Fw
theorem atu : ∀{l:List dI} {pre:List dP},O5 pre l=0->∀p∈l,gU p.dQ=true
 |[],pre,h,p,hp=>by cases hp
 |a::r,pre,h,p,hp=>by
  simp only [O5,Bool.cond_eq_ite] at h;split at h
  .omega
  .split at h
   .omega
   .rename_i hw;split at h
    .omega
    .cases hp with
     |head=>simpa using hw|tail _ hp=>exact atu h p hp
end Go.Fw
end
section
namespace Go.Fw
set_option maxRecDepth 20000
def anL (n:Int):Prop:=(decide (n > 63)=false->(hb n 2||hb n 3)=false->jl .u8 51 n=n)/\(decide (n > 63)=false->(hb n 0||hb n 1)=false->jl .u8 60 n=n)
instance (n : Int):Decidable (anL n):=by unfold anL;infer_instance
end Go.Fw
end
section
namespace Go.Fw
set_option maxRecDepth 20000
end Go.Fw
end
section
namespace Go.Fw
end Go.Fw
end
section
namespace Go.Fw
theorem awW {α:Type}{f:α->List AV}{l:List α}{i:Nat}{x:α}:nM (List.map f (l.set i x))=nM (List.map f l):=by simp [nM]
theorem abB {α β:Type}{f:α->β}{l:List α}:nM (List.map f l)=l.length:=by simp [nM]
def ad3 (x:Nat):Bool:=ZI x 0&&XZ x 4652218415073722368
theorem anP {x:Nat}(h1:ZI x 0=true)(h2:XZ x 4652218415073722368=true):ad3 x=true:=by simp [ad3,h1,h2]
theorem alc {P:Program}{ρ:List AV}{x:Tm}{y:Nat}(h:ad3 y=true)(hx:(x.den ρ).F=y:=by rfl):Side.holds P ρ (.num .i64 x (.ZJ x)):=by
 subst hx;unfold ad3 at h;rw [Bool.and_eq_true] at h;exact auJ h.1 h.2
theorem QT {v:dL}(h:iI v=true):0<=v.Ref:=by
 unfold iI at h;dsimp only at h;cases hc:decide ((v.Ref:Int)<0) with
 |false=>have:=of_decide_eq_false hc;omega|true=>rw [hc] at h;simp at h
def hIn (h:dH)(v:dL):Prop:=dR v=true->0<=v.Ref/\v.Ref<h.Objects.length
theorem asR {h:dH}{v:dL}(q:hIn h v)(i:dR v=true):v.Ref<nM (List.map dJ.enc h.Objects):=by rw [abB];exact (q i).2
theorem ad4 {h:dH}{v:dL}(q:dZ h v=true):hIn h v:=by
 intro i;unfold dZ at q;dsimp only at q;cases hm:iI v with
 |false=>rw [hm] at q;simp at q|true=>
  rw [hm,i] at q;simp only [Bool.not_true,cond_false,Bool.false_or,Bool.and_eq_true,decide_eq_true_eq,jF] at q;exact ⟨QT hm,q.1⟩
theorem aqx {h:dH}{v:dL}(q:dZ h v=true):iI v=true:=by
 unfold dZ at q;dsimp only at q;cases hm:iI v with
 |false=>rw [hm] at q;simp at q|true=>rfl
theorem afJ {h:dH}{v:dL}(q:dZ h v=true):0<=v.Ref:=QT (aqx q)
theorem afK {h:dH}{v:dL}(q:dZ h v=true)(i:dR v=true):v.Ref<nM (List.map dJ.enc h.Objects):=asR (ad4 q) i
theorem Y2 {x0:dH}{x2:Int}{a b:dL}(h:mg (jO x0 x2 ((2:Int).toNat+1) false 0 [a,b]).1=0):dR a=true/\dZ x0 a=true/\a.Ref<x2:=by
 have e:(2:Int).toNat+1=2+1:=rfl;rw [e] at h;unfold jO at h;dsimp only at h;have e1:(!decide ((0:Int)<2))=false:=by decide
 have e2:([a,b].getD (0:Int).toNat default)=a:=rfl;rw [e1,e2] at h;simp only [cond_false] at h;cases hc:(!dR a||!dZ x0 a||decide (a.Ref>=x2)) with
 |true=>rw [hc] at h;simp [mg] at h|false=>
  simp only [Bool.or_eq_false_iff,Bool.not_eq_false',decide_eq_false_iff_not] at hc;exact ⟨hc.1.1,hc.1.2,by omega⟩
theorem ald {x0:dH}{x2:Int}{a b:dL}(h:mg (jO x0 x2 ((2:Int).toNat+1) false 0 [a,b]).1=0):0<=a.Ref:=afJ (Y2 h).2.1
theorem ale {x0:dH}{x2:Int}{a b:dL}(h:mg (jO x0 x2 ((2:Int).toNat+1) false 0 [a,b]).1=0):a.Ref<nM (List.map dJ.enc x0.Objects):=afK (Y2 h).2.1 (Y2 h).1
def CP (h:dH)(i:Nat):Int:=(h.Objects.getD i default).fA.Kind
def Bz (h:dH)(i:Nat):Int:=(h.Objects.getD i default).fA.Ref
def Ze (h:dH):Prop:=∀i,i<h.Objects.length->CP h i≠1->0<=Bz h i/\Bz h i<h.Objects.length
theorem afL {h:dH}{i:Nat}(hi:h.Objects.length<=i):Bz h i=0:=by
 unfold Bz;rw [List.getD_eq_getElem?_getD,List.getElem?_eq_none hi];rfl
theorem alf {h:dH}(hP:Ze h){i:Nat}(hk:(h.Objects.getD i default).fA.Kind≠1):0<=(h.Objects.getD i default).fA.Ref:=by
 by_cases hi:i<h.Objects.length
 .exact (hP i hi hk).1
 .have:=afL (h:=h) (i:=i) (by omega);unfold Bz at this;omega
theorem aoP {h:dH}(hP:Ze h){u:Int}(hk:(h.Objects.getD u.toNat default).fA.Kind≠1)(h1:u<nM (List.map dJ.enc h.Objects))(h0:0<=u):(h.Objects.getD u.toNat default).fA.Ref<nM (List.map dJ.enc h.Objects):=by
 rw [abB] at h1 ⊢;exact (hP u.toNat (by omega) hk).2
theorem U1 {m:List (Int×Bool)}(ha:∀e∈m,e.2=true)(k:Int):(mJ false k m).2=decide (k∈m.map (·.1)):=by
 induction m with
 |nil=>rfl|cons e r ih=>
  simp only [mJ];by_cases h:k=e.1
  .simp [h,ha e (by simp)]
  .rw [if_neg h,ih fun x hx=>ha x (by simp [hx])];simp [h]
theorem abC {m:List (Int×Bool)}{k:Int}(h:k∉m.map (·.1)):mM k true m=m++[(k,true)]:=by
 induction m with
 |nil=>rfl|cons e r ih=>
  simp only [List.map_cons,List.mem_cons,not_or] at h;simp only [mM,if_neg h.1,ih h.2,List.cons_append]
theorem abD {x0:dH}{u4:List Bool}{S:List Int}(hS:∀u∈S,(x0.Objects.getD u.toNat default).fA.Kind≠1->(x0.Objects.getD u.toNat default).fA.Ref∈S){u5:Bool} :
  ∀(n:Nat) (u6:Int) (m:List (Int×Bool)),(m.map (·.1)).Nodup->(∀e∈m,e.2=true)->(∀k∈m.map (·.1),k∈S)->u6∈S->S.length<n+m.length->jM x0 u4 n u5 u6 m=true
 |0,u6,m,hn,ha,hk,hu,hl=>by
  have:=List.Nodup.length_le_of_subset hn hk;rw [List.length_map] at this;omega
 |n+1,u6,m,hn,ha,hk,hu,hl=>by
  simp only [jM];cases (!(!(u4.getD u6.toNat default))) with
  |true=>rfl|false=>
   simp only [cond_false];rw [U1 ha];cases hm:decide (u6∈m.map (·.1)) with
   |true=>rfl|false=>
    have hm:=of_decide_eq_false hm;simp only [cond_false];cases hq:dU (x0.Objects.getD u6.toNat default).fA.Kind 1 with
    |true=>rfl|false=>
     simp only [cond_false];rw [abC hm];refine abD hS n _ _ ?_ ?_ ?_ (hS _ hu (Cj.1 hq)) (by simp;omega)
     .rw [List.map_append,List.nodup_append];refine ⟨hn,by simp,fun a ha' b hb=>?_⟩;simp at hb;subst hb;intro e;subst e;exact hm ha'
     .intro e he;rcases List.mem_append.1 he with he|he
      .exact ha e he
      .simp at he;subst he;rfl
     .intro k hk';rw [List.map_append] at hk';rcases List.mem_append.1 hk' with hk' | hk'
      .exact hk k hk'
      .simp at hk';subst hk';exact hu
theorem O8 {x0:dH}(hP:Ze x0){u4:List Bool}{u2:Bool}{u3:Int}:jM x0 u4 (x0.Objects.length+3) u2 u3 []=true:=by
 refine abD (S:=u3::0::(List.range x0.Objects.length).map Int.ofNat) (fun u hu hk=>?_) _ _ _ (by simp) (by simp) (by simp) (by simp) (by simp);by_cases hi:u.toNat<x0.Objects.length
 .obtain ⟨h1,h2⟩:=hP _ hi hk;unfold Bz at h1 h2;refine List.mem_cons_of_mem _ (List.mem_cons_of_mem _ (List.mem_map.2 ⟨(x0.Objects.getD u.toNat default).fA.Ref.toNat,List.mem_range.2 (by omega),?_⟩));simp only [Int.ofNat_eq_natCast];omega
 .have:=afL (h:=x0) (i:=u.toNat) (by omega);unfold Bz at this;rw [this];simp
theorem abE {x0:dH}(hP:Ze x0){u4:List Bool}:∀{n:Nat} {u2:Bool} {u6:Int} {m:List (Int×Bool)},(∀e∈m,0<=e.1/\e.1<nM (List.map dJ.enc x0.Objects))->0<=u6->u6<nM (List.map dJ.enc x0.Objects)->∀e∈(f_ x0 u4 n u2 u6 m).2.2.2.1,0<=e.1/\e.1<nM (List.map dJ.enc x0.Objects)
 |0,_,_,_,_,_,_=>fun e he=>by cases he
 |n+1,u2,u6,m,hm,h0,h1=>by
  have hput:∀{l:List (Int×Bool)},(∀e∈l,0<=e.1/\e.1<nM (List.map dJ.enc x0.Objects))->∀e∈mM u6 true l,0<=e.1/\e.1<nM (List.map dJ.enc x0.Objects):=by
   intro l;induction l with
   |nil=>intro _ e he;simp [mM] at he;subst he;exact ⟨h0,h1⟩|cons a r ih=>
    intro hl e he;simp only [mM] at he;by_cases hc:u6=a.1
    .rw [if_pos hc] at he;rcases List.mem_cons.1 he with rfl|he
     .exact ⟨h0,h1⟩
     .exact hl e (by simp [he])
    .rw [if_neg hc] at he;rcases List.mem_cons.1 he with rfl|he
     .exact hl e (by simp)
     .exact ih (fun x hx=>hl x (by simp [hx])) e he
  simp only [f_];cases (!(!(u4.getD u6.toNat default))) with
  |true=>exact hm|false=>
   simp only [cond_false];cases (mJ false u6 m).2 with
   |true=>intro e he;cases he
   |false=>
    simp only [cond_false];cases hq:dU (x0.Objects.getD u6.toNat default).fA.Kind 1 with
    |true=>exact hput hm|false=>
     simp only [cond_false];exact abE hP (hput hm) (alf hP (Cj.1 hq)) (aoP hP (Cj.1 hq) h1 h0)
theorem aqy {x0:dH}(hB:x0.Objects.length<=4294967296){u:Int}(h0:0<=u)(g:(!(decide ((u:Int)<(jT dJ.enc x0.Objects))))=false):0<=fK .i64 u 1:=by
 simp only [Bool.not_eq_false',decide_eq_true_eq,jF] at g;rw [G_ (by omega) (by omega)];omega
theorem Ef {c b:Bool}(h:(bif c then false else b)=true):c=false/\b=true:=by cases c<;>simp_all
theorem Ns {x0:dH}{i:Int}(h:jH x0 i=true):(x0.Objects.getD i.toNat default).fA.Kind=1\/(dR (x0.Objects.getD i.toNat default).fA=true/\dZ x0 (x0.Objects.getD i.toNat default).fA=true):=by
 unfold jH at h;dsimp only at h;generalize x0.Objects.getD i.toNat default=o at h ⊢;cases h6:dU o.Kind 6 with
 |true=>
  rw [h6] at h;simp only [cond_true] at h;unfold sJ at h;dsimp only at h;obtain ⟨hc,-⟩:=Ef h;left;simp only [Bool.or_eq_false_iff,Bool.not_eq_false'] at hc;have:=hc.1.1.2;unfold oG at this;dsimp only at this;rw [Bool.and_eq_true] at this;exact rQ.1 this.1
 |false=>
  rw [h6] at h;simp only [cond_false] at h;obtain ⟨hc,h⟩:=Ef h;obtain ⟨hd,h⟩:=Ef h;simp only [Bool.or_eq_false_iff,Bool.not_eq_false'] at hd;by_cases hk:o.fA.Kind=1
  .exact .inl hk
  .right;have h1:=hd.1.1;rw [aa2.2 hk] at h1;simp only [Bool.true_and,Bool.not_eq_false'] at h1;exact ⟨h1,hd.1.2⟩
open Classical in
theorem U2 {x0:dH}(hB:x0.Objects.length<=4294967296):∀(n j:Nat) (u1:Int),j<=x0.Objects.length->x0.Objects.length-j<n->o7 x0 n u1 j=if ∀i,j<=i->i<x0.Objects.length->jH x0 (i:Nat)=true then (true,u1,default) else (false,default,9)
 |0,j,_,_,h=>by omega
 |n+1,j,u1,hj,hn=>by
  simp only [o7,jF];by_cases hlt:j<x0.Objects.length
  .have e1:(!decide ((j:Int)<(x0.Objects.length:Int)))=false:=(by rw [decide_eq_true (by omega)];rfl);rw [e1];simp only [cond_false];cases ho:jH x0 (j:Nat) with
   |false=>
    rw [if_neg (fun hh=>by have:=hh j (Nat.le_refl _) hlt;rw [ho] at this;cases this)];rfl
   |true=>
    simp only [Bool.not_true,cond_false];rw [G_ (by omega) (by omega)];have e2:((j:Int)+1)=((j+1:Nat):Int):=(by omega);rw [e2,U2 hB n (j+1) u1 (by omega) (by omega)];have:(∀i,j+1<=i->i<x0.Objects.length->jH x0 (i:Nat)=true)↔(∀i,j<=i->i<x0.Objects.length->jH x0 (i:Nat)=true):=by
     constructor
     .intro hh i h1 h2;by_cases e:i=j
      .subst e;exact ho
      .exact hh i (by omega) h2
     .intro hh i h1 h2;exact hh i (by omega) h2
    simp only [this]
  .have e1:(!decide ((j:Int)<(x0.Objects.length:Int)))=true:=(by rw [decide_eq_false (by omega)];rfl);rw [e1,if_pos (fun i h1 h2=>by omega)];rfl
theorem abG {x0:dH}(h:decide ((jT dJ.enc x0.Objects:Int) > 4096)=false):x0.Objects.length<=4294967296:=by
 have:=of_decide_eq_false h;rw [jF] at this;omega
theorem U3 {x0:dH}(h:∀i,i<x0.Objects.length->jH x0 (i:Nat)=true):Ze x0:=by
 intro i hi hk;rcases Ns (h i hi) with h1|⟨h1,h2⟩
 .exact absurd h1 hk
 .have:=ad4 h2 h1;exact this
theorem anQ {x0:dH}(hB:x0.Objects.length<=4294967296)(h:mg (o7 x0 (x0.Objects.length+1) 0 0).1=0):Ze x0:=by
 have e:=U2 hB (x0.Objects.length+1) 0 0 (Nat.zero_le _) (by omega);have e0:((0:Nat):Int)=0:=rfl;rw [e0] at e;rw [e] at h;split at h<;>rename_i hc
 .exact U3 fun i hi=>hc i (Nat.zero_le _) hi
 .simp [mg] at h
structure Xv (h:dH):Prop where
 len:h.Objects.length<=4096
 obj:∀i,i<h.Objects.length->jH h (i:Nat)=true
 lps:qy h=false
theorem O9 {h:dH}:lY h=0↔Xv h:=by
 unfold lY;dsimp only;rw [jF];by_cases hl:h.Objects.length<=4096
 .have e1:decide ((h.Objects.length:Int) > 4096)=false:=decide_eq_false (by omega);have e:=U2 (x0:=h) (by omega) (h.Objects.length+1) 0 0 (Nat.zero_le _) (by omega);have e0:((0:Nat):Int)=0:=rfl;rw [e0] at e;rw [e1,e];simp only [cond_false];by_cases hc:∀i,0<=i->i<h.Objects.length->jH h (i:Nat)=true
  .rw [if_pos hc];have e2:(!dU (mg true) 0)=false:=rfl;simp only [e2,cond_false];cases hL:qy h with
   |true=>exact ⟨fun h=>absurd h (by decide),fun h=>by have:=h.lps;rw [hL] at this;cases this⟩|false=>exact ⟨fun _=>⟨hl,fun i hi=>hc i (Nat.zero_le _) hi,hL⟩,fun _=>rfl⟩
  .rw [if_neg hc];have e2:(!dU (mg false) 0)=true:=rfl;simp only [e2,cond_true];exact ⟨fun h=>absurd h (by decide),fun h=>absurd (fun i _ hi=>h.obj i hi) hc⟩
 .have e1:decide ((h.Objects.length:Int) > 4096)=true:=decide_eq_true (by omega);rw [e1];exact ⟨fun h=>absurd h (by simp),fun h=>absurd h.len hl⟩
theorem Xv.pok {h:dH}(k:Xv h):Ze h:=U3 k.obj
def run (h:dH):Nat->Nat->Bool
 |0,_=>false|n+1,i=>bif dU (CP h i) 1 then true else run h n (Bz h i).toNat
theorem QU {h:dH}:∀{n i:Nat},run h n i=true->run h (n+1) i=true
 |0,_,h=>by cases h
 |n+1,i,hr=>by
  simp only [run] at hr ⊢;cases hk:dU (CP h i) 1 with
  |true=>rfl|false=>rw [hk] at hr;exact QU hr
theorem O_ {h:dH}{i:Nat}:∀{n:Nat},run h n i=true->∃k,run h (k+1) i=true/\run h k i=false
 |0,hr=>by cases hr
 |n+1,hr=>by
  cases hk:run h n i with
  |false=>exact ⟨n,hr,hk⟩|true=>exact O_ hk
def U4 (h:dH):Prop:=∀i,i<h.Objects.length->∃n,run h n i=true
theorem abI {x0:dH}{u4:List Bool}:∀{n:Nat} {u5:Bool} {u6:Int} {m:List (Int×Bool)},jM x0 u4 n u5 u6 m=true->(f_ x0 u4 n u5 u6 m).1=true\/((f_ x0 u4 n u5 u6 m).1=false/\(f_ x0 u4 n u5 u6 m).2.2.2.2.1=true)
 |0,_,_,_,h=>by cases h
 |n+1,u5,u6,m,h=>by
  simp only [jM] at h;simp only [f_];cases hb:(!(!(u4.getD u6.toNat default))) with
  |true=>exact .inl rfl|false=>
   cases hg:(mJ false u6 m).2 with
   |true=>exact .inr ⟨rfl,rfl⟩|false=>
    cases hq:dU (x0.Objects.getD u6.toNat default).fA.Kind 1 with
    |true=>exact .inl rfl|false=>
     rw [hb,hg,hq] at h;exact abI h
theorem Xx {x0:dH}(hP:Ze x0){u4:List Bool}(hd:∀i,u4.getD i default=true->∃n,run x0 n i=true):∀{n:Nat} {u5:Bool} {u6:Int} {m:List (Int×Bool)},(f_ x0 u4 n u5 u6 m).1=true->
  (∃k,run x0 k u6.toNat=true)/\(∀e∈(f_ x0 u4 n u5 u6 m).2.2.2.1,e∈m\/∃k,run x0 k e.1.toNat=true)/\(∀e∈m,∃e'∈(f_ x0 u4 n u5 u6 m).2.2.2.1,e'.1=e.1)/\(u4.getD u6.toNat default=true\/∃e'∈(f_ x0 u4 n u5 u6 m).2.2.2.1,e'.1=u6)
 |0,_,_,_,h=>by cases h
 |n+1,u5,u6,m,h=>by
  have hput:∀{l:List (Int×Bool)},(∀e∈mM u6 true l,e∈l\/e=(u6,true))/\(∀e∈l,∃e'∈mM u6 true l,e'.1=e.1)/\(u6,true)∈mM u6 true l:=by
   intro l;induction l with
   |nil=>exact ⟨fun e he=>.inr (by simpa [mM] using he),fun e he=>(by cases he),by simp [mM]⟩|cons a r ih=>
    obtain ⟨i1,i2,i3⟩:=ih;simp only [mM];by_cases hc:u6=a.1
    .rw [if_pos hc];refine ⟨fun e he=>?_,fun e he=>?_,by simp⟩
     .rcases List.mem_cons.1 he with rfl|he
      .exact .inr rfl
      .exact .inl (List.mem_cons_of_mem _ he)
     .rcases List.mem_cons.1 he with rfl|he
      .exact ⟨_,List.mem_cons_self ..,hc⟩
      .exact ⟨e,List.mem_cons_of_mem _ he,rfl⟩
    .rw [if_neg hc];refine ⟨fun e he=>?_,fun e he=>?_,List.mem_cons_of_mem _ i3⟩
     .rcases List.mem_cons.1 he with rfl|he
      .exact .inl (List.mem_cons_self ..)
      .rcases i1 e he with h|h
       .exact .inl (List.mem_cons_of_mem _ h)
       .exact .inr h
     .rcases List.mem_cons.1 he with rfl|he
      .exact ⟨_,List.mem_cons_self ..,rfl⟩
      .obtain ⟨e',h1,h2⟩:=i2 e he;exact ⟨e',List.mem_cons_of_mem _ h1,h2⟩
  simp only [f_] at h ⊢;cases hb:(!(!(u4.getD u6.toNat default))) with
  |true=>
   have hb':u4.getD u6.toNat default=true:=(by simpa using hb);exact ⟨hd _ hb',fun e he=>.inl he,fun e he=>⟨e,he,rfl⟩,.inl hb'⟩
  |false=>
   cases hg:(mJ false u6 m).2 with
   |true=>rw [hb,hg] at h;cases h
   |false=>
    obtain ⟨p1,p2,p3⟩:=hput (l:=m);cases hq:dU (x0.Objects.getD u6.toNat default).fA.Kind 1 with
    |true=>
     have hr:run x0 1 u6.toNat=true:=by
      show (bif dU (CP x0 u6.toNat) 1 then true else _)=true;unfold CP;rw [hq];rfl
     refine ⟨⟨1,hr⟩,fun e he=>?_,p2,.inr ⟨_,p3,rfl⟩⟩;rcases p1 e he with h' | h'
     .exact .inl h'
     .subst h';exact .inr ⟨1,hr⟩
    |false=>
     rw [hb,hg,hq] at h;simp only [cond_false] at h ⊢;obtain ⟨⟨k,a1⟩,a2,a3,a4⟩:=Xx hP hd h;have hr:run x0 (k+1) u6.toNat=true:=by
      show (bif dU (CP x0 u6.toNat) 1 then true else run x0 k (Bz x0 u6.toNat).toNat)=true;unfold CP Bz;rw [hq];exact a1
     refine ⟨⟨k+1,hr⟩,fun e he=>?_,fun e he=>?_,.inr ?_⟩
     .rcases a2 e he with h' | h'
      .rcases p1 e h' with h'' | h''
       .exact .inl h''
       .subst h'';exact .inr ⟨k+1,hr⟩
      .exact .inr h'
     .obtain ⟨e1,q1,q2⟩:=p2 e he;obtain ⟨e2,q3,q4⟩:=a3 e1 q1;exact ⟨e2,q3,q4.trans q2⟩
     .obtain ⟨e2,q3,q4⟩:=a3 _ p3;exact ⟨e2,q3,q4⟩
theorem abJ {m:List (Int×Bool)}{d:List Bool}{i:Nat}(hi:i<d.length):(MS m d).getD i default=(d.getD i default||m.any fun e=>Nat.beq e.1.toNat i):=by
 simp [MS,List.getD_eq_getElem?_getD,List.getElem?_mapIdx,hi]
theorem abK {m:List (Int×Bool)}{d:List Bool}:(MS m d).length=d.length:=by simp [MS]
theorem abL {x0:dH}(hP:Ze x0)(hB:x0.Objects.length<=4294967296):∀(n j:Nat) (u2:Bool) (u4:List Bool),j<=x0.Objects.length->x0.Objects.length-j<n->u4.length=x0.Objects.length->
  (∀i,u4.getD i default=true->∃k,run x0 k i=true)->(∀i,i<j->u4.getD i default=true)->
  ((jZ x0 n u2 j u4).1=true/\U4 x0)\/((jZ x0 n u2 j u4).1=false/\(jZ x0 n u2 j u4).2.2.2.1=true)
 |0,j,_,_,_,h,_,_,_=>by omega
 |n+1,j,u2,u4,hj,hn,hl,hd,ha=>by
  simp only [jZ,jF];by_cases hlt:j<x0.Objects.length
  .have e1:(!decide ((j:Int)<(x0.Objects.length:Int)))=false:=(by rw [decide_eq_true (by omega)];rfl);rw [e1];simp only [cond_false];rcases abI (O8 hP (u4:=u4) (u2:=u2) (u3:=(j:Int))) with hw|⟨hw,hw2⟩
   .rw [hw];have e2:(!dU (mg true) 0)=false:=rfl;simp only [e2,cond_false];rw [G_ (by omega) (by omega)];have e3:((j:Int)+1)=((j+1:Nat):Int):=(by omega);rw [e3];obtain ⟨a1,a2,a3,a4⟩:=Xx hP hd hw;generalize (f_ x0 u4 (x0.Objects.length+3) u2 (j:Int) []).2.2.2.1=m at a2 a4;refine abL hP hB n (j+1) _ _ (by omega) (by omega) (by rw [abK,hl]) (fun i hi=>?_) (fun i hi=>?_)
    .by_cases hil:i<u4.length
     .rw [abJ hil,Bool.or_eq_true] at hi;rcases hi with hi|hi
      .exact hd i hi
      .rw [List.any_eq_true] at hi;obtain ⟨e,he,hei⟩:=hi;have hei:=Nat.eq_of_beq_eq_true hei;rcases a2 e he with h' | h'
       .cases h'
       .rw [hei] at h';exact h'
     .rw [List.getD_eq_getElem?_getD,List.getElem?_eq_none (by rw [abK];omega)] at hi;cases hi
    .rw [abJ (by omega),Bool.or_eq_true];by_cases hij:i<j
     .exact .inl (ha i hij)
     .have:i=j:=(by omega);subst this;rcases a4 with a4|⟨e,he,hei⟩
      .left;simpa using a4
      .right;rw [List.any_eq_true];exact ⟨e,he,by rw [hei];simp⟩
   .rw [hw];have e2:(!dU (mg false) 0)=true:=rfl;simp only [e2,cond_true];exact .inr ⟨trivial,hw2⟩
  .have e1:(!decide ((j:Int)<(x0.Objects.length:Int)))=true:=(by rw [decide_eq_false (by omega)];rfl);rw [e1];simp only [cond_true];exact .inl ⟨trivial,fun i hi=>hd i (ha i (by omega))⟩
theorem alg {n i:Nat}:(List.replicate n false).getD i default=false:=by
 rw [List.getD_eq_getElem?_getD,List.getElem?_replicate];split<;>rfl
theorem ad5 {x0:dH}(hP:Ze x0)(hB:x0.Objects.length<=4294967296)(h:qy x0=false):U4 x0:=by
 unfold qy at h;dsimp only at h;rw [jF,Int.toNat_natCast] at h;have e0:((0:Nat):Int)=0:=rfl;rcases abL hP hB (x0.Objects.length+1) 0 false (List.replicate x0.Objects.length false) (Nat.zero_le _) (by omega) (by simp) (fun i hi=>by rw [alg] at hi;cases hi) (fun i hi=>by omega) with ⟨h1,h2⟩|⟨h1,h2⟩
 .exact h2
 .rw [e0] at h1 h2;rw [h1] at h;have e2:(!dU (mg false) 0)=true:=rfl;rw [e2] at h;simp only [cond_true] at h;rw [h2] at h;cases h
theorem Xv.anS {h:dH}(k:Xv h):U4 h:=ad5 k.pok (by have:=k.len;omega) k.lps
end Go.Fw
end
section
namespace Go.Fw
end Go.Fw
end
section
namespace Go.Fw
def U6 (h:dH)(o:dJ)(n:Int):Bool:=
 bif (dU o.Kind 6) then sJ h o n
 else bif ((((!(oG o.Target 0))&&(!(((((dU o.Kind 5)&&dR o.Target)&&(decide ((o.Target.Ref:Int)<n)))&&dZ h o.Target)&&(dU (h.Objects.getD (o.Target.Ref:Int).toNat default).Kind 6))))||(!(oG o.Handler 0)))||((sNe o.Text [])&&(jk o.Kind 3))) then false
 else bif ((((jk o.fA.Kind 1)&&(!(dR o.fA)))||(!(dZ h o.fA)))||(jk (jG o.Props) 0)) then false
 else bif (!(dU (mg (gG h o (o.Props.length+1) false 0).1) 0)) then (gG h o (o.Props.length+1) false 0).2.2
 else bif (dU o.Kind 1) then ((!o.Calls)&&(!o.Makes))
 else bif (dU o.Kind 2) then (((!o.Calls)&&(!o.Makes))&&Bj o.Props)
 else bif (dU o.Kind 3) then (((!o.Calls)&&(!o.Makes))&&Bl o.Props o.Text)
 else bif (dU o.Kind 4) then (o.Calls&&o.Makes)
 else bif (dU o.Kind 5) then o.Calls
 else false
theorem Jq {h:dH}{n:Int}:jH h n=U6 h (h.Objects.getD n.toNat default) n:=rfl
theorem Xy {x0:dH}{u4:List Bool}(hP:Ze x0):∀{n:Nat} {u5:Bool} {u6:Int} {m:List (Int×Bool)} {k:Nat},jM x0 u4 n u5 u6 m=true->(∀e∈m,e.2=true/\0<=e.1)->0<=u6->run x0 (k+1) u6.toNat=true->run x0 k u6.toNat=false->
  (∀e∈m,run x0 (k+1) e.1.toNat=false)->(f_ x0 u4 n u5 u6 m).1=true
 |0,_,_,_,_,h,_,_,_,_,_=>by cases h
 |n+1,u5,u6,m,k,h,hm,h0,hr,hl,hb=>by
  simp only [jM] at h;simp only [f_];cases hd:(!(!(u4.getD u6.toNat default))) with
  |true=>rfl|false=>
   have hg:(mJ false u6 m).2=false:=by
    rw [U1 (fun e he=>(hm e he).1)];refine decide_eq_false fun hmem=>?_;obtain ⟨e,he,hee⟩:=List.mem_map.1 hmem;have:=hb e he;rw [hee,hr] at this;cases this
   rw [hg];cases hq:dU (x0.Objects.getD u6.toNat default).fA.Kind 1 with
   |true=>rfl|false=>
    rw [hd,hg,hq] at h;simp only [cond_false] at h ⊢;have hnm:u6∉m.map (·.1):=by
     rw [U1 (fun e he=>(hm e he).1)] at hg;exact of_decide_eq_false hg
    rw [abC hnm] at h ⊢;have hk:dU (CP x0 u6.toNat) 1=false:=hq;have hr':run x0 k (Bz x0 u6.toNat).toNat=true:=by
     have:run x0 (k+1) u6.toNat=(bif dU (CP x0 u6.toNat) 1 then true else run x0 k (Bz x0 u6.toNat).toNat):=rfl;rw [this,hk] at hr;exact hr
    match k,hr',hl,hb,hr with
    |0,hr',_,_,_=>cases hr'
    |j+1,hr',hl,hb,hr=>
     have hl':run x0 j (Bz x0 u6.toNat).toNat=false:=by
      have:run x0 (j+1) u6.toNat=(bif dU (CP x0 u6.toNat) 1 then true else run x0 j (Bz x0 u6.toNat).toNat):=rfl;rw [this,hk] at hl;exact hl
     refine Xy hP h (fun e he=>?_) (alf hP (Cj.1 hq)) hr' hl' (fun e he=>?_)
     .rcases List.mem_append.1 he with he|he
      .exact hm e he
      .simp at he;subst he;exact ⟨rfl,h0⟩
     .rcases List.mem_append.1 he with he|he
      .cases hc:run x0 (j+1) e.1.toNat with
       |false=>rfl|true=>have:=QU hc;rw [hb e he] at this;cases this
      .simp at he;subst he;exact hl
theorem U7 {x0:dH}(hP:Ze x0)(hB:x0.Objects.length<=4294967296)(ha:U4 x0):∀(n j:Nat) (u2:Bool) (u4:List Bool),j<=x0.Objects.length->x0.Objects.length-j<n->(jZ x0 n u2 j u4).1=true
 |0,j,_,_,_,h=>by omega
 |n+1,j,u2,u4,hj,hn=>by
  simp only [jZ,jF];by_cases hlt:j<x0.Objects.length
  .have e1:(!decide ((j:Int)<(x0.Objects.length:Int)))=false:=(by rw [decide_eq_true (by omega)];rfl);rw [e1];simp only [cond_false];obtain ⟨m,hm⟩:=ha j hlt;obtain ⟨k,h1,h2⟩:=O_ hm;have hw:=Xy hP (O8 hP (u4:=u4) (u2:=u2) (u3:=(j:Int))) (by simp) (by omega) (k:=k) (by simpa using h1) (by simpa using h2) (by simp);rw [hw];have e2:(!dU (mg true) 0)=false:=rfl;simp only [e2,cond_false];rw [G_ (by omega) (by omega)];have e3:((j:Int)+1)=((j+1:Nat):Int):=(by omega);rw [e3];exact U7 hP hB ha n (j+1) _ _ (by omega) (by omega)
  .have e1:(!decide ((j:Int)<(x0.Objects.length:Int)))=true:=(by rw [decide_eq_false (by omega)];rfl);rw [e1];rfl
theorem ad7 {x0:dH}(hP:Ze x0)(hB:x0.Objects.length<=4294967296)(ha:U4 x0):qy x0=false:=by
 unfold qy;dsimp only;rw [jF,Int.toNat_natCast];have:=U7 hP hB ha (x0.Objects.length+1) 0 false (List.replicate x0.Objects.length false) (Nat.zero_le _) (by omega);have e0:((0:Nat):Int)=0:=rfl;rw [e0] at this;rw [this];rfl
theorem aln {α:Type}[Inhabited α]{l:List α}{i j:Nat}{x:α}(hi:i<l.length):(l.set i x).getD j default=if j=i then x else l.getD j default:=by
 rw [List.getD_eq_getElem?_getD,List.getElem?_set];by_cases h:i=j
 .subst h;simp [hi]
 .rw [if_neg h,if_neg (fun e=>h e.symm),List.getD_eq_getElem?_getD]
theorem FK {l:List dI}(h:jG l=0):l.length<=1024:=by
 by_cases hl:l.length<=1024
 .exact hl
 .unfold jG at h;dsimp only at h;rw [jF,decide_eq_true (by omega)] at h;cases h
end Go.Fw
end
section
namespace Go.Fw
structure HWf (h:dH):Prop where
 ps:∀o∈h.Objects,∀p∈o.Props,p.dQ.ok
 pr:∀o∈h.Objects,o.fA.ok
theorem hwf {h:dH}(w:h.wf):HWf h:=⟨fun o ho p hp=>dok ((w.Objects.2 o ho).Props.2 p hp).dQ,fun o ho=>vok (w.Objects.2 o ho).fA⟩
theorem HWf.at {h:dH}(w:HWf h)(i:Nat):(∀p∈(h.Objects.getD i default).Props,p.dQ.ok)/\(h.Objects.getD i default).fA.ok:=by
 by_cases hi:i<h.Objects.length
 .have:h.Objects.getD i default∈h.Objects:=by rw [List.getD_eq_getElem?_getD,List.getElem?_eq_getElem hi];exact List.getElem_mem hi
  exact ⟨w.ps _ this,w.pr _ this⟩
 .rw [List.getD_eq_getElem?_getD,List.getElem?_eq_none (by omega)];exact ⟨fun p hp=>(by cases hp),⟨⟨by decide,by decide⟩,by decide⟩⟩
end Go.Fw
end
section
namespace Go.Fw
end Go.Fw
end
section
namespace Go.Fw
theorem aea {h:dH}{o:dJ}{n:Int}(q:U6 h o n=true):o.Props.length<=1024:=by
 unfold U6 at q;cases h6:dU o.Kind 6 with
 |true=>
  rw [h6] at q;simp only [cond_true] at q;unfold sJ at q;dsimp only at q;obtain ⟨hc,-⟩:=Ef q;rw [jF] at hc;simp only [Bool.or_eq_false_iff,decide_eq_false_iff_not] at hc;have:=hc.1.1.1.1;omega
 |false=>
  rw [h6] at q;simp only [cond_false] at q;obtain ⟨-,q⟩:=Ef q;obtain ⟨q2,q⟩:=Ef q;simp only [Bool.or_eq_false_iff,Bool.not_eq_false'] at q2;exact FK (Ii.1 q2.2)
theorem Xv.props {h:dH}(k:Xv h):∀o∈h.Objects,o.Props.length<=1024:=by
 intro o ho;obtain ⟨i,hi,rfl⟩:=List.getElem_of_mem ho;have:=k.obj i hi;rw [Jq,Int.toNat_natCast,List.getD_eq_getElem?_getD,List.getElem?_eq_getElem hi] at this;exact aea this
end Go.Fw
end
section
namespace Go.Fw
theorem aFW {α:Type}[Inhabited α]{l:List α}{i:Nat}(hi:i<l.length):l.getD i default∈l:=by
 rw [List.getD_eq_getElem?_getD,List.getElem?_eq_getElem hi];exact List.getElem_mem hi
end Go.Fw
end
section
namespace Go.Fw
end Go.Fw
end
section
namespace Go.Fw
def ab7 (x0:dL):Bool:=
 let v1:Bool:=kT x0
 ((dU x0.Kind 1)&&v1)
def aq2 (x0:dJ)(x1:Int):dL:=
 (dL.mk (bif x0.Makes then 8 else (bif x0.Calls then 7 else 6)) 0 [] x1)
def aa1 (x0:dH)(x1:dL):Bool:=
 let v2:Bool:=kT x1;let v3:Bool:=wI x1;let v4:dJ:=x0.Objects.getD (x1.Ref:Int).toNat default;let v5:dL:=aq2 v4 x1.Ref
 bif (!v2) then false
 else bif (!v3) then true
 else ((decide ((x1.Ref:Int)<(jT dJ.enc x0.Objects)))&&((dU v5.Kind x1.Kind)&&((fEq v5.Num x1.Num)&&((Dw v5.Str x1.Str)&&(dU v5.Ref x1.Ref)))))
def aoa (x0:dH)(x1:dJ)(x2:Int):Bool:=
 let v3:Bool:=ab7 x1.fA;let v4:Bool:=ab7 x1.Target;let v5:Bool:=ab7 x1.Handler;let v6:Bool:=ab7 x1.Target;let v7:Bool:=ab7 x1.Handler;let v8:Bool:=wI x1.Target;let v9:Bool:=wI x1.Handler;let v10:Bool:=aa1 x0 x1.Target;let v11:Bool:=aa1 x0 x1.Handler;let v12:dJ:=x0.Objects.getD (x1.Target.Ref:Int).toNat default
 bif (((((decide (((jT dI.enc x1.Props):Int) > 0))||x1.Ext)||(!v3))||(sNe x1.Text []))||(x1.Makes&&(!x1.Calls))) then false
 else bif (v4||v5) then (v6&&v7)
 else bif ((((((!v8)||(!v9))||(decide ((x1.Target.Ref:Int)>=x2)))||(decide ((x1.Handler.Ref:Int)>=x2)))||(!v10))||(!v11)) then false
 else ((Qy v12.Calls x1.Calls)&&(Qy v12.Makes x1.Makes))
def aiO (x0:dL):Bool:=
 let v1:Bool:=kT x0
 ((dU x0.Kind 0)&&v1)
def amO (x0:dH)(x1:dJ)(x2:Int):Bool:=
 let v3:Bool:=wI x1.Target;let v4:Bool:=aa1 x0 x1.Target;let v5:dJ:=x0.Objects.getD (x1.Target.Ref:Int).toNat default
 (((((dU x1.Kind 5)&&v3)&&(decide ((x1.Target.Ref:Int)<x2)))&&v4)&&(dU v5.Kind 6))
def aiI (x0:dH)(x1:List dI):Nat->Bool->Int->(Bool×Bool×Bool)
 |0,_,_=>default|n+1,u3,u4=>
  let v5:dI:=x1.getD (u4:Int).toNat default;let v6:Bool:=aa1 x0 v5.dQ.Value;let v7:Bool:=aa1 x0 v5.dQ.Get;let v8:Bool:=aa1 x0 v5.dQ.Set
  bif (!(decide ((u4:Int)<(jT dI.enc x1)))) then (true,u3,default)
  else bif (((!v6)||(!v7))||(!v8)) then (false,default,false)
  else aiI x0 x1 n u3 (fK .i64 u4 1)
def aq3 (x0:dH)(x1:List dI):Bool:=
 let v2:Int:=jV x1;let r3:Bool×Bool×Bool:=aiI x0 x1 (x1.length+1) false 0
 bif (jk v2 0) then false
 else bif (!(dU (mg r3.1) 0)) then r3.2.2
 else true
def afc (x0:List dI)(x1:Int):Nat->Bool->Int->(Bool×Bool×Bool)
 |0,_,_=>default|n+1,u2,u3=>
  let v4:dI:=x0.getD (u3:Int).toNat default;let v5:Int×Bool:=ahe v4.Key
  bif (!(decide ((u3:Int)<(jT dI.enc x0)))) then (true,u2,default)
  else bif (v5.2&&(decide ((v5.1:Int)>=x1))) then (false,default,false)
  else afc x0 x1 n u2 (fK .i64 u3 1)
def apu (x0:List dI)(x1:Int):Bool:=
 let r2:Bool×Bool×Bool:=afc x0 x1 (x0.length+1) false 0
 bif (!(dU (mg r2.1) 0)) then r2.2.2
 else true
def apK (x0:List dI):Bool:=
 let v1:dI:=x0.getD (0:Int).toNat default;let v2:dI:=x0.getD (0:Int).toNat default;let v3:Bool:=apu x0 (((FloatKind.f64.decode v2.dQ.Value.Num).toInt .zero).getD 0)
 bif ((dU (jT dI.enc x0) 0)||(!((Dw v1.Key.Str [108,101,110,103,116,104])&&(dU v1.Key.Sym 0)))) then false
 else bif (((((jk (jl .u8 v2.dQ.Has 12) 0)||v2.dQ.dS)||v2.dQ.Configurable)||(jk v2.dQ.Value.Kind 3))||(!((ZI v2.dQ.Value.Num 0)&&(XZ v2.dQ.Value.Num 4652218415073722368)))) then false
 else v3
def afj (x0:List dI)(x1:List UInt8):Nat->Bool->Int->(Bool×Bool×Bool)
 |0,_,_=>default|n+1,u2,u3=>
  let v4:dI:=x0.getD (u3:Int).toNat default;let v5:Int×Bool:=ahe v4.Key;let v6:dI:=x0.getD (u3:Int).toNat default
  bif (!(decide ((u3:Int)<(jT dI.enc x0)))) then (true,u2,default)
  else bif ((v5.2&&(decide ((v5.1:Int)<(sLen x1))))||((Dw v6.Key.Str [108,101,110,103,116,104])&&(dU v6.Key.Sym 0))) then (false,default,false)
  else afj x0 x1 n u2 (fK .i64 u3 1)
def apP (x0:List dI)(x1:List UInt8):Bool:=
 let r2:Bool×Bool×Bool:=afj x0 x1 (x0.length+1) false 0
 bif (decide (((sLen x1):Int) > 4096)) then false
 else bif (!(dU (mg r2.1) 0)) then r2.2.2
 else true
def acw (x0:dH)(x1:Int):Bool:=
 let v2:dJ:=x0.Objects.getD (x1:Int).toNat default;let v3:Bool:=aoa x0 v2 x1;let v4:Bool:=aiO v2.Target;let v5:Bool:=amO x0 v2 x1;let v6:Bool:=aiO v2.Handler;let v7:Bool:=wI v2.fA;let v8:Bool:=aa1 x0 v2.fA;let v9:Bool:=aq3 x0 v2.Props;let v10:Bool:=apK v2.Props;let v11:Bool:=apP v2.Props v2.Text
 bif (dU v2.Kind 6) then v3
 else bif ((((!v4)&&(!v5))||(!v6))||((sNe v2.Text [])&&(jk v2.Kind 3))) then false
 else bif ((((jk v2.fA.Kind 1)&&(!v7))||(!v8))||(!v9)) then false
 else bif (dU v2.Kind 1) then ((!v2.Calls)&&(!v2.Makes))
 else bif (dU v2.Kind 2) then (((!v2.Calls)&&(!v2.Makes))&&v10)
 else bif (dU v2.Kind 3) then (((!v2.Calls)&&(!v2.Makes))&&v11)
 else bif (dU v2.Kind 4) then (v2.Calls&&v2.Makes)
 else bif (dU v2.Kind 5) then v2.Calls
 else false
def ajB (x0:dH):Nat->Bool->Int->(Bool×Bool×Bool)
 |0,_,_=>default|n+1,u1,u2=>
  let v3:Bool:=acw x0 u2
  bif (!(decide ((u2:Int)<(jT dJ.enc x0.Objects)))) then (true,u1,default)
  else bif (!v3) then (false,default,false)
  else ajB x0 n u1 (fK .i64 u2 1)
def wU (x0:dH)(u6:Int):Nat->Bool->Int->(List Int)->(Bool×Bool×Int×List Int×Bool×List Int)
 |0,_,_,_=>default|n+1,u8,u9,u10=>
  let v11:Int:=u10.getD (u9:Int).toNat default;let v12:List Int:=u10.set (u9:Int).toNat (fK .i64 u6 1);let v13:dJ:=x0.Objects.getD (u9:Int).toNat default;let v14:dJ:=x0.Objects.getD (u9:Int).toNat default;let v15:Int:=v12.getD (v14.fA.Ref:Int).toNat default
  bif (!(dU v11 0)) then (true,u8,u9,u10,default,default)
  else bif (dU v13.fA.Kind 1) then (true,u8,u9,v12,default,default)
  else bif (dU v15 (fK .i64 u6 1)) then (false,default,default,default,false,v12)
  else wU x0 u6 n u8 v14.fA.Ref v12
def aeN (x0:dH)(u6:Int):Nat->Bool->Int->(List Int)->Bool
 |0,_,_,_=>false|n+1,u8,u9,u10=>
  let v11:Int:=u10.getD (u9:Int).toNat default;let v12:List Int:=u10.set (u9:Int).toNat (fK .i64 u6 1);let v13:dJ:=x0.Objects.getD (u9:Int).toNat default;let v14:dJ:=x0.Objects.getD (u9:Int).toNat default;let v15:Int:=v12.getD (v14.fA.Ref:Int).toNat default
  bif (!(dU v11 0)) then true
  else bif (dU v13.fA.Kind 1) then true
  else bif (dU v15 (fK .i64 u6 1)) then true
  else aeN x0 u6 n u8 v14.fA.Ref v12
def ae8 (x0:dH)(u6:Int):Nat->Int->(List Int)->(Int×List Int)
 |0,_,_=>default|n+1,u14,u15=>
  let v16:Int:=u15.getD (u14:Int).toNat default;let v17:List Int:=u15.set (u14:Int).toNat (-1);let v18:dJ:=x0.Objects.getD (u14:Int).toNat default;let v19:dJ:=x0.Objects.getD (u14:Int).toNat default
  bif (!(dU v16 (fK .i64 u6 1))) then (u14,u15)
  else bif (dU v18.fA.Kind 1) then (u14,v17)
  else ae8 x0 u6 n v19.fA.Ref v17
def aej (x0:dH)(u6:Int):Nat->Int->(List Int)->Bool
 |0,_,_=>false|n+1,u14,u15=>
  let v16:Int:=u15.getD (u14:Int).toNat default;let v17:List Int:=u15.set (u14:Int).toNat (-1);let v18:dJ:=x0.Objects.getD (u14:Int).toNat default;let v19:dJ:=x0.Objects.getD (u14:Int).toNat default
  bif (!(dU v16 (fK .i64 u6 1))) then true
  else bif (dU v18.fA.Kind 1) then true
  else aej x0 u6 n v19.fA.Ref v17
def afX (x0:dH):Nat->Bool->Int->(List Int)->(Bool×Bool×List Int×Bool×List Int)
 |0,_,_,_=>default|n+1,u5,u6,u7=>
  let r8:Bool×Bool×Int×List Int×Bool×List Int:=wU x0 u6 (x0.Objects.length+1) u5 u6 u7;let r14:Int×List Int:=ae8 x0 u6 (x0.Objects.length+1) u6 r8.2.2.2.1
  bif (!(decide ((u6:Int)<(jT dJ.enc x0.Objects)))) then (true,u5,u7,default,default)
  else bif (!(dU (mg r8.1) 0)) then (false,default,default,r8.2.2.2.2.1,r8.2.2.2.2.2)
  else afX x0 n r8.2.1 (fK .i64 u6 1) r14.2
def aeH (x0:dH):Bool:=
 let r1:Bool×Bool×Bool:=ajB x0 (x0.Objects.length+1) false 0;let v4:List Int:=List.replicate ((jT dJ.enc x0.Objects):Int).toNat 0;let r5:Bool×Bool×List Int×Bool×List Int:=afX x0 (x0.Objects.length+1) r1.2.1 0 v4
 bif (decide (((jT dJ.enc x0.Objects):Int) > 4096)) then false
 else bif (!(dU (mg r1.1) 0)) then r1.2.2
 else bif (!(dU (mg r5.1) 0)) then r5.2.2.2.1
 else true
def aek (x0:dL)(x1:dL):Bool:=
 ((((dU x0.Kind x1.Kind)&&(Dw x0.Str x1.Str))&&(dU x0.Ref x1.Ref))&&((fEq x0.Num x1.Num)||((Kv x0.Num x0.Num)&&(Kv x1.Num x1.Num))))
def al6 (x0:dN)(x1:dN):Bool:=
 let v2:Bool:=aek x0.Value x1.Value;let v3:Bool:=aek x0.Get x1.Get;let v4:Bool:=aek x0.Set x1.Set
 (((((((dU x0.Has x1.Has)&&(Qy x0.eH x1.eH))&&(Qy x0.dS x1.dS))&&(Qy x0.Configurable x1.Configurable))&&v2)&&v3)&&v4)
end Go.Fw
end
section
namespace Go.Fw
theorem atv {v:dL}(h:kT v=true):0<=v.Ref:=by
 unfold kT at h;dsimp only at h;obtain ⟨-,h⟩:=Ef h;rw [Bool.and_eq_true] at h;have h:=h.2;rw [Bool.or_eq_true,Bool.and_eq_true] at h;rcases h with h|h
 .have:=rQ.1 h;omega
 .have:=of_decide_eq_true h.2;omega
theorem ar5 {v:dL}:wI v=dR v:=by
 unfold wI dR;rw [Bool.eq_iff_iff];simp only [Bool.or_eq_true,Bool.and_eq_true,decide_eq_true_eq,rQ];omega
theorem avy {h:dH}{v:dL}(q:aa1 h v=true):hIn h v:=by
 intro i;unfold aa1 at q;dsimp only at q;cases hm:kT v with
 |false=>rw [hm] at q;simp at q|true=>
  rw [hm,ar5,i] at q;simp only [Bool.not_true,cond_false,Bool.and_eq_true,decide_eq_true_eq,jF] at q;exact ⟨atv hm,q.1⟩
theorem awY {h:dH}{v:dL}(q:aa1 h v=true):0<=v.Ref:=by
 unfold aa1 at q;dsimp only at q;cases hm:kT v with
 |false=>rw [hm] at q;simp at q|true=>exact atv hm
theorem awZ {h:dH}{v:dL}(q:aa1 h v=true)(i:wI v=true):v.Ref<nM (List.map dJ.enc h.Objects):=asR (avy q) (ar5▸i)
theorem aue {x0:dH}{i:Int}(h:acw x0 i=true):(x0.Objects.getD i.toNat default).fA.Kind=1\/(dR (x0.Objects.getD i.toNat default).fA=true/\aa1 x0 (x0.Objects.getD i.toNat default).fA=true):=by
 unfold acw at h;dsimp only at h;generalize x0.Objects.getD i.toNat default=o at h ⊢;cases h6:dU o.Kind 6 with
 |true=>
  rw [h6] at h;simp only [cond_true] at h;unfold aoa at h;dsimp only at h;obtain ⟨hc,-⟩:=Ef h;left;simp only [Bool.or_eq_false_iff,Bool.not_eq_false'] at hc;have:=hc.1.1.2;unfold ab7 at this;dsimp only at this;rw [Bool.and_eq_true] at this;exact rQ.1 this.1
 |false=>
  rw [h6] at h;simp only [cond_false] at h;obtain ⟨hc,h⟩:=Ef h;obtain ⟨hd,h⟩:=Ef h;simp only [Bool.or_eq_false_iff,Bool.not_eq_false'] at hd;by_cases hk:o.fA.Kind=1
  .exact .inl hk
  .right;have h1:=hd.1.1;rw [aa2.2 hk] at h1;simp only [Bool.true_and,Bool.not_eq_false'] at h1;exact ⟨ar5▸h1,hd.1.2⟩
theorem auL {x0:dH}(h:∀i,i<x0.Objects.length->acw x0 (i:Nat)=true):Ze x0:=by
 intro i hi hk;rcases aue (h i hi) with h1|⟨h1,h2⟩
 .exact absurd h1 hk
 .have:=avy h2 h1;exact this
open Classical in
theorem avR {x0:dH}(hB:x0.Objects.length<=4294967296):∀(n j:Nat) (u1:Bool),j<=x0.Objects.length->x0.Objects.length-j<n->ajB x0 n u1 j=if ∀i,j<=i->i<x0.Objects.length->acw x0 (i:Nat)=true then (true,u1,default) else (false,default,false)
 |0,j,_,_,h=>by omega
 |n+1,j,u1,hj,hn=>by
  simp only [ajB,jF];by_cases hlt:j<x0.Objects.length
  .have e1:(!decide ((j:Int)<(x0.Objects.length:Int)))=false:=(by rw [decide_eq_true (by omega)];rfl);rw [e1];simp only [cond_false];cases ho:acw x0 (j:Nat) with
   |false=>
    rw [if_neg (fun hh=>by have:=hh j (Nat.le_refl _) hlt;rw [ho] at this;cases this)];rfl
   |true=>
    simp only [Bool.not_true,cond_false];rw [G_ (by omega) (by omega)];have e2:((j:Int)+1)=((j+1:Nat):Int):=(by omega);rw [e2,avR hB n (j+1) u1 (by omega) (by omega)];have:(∀i,j+1<=i->i<x0.Objects.length->acw x0 (i:Nat)=true)↔(∀i,j<=i->i<x0.Objects.length->acw x0 (i:Nat)=true):=by
     constructor
     .intro hh i h1 h2;by_cases e:i=j
      .subst e;exact ho
      .exact hh i (by omega) h2
     .intro hh i h1 h2;exact hh i (by omega) h2
    simp only [this]
  .have e1:(!decide ((j:Int)<(x0.Objects.length:Int)))=true:=(by rw [decide_eq_false (by omega)];rfl);rw [e1,if_pos (fun i h1 h2=>by omega)];rfl
theorem aw0 {x0:dH}(hB:x0.Objects.length<=4294967296)(h:mg (ajB x0 (x0.Objects.length+1) false 0).1=0):Ze x0:=by
 have e:=avR hB (x0.Objects.length+1) 0 false (Nat.zero_le _) (by omega);have e0:((0:Nat):Int)=0:=rfl;rw [e0] at e;rw [e] at h;split at h<;>rename_i hc
 .exact auL fun i hi=>hc i (Nat.zero_le _) hi
 .simp [mg] at h
theorem av9 {p:Int->Bool}{l:List Int}{i:Nat}{a:Int}(hi:i<l.length)(h1:p (l.getD i default)=true)(h2:p a=false):(l.set i a).countP p+1=l.countP p:=by
 have hg:l.getD i default=l[i]:=by simp [List.getD_eq_getElem?_getD,hi]
 rw [hg] at h1;have:0<l.countP p:=List.countP_pos_iff.2 ⟨_,List.getElem_mem hi,h1⟩;rw [List.countP_set hi,h1,h2];simp;omega
theorem aw1 {x0:dH}(hP:Ze x0){u6:Int}(h6:fK .i64 u6 1≠0){u8:Bool}:∀(n:Nat) (u9:Int) (u10:List Int),0<=u9->u9<x0.Objects.length->u10.length=x0.Objects.length->u10.countP (fun z=>dU z 0)<n->aeN x0 u6 n u8 u9 u10=true
 |0,_,_,_,_,_,h=>by omega
 |n+1,u9,u10,h0,h1,hl,hn=>by
  simp only [aeN];cases hz:dU (u10.getD u9.toNat default) 0 with
  |false=>rfl|true=>
   simp only [Bool.not_true,cond_false];cases hk:dU (x0.Objects.getD u9.toNat default).fA.Kind 1 with
   |true=>rfl|false=>
    simp only [cond_false];cases dU ((u10.set u9.toNat (fK .i64 u6 1)).getD (x0.Objects.getD u9.toNat default).fA.Ref.toNat default) (fK .i64 u6 1) with
    |true=>rfl|false=>
     simp only [cond_false];obtain ⟨p0,p1⟩:=hP _ (show u9.toNat<_ by omega) (Cj.1 hk);have:=av9 (p:=fun z=>dU z 0) (l:=u10) (i:=u9.toNat) (a:=fK .i64 u6 1) (by omega) hz (Cj.2 h6);exact aw1 hP h6 n _ _ p0 p1 (by simp;omega) (by omega)
theorem aw2 {x0:dH}(hP:Ze x0){u6:Int}(h6:fK .i64 u6 1 ≠ -1):∀(n:Nat) (u9:Int) (u10:List Int),0<=u9->u9<x0.Objects.length->u10.length=x0.Objects.length->u10.countP (fun z=>dU z (fK .i64 u6 1))<n->aej x0 u6 n u9 u10=true
 |0,_,_,_,_,_,h=>by omega
 |n+1,u9,u10,h0,h1,hl,hn=>by
  simp only [aej];cases hz:dU (u10.getD u9.toNat default) (fK .i64 u6 1) with
  |false=>rfl|true=>
   simp only [Bool.not_true,cond_false];cases hk:dU (x0.Objects.getD u9.toNat default).fA.Kind 1 with
   |true=>rfl|false=>
    simp only [cond_false];obtain ⟨p0,p1⟩:=hP _ (show u9.toNat<_ by omega) (Cj.1 hk);have:=av9 (p:=fun z=>dU z (fK .i64 u6 1)) (l:=u10) (i:=u9.toNat) (a := -1) (by omega) hz (Cj.2 (Ne.symm h6));exact aw2 hP h6 n _ _ p0 p1 (by simp;omega) (by omega)
theorem auY {x0:dH}{u6:Int}:∀{n:Nat} {u8:Bool} {u9:Int} {u10:List Int},(wU x0 u6 n u8 u9 u10).1=true->(wU x0 u6 n u8 u9 u10).2.2.2.1.length=u10.length
 |0,_,_,_,h=>by cases h
 |n+1,u8,u9,u10,h=>by
  simp only [wU] at h ⊢;cases hz:(!dU (u10.getD u9.toNat default) 0) with
  |true=>rfl|false=>
   rw [hz] at h;simp only [cond_false] at h ⊢;cases hk:dU (x0.Objects.getD u9.toNat default).fA.Kind 1 with
   |true=>simp|false=>
    rw [hk] at h;simp only [cond_false] at h ⊢;cases hc:dU ((u10.set u9.toNat (fK .i64 u6 1)).getD (x0.Objects.getD u9.toNat default).fA.Ref.toNat default) (fK .i64 u6 1) with
    |true=>rw [hc] at h;cases h
    |false=>
     rw [hc] at h;simp only [cond_false] at h ⊢;rw [auY h];simp
theorem auZ {x0:dH}{u6:Int}:∀{n:Nat} {u9:Int} {u10:List Int},aej x0 u6 n u9 u10=true->(ae8 x0 u6 n u9 u10).2.length=u10.length
 |0,_,_,h=>by cases h
 |n+1,u9,u10,h=>by
  simp only [aej] at h;simp only [ae8];cases hz:(!dU (u10.getD u9.toNat default) (fK .i64 u6 1)) with
  |true=>rfl|false=>
   rw [hz] at h;simp only [cond_false] at h ⊢;cases hk:dU (x0.Objects.getD u9.toNat default).fA.Kind 1 with
   |true=>simp|false=>
    rw [hk] at h;simp only [cond_false] at h ⊢;rw [auZ h];simp
theorem aA0 {b:Bool}(h:dU (mg b) 0=true):b=true:=by cases b;cases h;rfl
theorem aA1 {x0:dH}(hB:x0.Objects.length<=4294967296){u6:Int}(k0:0<=u6)(g:decide (u6<nM (List.map dJ.enc x0.Objects))=true):fK .i64 u6 1=u6+1/\u6<x0.Objects.length:=by
 have g:=of_decide_eq_true g;rw [abB] at g;exact ⟨G_ (by omega) (by omega),g⟩
theorem avz {x0:dH}(hP:Ze x0)(hB:x0.Objects.length<=4294967296){u6:Int}(k0:0<=u6)(g:decide (u6<nM (List.map dJ.enc x0.Objects))=true){u8:Bool}{u10:List Int}(k1:u10.length=x0.Objects.length):aeN x0 u6 (x0.Objects.length+1) u8 u6 u10=true:=by
 obtain ⟨e,g⟩:=aA1 hB k0 g;have:=List.countP_le_length (p:=fun z=>dU z 0) (l:=u10);exact aw1 hP (by omega) _ _ _ k0 g k1 (by omega)
theorem atw {x0:dH}(hP:Ze x0)(hB:x0.Objects.length<=4294967296){u6:Int}(k0:0<=u6)(g:decide (u6<nM (List.map dJ.enc x0.Objects))=true){n:Nat}{u8:Bool}{u9:Int}{u10:List Int}(k1:u10.length=x0.Objects.length)(h:dU (mg (wU x0 u6 n u8 u9 u10).1) 0=true):aej x0 u6 (x0.Objects.length+1) u6 (wU x0 u6 n u8 u9 u10).2.2.2.1=true:=by
 obtain ⟨e,g⟩:=aA1 hB k0 g;have hl:=auY (aA0 h);have:=List.countP_le_length (p:=fun z=>dU z (fK .i64 u6 1)) (l:=(wU x0 u6 n u8 u9 u10).2.2.2.1);exact aw2 hP (by omega) _ _ _ k0 g (by omega) (by omega)
theorem axN {x0:dH}(hP:Ze x0)(hB:x0.Objects.length<=4294967296){u6:Int}(k0:0<=u6)(g0:(!(decide ((u6:Int)<(jT dJ.enc x0.Objects))))=false){n:Nat}{u8:Bool}{u9:Int}{u10:List Int}(k1:u10.length=x0.Objects.length)(g1:(!(dU (mg (wU x0 u6 n u8 u9 u10).1) 0))=false):(ae8 x0 u6 (x0.Objects.length+1) u6 (wU x0 u6 n u8 u9 u10).2.2.2.1).2.length=x0.Objects.length:=by
 have g0:decide (u6<nM (List.map dJ.enc x0.Objects))=true:=by rw [Bool.not_eq_false',jF] at g0;rw [abB];exact g0
 have g1:dU (mg (wU x0 u6 n u8 u9 u10).1) 0=true:=by simpa using g1
 rw [auZ (atw hP hB k0 g0 k1 g1),auY (aA0 g1),k1]
theorem axO {x0:dH}:(List.replicate ((jT dJ.enc x0.Objects):Int).toNat (0:Int)).length=x0.Objects.length:=by rw [jF];simp
def Lo.aA2 : Lo->Pc
 | .mk pc _ _ _ _ _ _ _ _=>pc
theorem aB8 {P:Program}{T:Bh}{ρ ρ0 vs:List AV}{hs:List LH}{ls:List Lo}{n m0:Nat}{us:List AV}{pc:Pc}{base m:Nat}{entry:List SV}{outs:List (Tm×Nat×List SV)}{sd:List (Pc×Side)}{aw:List Lo}{bn:List Tm}{L:Lo}
  (h:Pc.holds ρ L.aA2->Gs P T L (hdH hs) ρ0 n vs (0,us)) (k:Xm P T ls (tlH hs) ρ) (hL:L=.mk pc base m entry outs sd aw [m0] bn:=by rfl) (hb:Nat.ble base ρ.length=true:=by rfl) (h0:ρ.take base=ρ0:=by rfl) (hv:dK ρ entry=vs:=by rfl)
  (hn:ftV ρ (hdH hs).ft<(n:Int):=by first|exact fuR|exact fuN) (hu:(ρ.drop base).take us.length=us:=by rfl) (hn0:Nat.blt 0 n=true:=by rfl):Xm P T (L::ls) hs ρ:=by
 subst hL;subst h0;subst hv;refine ⟨?_,k⟩;simp only [Lo.wk];rw [Nat.blt_eq] at hn0;exact fun p _=>⟨Nat.le_of_ble_eq_true hb,n,0,us,⟨hn0,hn⟩,h p,fun h=>by simp at h,aj6 hu⟩
theorem aA3 {P:Program}{T:Bh}{ρ ρ0 vs:List AV}{hs:List LH}{ls:List Lo}{n m0 m1:Nat}{b:Bool}{u0 u1:List AV}{pc:Pc}{base m:Nat}{entry:List SV}{outs:List (Tm×Nat×List SV)}{sd:List (Pc×Side)}{aw:List Lo}{bn:List Tm}{L:Lo}
  (h:Pc.holds ρ L.aA2->Gs P T L (hdH hs) ρ0 n vs (rk2 b u0 u1)) (k:Xm P T ls (tlH hs) ρ) (hL:L=.mk pc base m entry outs sd aw [m0,m1] bn:=by rfl) (hb:Nat.ble base ρ.length=true:=by rfl) (h0:ρ.take base=ρ0:=by rfl) (hv:dK ρ entry=vs:=by rfl)
  (hn:ftV ρ (hdH hs).ft<(n:Int):=by first|exact fuR|exact fuN) (hk:(ρ.getD base eX).D.I=mg b:=by rfl) (hu0:(ρ.drop (base+1)).take u0.length=u0:=by rfl) (hu1:(ρ.drop (base+1+m0)).take u1.length=u1:=by rfl) (hn0:Nat.blt 0 n=true:=by rfl):Xm P T (L::ls) hs ρ:=by
 subst hL;subst h0;subst hv;refine ⟨?_,k⟩;simp only [Lo.wk];rw [Nat.blt_eq] at hn0;refine fun p _=>⟨Nat.le_of_ble_eq_true hb,n,(rk2 b u0 u1).1,(rk2 b u0 u1).2,⟨hn0,hn⟩,h p,fun _=>?_,?_⟩
 .rw [hk];cases b<;>rfl
 .cases b
  .intro i u hu;have:=aj6 hu1 i u hu;have e:ayH base [m0,m1] (rk2 false u0 u1).1=base+1+m0:=(by show (base+1)+(m0+0)=_;omega);rw [e];exact this
  .intro i u hu;have:=aj6 hu0 i u hu;have e:ayH base [m0,m1] (rk2 true u0 u1).1=base+1:=rfl;rw [e];exact this
end Go.Fw
end
section
namespace Go.Fw
theorem av_ {h:dH}{n i:Nat}:run h (n+1) i=(bif dU (CP h i) 1 then true else run h n (Bz h i).toNat):=rfl
def aF0 (h:dH)(i:Nat):Prop:=∃n,run h n i=true
theorem axP {h:dH}{i:Nat}(hr:aF0 h (Bz h i).toNat):aF0 h i:=by
 obtain ⟨n,hn⟩:=hr;refine ⟨n+1,?_⟩;rw [av_];cases dU (CP h i) 1
 .exact hn
 .rfl
theorem az1 {h:dH}{i:Nat}(hk:dU (CP h i) 1=true):aF0 h i:=⟨1,by rw [av_,hk];rfl⟩
theorem ayc {x0:dH}(hP:Ze x0){u6 c:Int}(hc:fK .i64 u6 1=c)(h6:0<c):∀{n:Nat} {u8:Bool} {u9:Int} {u10:List Int},0<=u9->u9<x0.Objects.length->u10.length=x0.Objects.length->
  (∀k,k<x0.Objects.length->u10.getD k default≠0->u10.getD k default=c\/aF0 x0 k)->u10.getD u9.toNat default≠c->(∀k,u10.getD k default<=c)->(wU x0 u6 n u8 u9 u10).1=true->
  aF0 x0 u9.toNat/\(∀k,k<x0.Objects.length->(wU x0 u6 n u8 u9 u10).2.2.2.1.getD k default≠0->u10.getD k default=c\/aF0 x0 k)/\(∀k,(wU x0 u6 n u8 u9 u10).2.2.2.1.getD k default<=c)
 |0,_,_,_,_,_,_,_,_,_,h=>by cases h
 |n+1,u8,u9,u10,h0,h1,hl,hm,hs,hle,h=>by
  simp only [wU,hc] at h ⊢;have hi:u9.toNat<x0.Objects.length:=by omega
  have hi':u9.toNat<u10.length:=by omega
  cases hz:(!dU (u10.getD u9.toNat default) 0) with
  |true=>
   simp only [cond_true];refine ⟨?_,hm,hle⟩;rw [Bool.not_eq_true'] at hz;rcases hm _ hi (Cj.1 hz) with h|h
   .exact absurd h hs
   .exact h
  |false=>
   rw [Bool.not_eq_false'] at hz;have hz:=rQ.1 hz;rw [hz] at h;simp only [cond_false] at h ⊢;have le2:∀k,(u10.set u9.toNat c).getD k default<=c:=by
    intro k;rw [aln hi'];split
    .exact Int.le_refl _
    .exact hle k
   cases hk:dU (x0.Objects.getD u9.toNat default).fA.Kind 1 with
   |true=>
    simp only [cond_true];have hr:=az1 (h:=x0) (i:=u9.toNat) hk;refine ⟨hr,fun k hk2 hne=>?_,le2⟩;rw [aln hi'] at hne;split at hne
    .rename_i e;subst e;exact .inr hr
    .exact hm k hk2 hne
   |false=>
    rw [hk] at h;simp only [cond_false] at h ⊢;cases hcc:dU ((u10.set u9.toNat c).getD (x0.Objects.getD u9.toNat default).fA.Ref.toNat default) c with
    |true=>rw [hcc] at h;cases h
    |false=>
     rw [hcc] at h;simp only [cond_false] at h ⊢;obtain ⟨p0,p1⟩:=hP _ hi (Cj.1 hk);obtain ⟨r,q,l⟩:=ayc hP hc h6 p0 p1 (by simp;omega) (fun k hk2 hne=>by
      rw [aln hi'] at hne ⊢;split
      .exact .inl rfl
      .rename_i e;rw [if_neg e] at hne;exact hm k hk2 hne) (Cj.1 hcc) le2 h
     have hr:=axP (h:=x0) (i:=u9.toNat) r;refine ⟨hr,fun k hk2 hne=>?_,l⟩;rcases q k hk2 hne with h|h
     .rw [aln hi'] at h;split at h
      .rename_i e;subst e;exact .inr hr
      .exact .inl h
     .exact .inr h
theorem aA4 {x0:dH}{u6:Int}:∀{n:Nat} {u8:Bool} {u9:Int} {u10:List Int},aeN x0 u6 n u8 u9 u10=true->(wU x0 u6 n u8 u9 u10).1=false->(wU x0 u6 n u8 u9 u10).2.2.2.2.1=false
 |0,_,_,_,t,_=>by cases t
 |n+1,u8,u9,u10,t,h=>by
  simp only [aeN] at t;simp only [wU] at h ⊢;cases hz:(!dU (u10.getD u9.toNat default) 0) with
  |true=>rw [hz] at h;cases h
  |false=>
   rw [hz] at h t;simp only [cond_false] at h t ⊢;cases hk:dU (x0.Objects.getD u9.toNat default).fA.Kind 1 with
   |true=>rw [hk] at h;cases h
   |false=>
    rw [hk] at h t;simp only [cond_false] at h t ⊢;cases hcc:dU ((u10.set u9.toNat (fK .i64 u6 1)).getD (x0.Objects.getD u9.toNat default).fA.Ref.toNat default) (fK .i64 u6 1) with
    |true=>rfl|false=>
     rw [hcc] at h t;simp only [cond_false] at h t ⊢;exact aA4 t h
theorem awc {x0:dH}(hP:Ze x0){u6 c:Int}(hc:fK .i64 u6 1=c):∀{n:Nat} {u8:Bool} {u9:Int} {u10:List Int} {k:Nat},aeN x0 u6 n u8 u9 u10=true->0<=u9->u9<x0.Objects.length->u10.length=x0.Objects.length->
  run x0 (k+1) u9.toNat=true->run x0 k u9.toNat=false->(∀y,u10.getD y default=c->run x0 k y=false)->(wU x0 u6 n u8 u9 u10).1=true
 |0,_,_,_,_,h,_,_,_,_,_,_=>by cases h
 |n+1,u8,u9,u10,k,t,h0,h1,hl,hr,hf,hb=>by
  simp only [aeN,hc] at t;simp only [wU,hc];have hi:u9.toNat<x0.Objects.length:=by omega
  have hi':u9.toNat<u10.length:=by omega
  cases hz:(!dU (u10.getD u9.toNat default) 0) with
  |true=>rfl|false=>
   rw [hz] at t;simp only [cond_false] at t ⊢;cases hk:dU (x0.Objects.getD u9.toNat default).fA.Kind 1 with
   |true=>rfl|false=>
    rw [hk] at t;simp only [cond_false] at t ⊢;obtain ⟨p0,p1⟩:=hP _ hi (Cj.1 hk);have hk':dU (CP x0 u9.toNat) 1=false:=hk;have hr':run x0 k (Bz x0 u9.toNat).toNat=true:=(by rw [av_,hk'] at hr;exact hr);have hb':∀y,(u10.set u9.toNat c).getD y default=c->run x0 k y=false:=by
     intro y hy;rw [aln hi'] at hy;split at hy
     .rename_i e;subst e;exact hf
     .exact hb y hy
    cases hcc:dU ((u10.set u9.toNat c).getD (x0.Objects.getD u9.toNat default).fA.Ref.toNat default) c with
    |true=>
     have:=hb' _ (rQ.1 hcc);have hr2:run x0 k (x0.Objects.getD u9.toNat default).fA.Ref.toNat=true:=hr';rw [hr2] at this;cases this
    |false=>
     rw [hcc] at t;simp only [cond_false] at t ⊢;match k,hr',hf,hb' with
     |0,hr',_,_=>cases hr'
     |j+1,hr',hf,hb'=>
      have hl':run x0 j (Bz x0 u9.toNat).toNat=false:=(by rw [av_,hk'] at hf;exact hf);refine awc hP hc t p0 p1 (by simp;omega) hr' hl' fun y hy=>?_;cases hcy:run x0 j y with
      |false=>rfl|true=>have:=QU hcy;rw [hb' y hy] at this;cases this
theorem aw3 {x0:dH}(hP:Ze x0){u6 c:Int}(hc:fK .i64 u6 1=c)(h6:0<c):∀{n:Nat} {u9:Int} {u10:List Int},0<=u9->u9<x0.Objects.length->u10.length=x0.Objects.length->(∀k,u10.getD k default<=c)->aej x0 u6 n u9 u10=true->
  (∀k,(ae8 x0 u6 n u9 u10).2.getD k default≠0->u10.getD k default≠0)/\(∀k,(ae8 x0 u6 n u9 u10).2.getD k default<=c)
 |0,_,_,_,_,_,_,t=>by cases t
 |n+1,u9,u10,h0,h1,hl,hle,t=>by
  simp only [aej,hc] at t;simp only [ae8,hc];have hi:u9.toNat<x0.Objects.length:=by omega
  have hi':u9.toNat<u10.length:=by omega
  cases hz:dU (u10.getD u9.toNat default) c with
  |false=>exact ⟨fun _ h=>h,hle⟩|true=>
   rw [hz] at t;simp only [Bool.not_true,cond_false] at t ⊢;have hz:=rQ.1 hz;have a1:∀k,(u10.set u9.toNat (-1)).getD k default≠0->u10.getD k default≠0:=by
    intro k hk;rw [aln hi'] at hk;split at hk
    .rename_i e;subst e;rw [hz];omega
    .exact hk
   have a2:∀k,(u10.set u9.toNat (-1)).getD k default<=c:=by
    intro k;rw [aln hi'];split
    .omega
    .exact hle k
   cases hk:dU (x0.Objects.getD u9.toNat default).fA.Kind 1 with
   |true=>exact ⟨a1,a2⟩|false=>
    rw [hk] at t;simp only [cond_false] at t ⊢;obtain ⟨p0,p1⟩:=hP _ hi (Cj.1 hk);obtain ⟨b1,b2⟩:=aw3 hP hc h6 p0 p1 (by simp;omega) a2 t;exact ⟨fun k h=>a1 k (b1 k h),b2⟩
theorem m5 {x0:dH}(hP:Ze x0)(hB:x0.Objects.length<=4096):∀(n j:Nat) (u5:Bool) (s:List Int),j<=x0.Objects.length->x0.Objects.length-j<n->s.length=x0.Objects.length->(∀k,k<x0.Objects.length->s.getD k default≠0->aF0 x0 k)->(∀k,s.getD k default<=(j:Int))->
  ((afX x0 n u5 j s).1=true->∀i,j<=i->i<x0.Objects.length->aF0 x0 i)/\(U4 x0->(afX x0 n u5 j s).1=true)/\((afX x0 n u5 j s).1=false->(afX x0 n u5 j s).2.2.2.1=false)
 |0,j,_,_,_,h,_,_,_=>by omega
 |n+1,j,u5,s,hj,hn,hl,hr,hle=>by
  simp only [afX,jF];by_cases hlt:j<x0.Objects.length
  .have e1:(!decide ((j:Int)<(x0.Objects.length:Int)))=false:=(by rw [decide_eq_true (by omega)];rfl);rw [e1];simp only [cond_false];have ec:fK .i64 (j:Int) 1=(j:Int)+1:=G_ (by omega) (by omega);have g0:decide ((j:Int)<nM (List.map dJ.enc x0.Objects))=true:=(by rw [abB];exact decide_eq_true (by omega));have T1:=avz hP (by omega) (u6:=(j:Int)) (by omega) g0 (u8:=u5) hl;have nc:s.getD (j:Int).toNat default≠(j:Int)+1:=(by have:=hle (j:Int).toNat;omega);have hle':∀k,s.getD k default<=(j:Int)+1:=fun k=>by have:=hle k;omega
   cases h8:(wU x0 j (x0.Objects.length+1) u5 j s).1 with
   |false=>
    have e2:(!dU (mg false) 0)=true:=rfl;simp only [e2,cond_true];refine ⟨fun h=>Bool.noConfusion h,fun ha=>?_,fun _=>aA4 T1 h8⟩;obtain ⟨m,hm⟩:=ha j hlt;obtain ⟨k,h1,h2⟩:=O_ hm;have:=awc hP ec T1 (by omega) (by omega) hl (k:=k) (by simpa using h1) (by simpa using h2) (fun y hy=>by have:=hle y;omega);rw [h8] at this;cases this
   |true=>
    have e2:(!dU (mg true) 0)=false:=rfl;simp only [e2,cond_false];obtain ⟨r,q,l⟩:=ayc hP ec (by omega) (by omega) (by omega) hl (fun k hk hne=>.inr (hr k hk hne)) nc hle' h8;have l8:=auY h8;have g1:dU (mg (wU x0 j (x0.Objects.length+1) u5 j s).1) 0=true:=(by rw [h8];rfl);have T2:=atw hP (by omega) (u6:=(j:Int)) (by omega) g0 hl g1;obtain ⟨b1,b2⟩:=aw3 hP ec (by omega) (by omega) (by omega) (by omega) l T2;rw [ec];have e3:((j:Int)+1)=((j+1:Nat):Int):=(by omega);rw [e3];have ih:=m5 hP hB n (j+1) (wU x0 j (x0.Objects.length+1) u5 j s).2.1 _ (by omega) (by omega) (by rw [auZ T2];omega) (fun k hk hne=>by
     rcases q k hk (b1 k hne) with h|h
     .have:=hle k;omega
     .exact h) (fun k=>by rw [<- e3];exact b2 k)
    refine ⟨fun h i h1 h2=>?_,ih.2.1,ih.2.2⟩;by_cases e:i=j
    .subst e;simpa using r
    .exact ih.1 h i (by omega) h2
  .have e1:(!decide ((j:Int)<(x0.Objects.length:Int)))=true:=(by rw [decide_eq_false (by omega)];rfl);rw [e1];exact ⟨fun _ i h1 h2=>by omega,fun _=>rfl,fun h=>Bool.noConfusion h⟩
theorem aw4 {h:dH}:aeH h=true↔h.Objects.length<=4096/\(∀i,i<h.Objects.length->acw h (i:Nat)=true)/\U4 h:=by
 unfold aeH;dsimp only;rw [jF,Int.toNat_natCast];by_cases hl:h.Objects.length<=4096
 .have e1:decide ((h.Objects.length:Int) > 4096)=false:=decide_eq_false (by omega);have e:=avR (x0:=h) (by omega) (h.Objects.length+1) 0 false (Nat.zero_le _) (by omega);have e0:((0:Nat):Int)=0:=rfl;rw [e0] at e;rw [e1,e];simp only [cond_false];by_cases hc:∀i,0<=i->i<h.Objects.length->acw h (i:Nat)=true
  .rw [if_pos hc];have e2:(!dU (mg true) 0)=false:=rfl;simp only [e2,cond_false];have hP:Ze h:=auL fun i hi=>hc i (Nat.zero_le _) hi;have rep:∀k,(List.replicate h.Objects.length (0:Int)).getD k default=0:=fun k=>by
    rw [List.getD_eq_getElem?_getD];by_cases hk:k<h.Objects.length
    .rw [List.getElem?_replicate,if_pos hk];rfl
    .rw [List.getElem?_replicate,if_neg hk];rfl
   obtain ⟨a,b,c⟩:=m5 hP hl (h.Objects.length+1) 0 false (List.replicate h.Objects.length 0) (Nat.zero_le _) (by omega) (by simp) (fun k _ hne=>absurd (rep k) hne) (fun k=>by rw [rep k];exact Int.le_refl _);rw [e0] at a b c;cases h5:(afX h (h.Objects.length+1) false 0 (List.replicate h.Objects.length 0)).1 with
   |true=>
    have e3:(!dU (mg true) 0)=false:=rfl;simp only [e3,cond_false];exact ⟨fun _=>⟨hl,fun i hi=>hc i (Nat.zero_le _) hi,fun i hi=>a h5 i (Nat.zero_le _) hi⟩,fun _=>by first|rfl|trivial⟩
   |false=>
    have e3:(!dU (mg false) 0)=true:=rfl;simp only [e3,cond_true];rw [c h5];exact ⟨fun h=>Bool.noConfusion h,fun k=>by have:=b k.2.2;rw [h5] at this;cases this⟩
  .rw [if_neg hc];have e2:(!dU (mg false) 0)=true:=rfl;simp only [e2,cond_true];exact ⟨fun h=>(Bool.false_ne_true h).elim,fun h=>absurd (fun i _ hi=>h.2.1 i hi) hc⟩
 .have e1:decide ((h.Objects.length:Int) > 4096)=true:=decide_eq_true (by omega);rw [e1];exact ⟨fun h=>(Bool.false_ne_true h).elim,fun h=>absurd h.1 hl⟩
end Go.Fw
end
section
namespace Go.Fw
end Go.Fw
end
section
namespace Go.Fw
def lV (r:dH×Int×Int):AV:=.gW [(dH.av r.1),(.p (.int .i64 r.2.1)),(.p (.int .i64 r.2.2))]
def ame (r:dH×Int):AV:=.gW [(dH.av r.1),(.p (.int .i64 r.2))]
def wK (x0:dH):Nat->Bool->Int->(Bool×Bool×Bool)
 |0,_,_=>default|n+1,u1,u2=>
  let v3:dJ:=x0.Objects.getD (u2:Int).toNat default
  bif (!(decide ((u2:Int)<(jT dJ.enc x0.Objects)))) then (true,u1,default)
  else bif (decide (((jT dI.enc v3.Props):Int) > 100)) then (false,default,true)
  else wK x0 n u1 (fK .i64 u2 1)
def IE (x0:dH):Bool:=
 let r1:Bool×Bool×Bool:=wK x0 (x0.Objects.length+1) false 0
 bif (((decide (((jT dJ.enc x0.Objects):Int) > 60))&&(decide (((jT dJ.enc x0.Objects):Int)<=4096)))||(decide (((jT dJ.enc x0.Objects):Int) > 5000))) then true
 else bif (!(dU (mg r1.1) 0)) then r1.2.2
 else false
end Go.Fw
end
