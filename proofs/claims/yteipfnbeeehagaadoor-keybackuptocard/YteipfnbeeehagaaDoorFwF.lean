/- Machinery of this seat's proofs (MA, Ar, H, Hp, MK8, LA, LK8, LKI8, TH8, RK8, LKB8, GlP8, ZK8b): lemmas that the last text uses; no statement of its own. -/
import Derived.Test.YteipfnbeeehagaaDoorFwE
import Derived.Test.YteipfnbeeehagaaDoorRows
import Derived.Deep.DeepHandedRow
import Derived.SevenTiedAt
import Derived.OpenShut
import Derived.MakeChecks
import Derived.Test.YteipfnbeeehagaaDoorCards
import Derived.Test.YteipfnbeeehagaaDoorTie
import Derived.Lib.LaidIn
section
set_option linter.unusedVariables false
set_option linter.unusedSimpArgs false
set_option linter.unusedSectionVars false
namespace Go.Fw
set_option linter.unusedVariables false
def eR_ii64_bool (r:Int×Bool):AV:=.tup [(.p (.int .i64 r.1)),(.p (.bool r.2))]
def math_Signbit (x0:Nat):Bool:=
 let v1:Int:=math_Float64bits x0
 (decide (((IntKind.wrap .i64 v1):Int)<0))
def math_Abs (x0:Nat):Nat:=
 let v1:Int:=math_Float64bits x0
 let v2:Nat:=math_Float64frombits (iAndNot .u64 v1 9223372036854775808)
 v2
def math_Trunc (x0:Nat):Nat:=
 let v1:Nat:=math_archTrunc x0
 v1
def num_May (x0:Nat):Bool:=
 let v1:Nat:=math_Trunc x0
 let v2:Nat:=math_Abs x0
 let v3:Bool:=math_Signbit x0
 ((fNe x0 x0)||(((fEq v1 x0)&&(fLe v2 4845873199050653695))&&((fNe x0 0)||(!v3))))
def value_May (x0:GVal):Bool:=
 let v1:Bool:=num_May x0.Num
 let v2:Bool:=num_May x0.Num
 let v3:Bool:=num_May (bif (iEq x0.Kind 2) then 0 else (bif (iEq x0.Kind 3) then 0 else x0.Num))
 bif (((decide ((x0.Kind:Int) > 8))||(decide ((x0.Ref:Int)<0)))||(decide (((sLen x0.Str):Int) > 4096))) then false
 else bif ((iEq x0.Kind 2)&&((fNe x0.Num 4607182418800017408)&&((fNe x0.Num 0)||(!v1)))) then false
 else bif ((!(iEq x0.Kind 2))&&((iEq x0.Kind 3)&&(!v2))) then false
 else (((iEq x0.Kind x0.Kind)&&(((iEq x0.Kind 2)||((iEq x0.Kind 3)||(fEq x0.Num 0)))&&((bif (iEq x0.Kind 2) then (sEq x0.Str []) else (bif (iEq x0.Kind 3) then (sEq x0.Str []) else ((iEq x0.Kind 4)||(sEq x0.Str []))))&&(bif (iEq x0.Kind 2) then (iEq x0.Ref 0) else (bif (iEq x0.Kind 3) then (iEq x0.Ref 0) else (bif (iEq x0.Kind 4) then (iEq x0.Ref 0) else (((iEq x0.Kind 5)||((iEq x0.Kind 6)||((iEq x0.Kind 7)||(iEq x0.Kind 8))))||(iEq x0.Ref 0))))))))&&v3)
def value_IsObject (x0:GVal):Bool:=
 ((decide ((x0.Kind:Int)≥6))&&(decide ((x0.Kind:Int)≤8)))
def ref01_whole (x0:Nat):Int×Bool:=
 bif (!((fGe x0 14069245235905429503)&&(fLe x0 4845873199050653695))) then (0,false)
 else bif ((fNe (FloatKind.f64.nearest (((FloatKind.f64.decode x0).toInt .zero).getD 0)) x0)||((fEq x0 0)&&(fLt ((FloatKind.f64.format.div 4607182418800017408 x0).getD 0) 0))) then (0,false)
 else ((((FloatKind.f64.decode x0).toInt .zero).getD 0),true)
def ref01_May (x0:Nat):Bool:=
 let v1:Int×Bool:=ref01_whole x0
 (v1.2||(fNe x0 x0))
end Go.Fw
end
section
set_option linter.unusedVariables false
set_option linter.unusedSimpArgs false
set_option linter.unusedSectionVars false
namespace Go.Fw
set_option linter.unusedSectionVars false
set_option linter.unusedSimpArgs false
set_option linter.unusedVariables false
abbrev LF :=List (Nat×Int)
def LF.ev (v:Nat→Int):LF→Int
 |[]=>0
 |x::r=>x.2*v x.1+LF.ev v r
theorem LF.ev_app {v:Nat→Int}:∀{a b:LF},LF.ev v (a++b)=a.ev v+b.ev v
 |[],b=>by simp [LF.ev]
 |x::a,b=>by simp only [List.cons_append,LF.ev,LF.ev_app (a:=a) (b:=b)];omega
def cns (i:Nat)(c:Int)(l:LF):LF:=fInt' c fun c=>match c with
 | .ofNat 0=>l
 |c=>(i,c)::l
theorem cns_ev {v:Nat→Int}{i:Nat}{c:Int}{l:LF}:(cns i c l).ev v=c*v i+l.ev v:=by
 unfold cns
 rw [fInt'_eq]
 split
 ·simp
 ·rfl
def mrg : Nat→LF→LF→LF
 |0,a,b=>a++b
 |n+1,a,b=>match a with
  |[]=>b
  |x::a'=>match b with
   |[]=>x::a'
   |y::b'=>bif Nat.blt x.1 y.1 then x::mrg n a' (y::b') else bif Nat.blt y.1 x.1 then y::mrg n (x::a') b' else cns x.1 (x.2+y.2) (mrg n a' b')
theorem mrg_ev {v:Nat→Int}:∀{n:Nat} {a b:LF},(mrg n a b).ev v=a.ev v+b.ev v
 |0,a,b=>LF.ev_app
 |n+1,[],b=>by simp [mrg,LF.ev]
 |n+1,x::a,[]=>by simp [mrg,LF.ev]
 |n+1,x::a,y::b=>by
  simp only [mrg]
  cases h:Nat.blt x.1 y.1
  ·simp only [cond_false]
   cases h2:Nat.blt y.1 x.1
   ·have e:x.1=y.1:=by
     have h1:¬x.1<y.1:=fun q=>by rw [show Nat.blt x.1 y.1=true by rw [Nat.blt_eq];exact q] at h;cases h
     have h3:¬y.1<x.1:=fun q=>by rw [show Nat.blt y.1 x.1=true by rw [Nat.blt_eq];exact q] at h2;cases h2
     omega
    simp only [cond_false,cns_ev,mrg_ev (n:=n) (a:=a) (b:=b),LF.ev,e,Int.add_mul];omega
   ·simp only [cond_true,LF.ev,mrg_ev (n:=n) (a:=x::a) (b:=b)];omega
  ·simp only [cond_true,LF.ev,mrg_ev (n:=n) (a:=a) (b:=y::b)];omega
def scl (k:Int):LF→LF
 |[]=>[]
 |x::r=>cns x.1 (k*x.2) (scl k r)
theorem scl_ev {v:Nat→Int}{k:Int}:∀{a:LF},(scl k a).ev v=k*a.ev v
 |[]=>by simp [scl,LF.ev]
 |x::r=>by simp only [scl,cns_ev,LF.ev,scl_ev (a:=r),Int.mul_add,Int.mul_assoc]
def addL (a b:LF):LF:=mrg 60 a b
def subL (a b:LF):LF:=mrg 60 a (scl (-1) b)
theorem addL_ev {v:Nat→Int}{a b:LF}:(addL a b).ev v=a.ev v+b.ev v:=mrg_ev
theorem subL_ev {v:Nat→Int}{a b:LF}:(subL a b).ev v=a.ev v-b.ev v:=by
 unfold subL;rw [mrg_ev,scl_ev];omega
def cof (i:Nat):LF→Int
 |[]=>0
 |x::r=>bif Nat.beq x.1 i then x.2 else cof i r
def isNeg : Int→Bool
 | .ofNat _=>false
 | .negSucc _=>true
theorem isNeg_iff {n:Int}:isNeg n=true↔n<0:=by cases n<;>simp [isNeg]
def absN (n:Int):Int:=match n with | .ofNat m=>.ofNat m | .negSucc m=>.ofNat (m+1)
theorem absN_nn {n:Int}:0≤absN n:=by
 cases n with
 |ofNat m=>simp [absN]
 |negSucc m=>simp [absN];omega
def comb (c d:Int)(N f:LF):LF:=bif Nat.beq c.natAbs d.natAbs then addL N f else match absN d with
 | .ofNat 1=>addL N (scl (absN c) f)
 |_=>addL (scl (absN d) N) (scl (absN c) f)
theorem comb_ev {v:Nat→Int}{c d:Int}{N f:LF}(hN:0≤N.ev v)(hf:0≤f.ev v):0≤(comb c d N f).ev v:=by
 have:=Int.mul_nonneg (absN_nn (n:=d)) hN
 have:=Int.mul_nonneg (absN_nn (n:=c)) hf
 unfold comb
 cases Nat.beq c.natAbs d.natAbs
 ·simp only [cond_false]
  split<;>simp only [addL_ev,scl_ev]<;>omega
 ·simp only [cond_true,addL_ev];omega
def partC (c d:Int):Bool:=Nat.blt d.natAbs c.natAbs&&Nat.ble c.natAbs 4
def opp (i:Nat)(ng:Bool):List LF→List LF
 |[]=>[]
 |f::r=>match cof i f with
  | .ofNat 0=>opp i ng r
  | .ofNat (_+1)=>bif ng then f::opp i ng r else opp i ng r
  | .negSucc _=>bif ng then opp i ng r else f::opp i ng r
theorem opp_mem {i:Nat}{ng:Bool}:∀{fs:List LF} {f:LF},f∈opp i ng fs→f∈fs
 |[],f,h=>by simp [opp] at h
 |g::r,f,h=>by
  unfold opp at h
  split at h
  ·exact List.mem_cons_of_mem _ (opp_mem h)
  ·cases ng
   ·exact List.mem_cons_of_mem _ (opp_mem h)
   ·simp only [cond_true,List.mem_cons] at h
    rcases h with h|h
    ·simp [h]
    ·exact List.mem_cons_of_mem _ (opp_mem h)
  ·cases ng
   ·simp only [cond_false,List.mem_cons] at h
    rcases h with h|h
    ·simp [h]
    ·exact List.mem_cons_of_mem _ (opp_mem h)
   ·exact List.mem_cons_of_mem _ (opp_mem h)
def pickA (fs:List LF):LF→Option (Int×Nat×Nat×List LF)→Option (Int×Nat×Nat×List LF)
 |[],b=>b
 |(0,_)::r,b=>pickA fs r b
 |(i+1,c)::r,b=>
  let o:=opp (i+1) (isNeg c) fs
  fNat o.length fun n=>match b with
   |none=>pickA fs r (some (c,i+1,n,o))
   |some (c',j,m,o')=>bif Nat.blt n m then pickA fs r (some (c,i+1,n,o)) else pickA fs r (some (c',j,m,o'))
theorem pickA_mem {fs:List LF}:∀{N:LF} {b:Option (Int×Nat×Nat×List LF)} {x},(∀y,b=some y→∀f∈y.2.2.2,f∈fs)→pickA fs N b=some x→∀f∈x.2.2.2,f∈fs
 |[],b,x,hb,h=>hb x h
 |(0,_)::r,b,x,hb,h=>pickA_mem (N:=r) hb h
 |(i+1,c)::r,b,x,hb,h=>by
  have hs:∀(n:Nat) (y:Int×Nat×Nat×List LF),some (c,i+1,n,opp (i+1) (isNeg c) fs)=some y→∀f∈y.2.2.2,f∈fs:=by
   intro n y hy f hf
   simp only [Option.some.injEq] at hy;subst hy
   exact opp_mem hf
  simp only [pickA,fNat_eq] at h
  split at h
  ·exact pickA_mem (N:=r) (hs _) h
  ·rename_i c' j m o'
   cases hl:Nat.blt (opp (i+1) (isNeg c) fs).length m
   ·rw [hl] at h;exact pickA_mem (N:=r) hb h
   ·rw [hl] at h;exact pickA_mem (N:=r) (hs _) h
def refC (N:LF):Bool:=match N with
 |[(0,c)]=>isNeg c
 |_=>false
def anyF (g:LF→Nat→Option Nat):List LF→Nat→Option Nat
 |[],b=>some b
 |f::r,b=>match g f b with
  |none=>none
  |some b'=>anyF g r b'
def shortF : LF→Bool
 |[]=>true
 |[_]=>true
 |[_,_]=>true
 |_=>false
def ordF (o:List LF):List LF:=o.filter shortF++o.filter fun f=>!(shortF f)
theorem ordF_mem {o:List LF}{f:LF}(h:f∈ordF o):f∈o:=by
 rcases List.mem_append.1 h with h|h<;>exact (List.mem_filter.1 h).1
def refuteF : Nat→List LF→LF→Nat→Option Nat
 |0,_,_,b=>some b
 |d+1,fs,N,b=>match b with
  |0=>some 0
  |b+1=>match pickA fs N none with
   |none=>bif refC N then none else some b
   |some (c,i,_,o)=>anyF (fun f b=>match refuteF d fs (comb c (cof i f) N f) b with
    |none=>none
    |some b'=>bif partC c (cof i f) then refuteF d fs (addL N f) b' else some b') (ordF o) b
theorem anyF_none {g:LF→Nat→Option Nat}:∀{l:List LF} {b:Nat},anyF g l b=none→∃f∈l,∃b',g f b'=none
 |[],b,h=>by simp [anyF] at h
 |f::r,b,h=>by
  simp only [anyF] at h
  split at h
  ·rename_i hg
   exact ⟨f,List.mem_cons_self ..,b,hg⟩
  ·obtain ⟨f',hf',b',hb'⟩:=anyF_none h
   exact ⟨f',List.mem_cons_of_mem _ hf',b',hb'⟩
theorem refuteF_ok {v:Nat→Int}(hv:v 0=1){fs:List LF}(hfs:∀f∈fs,0≤f.ev v):∀{d:Nat} {N:LF} {b:Nat},refuteF d fs N b=none→¬0≤N.ev v
 |0,N,b,h=>by simp [refuteF] at h
 |d+1,N,b,h=>by
  intro hN
  simp only [refuteF] at h
  split at h
  ·cases h
  split at h
  ·cases hc:refC N
   ·rw [hc] at h;cases h
   ·unfold refC at hc
    split at hc
    ·rw [isNeg_iff] at hc
     simp only [LF.ev,hv] at hN
     omega
    ·cases hc
  ·rename_i c i n o hp
   obtain ⟨f,hf,b',h⟩:=anyF_none h
   have hm:=pickA_mem (fs:=fs) (N:=N) (b:=none) (by simp) hp f (ordF_mem hf)
   split at h
   ·rename_i h'
    exact refuteF_ok hv hfs h' (comb_ev hN (hfs f hm))
   ·cases hq:partC c (cof i f)
    ·rw [hq] at h;cases h
    ·rw [hq] at h
     exact refuteF_ok hv hfs h (by rw [addL_ev];have:=hfs f hm;omega)
def nonO : Option Nat→Bool
 |none=>true
 |some _=>false
def prv1 (fs:List LF)(f:LF):Bool:=nonO (refuteF 3 fs (addL (scl (-1) f) [(0,-1)]) 60)||(nonO (refuteF 5 fs (addL (scl (-1) f) [(0,-1)]) 300)||nonO (refuteF 8 fs (addL (scl (-1) f) [(0,-1)]) 1500))
theorem nonO_eq {o:Option Nat}(h:nonO o=true):o=none:=by cases o<;>first|rfl|cases h
theorem prv1_ok {v:Nat→Int}(hv:v 0=1){fs:List LF}(hfs:∀f∈fs,0≤f.ev v){f:LF}(h:prv1 fs f=true):0≤f.ev v:=by
 have:¬0≤(addL (scl (-1) f) [(0,-1)]).ev v:=by
  simp only [prv1,Bool.or_eq_true] at h
  rcases h with h|h|h<;>exact refuteF_ok hv hfs (nonO_eq h)
 rw [addL_ev,scl_ev] at this
 simp only [LF.ev,hv] at this
 omega
def vl (ρ:List AV)(az:List Tm):Nat→Int
 |0=>1
 |i+1=>match az[i]? with
  |some t=>(t.den ρ).I
  |none=>0
def Hold (ρ:List AV)(az:List Tm)(f:LF)(x:Int):Prop:=∀bs,az <+: bs→f.ev (vl ρ bs)=x
def Pos (ρ:List AV)(az:List Tm)(f:LF):Prop:=∀bs,az <+: bs→0≤f.ev (vl ρ bs)
theorem Hold.mono {ρ:List AV}{az bs:List Tm}{f:LF}{x:Int}(h:Hold ρ az f x)(hp:az <+: bs):Hold ρ bs f x:=fun cs hc=>h cs (hp.trans hc)
theorem Pos.mono {ρ:List AV}{az bs:List Tm}{f:LF}(h:Pos ρ az f)(hp:az <+: bs):Pos ρ bs f:=fun cs hc=>h cs (hp.trans hc)
def PosL (ρ:List AV)(az:List Tm)(fs:List LF):Prop:=∀f∈fs,Pos ρ az f
theorem PosL.mono {ρ:List AV}{az bs:List Tm}{fs:List LF}(h:PosL ρ az fs)(hp:az <+: bs):PosL ρ bs fs:=fun f hf=>(h f hf).mono hp
theorem PosL.cons {ρ:List AV}{az:List Tm}{f:LF}{fs:List LF}(h:Pos ρ az f)(k:PosL ρ az fs):PosL ρ az (f::fs):=fun g hg=>by
 rcases List.mem_cons.1 hg with rfl|hg
 ·exact h
 ·exact k g hg
theorem PosL.app {ρ:List AV}{az:List Tm}{fs gs:List LF}(h:PosL ρ az fs)(k:PosL ρ az gs):PosL ρ az (fs++gs):=fun g hg=>by
 rcases List.mem_append.1 hg with hg|hg
 ·exact h g hg
 ·exact k g hg
theorem prv1_pos {ρ:List AV}{az:List Tm}{fs:List LF}(hfs:PosL ρ az fs){f:LF}(h:prv1 fs f=true):Pos ρ az f:=fun bs hb=>
 prv1_ok rfl (fun g hg=>hfs g hg bs hb) h
def tmIdx (t:Tm):Nat→List Tm→Option Nat
 |_,[]=>none
 |i,x::r=>bif x.beq t then some i else tmIdx t (i+1) r
theorem tmIdx_ok {t:Tm}:∀{az:List Tm} {i j:Nat},tmIdx t i az=some j→i≤j∧az[j-i]?=some t
 |[],i,j,h=>by simp [tmIdx] at h
 |x::r,i,j,h=>by
  simp only [tmIdx] at h
  cases hb:x.beq t
  ·rw [hb] at h
   obtain ⟨h1,h2⟩:=tmIdx_ok (az:=r) h
   refine ⟨by omega,?_⟩
   have:j-i=(j-(i+1))+1:=by omega
   rw [this];simpa using h2
  ·rw [hb] at h
   simp only [cond_true,Option.some.injEq] at h
   subst h
   simp [Tm.beq_eq hb]
structure LR where
 az:List Tm
 fs:List LF
 f:LF
def LROk (ρ:List AV)(az:List Tm)(r:LR)(x:Int):Prop:=az <+: r.az∧PosL ρ r.az r.fs∧Hold ρ r.az r.f x
def atomL (t:Tm)(ex:Nat→List LF)(az:List Tm)(fs:List LF):LR:=
 match tmIdx t 0 az with
 |some i=>⟨az,fs,[(i+1,1)]⟩
 |none=>fNat az.length fun n=>⟨az++[t],ex (n+1)++fs,[(n+1,1)]⟩
theorem pre_get {az bs:List Tm}{i:Nat}{t:Tm}(h:az[i]?=some t)(hp:az <+: bs):bs[i]?=some t:=by
 obtain ⟨c,rfl⟩:=hp
 have:=(List.getElem?_eq_some_iff.1 h).1
 rw [List.getElem?_append_left this,h]
theorem one_ev {v:Nat→Int}{i:Nat}:LF.ev v [(i,1)]=v i:=by simp [LF.ev]
theorem atomL_ok {ρ:List AV}{t:Tm}{ex:Nat→List LF}{az:List Tm}{fs:List LF}(hfs:PosL ρ az fs)
  (hex:∀v:Nat→Int,v 0=1→∀n,v n=(t.den ρ).I→(∀f∈fs,0≤f.ev v)→(∃bs,az <+: bs∧v=vl ρ bs)→∀f∈ex n,0≤f.ev v):LROk ρ az (atomL t ex az fs) (t.den ρ).I:=by
 unfold atomL
 split
 ·rename_i i h
  obtain ⟨-,h2⟩:=tmIdx_ok h
  refine ⟨List.prefix_refl _,hfs,fun bs hb=>?_⟩
  rw [one_ev]
  simp only [vl,pre_get (by simpa using h2) hb]
 ·rw [fNat_eq]
  have hp:az <+: az++[t]:=List.prefix_append _ _
  have hv:∀bs,az++[t] <+: bs→vl ρ bs (az.length+1)=(t.den ρ).I:=by
   intro bs hb
   have:(az++[t])[az.length]?=some t:=by simp
   simp only [vl,pre_get this hb]
  refine ⟨hp,PosL.app (fun f hf bs hb=>?_) (hfs.mono hp),fun bs hb=>?_⟩
  ·exact hex (vl ρ bs) rfl _ (hv bs hb) (fun g hg=>hfs g hg bs (hp.trans hb)) ⟨bs,hp.trans hb,rfl⟩ f hf
  ·rw [one_ev];exact hv bs hb
def rangeOk (k:IntKind)(fs:List LF)(f:LF):Bool:=prv1 fs (subL f [(0,k.min)])&&prv1 fs (subL [(0,k.max)] f)
theorem wrap_id {k:IntKind}{n:Int}(h0:k.min≤n)(h1:n≤k.max):k.wrap n=n:=by
 cases k<;>simp only [IntKind.min,IntKind.max,IntKind.wrap,IntKind.signed,IntKind.bits] at *<;>simp at *<;>omega
theorem rangeOk_ok {k:IntKind}{v:Nat→Int}(hv:v 0=1){fs:List LF}(hfs:∀f∈fs,0≤f.ev v){f:LF}(h:rangeOk k fs f=true):k.wrap (f.ev v)=f.ev v:=by
 unfold rangeOk at h
 rw [Bool.and_eq_true] at h
 have h1:=prv1_ok hv hfs h.1
 have h2:=prv1_ok hv hfs h.2
 rw [subL_ev] at h1 h2
 simp only [LF.ev,hv] at h1 h2
 exact wrap_id (by omega) (by omega)
def exQuo (n:Nat)(f:LF)(c:Int):List LF:=[[(n,1)],subL f (scl c [(n,1)]),subL (addL (scl c [(n,1)]) [(0,c-1)]) f]
def exRem (n:Nat)(f:LF)(c:Int):List LF:=[[(n,1)],subL [(0,c-1)] [(n,1)],subL f [(n,1)]]
def exShr (n:Nat)(f:LF)(c:Int):List LF:=[subL f (scl c [(n,1)]),subL (addL (scl c [(n,1)]) [(0,c-1)]) f]
def exNN (n:Nat):List LF:=[[(n,1)]]
def exByte (n:Nat):List LF:=[[(n,1)],subL [(0,255)] [(n,1)]]
def noEx (_:Nat):List LF:=[]
def posLit : Int→Bool
 | .ofNat (_+1)=>true
 |_=>false
theorem posLit_iff {c:Int}:posLit c=true↔0<c:=by
 cases c with
 |ofNat n=>cases n<;>simp [posLit]<;>omega
 |negSucc n=>simp [posLit]
def litI : Tm→Option Int
 | .li c=>some c
 |_=>none
theorem litI_ok {t:Tm}{c:Int}(h:litI t=some c):t=.li c:=by
 cases t<;>simp [litI] at h
 subst h;rfl
def linB (o:BinOp)(k:IntKind)(x y:Tm)(rx ry:LR):LR:=
 let t:Tm:=.bin o (.int k) x y
 match o with
 | .add=>let f:=addL rx.f ry.f;bif rangeOk k ry.fs f then ⟨ry.az,ry.fs,f⟩ else atomL t noEx ry.az ry.fs
 | .sub=>let f:=subL rx.f ry.f;bif rangeOk k ry.fs f then ⟨ry.az,ry.fs,f⟩ else atomL t noEx ry.az ry.fs
 | .mul=>match litI y with
  |some c=>let f:=scl c rx.f;bif rangeOk k ry.fs f then ⟨ry.az,ry.fs,f⟩ else atomL t noEx ry.az ry.fs
  |none=>match litI x with
   |some c=>let f:=scl c ry.f;bif rangeOk k ry.fs f then ⟨ry.az,ry.fs,f⟩ else atomL t noEx ry.az ry.fs
   |none=>atomL t noEx ry.az ry.fs
 | .quo=>match litI y with
  |some c=>bif posLit c&&(prv1 ry.fs rx.f&&rangeOk k ry.fs rx.f) then atomL t (fun n=>exQuo n rx.f c) ry.az ry.fs else atomL t noEx ry.az ry.fs
  |none=>atomL t noEx ry.az ry.fs
 | .rem=>match litI y with
  |some c=>bif posLit c&&prv1 ry.fs rx.f then atomL t (fun n=>exRem n rx.f c) ry.az ry.fs else atomL t noEx ry.az ry.fs
  |none=>atomL t noEx ry.az ry.fs
 | .shr=>match litI y with
  |some c=>bif Nat.beq c.toNat 1 then atomL t (fun n=>exShr n rx.f 2) ry.az ry.fs else atomL t noEx ry.az ry.fs
  |none=>atomL t noEx ry.az ry.fs
 |_=>atomL t noEx ry.az ry.fs
def chosen (ks:Pc):Tm→Tm
 | .ite c x y=>match ks.known c with
  |some true=>chosen ks x
  |some false=>chosen ks y
  |none=>.ite c x y
 |t=>t
theorem chosen_den {ρ:List AV}{ks:Pc}(hk:ks.holds ρ):∀{t:Tm},(chosen ks t).den ρ=t.den ρ:=by
 intro t
 induction t with
 |ite c x y _ ihx ihy=>
  simp only [chosen]
  split
  ·rename_i h
   rw [ihx,Tm.den_ite,Pc.known_holds hk h];rfl
  ·rename_i h
   rw [ihy,Tm.den_ite,Pc.known_holds hk h];rfl
  ·rfl
 |_=>rfl
def exUp (l:List UInt8)(n:Nat):List LF:=fNat l.length fun m=>[[(n,1)],subL [(0,(m:Int))] [(n,1)]]
def litS : Tm→Option (List UInt8)
 | .ls l=>some l
 |_=>none
theorem litS_ok {t:Tm}{l:List UInt8}(h:litS t=some l):t=.ls l:=by
 cases t<;>simp [litS] at h;subst h;rfl
def linS (ks:Pc):Tm→List Tm→List LF→LR
 | .ls l,az,fs=>⟨az,fs,fNat l.length fun n=>cns 0 (.ofNat n) []⟩
 | .bin o k x y,az,fs=>match o with
  | .add=>match k with
   | .str=>match linS ks x az fs with
    |⟨as1,fs1,f1⟩=>match linS ks y as1 fs1 with
     |⟨as2,fs2,f2⟩=>⟨as2,fs2,addL f1 f2⟩
   |k=>atomL (.slen (.bin .add k x y)) exNN az fs
  |o=>atomL (.slen (.bin o k x y)) exNN az fs
 | .ite c x y,az,fs=>match ks.known c with
  |some true=>linS ks x az fs
  |some false=>linS ks y az fs
  |none=>atomL (.slen (.ite c x y)) exNN az fs
 | .ssub x lo hi,az,fs=>match litS x with
  |some l=>atomL (.slen (.ssub x lo hi)) (exUp l) az fs
  |none=>atomL (.slen (.ssub x lo hi)) exNN az fs
 |t,az,fs=>atomL (.slen t) exNN az fs
def lin (ks:Pc):Tm→List Tm→List LF→LR
 | .li c,az,fs=>⟨az,fs,cns 0 c []⟩
 | .bin o kd x y,az,fs=>match kd with
  | .int k=>match lin ks x az fs with
   |⟨as1,fs1,f1⟩=>match lin ks y as1 fs1 with
    |⟨as2,fs2,f2⟩=>linB o k x y ⟨as1,fs1,f1⟩ ⟨as2,fs2,f2⟩
  |kd=>atomL (.bin o kd x y) noEx az fs
 | .conv k x,az,fs=>match lin ks x az fs with
  |⟨as1,fs1,f1⟩=>bif rangeOk k fs1 f1 then ⟨as1,fs1,f1⟩ else atomL (.conv k x) noEx as1 fs1
 | .ite c x y,az,fs=>match ks.known c with
  |some true=>lin ks x az fs
  |some false=>lin ks y az fs
  |none=>atomL (.ite c x y) noEx az fs
 | .rlen x,az,fs=>match chosen ks x with
  | .nl=>⟨az,fs,[]⟩
  |x'=>atomL (.rlen x') exNN az fs
 | .slen x,az,fs=>linS ks x az fs
 | .byte x i,az,fs=>atomL (.byte x i) exByte az fs
 |t,az,fs=>atomL t noEx az fs
theorem noEx_ok {ρ:List AV}{t:Tm}{az:List Tm}{fs:List LF}(hfs:PosL ρ az fs):LROk ρ az (atomL t noEx az fs) (t.den ρ).I:=atomL_ok hfs (fun _ _ _ _ _ _ f hf=>by simp [noEx] at hf)
theorem LROk.up {ρ:List AV}{az bs:List Tm}{r:LR}{x:Int}(hp:az <+: bs)(h:LROk ρ bs r x):LROk ρ az r x:=⟨hp.trans h.1,h.2⟩
theorem linW {ρ:List AV}{az:List Tm}{fs:List LF}{k:IntKind}{f:LF}{x:Int}{t:Tm}(hfs:PosL ρ az fs)(hf:Hold ρ az f x)(ht:(t.den ρ).I=k.wrap x):LROk ρ az (bif rangeOk k fs f then ⟨az,fs,f⟩ else atomL t noEx az fs) (t.den ρ).I:=by
 cases h:rangeOk k fs f
 ·exact noEx_ok hfs
 ·refine ⟨List.prefix_refl _,hfs,fun bs hb=>?_⟩
  rw [ht,← hf bs hb]
  exact (rangeOk_ok rfl (fun g hg=>hfs g hg bs hb) h).symm
theorem Hold.add {ρ:List AV}{az:List Tm}{f g:LF}{x y:Int}(h:Hold ρ az f x)(k:Hold ρ az g y):Hold ρ az (addL f g) (x+y):=fun bs hb=>by rw [addL_ev,h bs hb,k bs hb]
theorem Hold.sub {ρ:List AV}{az:List Tm}{f g:LF}{x y:Int}(h:Hold ρ az f x)(k:Hold ρ az g y):Hold ρ az (subL f g) (x-y):=fun bs hb=>by rw [subL_ev,h bs hb,k bs hb]
theorem Hold.scl {ρ:List AV}{az:List Tm}{f:LF}{x c:Int}(h:Hold ρ az f x):Hold ρ az (Go.Fw.scl c f) (c*x):=fun bs hb=>by rw [scl_ev,h bs hb]
theorem linB_ok {ρ:List AV}{o:BinOp}{k:IntKind}{x y:Tm}{rx ry:LR}(h1:Hold ρ rx.az rx.f (x.den ρ).I)(hp:rx.az <+: ry.az)(h2:Hold ρ ry.az ry.f (y.den ρ).I)(hfs:PosL ρ ry.az ry.fs) :
  LROk ρ ry.az (linB o k x y rx ry) ((Tm.bin o (.int k) x y).den ρ).I:=by
 have h1':=h1.mono hp
 unfold linB
 cases o<;>dsimp only
 case add=>exact linW hfs (h1'.add h2) rfl
 case sub=>exact linW hfs (h1'.sub h2) rfl
 case mul=>
  split
  ·rename_i c hc
   have:=litI_ok hc;subst this
   exact linW hfs (h1'.scl (c:=c)) (by show k.wrap ((x.den ρ).I*c)=_;rw [Int.mul_comm])
  ·split
   ·rename_i c hc
    have:=litI_ok hc;subst this
    exact linW hfs (h2.scl (c:=c)) rfl
   ·exact noEx_ok hfs
 case quo=>
  split
  ·rename_i c hc
   have:=litI_ok hc;subst this
   cases hq:posLit c&&(prv1 ry.fs rx.f&&rangeOk k ry.fs rx.f)
   ·exact noEx_ok hfs
   ·simp only [Bool.and_eq_true] at hq
    obtain ⟨q1,q2,q3⟩:=hq
    rw [posLit_iff] at q1
    rw [cond_true]
    refine atomL_ok hfs fun v hv n hn hg hbs f hf=>?_
    obtain ⟨bs,hb,rfl⟩:=hbs
    have a1:=prv1_ok hv hg q2
    have a2:=rangeOk_ok hv hg q3
    have e:=h1' bs hb
    rw [e] at a1 a2
    have hmax:(x.den ρ).I≤k.max∧k.min≤0:=by
     unfold rangeOk at q3
     rw [Bool.and_eq_true] at q3
     have h2:=prv1_ok hv hg q3.2
     rw [subL_ev,e] at h2
     simp only [LF.ev,hv] at h2
     exact ⟨by omega,by cases k<;>decide⟩
    have hn':(vl ρ bs) n=(x.den ρ).I / c:=by
     rw [hn]
     show k.wrap ((x.den ρ).I.tdiv c)=_
     rw [Int.tdiv_eq_ediv_of_nonneg a1]
     have b1:0≤(x.den ρ).I / c:=Int.ediv_nonneg a1 (by omega)
     have b2:(x.den ρ).I / c≤(x.den ρ).I:=Int.ediv_le_self _ a1
     exact wrap_id (by omega) (by omega)
    have b1:0≤(x.den ρ).I / c:=Int.ediv_nonneg a1 (by omega)
    have b3:=Int.mul_ediv_add_emod (x.den ρ).I c
    have b4:=Int.emod_nonneg (x.den ρ).I (show c≠0 by omega)
    have b5:=Int.emod_lt_of_pos (x.den ρ).I q1
    simp only [exQuo,List.mem_cons,List.not_mem_nil,or_false] at hf
    rcases hf with rfl|rfl|rfl
    ·rw [one_ev,hn'];exact b1
    ·rw [subL_ev,scl_ev,one_ev,e,hn'];omega
    ·rw [subL_ev,addL_ev,scl_ev,one_ev,e,hn']
     simp only [LF.ev,hv];omega
  ·exact noEx_ok hfs
 case rem=>
  split
  ·rename_i c hc
   have:=litI_ok hc;subst this
   cases hq:posLit c&&prv1 ry.fs rx.f
   ·exact noEx_ok hfs
   ·simp only [Bool.and_eq_true] at hq
    obtain ⟨q1,q2⟩:=hq
    rw [posLit_iff] at q1
    rw [cond_true]
    refine atomL_ok hfs fun v hv n hn hg hbs f hf=>?_
    obtain ⟨bs,hb,rfl⟩:=hbs
    have a1:=prv1_ok hv hg q2
    have e:=h1' bs hb
    rw [e] at a1
    have hn':(vl ρ bs) n=(x.den ρ).I % c:=by
     rw [hn]
     show (x.den ρ).I.tmod c=_
     exact Int.tmod_eq_emod_of_nonneg a1
    have b4:=Int.emod_nonneg (x.den ρ).I (show c≠0 by omega)
    have b5:=Int.emod_lt_of_pos (x.den ρ).I q1
    have b3:=Int.mul_ediv_add_emod (x.den ρ).I c
    have b6:0≤c*((x.den ρ).I / c):=Int.mul_nonneg (by omega) (Int.ediv_nonneg a1 (by omega))
    simp only [exRem,List.mem_cons,List.not_mem_nil,or_false] at hf
    rcases hf with rfl|rfl|rfl
    ·rw [one_ev,hn'];exact b4
    ·rw [subL_ev,one_ev,hn'];simp only [LF.ev,hv];omega
    ·rw [subL_ev,one_ev,e,hn'];omega
  ·exact noEx_ok hfs
 case shr=>
  split
  ·rename_i c hc
   have:=litI_ok hc;subst this
   cases hq:Nat.beq c.toNat 1
   ·exact noEx_ok hfs
   ·have hc1:c.toNat=1:=Nat.eq_of_beq_eq_true hq
    rw [cond_true]
    refine atomL_ok hfs fun v hv n hn hg hbs f hf=>?_
    obtain ⟨bs,hb,rfl⟩:=hbs
    have e:=h1' bs hb
    have hn':(vl ρ bs) n=(x.den ρ).I / 2:=by
     rw [hn]
     show (x.den ρ).I.fdiv (2 ^ (min c.toNat k.bits))=_
     rw [hc1,Int.fdiv_eq_ediv_of_nonneg _ (Int.pow_nonneg (by omega))]
     cases k<;>rfl
    simp only [exShr,List.mem_cons,List.not_mem_nil,or_false] at hf
    rcases hf with rfl|rfl
    ·rw [subL_ev,scl_ev,one_ev,e,hn'];omega
    ·rw [subL_ev,addL_ev,scl_ev,one_ev,e,hn']
     simp only [LF.ev,hv];omega
  ·exact noEx_ok hfs
 all_goals exact noEx_ok hfs
theorem exNN_ok {ρ:List AV}{x:Tm}{az:List Tm}{fs:List LF}(hfs:PosL ρ az fs):LROk ρ az (atomL (.slen x) exNN az fs) ((Tm.slen x).den ρ).I:=by
 refine atomL_ok hfs fun v hv n hn hg hbs f hf=>?_
 simp only [exNN,List.mem_cons,List.not_mem_nil,or_false] at hf
 subst hf
 rw [one_ev,hn]
 exact Int.natCast_nonneg _
theorem linS_ok {ρ:List AV}{ks:Pc}(hk:ks.holds ρ):∀{t:Tm} {az:List Tm} {fs:List LF},PosL ρ az fs→LROk ρ az (linS ks t az fs) ((Tm.slen t).den ρ).I:=by
 intro t
 induction t with
 |ls l=>exact fun {az fs} hfs=>⟨List.prefix_refl _,hfs,fun bs hb=>by simp only [linS,fNat_eq,cns_ev];simp [LF.ev,vl,Tm.den,D.I,D.S,sLen]⟩
 |bin o k x y ihx ihy=>
  intro az fs hfs
  cases o<;>first|exact exNN_ok hfs|skip
  cases k<;>first|exact exNN_ok hfs|skip
  obtain ⟨a1,a2,a3⟩:=ihx hfs
  obtain ⟨b1,b2,b3⟩:=ihy (az:=(linS ks x az fs).az) (fs:=(linS ks x az fs).fs) a2
  refine ⟨a1.trans b1,b2,fun bs hb=>?_⟩
  have h1:=a3.mono b1 bs hb
  have h2:=b3 bs hb
  show LF.ev _ (addL _ _)=_
  rw [addL_ev,h1,h2]
  simp [Tm.den,binD,D.I,D.S,sLen]
 |ite c x y _ ihx ihy=>
  intro az fs hfs
  simp only [linS]
  split
  ·rename_i h
   have:=Pc.known_holds hk h
   have e:((Tm.slen (.ite c x y)).den ρ).I=((Tm.slen x).den ρ).I:=by show (D.i (sLen ((Tm.ite c x y).den ρ).S)).I=_;rw [Tm.den_ite,this];rfl
   rw [e];exact ihx hfs
  ·rename_i h
   have:=Pc.known_holds hk h
   have e:((Tm.slen (.ite c x y)).den ρ).I=((Tm.slen y).den ρ).I:=by show (D.i (sLen ((Tm.ite c x y).den ρ).S)).I=_;rw [Tm.den_ite,this];rfl
   rw [e];exact ihy hfs
  ·exact exNN_ok hfs
 |ssub x lo hi _ _ _=>
  intro az fs hfs
  simp only [linS]
  split
  ·rename_i l hl
   have:=litS_ok hl;subst this
   refine atomL_ok hfs fun v hv n hn hg hbs f hf=>?_
   simp only [exUp,fNat_eq,List.mem_cons,List.not_mem_nil,or_false] at hf
   have hle:((Tm.slen (.ssub (.ls l) lo hi)).den ρ).I≤(l.length:Int):=by
    simp only [Tm.den,D.I,D.S,sLen]
    rw [List.length_take,List.length_drop]
    omega
   rcases hf with rfl|rfl
   ·rw [one_ev,hn];exact Int.natCast_nonneg _
   ·rw [subL_ev,one_ev,hn]
    simp only [LF.ev,hv];omega
  ·exact exNN_ok hfs
 |_=>intro az fs hfs;exact exNN_ok hfs
theorem lin_ok {ρ:List AV}{ks:Pc}(hk:ks.holds ρ):∀{t:Tm} {az:List Tm} {fs:List LF},PosL ρ az fs→LROk ρ az (lin ks t az fs) (t.den ρ).I:=by
 intro t
 induction t with
 |li c=>exact fun {az fs} hfs=>⟨List.prefix_refl _,hfs,fun bs hb=>by simp only [lin,cns_ev];simp [LF.ev,vl,Tm.den,D.I]⟩
 |bin o kd x y ihx ihy=>
  intro az fs hfs
  cases kd with
  |int k=>
   obtain ⟨a1,a2,a3⟩:=ihx hfs
   obtain ⟨b1,b2,b3⟩:=ihy (az:=(lin ks x az fs).az) (fs:=(lin ks x az fs).fs) a2
   exact LROk.up (a1.trans b1) (linB_ok (rx:=lin ks x az fs) a3 b1 b3 b2)
  |_=>exact noEx_ok hfs
 |conv k x ih=>
  intro az fs hfs
  obtain ⟨a1,a2,a3⟩:=ih hfs
  exact LROk.up a1 (linW a2 a3 rfl)
 |ite c x y _ ihx ihy=>
  intro az fs hfs
  simp only [lin]
  split
  ·rename_i h
   have:=Pc.known_holds hk h
   rw [Tm.den_ite,this];exact ihx hfs
  ·rename_i h
   have:=Pc.known_holds hk h
   rw [Tm.den_ite,this];exact ihy hfs
  ·exact noEx_ok hfs
 |rlen x _=>
  intro az fs hfs
  have e:((Tm.rlen x).den ρ).I=((Tm.rlen (chosen ks x)).den ρ).I:=by simp only [Tm.den,chosen_den hk]
  rw [e]
  simp only [lin]
  split
  ·rename_i hc
   rw [hc]
   exact ⟨List.prefix_refl _,hfs,fun bs hb=>rfl⟩
  refine atomL_ok hfs fun v hv n hn hg hbs f hf=>?_
  simp only [exNN,List.mem_cons,List.not_mem_nil,or_false] at hf
  subst hf
  rw [one_ev,hn]
  exact Int.natCast_nonneg _
 |slen x _=>intro az fs hfs;exact linS_ok hk hfs
 |byte x i _ _=>
  intro az fs hfs
  refine atomL_ok hfs fun v hv n hn hg hbs f hf=>?_
  have h0:((Tm.byte x i).den ρ).I=(((x.den ρ).S.getD (i.den ρ).I.toNat 0).toNat:Int):=rfl
  have h1:=UInt8.toNat_lt ((x.den ρ).S.getD (i.den ρ).I.toNat 0)
  simp only [exByte,List.mem_cons,List.not_mem_nil,or_false] at hf
  rcases hf with rfl|rfl
  ·rw [one_ev,hn,h0];omega
  ·rw [subL_ev,one_ev,hn,h0];simp only [LF.ev,hv];omega
 |_=>exact fun hfs=>noEx_ok hfs
def cmpF (o:BinOp)(b:Bool)(x y:LF):Option (List LF):=
 let one:LF:=[(0,1)]
 match o,b with
 | .lss,true=>some [subL (subL y x) one]
 | .lss,false=>some [subL x y]
 | .leq,true=>some [subL y x]
 | .leq,false=>some [subL (subL x y) one]
 | .gtr,true=>some [subL (subL x y) one]
 | .gtr,false=>some [subL y x]
 | .geq,true=>some [subL x y]
 | .geq,false=>some [subL (subL y x) one]
 | .eql,true=>some [subL x y,subL y x]
 | .neq,false=>some [subL x y,subL y x]
 |_,_=>none
def isDif (o:BinOp)(b:Bool):Bool:=match o,b with
 | .eql,false=>true
 | .neq,true=>true
 |_,_=>false
theorem cmpF_ok {o:BinOp}{k:IntKind}{b:Bool}{x y:LF}{X Y:D}{v:Nat→Int}(hv:v 0=1){l:List LF}(h:cmpF o b x y=some l)(hx:x.ev v=X.I)(hy:y.ev v=Y.I):(∀f∈l,0≤f.ev v)↔(binD o (.int k) X Y).B=b:=by
 have one:LF.ev v [(0,1)]=1:=by simp [LF.ev,hv]
 cases o<;>cases b<;>simp only [cmpF] at h<;>first|(cases h;done)|skip
 all_goals
  simp only [Option.some.injEq] at h
  subst h
  simp only [List.mem_cons,List.not_mem_nil,or_false,forall_eq_or_imp,forall_eq,subL_ev,hx,hy,one,binD,D.B,iEq,iNe,decide_eq_true_eq,decide_eq_false_iff_not,beq_iff_eq,bne_eq_false_iff_eq]
  omega
theorem isDif_ok {o:BinOp}{k:IntKind}{b:Bool}{X Y:D}(h:isDif o b=true):(binD o (.int k) X Y).B=b↔X.I≠Y.I:=by
 cases o<;>cases b<;>simp [isDif] at h<;>simp [binD,D.B,iEq,iNe]
structure AS where
 az:List Tm
 fs:List LF
def ASOk (ρ:List AV)(s:AS):Prop:=PosL ρ s.az s.fs
def addC (ks:Pc)(o:BinOp)(b:Bool)(x y:Tm)(s:AS):AS:=
 match lin ks x s.az s.fs with
 |⟨as1,fs1,f1⟩=>match lin ks y as1 fs1 with
  |⟨as2,fs2,f2⟩=>match cmpF o b f1 f2 with
   |some l=>⟨as2,l++fs2⟩
   |none=>bif isDif o b then
     bif prv1 fs2 (subL f1 f2) then ⟨as2,subL (subL f1 f2) [(0,1)]::fs2⟩ else bif prv1 fs2 (subL f2 f1) then ⟨as2,subL (subL f2 f1) [(0,1)]::fs2⟩ else ⟨as2,fs2⟩
    else ⟨as2,fs2⟩
def addT' (ks:Pc):Tm→Bool→AS→AS
 | .not x,b,s=>addT' ks x (!b) s
 | .and x y,b,s=>match b with
  |true=>addT' ks y true (addT' ks x true s)
  |false=>s
 | .or x y,b,s=>match b with
  |true=>s
  |false=>addT' ks y false (addT' ks x false s)
 | .bin o kd x y,b,s=>match kd with
  | .int _=>addC ks o b x y s
  |_=>s
 |_,_,s=>s
theorem addC_ok {ρ:List AV}{ks:Pc}(hk:ks.holds ρ){o:BinOp}{k:IntKind}{b:Bool}{x y:Tm}{s:AS}(hs:ASOk ρ s)(h:((Tm.bin o (.int k) x y).den ρ).B=b):ASOk ρ (addC ks o b x y s):=by
 obtain ⟨a1,a2,a3⟩:=lin_ok hk (t:=x) hs
 obtain ⟨b1,b2,b3⟩:=lin_ok hk (t:=y) (az:=(lin ks x s.az s.fs).az) (fs:=(lin ks x s.az s.fs).fs) a2
 have a3':=a3.mono b1
 unfold addC
 dsimp only
 split
 ·rename_i l hl
  exact PosL.app (fun f hf bs hb=>(cmpF_ok (k:=k) rfl hl (a3' bs hb) (b3 bs hb)).2 h f hf) b2
 ·cases hd:isDif o b
  ·exact b2
  ·have hne:=(isDif_ok (k:=k) hd).1 h
   simp only [cond_true]
   have one:∀bs,LF.ev (vl ρ bs) [(0,1)]=1:=by simp [LF.ev,vl]
   cases h1:prv1 (lin ks y (lin ks x s.az s.fs).az (lin ks x s.az s.fs).fs).fs (subL (lin ks x s.az s.fs).f (lin ks y (lin ks x s.az s.fs).az (lin ks x s.az s.fs).fs).f)
   ·simp only [cond_false]
    cases h2:prv1 (lin ks y (lin ks x s.az s.fs).az (lin ks x s.az s.fs).fs).fs (subL (lin ks y (lin ks x s.az s.fs).az (lin ks x s.az s.fs).fs).f (lin ks x s.az s.fs).f)
    ·exact b2
    ·refine PosL.cons (fun bs hb=>?_) b2
     have q:=prv1_pos b2 h2 bs hb
     rw [subL_ev,a3' bs hb,b3 bs hb] at q
     rw [subL_ev,subL_ev,a3' bs hb,b3 bs hb,one]
     omega
   ·refine PosL.cons (fun bs hb=>?_) b2
    have q:=prv1_pos b2 h1 bs hb
    rw [subL_ev,a3' bs hb,b3 bs hb] at q
    rw [subL_ev,subL_ev,a3' bs hb,b3 bs hb,one]
    omega
theorem addT'_ok {ρ:List AV}{ks:Pc}(hk:ks.holds ρ):∀{t:Tm} {b:Bool} {s:AS},ASOk ρ s→(t.den ρ).B=b→ASOk ρ (addT' ks t b s):=by
 intro t
 induction t with
 |not x ih=>exact fun hs h=>ih hs (by rw [← h];simp [Tm.den,D.B])
 |and x y ihx ihy=>
  intro b s hs h
  cases b
  ·exact hs
  ·have h':(x.den ρ).B=true∧(y.den ρ).B=true:=by simpa [Tm.den,D.B] using h
   exact ihy (ihx hs h'.1) h'.2
 |or x y ihx ihy=>
  intro b s hs h
  cases b
  ·have h':(x.den ρ).B=false∧(y.den ρ).B=false:=by simpa [Tm.den,D.B] using h
   exact ihy (ihx hs h'.1) h'.2
  ·exact hs
 |bin o kd x y _ _=>
  intro b s hs h
  cases kd with
  |int k=>exact addC_ok hk (k:=k) hs h
  |_=>exact hs
 |_=>exact fun hs _=>hs
def addAll (ks:Pc):Pc→AS→AS
 |[],s=>s
 |x::r,s=>addT' ks x.1 x.2 (addAll ks r s)
theorem addAll_ok {ρ:List AV}{ks:Pc}(hk:ks.holds ρ):∀{pc:Pc} {s:AS},pc.holds ρ→ASOk ρ s→ASOk ρ (addAll ks pc s)
 |[],s,_,hs=>hs
 |x::r,s,hp,hs=>addT'_ok hk (addAll_ok hk (fun y hy=>hp y (List.mem_cons_of_mem _ hy)) hs) (hp x (List.mem_cons_self ..))
def prvC (ks:Pc)(o:BinOp)(b:Bool)(x y:Tm)(s:AS):Bool:=
 match lin ks x s.az s.fs with
 |⟨as1,fs1,f1⟩=>match lin ks y as1 fs1 with
  |⟨as2,fs2,f2⟩=>match cmpF o b f1 f2 with
   |some l=>l.all (prv1 fs2)
   |none=>isDif o b&&(prv1 fs2 (subL (subL f1 f2) [(0,1)])||prv1 fs2 (subL (subL f2 f1) [(0,1)]))
def prvT (ks:Pc):Tm→Bool→AS→Bool
 | .lb v,b,_=>v == b
 | .not x,b,s=>prvT ks x (!b) s
 | .and x y,b,s=>match b with
  |true=>prvT ks x true s&&prvT ks y true s
  |false=>prvT ks x false s||prvT ks y false (addT' ks x true s)
 | .or x y,b,s=>match b with
  |true=>prvT ks x true s||prvT ks y true (addT' ks x false s)
  |false=>prvT ks x false s&&prvT ks y false s
 | .bin o kd x y,b,s=>match ks.known (.bin o kd x y) with
  |some v=>v == b
  |none=>match kd with
   | .int _=>prvC ks o b x y s
   |_=>false
 |t,b,_=>match ks.known t with
  |some v=>v == b
  |none=>false
theorem prvC_ok {ρ:List AV}{ks:Pc}(hk:ks.holds ρ){o:BinOp}{k:IntKind}{b:Bool}{x y:Tm}{s:AS}(hs:ASOk ρ s)(h:prvC ks o b x y s=true):((Tm.bin o (.int k) x y).den ρ).B=b:=by
 obtain ⟨a1,a2,a3⟩:=lin_ok hk (t:=x) hs
 obtain ⟨b1,b2,b3⟩:=lin_ok hk (t:=y) (az:=(lin ks x s.az s.fs).az) (fs:=(lin ks x s.az s.fs).fs) a2
 have a3':=a3.mono b1
 unfold prvC at h
 dsimp only at h
 have rf:=List.prefix_refl (lin ks y (lin ks x s.az s.fs).az (lin ks x s.az s.fs).fs).az
 split at h
 ·rename_i l hl
  rw [List.all_eq_true] at h
  exact (cmpF_ok (k:=k) rfl hl (a3' _ rf) (b3 _ rf)).1 fun f hf=>prv1_pos b2 (h f hf) _ rf
 ·rw [Bool.and_eq_true] at h
  refine (isDif_ok (k:=k) h.1).2 ?_
  have one:∀bs,LF.ev (vl ρ bs) [(0,1)]=1:=by simp [LF.ev,vl]
  have h2:=h.2
  rw [Bool.or_eq_true] at h2
  rcases h2 with h2|h2
  ·have q:=prv1_pos b2 h2 _ rf
   rw [subL_ev,subL_ev,a3' _ rf,b3 _ rf,one] at q
   intro e;omega
  ·have q:=prv1_pos b2 h2 _ rf
   rw [subL_ev,subL_ev,a3' _ rf,b3 _ rf,one] at q
   intro e;omega
theorem prvT_ok {ρ:List AV}{ks:Pc}(hk:ks.holds ρ):∀{t:Tm} {b:Bool} {s:AS},ASOk ρ s→prvT ks t b s=true→(t.den ρ).B=b:=by
 intro t
 have oth:∀{t:Tm} {b:Bool},(match ks.known t with|some v=>v == b|none=>false)=true→(t.den ρ).B=b:=by
  intro t b h
  split at h
  ·rename_i v hv
   rw [Pc.known_holds hk hv];simpa using h
  ·cases h
 induction t with
 |lb v=>exact fun hs h=>by simpa [prvT,Tm.den,D.B] using h
 |not x ih=>intro b s hs h;have:=ih (b:=!b) hs h;show (!(x.den ρ).B)=b;rw [this];simp
 |and x y ihx ihy=>
  intro b s hs h
  cases b
  ·simp only [prvT,Bool.or_eq_true] at h
   show ((x.den ρ).B&&(y.den ρ).B)=false
   cases hx:(x.den ρ).B
   ·rfl
   ·rcases h with h|h
    ·rw [ihx hs h] at hx;cases hx
    ·rw [ihy (addT'_ok hk hs hx) h];rfl
  ·simp only [prvT,Bool.and_eq_true] at h
   show ((x.den ρ).B&&(y.den ρ).B)=true
   rw [ihx hs h.1,ihy hs h.2];rfl
 |or x y ihx ihy=>
  intro b s hs h
  cases b
  ·simp only [prvT,Bool.and_eq_true] at h
   show ((x.den ρ).B||(y.den ρ).B)=false
   rw [ihx hs h.1,ihy hs h.2];rfl
  ·simp only [prvT,Bool.or_eq_true] at h
   show ((x.den ρ).B||(y.den ρ).B)=true
   cases hx:(x.den ρ).B
   ·rcases h with h|h
    ·rw [ihx hs h] at hx;cases hx
    ·rw [ihy (addT'_ok hk hs hx) h];rfl
   ·rfl
 |bin o kd x y _ _=>
  intro b s hs h
  simp only [prvT] at h
  split at h
  ·rename_i v hv
   rw [Pc.known_holds hk hv];simpa using h
  ·split at h
   ·exact prvC_ok hk hs h
   ·cases h
 |_=>exact fun hs h=>oth h
def iteOf : Tm→Option Tm
 | .ite c _ _=>some c
 | .bin _ _ x y=>match iteOf x with|some c=>some c|none=>iteOf y
 | .and x y=>match iteOf x with|some c=>some c|none=>iteOf y
 | .or x y=>match iteOf x with|some c=>some c|none=>iteOf y
 | .not x=>iteOf x
 | .conv _ x=>iteOf x
 | .rlen x=>iteOf x
 | .slen x=>iteOf x
 |_=>none
def iteOpen (ks:Pc):Pc→Option Tm
 |[]=>none
 |x::r=>match iteOf x.1 with
  |some c=>match ks.known c with|none=>some c|some _=>iteOpen ks r
  |none=>iteOpen ks r
def difT : Tm→Bool→Bool
 | .not t,b=>difT t (!b)
 | .bin o (.int _) _ _,b=>isDif o b
 |_,_=>false
def difs (F:Pc):Pc:=F.filter fun x=>difT x.1 x.2
def sumT : Tm→Bool
 | .not t=>sumT t
 | .and x y=>sumT x||sumT y
 | .or x y=>sumT x||sumT y
 | .bin o _ x y=>match o with
  | .lss | .leq | .gtr | .geq | .eql | .neq=>sumT x||sumT y
  |_=>true
 | .conv _ _=>true
 | .ite _ _ _=>true
 |_=>false
def asF (F:Pc):AS:=addAll F (difs F) (addAll F (F.filter fun x=>sumT x.1) (addAll F (F.filter fun x=>!(sumT x.1)) ⟨[],[]⟩))
theorem Pc.holds_filter {ρ:List AV}{F:Pc}{p:Tm×Bool→Bool}(h:F.holds ρ):Pc.holds ρ (F.filter p):=fun x hx=>h x (List.mem_filter.1 hx).1
theorem asF_ok {ρ:List AV}{F:Pc}(h:F.holds ρ):ASOk ρ (asF F):=addAll_ok h (Pc.holds_filter h) (addAll_ok h (Pc.holds_filter h) (addAll_ok h (Pc.holds_filter h) (fun f hf=>by cases hf)))
def hlf (pc:Pc):Tm→Bool→Pc
 | .and x y,b=>match b with
  |true=>[]
  |false=>match pc.known x with
   |some true=>(y,false)::hlf pc y false
   |_=>match pc.known y with
    |some true=>(x,false)::hlf pc x false
    |_=>[]
 | .or x y,b=>match b with
  |false=>[]
  |true=>match pc.known x with
   |some false=>(y,true)::hlf pc y true
   |_=>match pc.known y with
    |some false=>(x,true)::hlf pc x true
    |_=>[]
 | .not x,b=>hlf pc x (!b)
 |_,_=>[]
theorem hlf_ok {ρ:List AV}{pc:Pc}(h:pc.holds ρ):∀{t:Tm} {b:Bool},(t.den ρ).B=b→Pc.holds ρ (hlf pc t b):=by
 intro t
 induction t with
 |and x y ihx ihy=>
  intro b e
  cases b
  ·have e':((x.den ρ).B&&(y.den ρ).B)=false:=e
   simp only [hlf]
   split
   ·rename_i hx
    rw [Pc.known_holds h hx,Bool.true_and] at e'
    exact Pc.holds_cons e' (ihy e')
   ·split
    ·rename_i hy
     rw [Pc.known_holds h hy,Bool.and_true] at e'
     exact Pc.holds_cons e' (ihx e')
    ·exact fun x hx=>by cases hx
  ·exact fun x hx=>by cases hx
 |or x y ihx ihy=>
  intro b e
  cases b
  ·exact fun x hx=>by cases hx
  ·have e':((x.den ρ).B||(y.den ρ).B)=true:=e
   simp only [hlf]
   split
   ·rename_i hx
    rw [Pc.known_holds h hx,Bool.false_or] at e'
    exact Pc.holds_cons e' (ihy e')
   ·split
    ·rename_i hy
     rw [Pc.known_holds h hy,Bool.or_false] at e'
     exact Pc.holds_cons e' (ihx e')
    ·exact fun x hx=>by cases hx
 |not x ih=>
  intro b e
  have e':(!(x.den ρ).B)=b:=e
  exact ih (by rw [← e'];simp)
 |_=>intro b e x hx;cases hx
def cloP (G:Pc):Pc:=G.flatMap (fun x=>hlf G x.1 x.2)++G
theorem cloP_ok {ρ:List AV}{G:Pc}(h:G.holds ρ):Pc.holds ρ (cloP G):=fun x hx=>by
 rcases List.mem_append.1 hx with hx|hx
 ·obtain ⟨y,hy,hx⟩:=List.mem_flatMap.1 hx
  exact hlf_ok h (h y hy) x hx
 ·exact h x hx
def prove : Nat→Pc→Tm→Bool
 |0,F,t=>prvT F t true (asF F)
 |n+1,F,t=>prvT F t true (asF F)||(match iteOpen F ((t,true)::F) with
  |none=>false
  |some c=>prove n (cloP ((c,true)::F)) t&&prove n (cloP ((c,false)::F)) t)
theorem prove_ok {ρ:List AV}{t:Tm}:∀{n:Nat} {F:Pc},prove n F t=true→F.holds ρ→(t.den ρ).B=true
 |0,F,h,hF=>prvT_ok hF (asF_ok hF) h
 |n+1,F,h,hF=>by
  simp only [prove,Bool.or_eq_true] at h
  rcases h with h|h
  ·exact prvT_ok hF (asF_ok hF) h
  ·split at h
   ·cases h
   ·rename_i c _
    rw [Bool.and_eq_true] at h
    cases hc:(c.den ρ).B
    ·exact prove_ok h.2 (cloP_ok (Pc.holds_cons hc hF))
    ·exact prove_ok h.1 (cloP_ok (Pc.holds_cons hc hF))
def contra (F:Pc):Bool:=match asF F with
 |⟨_,fs⟩=>fs.any fun f=>nonO (refuteF 3 fs f 40)
theorem contra_ok {ρ:List AV}{F:Pc}(h:contra F=true)(hF:F.holds ρ):False:=by
 have hs:=asF_ok hF
 unfold contra at h
 rw [List.any_eq_true] at h
 obtain ⟨f,hf,h⟩:=h
 unfold nonO at h
 split at h
 ·rename_i e
  have hp:∀g∈(asF F).fs,0≤g.ev (vl ρ (asF F).az):=fun g hg=>hs g hg _ (List.prefix_refl _)
  exact refuteF_ok rfl hp e (hp f hf)
 ·cases h
end Go.Fw
end
section
set_option linter.unusedVariables false
set_option linter.unusedSimpArgs false
set_option linter.unusedSectionVars false
namespace Go.Fw
set_option linter.unusedSectionVars false
set_option linter.unusedSimpArgs false
set_option linter.unusedVariables false
variable [Glob]
inductive Ek where|B|I|F|S|R
def SimE : Ek→D→D→Prop
 | .B,d,d'=>d.B=d'.B
 | .I,d,d'=>d.I=d'.I
 | .F,d,d'=>d.F=d'.F
 | .S,d,d'=>d.S=d'.S
 | .R,d,d'=>d.R=d'.R
theorem SimE.of_eq {e:Ek}{d d':D}(h:d=d'):SimE e d d':=by subst h;cases e<;>rfl
def pathSV : SV→List Nat→Option SV
 |v,[]=>some v
 | .agg l,j::p=>match nthL l j with|some x=>pathSV x p|none=>none
 | .tup l,j::p=>match nthL l j with|some x=>pathSV x p|none=>none
 |_,_::_=>none
def leafT : Ek→SV→Option Tm
 | .B,.sc .bool t=>some t
 | .I,.sc (.int _) t=>some t
 | .F,.sc .flt t=>some t
 | .S,.sc .str t=>some t
 | .R,.sc .sl t=>some t
 | .R,.sf t=>some t
 | .R,.nil=>some .nl
 | .R,.slc [] _=>some .nl
 |_,_=>none
def varSV (base:Nat)(l:List SV)(i:Nat)(p:List Nat):Option SV:=match nthL l (i-base) with
 |some v=>pathSV v p
 |none=>none
def lenSV : SV→Option Tm
 | .slc rows _=>fNat rows.length fun n=>some (.li (.ofNat n))
 |v=>match leafT .R v with|some t=>some (.rlen t)|none=>none
def ekOf : Kd→Option Ek
 | .bool=>some .B
 | .int _=>some .I
 | .flt=>some .F
 | .str=>some .S
 | .sl=>none
def asVar : Tm→Option (Nat×List Nat)
 | .var i p=>some (i,p)
 |_=>none
theorem asVar_eq {t:Tm}{x:Nat×List Nat}(h:asVar t=some x):t=.var x.1 x.2:=by
 cases t<;>simp [asVar] at h
 subst h;rfl
def substE (base:Nat)(l:List SV):Ek→Tm→Option Tm
 |_,.lb v=>some (.lb v)
 |_,.li v=>some (.li v)
 |_,.lf v=>some (.lf v)
 |_,.ls v=>some (.ls v)
 |_,.nl=>some .nl
 |e,.var i p=>bif Nat.blt i base then some (.var i p) else match varSV base l i p with
  |some v=>leafT e v
  |none=>none
 |_,.bin o k x y=>match ekOf k with
  |none=>none
  |some e=>match substE base l e x with
   |none=>none
   |some x'=>match substE base l e y with
    |none=>none
    |some y'=>some (.bin o k x' y')
 |_,.not x=>match substE base l .B x with|none=>none|some x'=>some (.not x')
 |_,.and x y=>match substE base l .B x with
  |none=>none
  |some x'=>match substE base l .B y with|none=>none|some y'=>some (.and x' y')
 |_,.or x y=>match substE base l .B x with
  |none=>none
  |some x'=>match substE base l .B y with|none=>none|some y'=>some (.or x' y')
 |e,.ite c x y=>match substE base l .B c with
  |none=>none
  |some c'=>match substE base l e x with
   |none=>none
   |some x'=>match substE base l e y with|none=>none|some y'=>some (.ite c' x' y')
 |_,.conv k x=>match substE base l .I x with|none=>none|some x'=>some (.conv k x')
 |_,.slen x=>match substE base l .S x with|none=>none|some x'=>some (.slen x')
 |_,.rlen x=>match asVar x with
  |some q=>bif Nat.blt q.1 base then some (.rlen (.var q.1 q.2)) else match varSV base l q.1 q.2 with
   |some v=>lenSV v
   |none=>none
  |none=>match substE base l .R x with|none=>none|some x'=>some (.rlen x')
 |_,.byte x i=>match substE base l .S x with
  |none=>none
  |some x'=>match substE base l .I i with|none=>none|some i'=>some (.byte x' i')
 |_,_=>none
theorem pathSV_den {ρ:List AV}:∀{p:List Nat} {v w:SV},pathSV v p=some w→cellAt (v.den ρ) p=w.den ρ
 |[],v,w,h=>by
  simp only [pathSV,Option.some.injEq] at h
  subst h
  cases v.den ρ<;>rfl
 |j::p,v,w,h=>by
  cases v<;>simp only [pathSV] at h<;>first|(cases h;done)|skip
  all_goals
   split at h
   ·rename_i l x hx
    have e:=denL_get (ρ:=ρ) hx
    simp only [SV.den,cellAt,List.getD_eq_getElem?_getD,e,Option.getD_some]
    exact pathSV_den h
   ·cases h
theorem leafT_den {ρ:List AV}{e:Ek}{v:SV}{t:Tm}(h:leafT e v=some t):SimE e (t.den ρ) (v.den ρ).D:=by
 unfold leafT at h
 split at h<;>first|(cases h;done)|(simp only [Option.some.injEq] at h;subst h;rfl)
theorem getD_tk {ρ:List AV}{base i:Nat}{m:List AV}(hb:base≤ρ.length)(hi:i<base):(ρ.take base++m).getD i undefA=ρ.getD i undefA:=by
 have:i<(ρ.take base).length:=by rw [List.length_take];omega
 rw [List.getD_eq_getElem?_getD,List.getD_eq_getElem?_getD,List.getElem?_append_left this,List.getElem?_take,if_pos hi]
theorem varSV_den {ρ:List AV}{base:Nat}{l:List SV}(hb:base≤ρ.length){i:Nat}{p:List Nat}{v:SV}(hi:¬i<base)(h:varSV base l i p=some v):cellAt ((ρ.take base++denL ρ l).getD i undefA) p=v.den ρ:=by
 unfold varSV at h
 split at h
 ·rename_i w hw
  have hl:(ρ.take base).length=base:=by rw [List.length_take];omega
  rw [List.getD_eq_getElem?_getD,List.getElem?_append_right (by omega),hl,denL_get hw]
  exact pathSV_den h
 ·cases h
theorem substE_ok {ρ:List AV}{base:Nat}{l:List SV}(hb:base≤ρ.length):∀{t:Tm} {e:Ek} {t':Tm},substE base l e t=some t'→SimE e (t'.den ρ) (t.den (ρ.take base++denL ρ l)):=by
 intro t
 induction t with
 |lb v=>intro e t' h;simp only [substE,Option.some.injEq] at h;subst h;exact .of_eq rfl
 |li v=>intro e t' h;simp only [substE,Option.some.injEq] at h;subst h;exact .of_eq rfl
 |lf v=>intro e t' h;simp only [substE,Option.some.injEq] at h;subst h;exact .of_eq rfl
 |ls v=>intro e t' h;simp only [substE,Option.some.injEq] at h;subst h;exact .of_eq rfl
 |nl=>intro e t' h;simp only [substE,Option.some.injEq] at h;subst h;exact .of_eq rfl
 |var i p=>
  intro e t' h
  simp only [substE] at h
  cases hi:Nat.blt i base
  ·rw [hi] at h
   have hi':¬i<base:=fun q=>by rw [show Nat.blt i base=true by rw [Nat.blt_eq];exact q] at hi;cases hi
   simp only [cond_false] at h
   split at h
   ·rename_i v hv
    have:=leafT_den (ρ:=ρ) h
    simp only [Tm.den,varSV_den hb hi' hv]
    exact this
   ·cases h
  ·rw [hi] at h
   simp only [cond_true,Option.some.injEq] at h;subst h
   rw [Nat.blt_eq] at hi
   exact .of_eq (by simp only [Tm.den,getD_tk hb hi])
 |bin o k x y ihx ihy=>
  intro e t' h
  simp only [substE] at h
  split at h
  ·cases h
  rename_i e' he
  split at h
  ·cases h
  rename_i x' hx
  split at h
  ·cases h
  rename_i y' hy
  simp only [Option.some.injEq] at h;subst h
  have h1:=ihx hx
  have h2:=ihy hy
  refine .of_eq ?_
  cases k<;>simp only [ekOf,Option.some.injEq] at he<;>first|(cases he;done)|skip
  all_goals
   subst he
   simp only [SimE] at h1 h2
   simp only [Tm.den]
   cases o<;>simp only [binD,h1,h2]
 |not x ih=>
  intro e t' h
  simp only [substE] at h
  split at h
  ·cases h
  rename_i x' hx
  simp only [Option.some.injEq] at h;subst h
  have h1:=ih hx
  simp only [SimE] at h1
  exact .of_eq (by simp only [Tm.den,h1])
 |and x y ihx ihy=>
  intro e t' h
  simp only [substE] at h
  split at h
  ·cases h
  rename_i x' hx
  split at h
  ·cases h
  rename_i y' hy
  simp only [Option.some.injEq] at h;subst h
  have h1:=ihx hx
  have h2:=ihy hy
  simp only [SimE] at h1 h2
  exact .of_eq (by simp only [Tm.den,h1,h2])
 |or x y ihx ihy=>
  intro e t' h
  simp only [substE] at h
  split at h
  ·cases h
  rename_i x' hx
  split at h
  ·cases h
  rename_i y' hy
  simp only [Option.some.injEq] at h;subst h
  have h1:=ihx hx
  have h2:=ihy hy
  simp only [SimE] at h1 h2
  exact .of_eq (by simp only [Tm.den,h1,h2])
 |ite c x y ihc ihx ihy=>
  intro e t' h
  simp only [substE] at h
  split at h
  ·cases h
  rename_i c' hc
  split at h
  ·cases h
  rename_i x' hx
  split at h
  ·cases h
  rename_i y' hy
  simp only [Option.some.injEq] at h;subst h
  have h0:=ihc hc
  have h1:=ihx hx
  have h2:=ihy hy
  simp only [SimE] at h0
  rw [Tm.den_ite,Tm.den_ite,h0]
  cases (c.den (ρ.take base++denL ρ l)).B
  ·exact h2
  ·exact h1
 |conv k x ih=>
  intro e t' h
  simp only [substE] at h
  split at h
  ·cases h
  rename_i x' hx
  simp only [Option.some.injEq] at h;subst h
  have h1:=ih hx
  simp only [SimE] at h1
  exact .of_eq (by simp only [Tm.den,h1])
 |slen x ih=>
  intro e t' h
  simp only [substE] at h
  split at h
  ·cases h
  rename_i x' hx
  simp only [Option.some.injEq] at h;subst h
  have h1:=ih hx
  simp only [SimE] at h1
  exact .of_eq (by simp only [Tm.den,h1])
 |rlen x ih=>
  intro e t' h
  simp only [substE] at h
  split at h
  ·rename_i q hq
   have:=asVar_eq hq;subst this
   obtain ⟨i,p⟩:=q
   dsimp only at h ⊢
   cases hi:Nat.blt i base
   ·rw [hi] at h
    have hi':¬i<base:=fun q=>by rw [show Nat.blt i base=true by rw [Nat.blt_eq];exact q] at hi;cases hi
    simp only [cond_false] at h
    split at h
    ·rename_i v hv
     unfold lenSV at h
     split at h
     ·rename_i rows fl
      simp only [fNat_eq,Option.some.injEq] at h;subst h
      refine .of_eq ?_
      simp only [Tm.den,varSV_den hb hi' hv,SV.den,AV.D,D.R,lLen,denLL_length]
      rfl
     ·split at h
      ·rename_i t0 ht0
       simp only [Option.some.injEq] at h;subst h
       have:=leafT_den (ρ:=ρ) ht0
       simp only [SimE] at this
       refine .of_eq ?_
       simp only [Tm.den,varSV_den hb hi' hv,this]
      ·cases h
    ·cases h
   ·rw [hi] at h
    simp only [cond_true,Option.some.injEq] at h;subst h
    rw [Nat.blt_eq] at hi
    exact .of_eq (by simp only [Tm.den,getD_tk hb hi])
  ·split at h
   ·cases h
   rename_i x' hx
   simp only [Option.some.injEq] at h;subst h
   have h1:=ih hx
   simp only [SimE] at h1
   exact .of_eq (by simp only [Tm.den,h1])
 |byte x y ihx ihy=>
  intro e t' h
  simp only [substE] at h
  split at h
  ·cases h
  rename_i x' hx
  split at h
  ·cases h
  rename_i y' hy
  simp only [Option.some.injEq] at h;subst h
  have h1:=ihx hx
  have h2:=ihy hy
  simp only [SimE] at h1 h2
  exact .of_eq (by simp only [Tm.den,h1,h2])
 |_=>intro e t' h;simp [substE] at h
def tLe (a b:Tm):Tm:=.bin .leq (.int .i64) a b
def tLt (a b:Tm):Tm:=.bin .lss (.int .i64) a b
def tEq (a b:Tm):Tm:=.bin .eql (.int .i64) a b
def tAdd (a b:Tm):Tm:=.bin .add (.int .i64) a b
def big : Int:=4294967296
def tTop (n:Nat):Tm:=fNat n fun n=>fInt' (big-(n:Int)) .li
def tNat (n:Nat):Tm:=fNat n fun n=>.li (.ofNat n)
def tRest (x:Tm):Tm:=.bin .sub (.int .i64) (.li big) x
def Side.cnd : Side→List Tm
 | .tm t=>[t]
 | .row t i _=>[tLe (.li 0) i,tLt i (.rlen t)]
 | .rd _ t i _ _=>[tLe (.li 0) i,tLt i (.rlen t)]
 | .st t i _ _ _=>[tLe (.li 0) i,tLt i (.rlen t)]
 | .sub _ t lo hi _=>match lo,hi with
  |none,none=>[]
  |none,some h=>[tLe (.li 0) h,tLe h (.rlen t)]
  |some l,none=>[tLe (.li 0) l,tLe l (.rlen t)]
  |some l,some h=>[tLe (.li 0) l,tLe l h,tLe h (.rlen t)]
 | .mk len cap _ _=>[tLe (.li 0) len,tLe len cap,tLe cap (.li big)]
 | .app _ x y _=>[tLe (.rlen x) (tTop y.length)]
 | .app2 _ x y _=>[tLe (.rlen y) (.li big),tLe (.rlen x) (tRest (.rlen y))]
 | .len2 m y=>[tLe (.rlen y) (tTop m)]
 | .cat x y=>[tLe (.slen y) (.li big),tLe (.slen x) (tRest (.slen y))]
 | .cpy x len _ _=>[tLe len (.rlen x)]
 | .mark _ _ d len _=>[tLe len (.rlen d)]
 | .appc _ x y _=>[tLe (.rlen y) (tTop x.length)]
 |_=>[]
def AllT (ρ:List AV):List Tm→Prop
 |[]=>True
 |t::r=>(t.den ρ).B=true∧AllT ρ r
theorem AllT.of {ρ:List AV}:∀{l:List Tm},(∀t∈l,(t.den ρ).B=true)→AllT ρ l
 |[],_=>trivial
 |t::r,h=>⟨h t (List.mem_cons_self ..),AllT.of fun x hx=>h x (List.mem_cons_of_mem _ hx)⟩
theorem AllT.mem {ρ:List AV}:∀{l:List Tm},AllT ρ l→∀t∈l,(t.den ρ).B=true
 |[],_,t,ht=>by cases ht
 |x::r,h,t,ht=>by
  rcases List.mem_cons.1 ht with rfl|ht
  ·exact h.1
  ·exact AllT.mem h.2 t ht
structure Sp where
 pre:List Tm
 bnd:List Tm
 post:List Tm
structure SpT where
 c:List (Nat×Sp)
 w:List (Nat×Nat×Sp)
def sp0 : Sp:=⟨[],[],[]⟩
def SpT.at (T:SpT)(f:Nat):Sp:=go T.c
 where go:List (Nat×Sp)→Sp
  |[]=>sp0
  |x::r=>bif Nat.beq x.1 f then x.2 else go r
def SpT.atW (T:SpT)(f n0:Nat):Sp:=go T.w
 where go:List (Nat×Nat×Sp)→Sp
  |[]=>sp0
  |x::r=>bif Nat.beq x.1 f&&Nat.beq x.2.1 n0 then x.2.2 else go r
def Blk.av : Blk→AV
 | .rows _ rs=>.sl rs false
 | .rowsE _ _ rs=>.sl rs false
 |_=>.sl [] true
def avB (l:List (Nat×Blk)):List AV:=l.map fun x=>x.2.av
def SB.sv : SB→SV
 | .rows _ rs=>.slc rs false
 | .rowsE _ _ rs=>.slc rs false
 | .rowsT _ t=>.sc .sl t
 |_=>.nil
def blSV (bl:List (Nat×SB)):List SV:=bl.map fun x=>x.2.sv
theorem blSV_den {ρ:List AV}:∀{bl:List (Nat×SB)},denL ρ (blSV bl)=avB (blD ρ bl)
 |[]=>rfl
 |x::r=>by
  have ih:=blSV_den (ρ:=ρ) (bl:=r)
  simp only [blSV,avB,blD,List.map_cons,denL,List.cons.injEq] at ih ⊢
  refine ⟨?_,by simpa using ih⟩
  cases x.2<;>rfl
def CT (P:Program)(T:SpT)(f:FuncId)(az:List AV)(r:AV):Prop:=
 AllT az (T.at f).pre→PC P f az r∧(AllT az (T.at f).bnd→AllT (az++[r]) (T.at f).post)
def CTo (P:Program)(T:SpT)(f:FuncId)(az:List AV)(r:AV)(p:List Nat)(sz:Nat):Prop:=
 AllT az (T.at f).pre→PCo P f az r p sz∧(AllT az (T.at f).bnd→AllT (az++[r]) (T.at f).post)
def CTw (P:Program)(T:SpT)(f:FuncId)(az:List AV)(bin:List (Nat×Blk))(n0:Nat)(r:AV)(bout:List (Nat×Blk)):Prop:=
 AllT (az++avB bin) (T.atW f n0).pre→PWL P f az bin n0 r bout∧(AllT (az++avB bin) (T.atW f n0).bnd→AllT (az++avB bin++(r::avB bout)) (T.atW f n0).post)
def spS (T:SpT):Side→Option (Sp×List SV×List SV)
 | .call f args r=>some (T.at f,args,args++[r])
 | .callo f args r _ _ _=>some (T.at f,args,args++[r])
 | .callw f args bl n0 r bl'=>some (T.atW f n0,args++blSV bl,args++blSV bl++(r::blSV bl'))
 |_=>none
def sbL (l:List SV):List Tm→Option (List Tm)
 |[]=>some []
 |t::r=>match substE 0 l .B t with
  |none=>none
  |some t'=>match sbL l r with|none=>none|some r'=>some (t'::r')
theorem sbL_ok {ρ:List AV}{l:List SV}:∀{ts us:List Tm},sbL l ts=some us→(AllT ρ us↔AllT (denL ρ l) ts)
 |[],us,h=>by simp only [sbL,Option.some.injEq] at h;subst h;exact Iff.rfl
 |t::r,us,h=>by
  simp only [sbL] at h
  split at h
  ·cases h
  rename_i t' ht
  split at h
  ·cases h
  rename_i r' hr
  simp only [Option.some.injEq] at h;subst h
  have h1:=substE_ok (ρ:=ρ) (Nat.zero_le _) ht
  simp only [SimE,List.take_zero,List.nil_append] at h1
  exact and_congr (by rw [h1]) (sbL_ok hr)
 mutual
def osV : SV→Option (Nat×Tm)
  | .os b _ _ t=>some (b,t)
  | .agg l=>osL l
  | .fn _ x y=>match osL x with|some z=>some z|none=>osL y
  |_=>none
def osL : List SV→Option (Nat×Tm)
  |[]=>none
  |x::r=>match osV x with|some z=>some z|none=>osL r
end
def blT (b:Nat):List (Nat×SB)→Option Tm
 |[]=>none
 |x::r=>bif Nat.beq x.1 b then (match x.2 with | .rowsT _ t=>some t|_=>none) else blT b r
def osT (args:List SV)(bl:List (Nat×SB)):Tm×Tm:=match osL args with
 |some (b,t)=>match blT b bl with|some t'=>(t,t')|none=>(.li 0,.nl)
 |none=>(.li 0,.nl)
def Side.osE : Side→List Tm
 | .callw _ args bl _ _ _=>match osL args with
  |some _=>[tEq (osT args bl).1 (.rlen (osT args bl).2)]
  |none=>[]
 |_=>[]
theorem AllT.app {ρ:List AV}:∀{a b:List Tm},AllT ρ (a++b)→AllT ρ a∧AllT ρ b
 |[],b,h=>⟨trivial,h⟩
 |x::r,b,h=>⟨⟨h.1,(AllT.app h.2).1⟩,(AllT.app h.2).2⟩
def Side.wk (P:Program)(T:SpT)(ρ:List AV):Side→Prop
 | .under pc s=>Pc.holds ρ pc→s.wk P T ρ
 | .call f args r=>CT P T f (denL ρ args) (r.den ρ)
 | .callo f args r p sz fl=>CTo P T f (denL ρ args) (r.den ρ) p sz∧(fl=true→∀row∈rowsP p (r.den ρ),flatL row=true)
 | .callw f args bl n0 r bl'=>AllT ρ (Side.osE (.callw f args bl n0 r bl'))→CTw P T f (denL ρ args) (blD ρ bl) n0 (r.den ρ) (blD ρ bl')
 |s=>AllT ρ s.cnd→s.holds P ρ
def condT (T:SpT)(s:Side):Option (List Tm):=match spS T s with
 |some (sp,l,_)=>match sp.pre with
  |[]=>some s.osE
  |p=>match sbL l p with|some q=>some (q++s.osE)|none=>none
 |none=>some s.cnd
def proveL (F:Pc)(l:List Tm):Bool:=l.all (prove 2 F)||contra F
theorem proveL_ok {ρ:List AV}{F:Pc}{l:List Tm}(h:proveL F l=true)(hF:F.holds ρ):AllT ρ l:=by
 unfold proveL at h
 rw [Bool.or_eq_true,List.all_eq_true] at h
 rcases h with h|h
 ·exact AllT.of fun t ht=>prove_ok (h t ht) hF
 ·exact (contra_ok h hF).elim
theorem holds_app {ρ:List AV}{a b:Pc}(h:Pc.holds ρ a)(k:Pc.holds ρ b):Pc.holds ρ (a++b):=fun x hx=>by
 rcases List.mem_append.1 hx with hx|hx
 ·exact h x hx
 ·exact k x hx
theorem holds_l {ρ:List AV}{a b:Pc}(h:Pc.holds ρ (a++b)):Pc.holds ρ a:=fun x hx=>h x (List.mem_append.2 (.inl hx))
theorem holds_r {ρ:List AV}{a b:Pc}(h:Pc.holds ρ (a++b)):Pc.holds ρ b:=fun x hx=>h x (List.mem_append.2 (.inr hx))
def ExL (ρ:List AV):List (Pc×Tm)→Prop
 |[]=>True
 |x::r=>(Pc.holds ρ x.1→(x.2.den ρ).B=true)∧ExL ρ r
theorem ExL.app {ρ:List AV}:∀{a b:List (Pc×Tm)},ExL ρ a→ExL ρ b→ExL ρ (a++b)
 |[],_,_,h=>h
 |_::_,_,h,k=>⟨h.1,ExL.app h.2 k⟩
def knownN (pc:Pc)(t:Tm):Option Bool:=match pc.known t with
 |some b=>some b
 |none=>match t with
  | .bin .eql k x y=>match k with
   | .int k=>(match pc.known (.bin .neq (.int k) x y) with|some b=>some (!b)|none=>none)
   |_=>none
  | .bin .neq k x y=>match k with
   | .int k=>(match pc.known (.bin .eql (.int k) x y) with|some b=>some (!b)|none=>none)
   |_=>none
  |_=>none
theorem knownN_ok {ρ:List AV}{pc:Pc}(hp:pc.holds ρ){t:Tm}{b:Bool}(h:knownN pc t=some b):(t.den ρ).B=b:=by
 unfold knownN at h
 split at h
 ·rename_i v hv
  simp only [Option.some.injEq] at h;subst h
  exact Pc.known_holds hp hv
 ·split at h
  ·split at h
   ·split at h
    ·rename_i v hv
     simp only [Option.some.injEq] at h;subst h
     have:=Pc.known_holds hp hv
     rw [← this]
     simp [Tm.den,binD,D.B,iEq,iNe,bne]
    ·cases h
   ·cases h
  ·split at h
   ·split at h
    ·rename_i v hv
     simp only [Option.some.injEq] at h;subst h
     have:=Pc.known_holds hp hv
     rw [← this]
     simp [Tm.den,binD,D.B,iEq,iNe,bne]
    ·cases h
   ·cases h
  ·cases h
def knowsAll (pc:Pc)(l:Pc):Bool:=l.all fun e=>match knownN pc e.1 with|some b=>b == e.2|none=>false
theorem knowsAll_ok {ρ:List AV}{pc l:Pc}(h:knowsAll pc l=true)(hp:pc.holds ρ):Pc.holds ρ l:=by
 unfold knowsAll at h
 rw [List.all_eq_true] at h
 intro e he
 have:=h e he
 split at this
 ·rename_i b hb
  rw [knownN_ok hp hb];simpa using this
 ·cases this
def xsF (pc:Pc):List (Pc×Tm)→Pc
 |[]=>[]
 |x::r=>bif knowsAll pc x.1 then (x.2,true)::xsF pc r else xsF pc r
theorem xsF_ok {ρ:List AV}{pc:Pc}(hp:pc.holds ρ):∀{xs:List (Pc×Tm)},ExL ρ xs→Pc.holds ρ (xsF pc xs)
 |[],_=>fun x hx=>by cases hx
 |x::r,h=>by
  simp only [xsF]
  cases hk:knowsAll pc x.1
  ·exact xsF_ok hp h.2
  ·exact Pc.holds_cons (h.1 (knowsAll_ok hk hp)) (xsF_ok hp h.2)
def decT : Tm→Bool→Pc→Pc
 | .and x y,true,acc=>decT x true (decT y true acc)
 | .or x y,false,acc=>decT x false (decT y false acc)
 | .not x,b,acc=>decT x (!b) acc
 |t,b,acc=>(t,b)::acc
theorem decT_ok {ρ:List AV}:∀{t:Tm} {b:Bool} {acc:Pc},(t.den ρ).B=b→Pc.holds ρ acc→Pc.holds ρ (decT t b acc):=by
 intro t
 induction t with
 |and x y ihx ihy=>
  intro b acc h k
  cases b with
  |false=>exact Pc.holds_cons h k
  |true=>
   have h2:((x.den ρ).B&&(y.den ρ).B)=true:=h
   rw [Bool.and_eq_true] at h2
   exact ihx h2.1 (ihy h2.2 k)
 |or x y ihx ihy=>
  intro b acc h k
  cases b with
  |true=>exact Pc.holds_cons h k
  |false=>
   have h2:((x.den ρ).B||(y.den ρ).B)=false:=h
   rw [Bool.or_eq_false_iff] at h2
   exact ihx h2.1 (ihy h2.2 k)
 |not x ih=>
  intro b acc h k
  have h2:(!(x.den ρ).B)=b:=h
  exact ih (by rw [← h2,Bool.not_not]) k
 |_=>intro b acc h k;exact Pc.holds_cons h k
def decP : Pc→Pc
 |[]=>[]
 |x::r=>decT x.1 x.2 (decP r)
theorem decP_ok {ρ:List AV}:∀{pc:Pc},Pc.holds ρ pc→Pc.holds ρ (decP pc)
 |[],h=>h
 |x::r,h=>decT_ok (h x (List.mem_cons_self ..)) (decP_ok fun y hy=>h y (List.mem_cons_of_mem _ hy))
def facts (F:Pc)(xs:List (Pc×Tm))(pc:Pc):Pc:=pc++(xsF (decP pc++F) xs++F)
theorem facts_ok {ρ:List AV}{F:Pc}{xs:List (Pc×Tm)}{pc:Pc}(hF:Pc.holds ρ F)(hx:ExL ρ xs)(hp:Pc.holds ρ pc):Pc.holds ρ (facts F xs pc):=
 holds_app hp (holds_app (xsF_ok (holds_app (decP_ok hp) hF) hx) hF)
def chkS (F:Pc)(T:SpT)(xs:List (Pc×Tm)):Pc→Side→Bool
 |pc,.under pc' s=>chkS F T xs (pc'++pc) s
 |pc,s=>match condT T s with
  |none=>false
  |some []=>true
  |some l=>proveL (facts F xs pc) l
def mkX (pc:Pc):Tm→Pc×Tm
 | .or c d=>((c,false)::pc,d)
 |t=>(pc,t)
theorem mkX_ok {ρ:List AV}{pc:Pc}{t:Tm}(h:Pc.holds ρ pc→(t.den ρ).B=true):Pc.holds ρ (mkX pc t).1→((mkX pc t).2.den ρ).B=true:=by
 cases t<;>try exact h
 rename_i c d
 intro hp
 have h1:((c.den ρ).B||(d.den ρ).B)=true:=h fun x hx=>hp x (List.mem_cons_of_mem _ hx)
 have h2:(c.den ρ).B=false:=hp (c,false) (List.mem_cons_self ..)
 rw [Bool.or_eq_true] at h1
 rcases h1 with h1|h1
 ·rw [h1] at h2;cases h2
 ·exact h1
def lenF : Side→List (Pc×Tm)
 | .st t _ _ _ n=>[([],tEq (.rlen n) (.rlen t))]
 | .mk len _ _ n=>[([],tEq (.rlen n) len)]
 | .app _ x y n=>[([],tEq (.rlen n) (tAdd (.rlen x) (tNat y.length)))]
 | .app2 _ x y n=>[([],tEq (.rlen n) (tAdd (.rlen x) (.rlen y)))]
 | .appc _ x y n=>[([],tEq (.rlen n) (tAdd (.rlen y) (tNat x.length)))]
 | .cpy x _ _ n=>[([],tEq (.rlen n) (.rlen x))]
 | .mark _ _ d _ n=>[([],tEq (.rlen n) (.rlen d))]
 | .sub _ t lo hi n=>match lo,hi with
  |none,none=>[([],tEq (.rlen n) (.rlen t))]
  |none,some h=>[([],tEq (.rlen n) h)]
  |some l,none=>[([],tLe (.rlen n) (.rlen t)),([(tLe (.rlen t) (.li big),true)],tEq (.rlen n) (.bin .sub (.int .i64) (.rlen t) l))]
  |some l,some h=>[([],tLe (.rlen n) (.rlen t)),([(tLe (.rlen t) (.li big),true)],tEq (.rlen n) (.bin .sub (.int .i64) h l))]
 |_=>[]
def underX (pc:Pc):List (Pc×Tm)→List (Pc×Tm)
 |[]=>[]
 |x::r=>(x.1++pc,x.2)::underX pc r
theorem underX_ok {ρ:List AV}{pc:Pc}:∀{l xs:List (Pc×Tm)},(Pc.holds ρ pc→ExL ρ l)→ExL ρ xs→ExL ρ (underX pc l++xs)
 |[],xs,_,h=>h
 |x::r,xs,h,k=>⟨fun hp=>(h (holds_r hp)).1 (holds_l hp),underX_ok (fun hp=>(h hp).2) k⟩
def mkXs (pc:Pc):List Tm→List (Pc×Tm)
 |[]=>[]
 |t::r=>mkX pc t::mkXs pc r
theorem mkXs_ok {ρ:List AV}{pc:Pc}:∀{l:List Tm} {xs:List (Pc×Tm)},(Pc.holds ρ pc→AllT ρ l)→ExL ρ xs→ExL ρ (mkXs pc l++xs)
 |[],xs,_,h=>h
 |t::r,xs,h,k=>⟨mkX_ok fun hp=>(h hp).1,mkXs_ok (fun hp=>(h hp).2) k⟩
def sideX (F:Pc)(T:SpT)(xs:List (Pc×Tm)):Pc→Side→List (Pc×Tm)
 |pc,.under pc' s=>sideX F T xs (pc'++pc) s
 |pc,s=>match spS T s with
  |none=>underX pc (lenF s)++xs
  |some (sp,l,l2)=>match sp.post with
   |[]=>xs
   |post=>match sbL l sp.bnd with
    |none=>xs
    |some b=>bif proveL (facts F xs pc) b then (match sbL l2 post with|some q=>mkXs pc q++xs|none=>xs) else xs
def WkL (P:Program)(T:SpT)(ρ:List AV):List (Pc×Side)→Prop
 |[]=>True
 |x::r=>(Pc.holds ρ x.1→x.2.wk P T ρ)∧WkL P T ρ r
def chkSd (F:Pc)(T:SpT)(xs:List (Pc×Tm)):List (Pc×Side)→Bool
 |[]=>true
 |x::r=>chkS F T xs x.1 x.2&&chkSd F T (sideX F T xs x.1 x.2) r
def sdX (F:Pc)(T:SpT)(xs:List (Pc×Tm)):List (Pc×Side)→List (Pc×Tm)
 |[]=>xs
 |x::r=>sdX F T (sideX F T xs x.1 x.2) r
theorem lenF_ok {P:Program}{ρ:List AV}{s:Side}(h:s.holds P ρ):ExL ρ (lenF s):=by
 have eq:∀{a b:Tm},(a.den ρ).I=(b.den ρ).I→((tEq a b).den ρ).B=true:=fun h=>by
  show iEq _ _=true
  exact iEq_t.2 h
 have rl:∀{t:Tm},((Tm.rlen t).den ρ).I=((t.den ρ).R.length:Int):=rfl
 have nat:∀{n:Nat},((tNat n).den ρ).I=(n:Int):=by intro n;unfold tNat;rw [fNat_eq];rfl
 have add:∀{a b:Tm},((tAdd a b).den ρ).I=iAdd .i64 (a.den ρ).I (b.den ρ).I:=rfl
 cases s<;>try exact trivial
 case st t i off cells n=>
  obtain ⟨row,-,-,h3⟩:=h
  exact ⟨fun _=>eq (by rw [rl,rl,h3];simp),trivial⟩
 case mk len cap z n=>
  obtain ⟨h1,-,-,h4⟩:=h
  exact ⟨fun _=>eq (by rw [rl,h4];simp;omega),trivial⟩
 case app sz x y n=>
  obtain ⟨-,h2,h3⟩:=h
  refine ⟨fun _=>eq ?_,trivial⟩
  rw [rl,h3,add,rl,nat,iAddC (by omega) (by omega)]
  simp [denLL_length]
 case app2 sz x y n=>
  obtain ⟨-,-,h2,h3⟩:=h
  refine ⟨fun _=>eq ?_,trivial⟩
  rw [rl,h3,add,rl,rl,iAddC (by omega) (by omega)]
  simp
 case appc sz x y n=>
  obtain ⟨h2,h3⟩:=h
  refine ⟨fun _=>eq ?_,trivial⟩
  rw [rl,h3,add,rl,nat,iAddC (by omega) (by omega)]
  simp [denLL_length];omega
 case cpy x len y n=>
  obtain ⟨h1,h2⟩:=h
  refine ⟨fun _=>eq ?_,trivial⟩
  rw [rl,rl,h2]
  simp only [List.length_append,List.length_take,List.length_drop];omega
 case mark m t d len n=>
  obtain ⟨-,-,h3,-⟩:=h
  exact ⟨fun _=>eq (by rw [rl,rl,h3]),trivial⟩
 case sub sz t lo hi n=>
  obtain ⟨-,h1,h2,h3,h4⟩:=h
  have hl:=congrArg List.length h4
  rw [List.length_take,List.length_drop] at hl
  have bigH:Pc.holds ρ [(tLe (.rlen t) (.li big),true)]→((t.den ρ).R.length:Int)≤4294967296:=fun hp=>by
   have:=hp (_,true) (List.mem_cons_self ..)
   have q:lLen (t.den ρ).R≤big:=of_decide_eq_true this
   unfold lLen big at q;exact q
  have le:((tLe (.rlen n) (.rlen t)).den ρ).B=true:=by
   show decide (lLen (n.den ρ).R≤lLen (t.den ρ).R)=true
   exact decide_eq_true (by unfold lLen;omega)
  cases lo with
  |none=>
   cases hi with
   |none=>
    have e1:oTm ρ 0 none=0:=rfl
    have e2:oTm ρ (t.den ρ).R.length none=(t.den ρ).R.length:=rfl
    rw [e1,e2] at hl
    exact ⟨fun _=>eq (by rw [rl,rl];omega),trivial⟩
   |some b=>
    have e1:oTm ρ 0 none=0:=rfl
    have e2:oTm ρ (t.den ρ).R.length (some b)=(b.den ρ).I:=rfl
    rw [e1,e2] at hl;rw [e2] at h3;rw [e1,e2] at h2
    exact ⟨fun _=>eq (by rw [rl];omega),trivial⟩
  |some a=>
   have e1:oTm ρ 0 (some a)=(a.den ρ).I:=rfl
   rw [e1] at h1
   cases hi with
   |none=>
    have e2:oTm ρ (t.den ρ).R.length none=(t.den ρ).R.length:=rfl
    rw [e1,e2] at h2;rw [e1,e2] at hl
    refine ⟨fun _=>le,fun hp=>eq ?_,trivial⟩
    have hb:=bigH hp
    show _=iSub .i64 (lLen (t.den ρ).R) (a.den ρ).I
    unfold lLen
    rw [rl,iSubC (by omega) (by omega)]
    omega
   |some b=>
    have e2:oTm ρ (t.den ρ).R.length (some b)=(b.den ρ).I:=rfl
    rw [e1,e2] at h2;rw [e1,e2] at hl;rw [e2] at h3
    refine ⟨fun _=>le,fun hp=>eq ?_,trivial⟩
    have hb:=bigH hp
    show _=iSub .i64 (b.den ρ).I (a.den ρ).I
    rw [rl,iSubC (by omega) (by omega)]
    omega
theorem denL_app1 {ρ:List AV}{a:List SV}{b:SV}:denL ρ (a++[b])=denL ρ a++[b.den ρ]:=by rw [denL_append];rfl
theorem chkS_ok {P:Program}{ρ:List AV}{F:Pc}{T:SpT}{xs:List (Pc×Tm)}(hF:Pc.holds ρ F)(hx:ExL ρ xs):∀{s:Side} {pc:Pc},chkS F T xs pc s=true→(Pc.holds ρ pc→s.wk P T ρ)→(Pc.holds ρ pc→s.holds P ρ)∧ExL ρ (sideX F T xs pc s):=by
 intro s
 have plain:∀{s:Side} {pc:Pc},(∀pc' s',s≠.under pc' s')→spS T s=none→(s.wk P T ρ↔(AllT ρ s.cnd→s.holds P ρ))→chkS F T xs pc s=true→(Pc.holds ρ pc→s.wk P T ρ)→(Pc.holds ρ pc→s.holds P ρ)∧ExL ρ (sideX F T xs pc s):=by
  intro s pc hu hs hwk h hw
  have hh:Pc.holds ρ pc→s.holds P ρ:=fun hp=>by
   refine hwk.1 (hw hp) ?_
   have h':(match condT T s with|none=>false|some []=>true|some l=>proveL (facts F xs pc) l)=true:=by
    cases s<;>first|exact h|exact absurd rfl (hu _ _)
   unfold condT at h'
   rw [hs] at h'
   dsimp only at h'
   split at h'
   ·cases h'
   ·rename_i e;simp only [Option.some.injEq] at e;rw [e];trivial
   ·rename_i l _ e;simp only [Option.some.injEq] at e;rw [e];exact proveL_ok h' (facts_ok hF hx hp)
  have e:sideX F T xs pc s=underX pc (lenF s)++xs:=by
   cases s<;>first|exact absurd rfl (hu _ _)|(simp only [sideX,hs])
  rw [e]
  exact ⟨hh,underX_ok (fun hp=>lenF_ok (hh hp)) hx⟩
 have calls:∀{s:Side} {pc:Pc} {sp:Sp} {l l2:List SV} {A:Prop},spS T s=some (sp,l,l2)→(∀pc' s',s≠.under pc' s')→(s.wk P T ρ→AllT ρ s.osE→AllT (denL ρ l) sp.pre→s.holds P ρ∧(AllT (denL ρ l) sp.bnd→AllT (denL ρ l2) sp.post))→chkS F T xs pc s=true→(Pc.holds ρ pc→s.wk P T ρ)→(Pc.holds ρ pc→s.holds P ρ)∧ExL ρ (sideX F T xs pc s):=by
  intro s pc sp l l2 A hs hu hwk h hw
  have hpre:Pc.holds ρ pc→AllT ρ s.osE∧AllT (denL ρ l) sp.pre:=fun hp=>by
   have h':(match condT T s with|none=>false|some []=>true|some l=>proveL (facts F xs pc) l)=true:=by
    cases s<;>first|exact h|exact absurd rfl (hu _ _)
   have h2:∃l',condT T s=some l'∧AllT ρ l':=by
    split at h'
    ·cases h'
    ·rename_i e;exact ⟨_,e,trivial⟩
    ·rename_i l' _ e;exact ⟨_,e,proveL_ok h' (facts_ok hF hx hp)⟩
   obtain ⟨l',e,hl'⟩:=h2
   unfold condT at e
   rw [hs] at e
   dsimp only at e
   split at e
   ·rename_i ep
    simp only [Option.some.injEq] at e;subst e
    rw [ep];exact ⟨hl',trivial⟩
   ·split at e
    ·rename_i q hq
     simp only [Option.some.injEq] at e;subst e
     exact ⟨(AllT.app hl').2,(sbL_ok hq).1 (AllT.app hl').1⟩
    ·cases e
  refine ⟨fun hp=>(hwk (hw hp) (hpre hp).1 (hpre hp).2).1,?_⟩
  have e:sideX F T xs pc s=(match sp.post with
   |[]=>xs
   |post=>match sbL l sp.bnd with
    |none=>xs
    |some b=>bif proveL (facts F xs pc) b then (match sbL l2 post with|some q=>mkXs pc q++xs|none=>xs) else xs):=by
   cases s<;>first|exact absurd rfl (hu _ _)|(simp only [sideX,hs])
  rw [e]
  split
  ·exact hx
  ·split
   ·exact hx
   ·rename_i b hb
    cases hpv:proveL (facts F xs pc) b
    ·exact hx
    ·simp only [cond_true]
     split
     ·rename_i q hq
      refine mkXs_ok (fun hp=>?_) hx
      have h1:=(sbL_ok hb).1 (proveL_ok hpv (facts_ok hF hx hp))
      exact (sbL_ok hq).2 ((hwk (hw hp) (hpre hp).1 (hpre hp).2).2 h1)
     ·exact hx
 induction s with
 |under pc' s ih=>
  intro pc h hw
  obtain ⟨h1,h2⟩:=ih (pc:=pc'++pc) h (fun hp=>hw (holds_r hp) (holds_l hp))
  exact ⟨fun hp hp'=>h1 (holds_app hp' hp),h2⟩
 |call f args r=>
  intro pc h hw
  refine calls (A:=True) rfl (by intro _ _ e;cases e) (fun hk _ hp=>?_) h hw
  have:=hk hp
  exact ⟨this.1,fun hb=>by rw [denL_app1];exact this.2 hb⟩
 |callo f args r p sz fl=>
  intro pc h hw
  refine calls (A:=True) rfl (by intro _ _ e;cases e) (fun hk _ hp=>?_) h hw
  have:=hk.1 hp
  exact ⟨⟨this.1,hk.2⟩,fun hb=>by rw [denL_app1];exact this.2 hb⟩
 |callw f args bl n0 r bl'=>
  intro pc h hw
  refine calls (A:=True) rfl (by intro _ _ e;cases e) (fun hk ho hp=>?_) h hw
  rw [denL_append,blSV_den] at hp
  have:=hk ho hp
  refine ⟨this.1,fun hb=>?_⟩
  rw [denL_append,blSV_den] at hb
  have q:=this.2 hb
  rw [denL_append,denL_append,blSV_den]
  show AllT (_++(r.den ρ::denL ρ (blSV bl'))) _
  rw [blSV_den];exact q
 |_=>intro pc h hw;exact plain (by intro _ _ e;cases e) rfl Iff.rfl h hw
theorem chkSd_ok {P:Program}{ρ:List AV}{F:Pc}{T:SpT}(hF:Pc.holds ρ F):∀{sd:List (Pc×Side)} {xs:List (Pc×Tm)},ExL ρ xs→chkSd F T xs sd=true→WkL P T ρ sd→SidesC P ρ sd∧ExL ρ (sdX F T xs sd)
 |[],xs,hx,_,_=>⟨trivial,hx⟩
 |x::r,xs,hx,h,hw=>by
  simp only [chkSd,Bool.and_eq_true] at h
  obtain ⟨h1,h2⟩:=chkS_ok hF hx h.1 hw.1
  obtain ⟨h3,h4⟩:=chkSd_ok hF h2 h.2 hw.2
  exact ⟨⟨h1,h3⟩,h4⟩
inductive LH where
 |mk (inv:List Tm) (mt:Tm) (ft:List (Tm×Int)) (xs:List (Pc×Tm)) (at':Nat) (sub:List LH) (post:List (List Tm))
def LH.inv : LH→List Tm | .mk a _ _ _ _ _ _=>a
def LH.mt : LH→Tm | .mk _ a _ _ _ _ _=>a
def Tm.isNl : Tm→Bool | .nl=>true|_=>false
def LH.ft : LH→List (Tm×Int) | .mk _ _ a _ _ _ _=>a
def LH.xs : LH→List (Pc×Tm) | .mk _ _ _ a _ _ _=>a
def LH.at' : LH→Nat | .mk _ _ _ _ a _ _=>a
def LH.sub : LH→List LH | .mk _ _ _ _ _ a _=>a
def LH.post : LH→List (List Tm) | .mk _ _ _ _ _ _ a=>a
def lh0 : LH:=.mk [] (.li 0) [] [] 0 [] []
def hdH : List LH→LH | []=>lh0|x::_=>x
def tlH : List LH→List LH | []=>[]|_::r=>r
def ftV (ρ:List AV):List (Tm×Int)→Int
 |[]=>0
 |x::r=>x.2*(x.1.den ρ).I+ftV ρ r
def ftL (ks:Pc):List (Tm×Int)→List Tm→List LF→LR
 |[],az,fs=>⟨az,fs,[]⟩
 |x::r,az,fs=>match lin ks x.1 az fs with
  |⟨as1,fs1,f1⟩=>match ftL ks r as1 fs1 with
   |⟨as2,fs2,f2⟩=>⟨as2,fs2,addL (scl x.2 f1) f2⟩
theorem ftL_ok {ρ:List AV}{ks:Pc}(hk:ks.holds ρ):∀{l:List (Tm×Int)} {az:List Tm} {fs:List LF},PosL ρ az fs→LROk ρ az (ftL ks l az fs) (ftV ρ l)
 |[],az,fs,h=>⟨List.prefix_refl _,h,fun bs hb=>rfl⟩
 |x::r,az,fs,h=>by
  obtain ⟨a1,a2,a3⟩:=lin_ok hk (t:=x.1) h
  obtain ⟨b1,b2,b3⟩:=ftL_ok hk (l:=r) (az:=(lin ks x.1 az fs).az) (fs:=(lin ks x.1 az fs).fs) a2
  exact ⟨a1.trans b1,b2,(a3.mono b1).scl.add b3⟩
def ftOk0 (F:Pc)(s:AS)(mt:Tm)(ft:List (Tm×Int)):Bool:=
 match s with
 |⟨az,fs⟩=>match lin F mt az fs with
  |⟨as1,fs1,f1⟩=>match ftL F ft as1 fs1 with
   |⟨_,fs2,f2⟩=>prv1 fs2 (Go.Fw.subL f2 f1)
theorem ftOk0_ok {ρ:List AV}{F:Pc}{mt:Tm}{ft:List (Tm×Int)}{s:AS}(h0:ASOk ρ s)(h:ftOk0 F s mt ft=true)(hF:F.holds ρ):(mt.den ρ).I≤ftV ρ ft:=by
 unfold ftOk0 at h
 obtain ⟨a1,a2,a3⟩:=lin_ok hF (t:=mt) h0
 obtain ⟨b1,b2,b3⟩:=ftL_ok hF (l:=ft) a2
 have q:=prv1_pos b2 h _ (List.prefix_refl _)
 rw [subL_ev,(a3.mono b1) _ (List.prefix_refl _),b3 _ (List.prefix_refl _)] at q
 omega
def ftOk1 (F:Pc)(mt:Tm)(ft:List (Tm×Int)):Bool:=ftOk0 F (asF F) mt ft
def ftOk : Nat→Pc→Tm→List (Tm×Int)→Bool
 |0,F,mt,ft=>ftOk1 F mt ft
 |n+1,F,mt,ft=>ftOk1 F mt ft||(match iteOpen F ((mt,true)::F) with
  |none=>false
  |some c=>ftOk n ((c,true)::F) mt ft&&ftOk n ((c,false)::F) mt ft)
theorem ftOk1_ok {ρ:List AV}{F:Pc}{mt:Tm}{ft:List (Tm×Int)}(h:ftOk1 F mt ft=true)(hF:F.holds ρ):(mt.den ρ).I≤ftV ρ ft:=ftOk0_ok (asF_ok hF) h hF
theorem ftOk_ok {ρ:List AV}{mt:Tm}{ft:List (Tm×Int)}:∀{n:Nat} {F:Pc},ftOk n F mt ft=true→F.holds ρ→(mt.den ρ).I≤ftV ρ ft
 |0,F,h,hF=>ftOk1_ok h hF
 |n+1,F,h,hF=>by
  simp only [ftOk,Bool.or_eq_true] at h
  rcases h with h|h
  ·exact ftOk1_ok h hF
  ·split at h
   ·cases h
   ·rename_i c _
    rw [Bool.and_eq_true] at h
    cases hc:(c.den ρ).B
    ·exact ftOk_ok h.2 (Pc.holds_cons hc hF)
    ·exact ftOk_ok h.1 (Pc.holds_cons hc hF)
def Tm.ren (f:Nat→Nat):Tm→Tm
 | .var i p=>fNat (f i) fun j=>.var j p
 | .bin o k x y=>.bin o k (x.ren f) (y.ren f)
 | .and x y=>.and (x.ren f) (y.ren f)
 | .or x y=>.or (x.ren f) (y.ren f)
 | .byte x y=>.byte (x.ren f) (y.ren f)
 | .not x=>.not (x.ren f)
 | .neg k x=>.neg k (x.ren f)
 | .com k x=>.com k (x.ren f)
 | .conv k x=>.conv k (x.ren f)
 | .toF x=>.toF (x.ren f)
 | .toI x=>.toI (x.ren f)
 | .slen x=>.slen (x.ren f)
 | .rlen x=>.rlen (x.ren f)
 | .bts x=>.bts (x.ren f)
 | .rdrop n x=>.rdrop n (x.ren f)
 | .sbs x=>.sbs (x.ren f)
 | .ite c x y=>.ite (c.ren f) (x.ren f) (y.ren f)
 | .ssub c x y=>.ssub (c.ren f) (x.ren f) (y.ren f)
 |t=>t
theorem Tm.ren_den {f:Nat→Nat}{n:Nat}{ρ σ:List AV}(h:∀i,i<n→ρ.getD (f i) undefA=σ.getD i undefA):∀{t:Tm},t.lt n=true→(t.ren f).den ρ=t.den σ:=by
 intro t
 induction t with
 |lb|li|lf|ls|nl=>intro _;rfl
 |var i p=>intro hl;simp only [Tm.ren,fNat_eq,Tm.den];rw [h i (Nat.le_of_ble_eq_true hl)]
 |bin o k x y ihx ihy=>intro hl;simp only [Tm.lt,Bool.and_eq_true] at hl;simp only [Tm.ren,Tm.den,ihx hl.1,ihy hl.2]
 |and x y ihx ihy=>intro hl;simp only [Tm.lt,Bool.and_eq_true] at hl;simp only [Tm.ren,Tm.den,ihx hl.1,ihy hl.2]
 |or x y ihx ihy=>intro hl;simp only [Tm.lt,Bool.and_eq_true] at hl;simp only [Tm.ren,Tm.den,ihx hl.1,ihy hl.2]
 |byte x y ihx ihy=>intro hl;simp only [Tm.lt,Bool.and_eq_true] at hl;simp only [Tm.ren,Tm.den,ihx hl.1,ihy hl.2]
 |ite c x y ihc ihx ihy=>intro hl;simp only [Tm.lt,Bool.and_eq_true] at hl;simp only [Tm.ren,Tm.den,ihc hl.1,ihx hl.2.1,ihy hl.2.2]
 |ssub c x y ihc ihx ihy=>intro hl;simp only [Tm.lt,Bool.and_eq_true] at hl;simp only [Tm.ren,Tm.den,ihc hl.1,ihx hl.2.1,ihy hl.2.2]
 |not x ih=>intro hl;simp only [Tm.ren,Tm.den,ih hl]
 |neg k x ih=>intro hl;simp only [Tm.ren,Tm.den,ih hl]
 |com k x ih=>intro hl;simp only [Tm.ren,Tm.den,ih hl]
 |conv k x ih=>intro hl;simp only [Tm.ren,Tm.den,ih hl]
 |toF x ih=>intro hl;simp only [Tm.ren,Tm.den,ih hl]
 |toI x ih=>intro hl;simp only [Tm.ren,Tm.den,ih hl]
 |slen x ih=>intro hl;simp only [Tm.ren,Tm.den,ih hl]
 |rlen x ih=>intro hl;simp only [Tm.ren,Tm.den,ih hl]
 |bts x ih=>intro hl;simp only [Tm.ren,Tm.den,ih hl]
 |rdrop k x ih=>intro hl;simp only [Tm.ren,Tm.den,ih hl]
 |sbs x ih=>intro hl;simp only [Tm.ren,Tm.den,ih hl]
def shf (base pos i:Nat):Nat:=bif Nat.blt i base then i else i-base+pos
def postK (base:Nat)(pos n:Nat)(pc:Pc):List Tm→List (Pc×Tm)
 |[]=>[]
 |t::r=>bif t.lt (base+n) then (pc,t.ren (shf base pos))::postK base pos n pc r else postK base pos n pc r
def nthP : List (List Tm)→Nat→List Tm
 |[],_=>[]
 |x::_,0=>x
 |_::r,k+1=>nthP r k
def selP (base:Nat)(ms:List Nat)(k:Nat):Pc:=match ms with
 |[_,_]=>match k with
  |0=>[(.bin .eql (.int .i64) (.var base []) (.li 0),true)]
  |_=>[(.bin .eql (.int .i64) (.var base []) (.li 0),false)]
 |_=>[]
def bnF : List Tm→Pc
 |[]=>[]
 |t::r=>(tLe (.rlen t) (.li big),true)::bnF r
theorem bnF_ok {ρ:List AV}:∀{bn:List Tm},(∀t∈bn,(t.den ρ).R.length≤4294967296)→Pc.holds ρ (bnF bn)
 |[],_=>fun x hx=>by cases hx
 |t::r,h=>Pc.holds_cons (by
  have:=h t (List.mem_cons_self ..)
  show decide (lLen (t.den ρ).R≤big)=true
  exact decide_eq_true (by unfold lLen big;omega)) (bnF_ok fun x hx=>h x (List.mem_cons_of_mem _ hx))
def LenOk (outs:List (Tm×Nat×List SV))(ms:List Nat):Bool:=outs.all fun o=>match o.2.1 with
 |0=>true
 |k+1=>Nat.ble (k+1) ms.length&&Nat.ble (ms.getD k 0) o.2.2.length
def bnC (F:Pc)(xs:List (Pc×Tm))(pc:Pc)(bn:List Tm):Pc:=
 bif (let F':=facts F xs pc;bn.all fun t=>prove 1 F' (tLe (.rlen t) (.li big))) then pc else bnF bn++pc
def postX (F:Pc)(xs:List (Pc×Tm)):Lo→LH→List (Pc×Tm)
 | .mk pc base _ _ outs _ _ ms bn,h=>match h.post with
  |[]=>xs
  |p=>bif LenOk outs ms then match ms with
    |[n]=>let c:=bnC F xs pc bn;postK base (posOf base ms 0) n (selP base ms 0++c) (nthP p 0)++xs
    |[n,n']=>let c:=bnC F xs pc bn;postK base (posOf base ms 0) n (selP base ms 0++c) (nthP p 0)++(postK base (posOf base ms 1) n' (selP base ms 1++c) (nthP p 1)++xs)
    |_=>xs
   else xs
def RunP (e:Bool)(S:List AV→Prop)(outs:List (Tm×Nat×List SV))(ρ0:List AV)(m:Nat):Nat→List AV→Nat→List AV→Prop
 |0,_,_,_=>e=false
 |n+1,vs,k,us=>∃cs,vs.length=m∧fzL (ρ0++vs++cs)=true∧S (ρ0++vs++cs)∧
  match selK (ρ0++vs++cs) outs with
  |none=>False
  |some (0,l)=>RunP e S outs ρ0 m n (denL (ρ0++vs++cs) l) k us
  |some (j+1,l)=>k=j∧us=denL (ρ0++vs++cs) l
 mutual
def Lo.wk (P:Program)(T:SpT):Lo→LH→List AV→Prop
  | .mk pc base m entry outs sd aw ms bn,h=>fun ρ=>Pc.holds ρ pc→(∀t∈bn,(t.den ρ).R.length≤4294967296)→base≤ρ.length∧∃(n k:Nat) (us:List AV),(0<n∧ftV ρ h.ft<(n:Int))∧
   RunP h.mt.isNl (fun σ=>ExL σ h.xs∧WkL P T σ sd∧LoW P T aw h.sub σ) outs (ρ.take base) m n (denL ρ entry) k us∧ResK ρ base ms k us
def LoW (P:Program)(T:SpT):List Lo→List LH→List AV→Prop
  |[],_=>fun _=>True
  |x::r,hs=>fun σ=>x.wk P T (hdH hs) σ∧LoW P T r (tlH hs) σ
end
def subOk (base:Nat)(l:List SV)(F:Pc)(t:Tm):Bool:=match substE base l .B t with
 |some t'=>prove 2 F t'
 |none=>false
theorem subOk_ok {ρ:List AV}{base:Nat}{l:List SV}(hb:base≤ρ.length){F:Pc}{t:Tm}(h:subOk base l F t=true)(hF:Pc.holds ρ F):(t.den (ρ.take base++denL ρ l)).B=true:=by
 unfold subOk at h
 split at h
 ·rename_i t' ht
  have h1:=prove_ok h hF
  have h2:=substE_ok hb ht
  simp only [SimE] at h2
  rw [← h2];exact h1
 ·cases h
def chkQ (F:Pc)(xs:List (Pc×Tm))(q:List Tm)(Q:Pc):Nat→Pc→Bool
 |0,G=>proveL (facts F xs G) q
 |n+1,G=>match iteOpen (facts F xs G) Q with
  |none=>proveL (facts F xs G) q
  |some c=>chkQ F xs q Q n (addPc c true G)&&chkQ F xs q Q n (addPc c false G)
theorem chkQ_ok {ρ:List AV}{F:Pc}{xs:List (Pc×Tm)}{q:List Tm}{Q:Pc}(hF:Pc.holds ρ F)(hx:ExL ρ xs):∀{n:Nat} {G:Pc},chkQ F xs q Q n G=true→Pc.holds ρ G→AllT ρ q
 |0,G,h,hG=>proveL_ok h (facts_ok hF hx hG)
 |n+1,G,h,hG=>by
  simp only [chkQ] at h
  split at h
  ·exact proveL_ok h (facts_ok hF hx hG)
  ·rename_i c _
   rw [Bool.and_eq_true] at h
   cases hc:(c.den ρ).B
   ·exact chkQ_ok hF hx h.2 (addPc_holds hc hG)
   ·exact chkQ_ok hF hx h.1 (addPc_holds hc hG)
def splQ (F:Pc)(xs:List (Pc×Tm))(t:Tm)(G:Pc):Bool:=match iteOpen (facts F xs G) [(t,true)] with
 |none=>false
 |some c=>chkQ F xs [t] [(t,true)] 3 (cloP (addPc c true G))&&chkQ F xs [t] [(t,true)] 3 (cloP (addPc c false G))
theorem splQ_ok {ρ:List AV}{F:Pc}{xs:List (Pc×Tm)}{t:Tm}{G:Pc}(hF:Pc.holds ρ F)(hx:ExL ρ xs)(h:splQ F xs t G=true)(hG:Pc.holds ρ G):(t.den ρ).B=true:=by
 unfold splQ at h
 split at h
 ·cases h
 ·rename_i c _
  rw [Bool.and_eq_true] at h
  cases hc:(c.den ρ).B
  ·exact (chkQ_ok hF hx h.2 (cloP_ok (addPc_holds hc hG))).1
  ·exact (chkQ_ok hF hx h.1 (cloP_ok (addPc_holds hc hG))).1
def subQ (base:Nat)(l:List SV)(F:Pc)(xs:List (Pc×Tm))(G:Pc)(t:Tm):Bool:=match substE base l .B t with
 |some t'=>prove 2 (facts F xs G) t'||splQ F xs t' G
 |none=>false
theorem subQ_ok {ρ:List AV}{base:Nat}{l:List SV}(hb:base≤ρ.length){F:Pc}{xs:List (Pc×Tm)}{G:Pc}{t:Tm}(hF:Pc.holds ρ F)(hx:ExL ρ xs)(h:subQ base l F xs G t=true)(hG:Pc.holds ρ G):(t.den (ρ.take base++denL ρ l)).B=true:=by
 unfold subQ at h
 split at h
 ·rename_i t' ht
  have h2:=substE_ok hb ht
  simp only [SimE] at h2
  rw [← h2]
  rw [Bool.or_eq_true] at h
  rcases h with h|h
  ·exact prove_ok h (facts_ok hF hx hG)
  ·exact splQ_ok hF hx h hG
 ·cases h
def chkO1 (base:Nat)(inv:List Tm)(mt:Tm)(post:List (List Tm))(F:Pc)(xs:List (Pc×Tm))(G:Pc)(k:Nat)(l:List SV):Bool:=
 match k with
 |0=>
  let F':=facts F xs G
  inv.all (subQ base l F xs G)&&(mt.isNl||(prove 2 F' (tLe (.li 1) mt)&&(match substE base l .I mt with|some mt'=>prove 2 F' (tLt mt' mt)|none=>false)))
 |k+1=>match nthP post k with
  |[]=>true
  |p=>p.all (subQ base l F xs G)
def chkO (base:Nat)(inv:List Tm)(mt:Tm)(post:List (List Tm))(F:Pc)(xs:List (Pc×Tm)):Pc→List (Tm×Nat×List SV)→Bool
 |_,[]=>true
 |G,[o]=>chkO1 base inv mt post F xs G o.2.1 o.2.2
 |G,o::o'::r=>chkO1 base inv mt post F xs (addPc o.1 true G) o.2.1 o.2.2&&chkO base inv mt post F xs (addPc o.1 false G) (o'::r)
def OutOk (base:Nat)(inv:List Tm)(mt:Tm)(post:List (List Tm))(ρ:List AV)(k:Nat)(l:List SV):Prop:=match k with
 |0=>(∀t∈inv,(t.den (ρ.take base++denL ρ l)).B=true)∧(mt.isNl=true∨(1≤(mt.den ρ).I∧(mt.den (ρ.take base++denL ρ l)).I<(mt.den ρ).I))
 |k+1=>∀t∈nthP post k,(t.den (ρ.take base++denL ρ l)).B=true
theorem chkO1_ok {ρ:List AV}{base:Nat}{inv:List Tm}{mt:Tm}{post:List (List Tm)}{F:Pc}{xs:List (Pc×Tm)}{G:Pc}{k:Nat}{l:List SV}(hb:base≤ρ.length)(h:chkO1 base inv mt post F xs G k l=true)(hF:Pc.holds ρ F)(hx:ExL ρ xs)(hG:Pc.holds ρ G):OutOk base inv mt post ρ k l:=by
 have hF':=facts_ok hF hx hG
 cases k with
 |zero=>
  simp only [chkO1,Bool.and_eq_true,Bool.or_eq_true] at h
  obtain ⟨h1,h23⟩:=h
  rw [List.all_eq_true] at h1
  refine ⟨fun t ht=>subQ_ok hb hF hx (h1 t ht) hG,?_⟩
  rcases h23 with h23|⟨h2,h3⟩
  ·exact .inl h23
  refine .inr ⟨?_,?_⟩
  ·exact of_decide_eq_true (p:=(1:Int)≤(mt.den ρ).I) (prove_ok h2 hF')
  ·split at h3
   ·rename_i mt' hm
    have q:=substE_ok hb hm
    simp only [SimE] at q
    rw [← q]
    exact of_decide_eq_true (p:=(mt'.den ρ).I<(mt.den ρ).I) (prove_ok h3 hF')
   ·cases h3
 |succ k=>
  simp only [chkO1] at h
  intro t ht
  split at h
  ·rename_i e;rw [e] at ht;cases ht
  ·rw [List.all_eq_true] at h
   exact subQ_ok hb hF hx (h t ht) hG
theorem chkO_ok {ρ:List AV}{base:Nat}{inv:List Tm}{mt:Tm}{post:List (List Tm)}{F:Pc}{xs:List (Pc×Tm)}(hb:base≤ρ.length)(hF:Pc.holds ρ F)(hx:ExL ρ xs):∀{outs:List (Tm×Nat×List SV)} {G:Pc} {k:Nat} {l:List SV},chkO base inv mt post F xs G outs=true→Pc.holds ρ G→selK ρ outs=some (k,l)→OutOk base inv mt post ρ k l
 |[],G,k,l,_,_,hs=>by simp [selK] at hs
 |[o],G,k,l,h,hG,hs=>by
  simp only [selK,Option.some.injEq] at hs
  simp only [chkO,hs] at h
  exact chkO1_ok hb h hF hx hG
 |o::o'::r,G,k,l,h,hG,hs=>by
  simp only [chkO,Bool.and_eq_true] at h
  simp only [selK] at hs
  cases hg:(o.1.den ρ).B
  ·rw [hg] at hs
   exact chkO_ok hb hF hx h.2 (addPc_holds hg hG) hs
  ·rw [hg] at hs
   simp only [cond_true,Option.some.injEq] at hs
   rw [hs] at h
   exact chkO1_ok hb h.1 hF hx (addPc_holds hg hG)
def ltPc (n:Nat):Pc→Pc
 |[]=>[]
 |x::r=>bif x.1.lt n then x::ltPc n r else ltPc n r
theorem ltPc_ok {n:Nat}{ρ σ:List AV}(h:AgreeV n ρ σ):∀{pc:Pc},pc.holds ρ→(ltPc n pc).holds σ
 |[],_=>fun x hx=>by cases hx
 |x::r,hp=>by
  have ih:=ltPc_ok h (pc:=r) fun y hy=>hp y (List.mem_cons_of_mem _ hy)
  simp only [ltPc]
  cases hl:x.1.lt n
  ·exact ih
  ·exact Pc.holds_cons (by rw [← Tm.lt_den h hl];exact hp x (List.mem_cons_self ..)) ih
def trueAll (l:List Tm):Pc:=l.map fun t=>(t,true)
theorem trueAll_ok {ρ:List AV}{l:List Tm}(h:∀t∈l,(t.den ρ).B=true):Pc.holds ρ (trueAll l):=fun x hx=>by
 unfold trueAll at hx
 obtain ⟨t,ht,rfl⟩:=List.mem_map.1 hx
 exact h t ht
def allX (F:Pc)(T:SpT):List (Pc×Side)→Nat→List Lo→List LH→List (Pc×Tm)→List (Pc×Tm)
 |sd,_,[],_,xs=>sdX F T xs sd
 |sd,k,x::r,hs,xs=>allX F T (sd.drop ((hdH hs).at' - k)) (hdH hs).at' r (tlH hs) (postX F (sdX F T xs (sd.take ((hdH hs).at' - k))) x (hdH hs))
 mutual
def chkLo (F:Pc)(T:SpT)(xs:List (Pc×Tm)):Lo→LH→Bool
  | .mk pc base m entry outs sd aw ms bn,h=>
   let F0:=facts (bnF bn++F) xs pc
   let Fr:=trueAll h.inv++ltPc base F0
   (h.mt.lt (base+m)&&h.inv.all fun t=>t.lt (base+m))&&((h.mt.isNl||match substE base entry .I h.mt with|some mt'=>ftOk 2 F0 mt' h.ft|none=>false)&&h.inv.all (subOk base entry F0)&&(chkA Fr T sd 0 aw h.sub h.xs&&chkO base h.inv h.mt h.post Fr (allX Fr T sd 0 aw h.sub h.xs) [] outs))
def chkA (F:Pc)(T:SpT):List (Pc×Side)→Nat→List Lo→List LH→List (Pc×Tm)→Bool
  |sd,_,[],_,xs=>chkSd F T xs sd
  |sd,k,x::r,hs,xs=>
   let n:=(hdH hs).at' - k
   chkSd F T xs (sd.take n)&&(let xs1:=sdX F T xs (sd.take n);chkLo F T xs1 x (hdH hs)&&chkA F T (sd.drop n) (hdH hs).at' r (tlH hs) (postX F xs1 x (hdH hs)))
end
theorem agree_app {n:Nat}{a b:List AV}(h:n≤a.length):AgreeV n a (a++b):=fun i hi=>by
 rw [List.getD_eq_getElem?_getD,List.getD_eq_getElem?_getD,List.getElem?_append_left (by omega)]
theorem run_up {S' S:List AV→Prop}{outs:List (Tm×Nat×List SV)}{ρ0:List AV}{base m:Nat}{inv:List Tm}{mt:Tm}{post:List (List Tm)}{Fb:Pc}{xs:List (Pc×Tm)}(hl0:ρ0.length=base)
  (hlt:(mt.lt (base+m)&&inv.all fun t=>t.lt (base+m))=true)
  (hFb:∀σ,AgreeV base ρ0 σ→Pc.holds σ Fb)
  (hS:∀σ,Pc.holds σ (trueAll inv++Fb)→S' σ→S σ∧ExL σ xs)
  (ho:chkO base inv mt post (trueAll inv++Fb) xs [] outs=true):∀{n:Nat} {vs:List AV} {k:Nat} {us:List AV},(mt.isNl=true∨0<n)→(∀t∈inv,(t.den (ρ0++vs)).B=true)→(mt.isNl=true∨(mt.den (ρ0++vs)).I<(n:Int))→RunP mt.isNl S' outs ρ0 m n vs k us→RunN S outs ρ0 m n vs k us∧∀t∈nthP post k,(t.den (ρ0++us)).B=true
 |0,_,_,_,h0,_,_,hr=>by
  rcases h0 with h0|h0
  ·have hr':mt.isNl=false:=hr
   rw [h0] at hr';cases hr'
  ·exact absurd h0 (Nat.lt_irrefl _)
 |n+1,vs,k,us,_,hi,hm,hr=>by
  obtain ⟨cs,h1,h2,h3,h4⟩:=hr
  rw [Bool.and_eq_true,List.all_eq_true] at hlt
  have hag:AgreeV (base+m) (ρ0++vs) (ρ0++vs++cs):=agree_app (by rw [List.length_append];omega)
  have hF:Pc.holds (ρ0++vs++cs) (trueAll inv++Fb):=holds_app (trueAll_ok fun t ht=>by rw [← Tm.lt_den hag (hlt.2 t ht)];exact hi t ht) (hFb _ (by rw [List.append_assoc];exact agree_app (by omega)))
  have hb:base≤(ρ0++vs++cs).length:=by simp only [List.length_append];omega
  have ht:(ρ0++vs++cs).take base=ρ0:=by rw [List.append_assoc,← hl0,List.take_left]
  have hX:=hS _ hF h3
  split at h4
  ·exact h4.elim
  ·rename_i l hsel
   have q:=chkO_ok hb hF hX.2 ho (fun x hx=>by cases hx) hsel
   simp only [OutOk] at q
   rw [ht] at q
   obtain ⟨q1,q23⟩:=q
   have hq:(mt.isNl=true∨0<n)∧(mt.isNl=true∨(mt.den (ρ0++denL (ρ0++vs++cs) l)).I<(n:Int)):=by
    rcases q23 with q|⟨q2,q3⟩
    ·exact ⟨.inl q,.inl q⟩
    ·rw [← Tm.lt_den hag hlt.1] at q2 q3
     rcases hm with hm|hm
     ·exact ⟨.inl hm,.inl hm⟩
     ·exact ⟨.inr (by omega),.inr (by omega)⟩
   obtain ⟨z1,z2⟩:=run_up hl0 (by rw [Bool.and_eq_true,List.all_eq_true];exact hlt) hFb hS ho hq.1 q1 hq.2 h4
   exact ⟨⟨cs,h1,h2,hX.1,by rw [hsel];exact z1⟩,z2⟩
  ·rename_i j l hsel
   have q:=chkO_ok hb hF hX.2 ho (fun x hx=>by cases hx) hsel
   simp only [OutOk] at q
   rw [ht] at q
   obtain ⟨rfl,rfl⟩:=h4
   exact ⟨⟨cs,h1,h2,hX.1,by rw [hsel];exact ⟨rfl,rfl⟩⟩,q⟩
theorem postK_ok {ρ:List AV}{base pos n:Nat}{pc:Pc}{l:List Tm}(h:Pc.holds ρ pc→∀t:Tm,t.lt (base+n)=true→(t∈l→((t.ren (shf base pos)).den ρ).B=true)){xs:List (Pc×Tm)}(hx:ExL ρ xs):ExL ρ (postK base pos n pc l++xs):=by
 induction l with
 |nil=>exact hx
 |cons t r ih=>
  simp only [postK]
  have ih':=ih fun hp t' h1 h2=>h hp t' h1 (List.mem_cons_of_mem _ h2)
  cases hl:t.lt (base+n)
  ·exact ih'
  ·exact ⟨fun hp=>h hp t hl (List.mem_cons_self ..),ih'⟩
theorem ren_us {ρ us:List AV}{base pos:Nat}(hb:base≤ρ.length)(h:∀(i:Nat) (u:AV),us[i]?=some u→ρ.getD (pos+i) undefA=u){n:Nat}(hn:n≤us.length){t:Tm}(hl:t.lt (base+n)=true):(t.ren (shf base pos)).den ρ=t.den (ρ.take base++us):=by
 refine Tm.ren_den (n:=base+n) (fun i hi=>?_) hl
 unfold shf
 cases hlt:Nat.blt i base
 ·have hi':¬i<base:=fun q=>by rw [show Nat.blt i base=true by rw [Nat.blt_eq];exact q] at hlt;cases hlt
  have hl':(ρ.take base).length=base:=by rw [List.length_take];omega
  simp only [cond_false]
  have:i-base<us.length:=by omega
  have e:=h (i-base) us[i-base] (by simp [this])
  rw [Nat.add_comm,e,List.getD_eq_getElem?_getD,List.getElem?_append_right (by omega),hl']
  simp [this]
 ·rw [Nat.blt_eq] at hlt
  simp only [cond_true]
  exact (getD_tk hb hlt).symm
theorem selK_mem {ρ:List AV}:∀{outs:List (Tm×Nat×List SV)} {x:Nat×List SV},selK ρ outs=some x→∃o∈outs,o.2=x
 |[],_,h=>by simp [selK] at h
 |[o],x,h=>by simp only [selK,Option.some.injEq] at h;exact ⟨o,by simp,h⟩
 |o::o'::r,x,h=>by
  simp only [selK] at h
  cases hg:(o.1.den ρ).B
  ·rw [hg] at h
   obtain ⟨q,q1,q2⟩:=selK_mem h
   exact ⟨q,List.mem_cons_of_mem _ q1,q2⟩
  ·rw [hg] at h
   simp only [cond_true,Option.some.injEq] at h
   exact ⟨o,List.mem_cons_self ..,h⟩
theorem run_ms {S:List AV→Prop}{outs:List (Tm×Nat×List SV)}{ρ0:List AV}{m:Nat}{ms:List Nat}(hL:LenOk outs ms=true):∀{n:Nat} {vs:List AV} {k:Nat} {us:List AV},RunN S outs ρ0 m n vs k us→k<ms.length∧ms.getD k 0≤us.length
 |0,_,_,_,h=>h.elim
 |n+1,vs,k,us,h=>by
  obtain ⟨cs,h1,h2,h3,h4⟩:=h
  split at h4
  ·exact h4.elim
  ·exact run_ms hL h4
  ·rename_i j l hsel
   obtain ⟨rfl,rfl⟩:=h4
   obtain ⟨o,q1,q2⟩:=selK_mem hsel
   unfold LenOk at hL
   rw [List.all_eq_true] at hL
   have:=hL o q1
   rw [q2,Bool.and_eq_true] at this
   rw [denL_length]
   exact ⟨Nat.le_of_ble_eq_true this.1,Nat.le_of_ble_eq_true this.2⟩
theorem post1 {ρ:List AV}{base pos n:Nat}{pc:Pc}{l:List Tm}{xs:List (Pc×Tm)}(h:Pc.holds ρ pc→base≤ρ.length∧∃us:List AV,n≤us.length∧(∀(i:Nat) (u:AV),us[i]?=some u→ρ.getD (pos+i) undefA=u)∧∀t∈l,(t.den (ρ.take base++us)).B=true)(hx:ExL ρ xs):ExL ρ (postK base pos n pc l++xs):=
 postK_ok (fun hp t hl ht=>by
  obtain ⟨hb,us,h1,h2,h3⟩:=h hp
  rw [ren_us hb h2 h1 hl]
  exact h3 t ht) hx
def Lo.res (L:Lo)(post:List (List Tm))(ρ:List AV):Prop:=match L with
 | .mk pc base _ _ outs _ _ ms bn=>Pc.holds ρ pc→(∀t∈bn,(t.den ρ).R.length≤4294967296)→base≤ρ.length∧∃(k:Nat) (us:List AV),(LenOk outs ms=true→k<ms.length∧ms.getD k 0≤us.length)∧ResK ρ base ms k us∧∀t∈nthP post k,(t.den (ρ.take base++us)).B=true
theorem bnC_ok {ρ:List AV}{F:Pc}{xs:List (Pc×Tm)}{pc:Pc}{bn:List Tm}(hF:Pc.holds ρ F)(hx:ExL ρ xs)(h:Pc.holds ρ (bnC F xs pc bn)):Pc.holds ρ pc∧∀t∈bn,(t.den ρ).R.length≤4294967296:=by
 have key:∀{t:Tm},((tLe (.rlen t) (.li big)).den ρ).B=true→(t.den ρ).R.length≤4294967296:=by
  intro t h
  have h2:lLen (t.den ρ).R≤big:=of_decide_eq_true h
  unfold lLen big at h2;omega
 unfold bnC at h
 dsimp only at h
 cases hq:(bn.all fun t=>prove 1 (facts F xs pc) (tLe (.rlen t) (.li big)))
 ·rw [hq] at h
  simp only [cond_false] at h
  refine ⟨fun x hx=>h x (List.mem_append.2 (.inr hx)),fun t ht=>key (h (_,true) (List.mem_append.2 (.inl ?_)))⟩
  clear hq h
  induction bn with
  |nil=>cases ht
  |cons a r ih=>
   rcases List.mem_cons.1 ht with rfl|ht
   ·exact List.mem_cons_self ..
   ·exact List.mem_cons_of_mem _ (ih ht)
 ·rw [hq] at h
  rw [List.all_eq_true] at hq
  exact ⟨h,fun t ht=>key (prove_ok (hq t ht) (facts_ok hF hx h))⟩
theorem selP_k {ρ:List AV}{base n n' k k0:Nat}{us:List AV}{c:Pc}(hk0:k0=0∨k0=1)(hk:k<2)(hr:ResK ρ base [n,n'] k us)(h:Pc.holds ρ (selP base [n,n'] k0++c)):k=k0:=by
 have h1:=hr.1 (by show 1<2;omega)
 have e:(((Tm.bin .eql (.int .i64) (.var base []) (.li 0)).den ρ).B)=iEq ((cellAt (ρ.getD base undefA) []).D.I) 0:=rfl
 have e2:cellAt (ρ.getD base undefA) []=ρ.getD base undefA:=by cases ρ.getD base undefA<;>rfl
 rw [e2,h1] at e
 rcases hk0 with rfl|rfl
 ·have q:=h (_,true) (List.mem_append.2 (.inl (List.mem_cons_self ..)))
  dsimp only at q
  rw [e,iEq_t] at q
  omega
 ·have q:=h (_,false) (List.mem_append.2 (.inl (List.mem_cons_self ..)))
  dsimp only at q
  rw [e,iEq_f] at q
  omega
theorem postX_ok {L:Lo}{H:LH}{ρ:List AV}{F:Pc}{xs:List (Pc×Tm)}(hF:Pc.holds ρ F)(hx:ExL ρ xs)(h:L.res H.post ρ):ExL ρ (postX F xs L H):=by
 obtain ⟨pc,base,m,entry,outs,sd,aw,ms,bn⟩:=L
 simp only [postX]
 split
 ·exact hx
 ·rename_i p _
  cases hL:LenOk outs ms
  ·exact hx
  ·simp only [cond_true]
   have sub:∀{a b:Pc},Pc.holds ρ (a++b)→Pc.holds ρ b:=fun h x hx=>h x (List.mem_append.2 (.inr hx))
   split
   ·rename_i n
    refine post1 (fun hp=>?_) hx
    obtain ⟨h1,h2⟩:=bnC_ok hF hx (sub hp)
    obtain ⟨hb,k,us,q1,q2,q3⟩:=h h1 h2
    have hk:=q1 hL
    have:k=0:=by have:=hk.1;simp at this;exact this
    subst this
    exact ⟨hb,us,hk.2,q2.2,q3⟩
   ·rename_i n n'
    refine post1 (fun hp=>?_) (post1 (fun hp=>?_) hx)
    ·obtain ⟨h1,h2⟩:=bnC_ok hF hx (sub hp)
     obtain ⟨hb,k,us,q1,q2,q3⟩:=h h1 h2
     have hk:=q1 hL
     have:=selP_k (.inl rfl) hk.1 q2 hp
     subst this
     exact ⟨hb,us,hk.2,q2.2,q3⟩
    ·obtain ⟨h1,h2⟩:=bnC_ok hF hx (sub hp)
     obtain ⟨hb,k,us,q1,q2,q3⟩:=h h1 h2
     have hk:=q1 hL
     have:=selP_k (.inr rfl) hk.1 q2 hp
     subst this
     exact ⟨hb,us,hk.2,q2.2,q3⟩
   ·exact hx
theorem WkL_take {P:Program}{T:SpT}{ρ:List AV}:∀{n:Nat} {sd:List (Pc×Side)},WkL P T ρ sd→WkL P T ρ (sd.take n)∧WkL P T ρ (sd.drop n)
 |0,sd,h=>⟨trivial,h⟩
 |n+1,[],h=>⟨trivial,trivial⟩
 |n+1,x::r,h=>⟨⟨h.1,(WkL_take (n:=n) h.2).1⟩,(WkL_take (n:=n) h.2).2⟩
theorem SidesC_join {P:Program}{ρ:List AV}:∀{n:Nat} {sd:List (Pc×Side)},SidesC P ρ (sd.take n)→SidesC P ρ (sd.drop n)→SidesC P ρ sd
 |0,sd,_,h=>h
 |n+1,[],_,_=>trivial
 |n+1,x::r,h,k=>⟨h.1,SidesC_join (n:=n) h.2 k⟩
 mutual
theorem chkLo_ok {P:Program}{T:SpT}:∀{L:Lo} {H:LH} {ρ:List AV} {F:Pc} {xs:List (Pc×Tm)},chkLo F T xs L H=true→Pc.holds ρ F→ExL ρ xs→L.wk P T H ρ→L.holds P ρ∧L.res H.post ρ
  | .mk pc base m entry outs sd aw ms bn,H,ρ,F,xs,h,hF,hx,hw=>by
   simp only [chkLo,Bool.and_eq_true] at h
   obtain ⟨h0,⟨hft,h1⟩,h4,h3⟩:=h
   have all:Pc.holds ρ pc→(∀t∈bn,(t.den ρ).R.length≤4294967296)→base≤ρ.length∧∃n k us,(RunN (fun σ=>SidesOk P σ sd∧LoL P aw σ) outs (ρ.take base) m n (denL ρ entry) k us∧∀t∈nthP H.post k,(t.den (ρ.take base++us)).B=true)∧ResK ρ base ms k us:=by
    intro hp hbn
    simp only [Lo.wk] at hw
    obtain ⟨hb,n,k,us,⟨hn0,hn⟩,hr,hres⟩:=hw hp hbn
    have hF0:=facts_ok (holds_app (bnF_ok hbn) hF) hx hp
    have hl:(ρ.take base).length=base:=by rw [List.length_take];omega
    rw [List.all_eq_true] at h1
    have hm:H.mt.isNl=true∨(H.mt.den (ρ.take base++denL ρ entry)).I<(n:Int):=by
     rw [Bool.or_eq_true] at hft
     rcases hft with hft|hft
     ·exact .inl hft
     refine .inr ?_
     split at hft
     ·rename_i mt' hm
      have q:=substE_ok hb hm
      simp only [SimE] at q
      have q2:=ftOk_ok hft hF0
      omega
     ·cases hft
    refine ⟨hb,n,k,us,run_up (xs:=allX (trueAll H.inv++ltPc base (facts (bnF bn++F) xs pc)) T sd 0 aw H.sub H.xs) hl (by rw [Bool.and_eq_true];exact h0) (fun σ hag=>?_) (fun σ hF' hS=>?_) h3 (.inr hn0) (fun t ht=>subOk_ok hb (h1 t ht) hF0) hm hr,hres⟩
    ·refine ltPc_ok (fun i hi=>?_) hF0
     rw [← hag i hi]
     have:=getD_tk (ρ:=ρ) (m:=[]) hb hi
     simpa using this.symm
    ·obtain ⟨z1,z2,z3⟩:=chkA_ok h4 hF' hS.1 hS.2.1 hS.2.2
     exact ⟨⟨z1.ok,z2⟩,z3⟩
   refine ⟨?_,?_⟩
   ·unfold Lo.holds
    intro hp hbn
    obtain ⟨hb,n,k,us,⟨z1,_⟩,z2⟩:=all hp hbn
    exact ⟨hb,n,k,us,z1,z2⟩
   ·intro hp hbn
    obtain ⟨hb,n,k,us,⟨z1,z3⟩,z2⟩:=all hp hbn
    exact ⟨hb,k,us,fun hL=>run_ms hL z1,z2,z3⟩
theorem chkA_ok {P:Program}{T:SpT}:∀{l:List Lo} {sd:List (Pc×Side)} {k:Nat} {hs:List LH} {ρ:List AV} {F:Pc} {xs:List (Pc×Tm)},chkA F T sd k l hs xs=true→Pc.holds ρ F→ExL ρ xs→WkL P T ρ sd→LoW P T l hs ρ→SidesC P ρ sd∧LoL P l ρ∧ExL ρ (allX F T sd k l hs xs)
  |[],sd,k,hs,ρ,F,xs,h,hF,hx,hw,_=>by
   simp only [chkA] at h
   obtain ⟨h1,h2⟩:=chkSd_ok hF hx h hw
   exact ⟨h1,trivial,h2⟩
  |x::r,sd,k,hs,ρ,F,xs,h,hF,hx,hw,hl=>by
   simp only [chkA,Bool.and_eq_true] at h
   simp only [LoW] at hl
   obtain ⟨w1,w2⟩:=WkL_take (n:=(hdH hs).at' - k) hw
   obtain ⟨a1,a2⟩:=chkSd_ok hF hx h.1 w1
   obtain ⟨b1,b2⟩:=chkLo_ok h.2.1 hF a2 hl.1
   obtain ⟨c1,c2,c3⟩:=chkA_ok h.2.2 hF (postX_ok hF a2 b2) w2 hl.2
   exact ⟨SidesC_join a1 c1,⟨b1,c2⟩,c3⟩
end
 mutual
def bndT : SV→Pc
  | .sc .sl t=>[(tLe (.rlen t) (.li big),true)]
  | .agg l=>bndTL l
  | .tup l=>bndTL l
  | .os _ _ _ t=>[(tLe t (.li big),true)]
  | .fn _ x y=>bndTL x++bndTL y
  |_=>[]
def bndTL : List SV→Pc
  |[]=>[]
  |x::r=>bndT x++bndTL r
end
 mutual
theorem bndT_ok {ρ:List AV}:∀{v:SV},(v.den ρ).bnd→Pc.holds ρ (bndT v)
  | .sc k t,h=>by
   cases k<;>simp only [bndT]<;>first|(intro x hx;cases hx;done)|skip
   exact Pc.holds_cons (by
    have:(t.den ρ).R.length≤4294967296:=h.1
    show decide (lLen (t.den ρ).R≤big)=true
    exact decide_eq_true (by unfold lLen big;omega)) fun x hx=>by cases hx
  | .agg l,h=>by simp only [bndT];exact bndTL_ok h
  | .tup l,h=>by simp only [bndT];exact bndTL_ok h
  | .os b sz off t,h=>by
   simp only [bndT]
   exact Pc.holds_cons (by
    have:(t.den ρ).I.toNat≤4294967296:=h
    show decide ((t.den ρ).I≤big)=true
    exact decide_eq_true (by unfold big;omega)) fun x hx=>by cases hx
  | .c _,_=>fun x hx=>by cases hx
  | .nil,_=>fun x hx=>by cases hx
  | .sf _,_=>fun x hx=>by cases hx
  | .slc _ _,_=>fun x hx=>by cases hx
  | .vp _ _,_=>fun x hx=>by cases hx
  | .op _ _ _ _,_=>fun x hx=>by cases hx
  | .fn _ _ _,h=>by simp only [bndT];exact holds_app (bndTL_ok h.1) (bndTL_ok h.2)
  | .ifc _ _,_=>fun x hx=>by cases hx
  | .mp _,_=>fun x hx=>by cases hx
theorem bndTL_ok {ρ:List AV}:∀{l:List SV},bndL (denL ρ l)→Pc.holds ρ (bndTL l)
  |[],_=>fun x hx=>by cases hx
  |x::r,h=>by simp only [bndTL];exact holds_app (bndT_ok h.1) (bndTL_ok h.2)
end
def preF' (args:List SV)(sp:Sp):Pc:=match sbL args sp.pre with
 |some l=>trueAll l
 |none=>[]
def chkF (T:SpT)(sp:Sp)(args bd:List SV)(H:LH)(sd:List (Pc×Side))(aw:List Lo):Bool:=
 let F:=preF' args sp++bndTL bd
 chkA F T sd 0 aw H.sub H.xs
theorem preF'_ok {ρ:List AV}{args:List SV}{sp:Sp}(h:AllT (denL ρ args) sp.pre):Pc.holds ρ (preF' args sp):=by
 unfold preF'
 split
 ·rename_i l hl
  exact trueAll_ok ((sbL_ok hl).2 h).mem
 ·exact fun x hx=>by cases hx
theorem chkF_ok {P:Program}{T:SpT}{sp:Sp}{ρ:List AV}{args bd:List SV}{H:LH}{sd:List (Pc×Side)}{aw:List Lo}(h:chkF T sp args bd H sd aw=true)(hp:AllT (denL ρ args) sp.pre)(hb:Pc.holds ρ (bndTL bd))(hx:ExL ρ H.xs)(hw:WkL P T ρ sd)(hl:LoW P T aw H.sub ρ):SidesC P ρ sd∧LoL P aw ρ∧ExL ρ (allX (preF' args sp++bndTL bd) T sd 0 aw H.sub H.xs):=
 chkA_ok h (holds_app (preF'_ok hp) hb) hx hw hl
def chkR (F:Pc)(xs:List (Pc×Tm))(l:SV→Option (List SV))(post:List Tm):Pc→List (Tm×SV)→Bool
  |_,[]=>true
  |G,[o]=>chkR1 F xs l post G o.2
  |G,o::o'::r=>chkR1 F xs l post (addPc o.1 true G) o.2&&chkR F xs l post (addPc o.1 false G) (o'::r)
 where chkR1 (F:Pc) (xs:List (Pc×Tm)) (l:SV→Option (List SV)) (post:List Tm) (G:Pc) (v:SV):Bool:=match l v with
  |none=>false
  |some l=>match sbL l post with
   |none=>false
   |some q=>chkQ F xs q (q.map fun t=>(t,true)) 6 (cloP G)
theorem chkR_ok {ρ:List AV}{F:Pc}{xs:List (Pc×Tm)}{l:SV→Option (List SV)}{post:List Tm}{A:AV→List AV}(hl:∀v m,l v=some m→denL ρ m=A (v.den ρ))(hF:Pc.holds ρ F)(hx:ExL ρ xs):∀{rs:List (Tm×SV)} {G:Pc},rs≠[]→chkR F xs l post G rs=true→Pc.holds ρ G→AllT (A (selR ρ rs)) post:=by
 have one:∀{G:Pc} {v:SV},chkR.chkR1 F xs l post G v=true→Pc.holds ρ G→AllT (A (v.den ρ)) post:=by
  intro G v h hG
  unfold chkR.chkR1 at h
  split at h
  ·cases h
  rename_i m hm
  split at h
  ·cases h
  rename_i q hq
  rw [← hl v m hm]
  exact (sbL_ok hq).1 (chkQ_ok hF hx h (cloP_ok hG))
 intro rs
 induction rs with
 |nil=>intro G hne;exact absurd rfl hne
 |cons o r ih=>
  intro G _ h hG
  cases r with
  |nil=>exact one h hG
  |cons o' r=>
   simp only [chkR,Bool.and_eq_true] at h
   simp only [selR]
   cases hg:(o.1.den ρ).B
   ·exact ih (by simp) h.2 (addPc_holds hg hG)
   ·exact one h.1 (addPc_holds hg hG)
def bndOk (args bd:List SV)(sp:Sp):Bool:=match sbL args sp.bnd with
 |none=>false
 |some l=>(bndTL bd).all fun x=>x.2&&l.any fun t=>t.beq x.1
theorem bndOk_ok {ρ:List AV}{args bd:List SV}{sp:Sp}(h:bndOk args bd sp=true)(hb:AllT (denL ρ args) sp.bnd):Pc.holds ρ (bndTL bd):=by
 unfold bndOk at h
 split at h
 ·cases h
 rename_i l hl
 rw [List.all_eq_true] at h
 have hb':=((sbL_ok hl).2 hb).mem
 intro x hx
 have q:=h x hx
 rw [Bool.and_eq_true,List.any_eq_true] at q
 obtain ⟨q1,t,q2,q3⟩:=q
 rw [q1,← Tm.beq_eq q3]
 exact hb' t q2
def chkP (T:SpT)(sp:Sp)(args bd:List SV)(H:LH)(R:PRes)(l:SV→Option (List SV)):Bool:=match sp.post with
 |[]=>true
 |post=>match R.rs with
  |[]=>false
  |_::_=>bndOk args bd sp&&(let F:=preF' args sp++bndTL bd;chkR F (allX F T R.sd 0 R.aw H.sub H.xs) l post [] R.rs)
theorem chkP_ok {P:Program}{T:SpT}{sp:Sp}{ρ:List AV}{args bd:List SV}{H:LH}{R:PRes}{l:SV→Option (List SV)}{A:AV→List AV}(hl:∀v m,l v=some m→denL ρ m=A (v.den ρ))(hc:chkF T sp args bd H R.sd R.aw=true)(h:chkP T sp args bd H R l=true)(hp:AllT (denL ρ args) sp.pre)(hb:AllT (denL ρ args) sp.bnd)(hx:ExL ρ H.xs)(hw:WkL P T ρ R.sd)(hlw:LoW P T R.aw H.sub ρ):AllT (A (selR ρ R.rs)) sp.post:=by
 unfold chkP at h
 split at h
 ·rename_i e;rw [e];trivial
 ·rename_i e
  split at h
  ·cases h
  ·rename_i er
   rw [Bool.and_eq_true] at h
   have hbd:=bndOk_ok h.1 hb
   obtain ⟨-,-,hX⟩:=chkF_ok hc hp hbd hx hw hlw
   exact chkR_ok hl (holds_app (preF'_ok hp) hbd) hX (by rw [er];simp) h.2 (fun x hx=>by cases hx)
theorem mk_h {P:Program}(hm:P.follows .mixedOrders=true){X:Ext'}(hX:∀σ:List AV,fzL σ=true→ExtOk P σ X){I0:Inl}(h0:∀σ:List AV,fzL σ=true→InlOk P σ I0){md:Md}{FC:FuncId→FCfg}{unr CF f nv:Nat}{args:List SV}{R:PRes}{az:List AV}{r:AV}{T:SpT}
  (h:sFnI P X I0 md FC unr CF f args nv=some R) (H:LH) (hc:(chkF T (T.at f) args args H R.sd R.aw&&chkP T (T.at f) args args H R fun v=>some (args++[v]))=true) (ρ:List AV) (hρ:fzL ρ=true) (hx:ExL ρ H.xs) (hw:WkL P T ρ R.sd) (hl:LoW P T R.aw H.sub ρ) (ha:denL ρ args=az) (hr:selR ρ R.rs=r):CT P T f az r:=fun hpre=>by
 subst ha
 rw [Bool.and_eq_true] at hc
 refine ⟨pc_bnd fun hb=>?_,fun hb=>?_⟩
 ·obtain ⟨h1,h2,-⟩:=chkF_ok hc.1 hpre (bndTL_ok hb) hx hw hl
  exact mk_pcXIL hm hX h0 (rs:=R.rs) (sd:=R.sd) (aw:=R.aw) h hρ h1 h2 rfl hr
 ·subst hr
  exact chkP_ok (A:=fun r=>denL ρ args++[r]) (fun v m hm=>by simp only [Option.some.injEq] at hm;subst hm;exact denL_app1) hc.1 hc.2 hpre hb hx hw hl
end Go.Fw
end
section
set_option linter.unusedVariables false
set_option linter.unusedSimpArgs false
set_option linter.unusedSectionVars false
namespace Go.Fw
set_option linter.unusedSectionVars false
set_option linter.unusedSimpArgs false
set_option linter.unusedVariables false
variable [Glob]
abbrev V (n:Nat):Tm:=.var n []
abbrev W (n j:Nat):Tm:=.var n [j]
abbrev kI : Kd:=.int .i64
abbrev kU : Kd:=.int .u8
abbrev zI (t:Tm):SV:=.sc (.int .i64) t
abbrev zU (t:Tm):SV:=.sc (.int .u8) t
abbrev zB (t:Tm):SV:=.sc .bool t
abbrev zS (t:Tm):SV:=.sc .str t
abbrev zF (t:Tm):SV:=.sc .flt t
abbrev qL (a b:Tm):Tm:=.bin .lss (.int .i64) a b
abbrev qM (a b:Tm):Tm:=.bin .leq (.int .i64) a b
abbrev qG (a b:Tm):Tm:=.bin .gtr (.int .i64) a b
abbrev qH (a b:Tm):Tm:=.bin .geq (.int .i64) a b
abbrev qE (a b:Tm):Tm:=.bin .eql (.int .i64) a b
abbrev qN (a b:Tm):Tm:=.bin .neq (.int .i64) a b
abbrev uE (a b:Tm):Tm:=.bin .eql (.int .u8) a b
abbrev sE (a b:Tm):Tm:=.bin .eql .str a b
abbrev sN (a b:Tm):Tm:=.bin .neq .str a b
abbrev aI (a b:Tm):Tm:=.bin .add (.int .i64) a b
abbrev mI (a b:Tm):Tm:=.bin .sub (.int .i64) a b
abbrev cV (n:Nat)(l:List Kd):List SV:=cellsV n [] 0 l
abbrev eI (n:Int):AV:=.p (.int .i64 n)
abbrev eB (b:Bool):AV:=.p (.bool b)
abbrev eF (n:Nat):AV:=.p (.float .f64 n)
abbrev eS (s:List UInt8):AV:=.str s
class Fz (a:AV):Prop where h:a.fz=true
class FzL (l:List AV):Prop where h:fzL l=true
class FzR {α:Type}(f:α→List AV):Prop where h:∀x,fzL (f x)=true
instance {v : Value}:Fz (.p v):=⟨rfl⟩
instance {s : List UInt8}:Fz (.str s):=⟨rfl⟩
instance {l : List AV} [h:FzL l]:Fz (.agg l):=⟨h.h⟩
instance {l : List AV} [h:FzL l]:Fz (.tup l):=⟨h.h⟩
instance {α : Type} {f:α→List AV} [h:FzR f] {l:List α}:Fz (.sl (List.map f l) false):=⟨fzs h.h l⟩
instance : FzL []:=⟨rfl⟩
instance : Fz undefA:=⟨rfl⟩
instance {a : AV} {l:List AV} [h:Fz a] [k:FzL l]:FzL (a::l):=⟨fzc h.h k.h⟩
theorem fzL_app : ∀{a b:List AV},fzL a=true→fzL b=true→fzL (a++b)=true
 |[],b,_,h=>h
 |x::r,b,h1,h2=>by
  simp only [fzL,Bool.and_eq_true,List.cons_append] at h1 ⊢
  exact ⟨h1.1,fzL_app h1.2 h2⟩
instance {a b:List AV} [h:FzL a] [k:FzL b]:FzL (a++b):=⟨fzL_app h.h k.h⟩
instance (priority :=low) {α:Type} {f:α→List AV} [h:FzR f] {x:α}:FzL (f x):=⟨h.h x⟩
instance {b : Bool} {x y:List AV} [h:FzL x] [k:FzL y]:FzL (bif b then x else y):=⟨fzb h.h k.h⟩
instance : FzR rowB:=⟨rowB_fz⟩
instance : FzR rowI:=⟨rowI_fz⟩
instance : FzR rowU8:=⟨rowU8_fz⟩
instance : FzR rowS:=⟨rowS_fz⟩
instance {K V:Type} {f:K→List AV} {g:V→List AV} [h:FzR f] [k:FzR g]:FzR (rowM f g):=⟨rowM_fz h.h k.h⟩
class Rok {α:Type}(f:α→List AV)(n:outParam Nat):Prop where h:∀x,(f x).length=n
instance : Rok rowB 1:=⟨fun _=>rfl⟩
instance : Rok rowI 1:=⟨fun _=>rfl⟩
instance : Rok rowU8 1:=⟨fun _=>rfl⟩
instance : Rok rowS 1:=⟨fun _=>rfl⟩
theorem Rok.rok {α:Type}{f:α→List AV}{n:Nat}[h:Rok f n](l:List α):rowsOk n (l.map f):=by
 intro row hr
 obtain ⟨x,-,rfl⟩:=List.mem_map.1 hr
 exact h.h x
section
variable {P : Program} {T:SpT} {ρ:List AV} {pc:Pc} {r:List (Pc×Side)}
theorem wn : WkL P T ρ []:=trivial
theorem wX {s:Side}(h:Pc.holds ρ pc→s.wk P T ρ)(k:WkL P T ρ r):WkL P T ρ ((pc,s)::r):=⟨h,k⟩
theorem wT (k:WkL P T ρ r){t:Tm}:WkL P T ρ ((pc,.tm t)::r):=⟨fun _ h=>h.1,k⟩
theorem leH {a b:Tm}(h:((tLe a b).den ρ).B=true):(a.den ρ).I≤(b.den ρ).I:=of_decide_eq_true h
theorem wCat (k:WkL P T ρ r){x y:Tm}:WkL P T ρ ((pc,.cat x y)::r):=by
 refine ⟨fun _ h=>?_,k⟩
 have h1:=leH h.1
 have h2:=leH h.2.1
 have e:(((tRest (.slen y)).den ρ).I)=iSub .i64 big (sLen (y.den ρ).S):=rfl
 have h1':((y.den ρ).S.length:Int)≤big:=h1
 rw [e,iSubC (by unfold sLen;unfold big at *;omega) (by unfold sLen;unfold big at *;omega)] at h2
 have h2':((x.den ρ).S.length:Int)≤big-((y.den ρ).S.length:Int):=h2
 unfold big at h2'
 show _+_≤_
 omega
theorem wC {f:FuncId}{args:List SV}{v:SV}{az:List AV}{y:AV}(h:CT P T f az y)(k:WkL P T ρ r)(ha:denL ρ args=az:=by rfl)(hv:v.den ρ=y:=by rfl):WkL P T ρ ((pc,.call f args v)::r):=by
 subst ha;subst hv
 exact ⟨fun _=>h,k⟩
theorem ctP {f:FuncId}{az:List AV}{y:AV}(h:PC P f az y)(hT:T.at f=sp0:=by rfl):CT P T f az y:=fun _=>⟨h,fun _=>by rw [hT];trivial⟩
theorem wCp {f:FuncId}{args:List SV}{v:SV}{az:List AV}{y:AV}(h:Pc.holds ρ pc→CT P T f az y)(k:WkL P T ρ r)(ha:denL ρ args=az:=by rfl)(hv:v.den ρ=y:=by rfl):WkL P T ρ ((pc,.call f args v)::r):=by
 subst ha;subst hv
 exact ⟨h,k⟩
end
def RunL (P:Program)(T:SpT)(L:Lo)(H:LH)(ρ0:List AV)(n:Nat)(vs:List AV)(r:Nat×List AV):Prop:=
 match L with
 | .mk _ _ m _ outs sd aw _ _=>RunP H.mt.isNl (fun σ=>ExL σ H.xs∧WkL P T σ sd∧LoW P T aw H.sub σ) outs ρ0 m n vs r.1 r.2
def RndP (e:Bool)(S:List AV→Prop)(outs:List (Tm×Nat×List SV))(ρ0:List AV)(m n:Nat)(σ:List AV)(o:Option (Nat×List SV))(r:Nat×List AV):Prop:=
 match o with
 |none=>False
 |some (0,l)=>RunP e S outs ρ0 m n (denL σ l) r.1 r.2
 |some (j+1,l)=>r.1=j∧r.2=denL σ l
def RndL (P:Program)(T:SpT)(L:Lo)(H:LH)(ρ0:List AV)(n:Nat)(σ:List AV)(o:Option (Nat×List SV))(r:Nat×List AV):Prop:=
 match L with
 | .mk _ _ m _ outs sd aw _ _=>RndP H.mt.isNl (fun σ=>ExL σ H.xs∧WkL P T σ sd∧LoW P T aw H.sub σ) outs ρ0 m n σ o r
theorem l0 {P:Program}{T:SpT}{L:Lo}{H:LH}{ρ0 vs:List AV}{r:Nat×List AV}(h:H.mt.isNl=false:=by rfl):RunL P T L H ρ0 0 vs r:=by cases L;exact h
theorem lmk {P:Program}{T:SpT}{H:LH}{ρ0 vs:List AV}{n:Nat}{r:Nat×List AV}{pc:Pc}{base m:Nat}{entry:List SV}{outs:List (Tm×Nat×List SV)}{sd:List (Pc×Side)}{aw:List Lo}{ms:List Nat}{bn:List Tm}{L:Lo}(hL:L=.mk pc base m entry outs sd aw ms bn)
  (cs:List AV) [hf:FzL (ρ0++vs++cs)] (hx:ExL (ρ0++vs++cs) H.xs) (hw:WkL P T (ρ0++vs++cs) sd) (hl:LoW P T aw H.sub (ρ0++vs++cs)) (h:RndL P T L H ρ0 n (ρ0++vs++cs) (selK (ρ0++vs++cs) outs) r) (hm:vs.length=m:=by rfl):RunL P T L H ρ0 (n+1) vs r:=by
 subst hL
 refine ⟨cs,hm,hf.h,⟨hx,hw,hl⟩,?_⟩
 unfold RndL RndP at h
 dsimp only at h
 split at h
 ·exact h.elim
 ·rename_i l e;first|exact h|(rw [e];exact h)
 ·rename_i j l e;first|exact h|(rw [e];exact h)
theorem rcf {P:Program}{T:SpT}{L:Lo}{H:LH}{ρ0 σ:List AV}{n:Nat}{R:Type}(rk:R→Nat×List AV){g:Tm}{x:Nat×List SV}{y:Tm×Nat×List SV}{l:List (Tm×Nat×List SV)}{c:Bool}{a b:R}(h1:c=true→RndL P T L H ρ0 n σ (some x) (rk a))(h2:c=false→RndL P T L H ρ0 n σ (selK σ (y::l)) (rk b))(hg:(g.den σ).B=c:=by rfl):RndL P T L H ρ0 n σ (selK σ ((g,x)::y::l)) (rk (bif c then a else b)):=by
 simp only [selK,hg]
 cases c
 ·exact h2 rfl
 ·exact h1 rfl
theorem rc {P:Program}{T:SpT}{L:Lo}{H:LH}{ρ0 σ:List AV}{n:Nat}{R:Type}(rk:R→Nat×List AV){g:Tm}{x:Nat×List SV}{y:Tm×Nat×List SV}{l:List (Tm×Nat×List SV)}{c:Bool}{a b:R}(h1:RndL P T L H ρ0 n σ (some x) (rk a))(h2:RndL P T L H ρ0 n σ (selK σ (y::l)) (rk b))(hg:(g.den σ).B=c:=by rfl):RndL P T L H ρ0 n σ (selK σ ((g,x)::y::l)) (rk (bif c then a else b)):=
 rcf rk (fun _=>h1) (fun _=>h2) hg
theorem rl {P:Program}{T:SpT}{L:Lo}{H:LH}{ρ0 σ:List AV}{n:Nat}{r:Nat×List AV}{g:Tm}{x:Nat×List SV}(h:RndL P T L H ρ0 n σ (some x) r):RndL P T L H ρ0 n σ (selK σ [(g,x)]) r:=h
theorem rg {P:Program}{T:SpT}{L:Lo}{H:LH}{ρ0 σ vs:List AV}{n:Nat}{r:Nat×List AV}{l:List SV}(h:RunL P T L H ρ0 n vs r)(hl:denL σ l=vs:=by rfl):RndL P T L H ρ0 n σ (some (0,l)) r:=by
 subst hl
 cases L;exact h
theorem rx {P:Program}{T:SpT}{L:Lo}{H:LH}{ρ0 σ:List AV}{n:Nat}{r:Nat×List AV}{j:Nat}{l:List SV}(h1:r.1=j:=by rfl)(h2:r.2=denL σ l:=by rfl):RndL P T L H ρ0 n σ (some (j+1,l)) r:=by
 cases L;exact ⟨h1,h2⟩
theorem ln {P:Program}{T:SpT}{hs:List LH}{ρ:List AV}:LoW P T [] hs ρ:=trivial
theorem fuR {α:Type}{f:α→List AV}{l:List α}:1*lLen (List.map f l)+0<((l.length+1:Nat):Int):=by simp [lLen];omega
theorem fuN {x:Int}:1*x+0<((x.toNat+1:Nat):Int):=by omega
theorem lc2 {P:Program}{T:SpT}{ρ ρ0 vs:List AV}{hs:List LH}{ls:List Lo}{n m0 m1:Nat}{b:Bool}{u0 u1:List AV}{pc:Pc}{base m:Nat}{entry:List SV}{outs:List (Tm×Nat×List SV)}{sd:List (Pc×Side)}{aw:List Lo}{bn:List Tm}{L:Lo}
  (h:RunL P T L (hdH hs) ρ0 n vs (rk2 b u0 u1)) (k:LoW P T ls (tlH hs) ρ) (hL:L=.mk pc base m entry outs sd aw [m0,m1] bn:=by rfl) (hb:Nat.ble base ρ.length=true:=by rfl) (h0:ρ.take base=ρ0:=by rfl) (hv:denL ρ entry=vs:=by rfl)
  (hn:ftV ρ (hdH hs).ft<(n:Int):=by first|exact fuR|exact fuN) (hk:(ρ.getD base undefA).D.I=selB b:=by rfl) (hu0:(ρ.drop (base+1)).take u0.length=u0:=by rfl) (hu1:(ρ.drop (base+1+m0)).take u1.length=u1:=by rfl) (hn0:Nat.blt 0 n=true:=by rfl):LoW P T (L::ls) hs ρ:=by
 subst hL;subst h0;subst hv
 refine ⟨?_,k⟩
 simp only [Lo.wk]
 rw [Nat.blt_eq] at hn0
 refine fun _ _=>⟨Nat.le_of_ble_eq_true hb,n,(rk2 b u0 u1).1,(rk2 b u0 u1).2,⟨hn0,hn⟩,h,fun _=>?_,?_⟩
 ·rw [hk];cases b<;>rfl
 ·cases b
  ·intro i u hu
   have:=hu_of hu1 i u hu
   have e:posOf base [m0,m1] (rk2 false u0 u1).1=base+1+m0:=by show (base+1)+(m0+0)=_;omega
   rw [e];exact this
  ·intro i u hu
   have:=hu_of hu0 i u hu
   have e:posOf base [m0,m1] (rk2 true u0 u1).1=base+1:=rfl
   rw [e];exact this
theorem xn {ρ:List AV}:ExL ρ []:=trivial
theorem xc {ρ:List AV}{pc:Pc}{t:Tm}{r:List (Pc×Tm)}(h:(t.den ρ).B=true)(k:ExL ρ r):ExL ρ ((pc,t)::r):=⟨fun _=>h,k⟩
section
variable {P : Program} {T:SpT} {X:Ext'} {I0:Inl} {md:Md} {FC:FuncId→FCfg} {unr CF f nv:Nat} {args:List SV} {az:List AV} {r:AV} {R:PRes}
theorem mkH (hm:P.follows .mixedOrders=true)(hX:∀σ:List AV,fzL σ=true→ExtOk P σ X)(h0:∀σ:List AV,fzL σ=true→InlOk P σ I0)(h:sFnI P X I0 md FC unr CF f args nv=some R)(H:LH)(hc:(chkF T (T.at f) args args H R.sd R.aw&&chkP T (T.at f) args args H R fun v=>some (args++[v]))=true)(ρ:List AV)[hρ:FzL ρ](hx:ExL ρ H.xs)(hw:WkL P T ρ R.sd)(hl:LoW P T R.aw H.sub ρ)(hr:selR ρ R.rs=r)(ha:denL ρ args=az:=by rfl):CT P T f az r:=
 mk_h hm hX h0 h H hc ρ hρ.h hx hw hl ha hr
end
end Go.Fw
end
section
set_option linter.unusedVariables false
set_option linter.unusedSimpArgs false
set_option linter.unusedSectionVars false
namespace Go.Fw
set_option linter.unusedVariables false
def eR_Key_ii64 (r:GKey×Int):AV:=.tup [(GKey.av r.1),(.p (.int .i64 r.2))]
def key_Of (x0:List UInt8):GKey:=
 (GKey.mk x0 0)
def key_Sym (x0:Int):GKey:=
 bif ((decide ((x0:Int)<0))||(iEq x0 9223372036854775807)) then (GKey.mk [] 0)
 else (GKey.mk [] (iAdd .i64 x0 1))
def num_Text (x0:Nat):List UInt8:=
 let v1:Bool:=num_May x0
 let v2:List UInt8:=strconv_FormatInt (((FloatKind.f64.decode x0).toInt .zero).getD 0) 10
 bif (fNe x0 x0) then [78,97,78]
 else bif (!v1) then []
 else v2
def value_Text (x0:GVal):List UInt8:=
 let v1:List UInt8:=num_Text x0.Num
 let v2:List UInt8:=str_Quote x0.Str
 let v3:List UInt8:=strconv_Itoa x0.Ref
 let v4:List UInt8:=strconv_Itoa x0.Ref
 bif (iEq x0.Kind 0) then [117,110,100,101,102,105,110,101,100]
 else bif (iEq x0.Kind 1) then [110,117,108,108]
 else bif ((iEq x0.Kind 2)&&(fEq x0.Num 0)) then [102,97,108,115,101]
 else bif (iEq x0.Kind 2) then [116,114,117,101]
 else bif (iEq x0.Kind 3) then v1
 else bif (iEq x0.Kind 4) then v2
 else bif (iEq x0.Kind 5) then ([115,121,109,98,111,108,32]++v3)
 else bif ((iEq x0.Kind 6)||((iEq x0.Kind 7)||(iEq x0.Kind 8))) then ([111,98,106,101,99,116,32]++v4)
 else []
def key_Prim (x0:GVal):GKey×Int:=
 let v1:Bool:=value_May x0
 let v2:Bool:=value_IsObject x0
 let v3:GKey:=key_Of x0.Str
 let v4:GKey:=key_Sym x0.Ref
 let v5:List UInt8:=num_Text x0.Num
 let v6:GKey:=key_Of v5
 let v7:List UInt8:=value_Text x0
 let v8:GKey:=key_Of v7
 bif ((!v1)||v2) then ((GKey.mk [] 0),9)
 else bif (iEq x0.Kind 4) then (v3,0)
 else bif (iEq x0.Kind 5) then (v4,0)
 else bif (iEq x0.Kind 3) then (v6,0)
 else (v8,0)
def key_Index_l1 (x0:GKey):Nat→Int→Bool→Int→Int→(Bool×Int×Bool×Int×Int×Bool)
 |0,_,_,_,_=>default
 |n+1,u1,u2,u3,u4=>
  bif (!(decide ((u4:Int)<(sLen x0.Str)))) then (true,u1,u2,u3,default,default)
  else bif ((decide (((((x0.Str.getD (u4:Int).toNat 0).toNat:Nat):Int):Int)<48))||(decide (((((x0.Str.getD (u4:Int).toNat 0).toNat:Nat):Int):Int) > 57))) then (false,default,default,default,0,false)
  else key_Index_l1 x0 n u1 u2 (iAdd .i64 (iMul .i64 u3 10) (IntKind.wrap .i64 (iSub .u8 (((x0.Str.getD (u4:Int).toNat 0).toNat:Nat):Int) 48))) (iAdd .i64 u4 1)
def key_Index (x0:GKey):Int×Bool:=
 let r1:Bool×Int×Bool×Int×Int×Bool:=key_Index_l1 x0 (((sLen x0.Str):Int).toNat+1) 0 false 0 0
 bif ((((decide ((x0.Sym:Int) > 0))||(sEq x0.Str []))||(decide (((sLen x0.Str):Int) > 4)))||((decide (((sLen x0.Str):Int) > 1))&&(iEq (((x0.Str.getD (0:Int).toNat 0).toNat:Nat):Int) 48))) then (0,false)
 else bif (!(iEq (selB r1.1) 0)) then (r1.2.2.2.2.1,r1.2.2.2.2.2)
 else bif (decide ((r1.2.2.2.1:Int)≥1024)) then (0,false)
 else (r1.2.2.2.1,true)
def key_Check (x0:GKey):Int:=
 bif (((decide ((x0.Sym:Int)<0))||(decide (((sLen x0.Str):Int) > 4096)))||((decide ((x0.Sym:Int) > 0))&&(sNe x0.Str []))) then 9
 else 0
def key_Number (x0:Int):GKey:=
 let v1:List UInt8:=strconv_Itoa x0
 let v2:GKey:=key_Of v1
 v2
def value_Str (x0:List UInt8):GVal:=
 (GVal.mk 4 0 x0 0)
def key_Value (x0:GKey):GVal:=
 let v1:GVal:=value_Str x0.Str
 bif (decide ((x0.Sym:Int) > 0)) then (GVal.mk 5 0 [] (iSub .i64 x0.Sym 1))
 else v1
def key_Text (x0:GKey):List UInt8:=
 let v1:List UInt8:=strconv_Itoa (iSub .i64 x0.Sym 1)
 let v2:List UInt8:=str_Quote x0.Str
 bif (decide ((x0.Sym:Int) > 0)) then ([115,121,109,98,111,108,32]++v1)
 else v2
def law08_KeyBack (x0:GKey)(x1:GKey):Bool:=
 let v2:Bool:=law08_alive
 let v3:Int:=key_Check x0
 let v4:Int:=key_Check x1
 let v5:GVal:=key_Value x0
 let v6:GKey×Int:=key_Prim v5
 let v7:List UInt8:=key_Text x0
 let v8:List UInt8:=key_Text x1
 let v9:Int×Bool:=key_Index x0
 let v10:GKey:=key_Number v9.1
 bif (((iNe v3 0)||(iNe v4 0))||(!v2)) then v2
 else bif (((iNe v6.2 0)||(!((sEq v6.1.Str x0.Str)&&(iEq v6.1.Sym x0.Sym))))||(!(bEq (sEq v7 v8) ((sEq x0.Str x1.Str)&&(iEq x0.Sym x1.Sym))))) then false
 else bif (!v9.2) then (iEq v9.1 0)
 else ((((sEq v10.Str x0.Str)&&(iEq v10.Sym x0.Sym))&&(decide ((v9.1:Int)≥0)))&&(decide ((v9.1:Int)<1024)))
end Go.Fw
end
section
set_option linter.unusedVariables false
set_option linter.unusedSimpArgs false
set_option linter.unusedSectionVars false
namespace Go.Fw
set_option linter.unusedVariables false
set_option linter.unusedSimpArgs false
theorem num_May_eq {x:Nat}(h:x<2 ^ 64):num_May x=ref01_May x:=by
 unfold num_May ref01_May ref01_whole
 dsimp only
 have ht:math_Trunc x=math_archTrunc x:=rfl
 have ha:math_Abs x=x % 9223372036854775808:=abs_eq h
 have hs:math_Signbit x=(rd64 x).neg:=signbit h
 rw [ht,ha,hs,fNe_self,fNe_not x 0,fEq_zero]
 by_cases hn:isNan x=true
 ·simp [hn]
 ·have hn:isNan x=false:=by simpa using hn
  rw [safe_abs x hn,hn]
  cases hx:rd64 x with
  |nan s t=>unfold isNan at hn;rw [hx] at hn;cases hn
  |infinity s=>
   have:(fGe x 14069245235905429503&&fLe x 4845873199050653695)=false:=by
    unfold fGe fLe Ieee.Format.order
    show (((Ieee.Datum.order (rd64 x) _ == _)||(Ieee.Datum.order (rd64 x) _ == _))&&((Ieee.Datum.order (rd64 x) _ == _)||(Ieee.Datum.order (rd64 x) _ == _)))=false
    rw [hx]
    have e1:FloatKind.f64.format.read 4845873199050653695=.number false 9007199254740991 0:=read_safe
    have e2:FloatKind.f64.format.read 14069245235905429503=.number true 9007199254740991 0:=read_nsafe
    rw [e1,e2]
    cases s<;>rfl
   simp [this]
  |number s m i=>
   rw [trunc_same hx]
   simp only [fNe_not,Ieee.Datum.neg]
   cases m with
   |zero=>
    rw [inv_lt hx]
    simp only [Ieee.Datum.isZero]
    generalize (fGe x 14069245235905429503&&fLe x 4845873199050653695)=A
    generalize fEq (FloatKind.f64.nearest (((FloatKind.f64.decode x).toInt .zero).getD 0)) x=B
    cases A<;>cases B<;>cases s<;>rfl
   |succ m=>
    simp only [Ieee.Datum.isZero]
    generalize (fGe x 14069245235905429503&&fLe x 4845873199050653695)=A
    generalize fEq (FloatKind.f64.nearest (((FloatKind.f64.decode x).toInt .zero).getD 0)) x=B
    cases A<;>cases B<;>cases s<;>rfl
theorem num_May_zero : num_May 0=true:=by decide +kernel
def u8 (n:Int):Prop:=0≤n∧n≤255
def GVal.ok (v:GVal):Prop:=u8 v.Kind∧v.Num<2 ^ 64
end Go.Fw
end
section
set_option linter.unusedVariables false
set_option linter.unusedSimpArgs false
set_option linter.unusedSectionVars false
namespace Go.Fw
open Go.Proofs
set_option linter.unusedVariables false
theorem dec_len10 : ∀(k m:Nat),m<10 ^ (k+1)→(Lib.decDigits m).length≤k+1
 |0,m,h=>by rw [Lib.decDigits,dif_pos (by simpa using h)];simp
 |k+1,m,h=>by
  rw [Lib.decDigits]
  split
  ·simp
  ·have:=dec_len10 k (m / 10) (by rw [Nat.pow_succ] at h;omega)
   simp only [List.length_append,List.length_cons,List.length_nil]
   omega
theorem itoa_len {x:Int}(h:inR .i64 x):((Lib.itoa x).length:Int)≤100:=by
 have h0 : -9223372036854775808≤x:=h.1
 have h1:x≤9223372036854775807:=h.2
 have e:(10:Nat) ^ 20=100000000000000000000:=by decide
 unfold Lib.itoa
 split
 ·have:=dec_len10 19 x.natAbs (by omega)
  simp only [List.length_cons]
  omega
 ·have:=dec_len10 19 x.toNat (by omega)
  omega
theorem wrap_eq (n:Int):IntKind.wrap .i64 n=if n % 18446744073709551616≥9223372036854775808 then n % 18446744073709551616-18446744073709551616 else n % 18446744073709551616:=by
 show (if (true&&decide (n % 2 ^ 64≥2 ^ (64-1)))=true then n % 2 ^ 64-2 ^ 64 else n % 2 ^ 64)=_
 simp
theorem wrap_in (n:Int):inR .i64 (IntKind.wrap .i64 n):=by
 rw [wrap_eq]
 refine ⟨?_,?_⟩
 ·show -9223372036854775808≤_
  split<;>omega
 ·show _≤(9223372036854775807:Int)
  split<;>omega
theorem inR_sub {a b:Int}:inR .i64 (iSub .i64 a b):=wrap_in _
theorem inR_of {a:Int}(h0:0≤a)(h1:a≤1024):inR .i64 a:=⟨by show -9223372036854775808≤a;omega,by show a≤9223372036854775807;omega⟩
theorem may_whole {x:Nat}(hx:x<2 ^ 64)(h0:num_May x=true)(h1:fNe x x=false):(ref01_whole x).2=true:=by
 rw [num_May_eq hx] at h0
 unfold ref01_May at h0
 simpa [h1] using h0
theorem whole_if {x:Nat}(h:(ref01_whole x).2=true):fGe x 14069245235905429503=true∧fLe x 4845873199050653695=true∧(ref01_whole x).1=((FloatKind.f64.decode x).toInt .zero).getD 0:=by
 unfold ref01_whole at h ⊢
 cases ha:fGe x 14069245235905429503 with
 |false=>simp [ha] at h
 |true=>
  cases hb:fLe x 4845873199050653695 with
  |false=>simp [ha,hb] at h
  |true=>
   simp only [ha,hb] at h ⊢
   generalize ((fNe (FloatKind.f64.nearest (((FloatKind.f64.decode x).toInt .zero).getD 0)) x)||((fEq x 0)&&(fLt ((FloatKind.f64.format.div 4607182418800017408 x).getD 0) 0)))=B at h ⊢
   cases B with
   |true=>simp at h
   |false=>simp
theorem num_side {P:Program}{ρ:List AV}{x:Tm}(hx:(x.den ρ).F<2 ^ 64)(h0:num_May (x.den ρ).F=true)(h1:fNe (x.den ρ).F (x.den ρ).F=false):Side.holds P ρ (.num .i64 x (.toI x)):=
 have h:=whole_if (may_whole hx h0 h1)
 num1 h.1 h.2.1
theorem num_rng {x:Nat}(hx:x<2 ^ 64)(h0:num_May x=true)(h1:fNe x x=false):inR .i64 (((FloatKind.f64.decode x).toInt .zero).getD 0):=
 have h:=whole_if (may_whole hx h0 h1)
 (num_i64 h.1 h.2.1).2
end Go.Fw
end
section
set_option linter.unusedVariables false
set_option linter.unusedSimpArgs false
set_option linter.unusedSectionVars false
namespace Go.Fw
open Go.Proofs
set_option linter.unusedVariables false
set_option linter.unusedSimpArgs false
def pv : List UInt8→Int→Option Int
 |[],a=>some a
 |c::r,a=>if c.toNat<48∨c.toNat > 57 then none else pv r (10*a+(c.toNat-48))
def tD (n:Nat):List UInt8:=
 if n<10 then [UInt8.ofNat (48+n)] else if n<100 then [UInt8.ofNat (48+n / 10),UInt8.ofNat (48+n % 10)]
 else if n<1000 then [UInt8.ofNat (48+n / 100),UInt8.ofNat (48+n / 10 % 10),UInt8.ofNat (48+n % 10)]
 else [UInt8.ofNat (48+n / 1000),UInt8.ofNat (48+n / 100 % 10),UInt8.ofNat (48+n / 10 % 10),UInt8.ofNat (48+n % 10)]
theorem dec1 {n:Nat}(h:n<10):Lib.decDigits n=[UInt8.ofNat (48+n)]:=by rw [Lib.decDigits,dif_pos h]
theorem dec2 {n:Nat}(h:¬n<10):Lib.decDigits n=Lib.decDigits (n / 10)++[UInt8.ofNat (48+n % 10)]:=by rw [Lib.decDigits,dif_neg h]
theorem tens_D (n:Nat)(h:n<1024):ref07_Tens ((n:Nat):Int)=tD n:=by
 show Lib.itoa (n:Int)=_
 rw [itoa_pos (by omega),Int.toNat_natCast]
 unfold tD
 split
 ·exact dec1 (by omega)
 ·split
  ·rw [dec2 (by omega),dec1 (by omega)];rfl
  ·split
   ·rw [dec2 (by omega),dec2 (by omega),dec1 (by omega),show n / 10 / 10=n / 100 by omega];rfl
   ·rw [dec2 (by omega),dec2 (by omega),dec2 (by omega),dec1 (by omega),show n / 10 / 10 / 10=n / 1000 by omega,show n / 10 / 10=n / 100 by omega];rfl
theorem idx_l1_sym {s:List UInt8}{a b:Int}:∀(n:Nat) {u1:Int} {u2:Bool} {u3 u4:Int},key_Index_l1 ⟨s,a⟩ n u1 u2 u3 u4=key_Index_l1 ⟨s,b⟩ n u1 u2 u3 u4
 |0,_,_,_,_=>rfl
 |n+1,u1,u2,u3,u4=>by
  simp only [key_Index_l1]
  rw [idx_l1_sym (a:=a) (b:=b) n]
theorem idx_sym {s:List UInt8}{a:Int}(h:¬a > 0):key_Index ⟨s,a⟩=key_Index ⟨s,0⟩:=by
 unfold key_Index
 dsimp only
 rw [idx_l1_sym (a:=a) (b:=0),decide_eq_false h,decide_eq_false (by omega:¬(0:Int) > 0)]
theorem idx_sym1 {k:GKey}(h:k.Sym > 0):key_Index k=(0,false):=by
 unfold key_Index
 dsimp only
 rw [decide_eq_true h];rfl
theorem wsub {c:UInt8}(h:48≤c.toNat):IntKind.wrap .i64 (iSub .u8 ((c.toNat:Nat):Int) 48)=c.toNat-48:=by
 have hc:=c.toNat_lt
 have e:iSub .u8 ((c.toNat:Nat):Int) 48=c.toNat-48:=by
  show (if (false&&decide (((c.toNat:Int)-48) % 2 ^ 8≥2 ^ (8-1)))=true then ((c.toNat:Int)-48) % 2 ^ 8-2 ^ 8 else ((c.toNat:Int)-48) % 2 ^ 8)=_
  simp;omega
 rw [e]
 have:=iAddC (a:=(c.toNat:Int)-48) (b:=0) (by omega) (by omega)
 unfold iAdd at this
 simpa using this
theorem sLen_eq (s:List UInt8):sLen s=(s.length:Int):=rfl
theorem idx_l1 {s:List UInt8}{b:Int}(hs:s.length≤4):∀(n j:Nat) {u1:Int} {u2:Bool} {a:Int},j≤s.length→s.length-j<n→0≤a→((j=0∧a≤0)∨(j=1∧a≤9)∨(j=2∧a≤99)∨(j=3∧a≤999)∨(j=4∧a≤9999))→
  ∃r,key_Index_l1 ⟨s,b⟩ n u1 u2 a j=r∧(match pv (s.drop j) a with|none=>r.1=false∧r.2.2.2.2=(0,false)|some v=>r.1=true∧r.2.2.2.1=v)
 |0,j,_,_,a,hj,hn,_,_=>by omega
 |n+1,j,u1,u2,a,hj,hn,h0,h1=>by
  simp only [key_Index_l1,Int.toNat_natCast]
  by_cases hlt:j<s.length
  ·have e:s.drop j=s.getD j 0::s.drop (j+1):=by
    rw [List.drop_eq_getElem_cons hlt];simp [List.getD_eq_getElem?_getD,hlt]
   rw [e]
   have hd:decide ((j:Int)<(sLen s:Int))=true:=decide_eq_true (show (j:Int)<(s.length:Int) by omega)
   simp only [hd,Bool.not_true,cond_false,pv]
   obtain ⟨c,hcc⟩:∃c,s.getD j 0=c:=⟨_,rfl⟩
   simp only [hcc]
   by_cases hc:c.toNat<48∨c.toNat > 57
   ·have:(decide (((c.toNat:Nat):Int)<48)||decide (((c.toNat:Nat):Int) > 57))=true:=by
     rw [← Bool.decide_or];exact decide_eq_true (by omega)
    simp only [this,cond_true,hc,if_true]
    exact ⟨_,rfl,rfl,rfl⟩
   ·have:(decide (((c.toNat:Nat):Int)<48)||decide (((c.toNat:Nat):Int) > 57))=false:=by
     rw [← Bool.decide_or];exact decide_eq_false (by omega)
    simp only [this,cond_false,hc,if_false]
    rw [wsub (by omega),iMulC (by omega) (by omega),iAddC (by omega) (by omega),qAdd (by omega),show a*10+(↑c.toNat-48)=10*a+(↑c.toNat-48) by omega]
    exact idx_l1 hs n (j+1) (by omega) (by omega) (by omega) (by omega)
  ·rw [List.drop_eq_nil_iff.2 (by omega)]
   have hd:decide ((j:Int)<(sLen s:Int))=false:=decide_eq_false (show ¬(j:Int)<(s.length:Int) by omega)
   simp only [hd,Bool.not_false,cond_true,pv]
   exact ⟨_,rfl,rfl,rfl⟩
theorem idx_eq {s:List UInt8}:key_Index ⟨s,0⟩=if s=[]∨s.length > 4∨(s.length > 1∧(s.getD 0 0).toNat=48) then (0,false) else match pv s 0 with|none=>(0,false)|some v=>if v≥1024 then (0,false) else (v,true):=by
 unfold key_Index
 dsimp only
 have hg:(((decide ((0:Int) > 0)||sEq s [])||decide ((sLen s:Int) > 4))||(decide ((sLen s:Int) > 1)&&iEq (((s.getD (0:Int).toNat 0).toNat:Nat):Int) 48))=decide (s=[]∨s.length > 4∨(s.length > 1∧(s.getD 0 0).toNat=48)):=by
  rw [qsEq,qiEq,sLen_eq,← Bool.decide_or,← Bool.decide_or,← Bool.decide_and,← Bool.decide_or]
  apply decide_eq_decide.2
  have:(0:Int).toNat=0:=rfl
  rw [this]
  constructor
  ·rintro (((h|h)|h)|⟨h1,h2⟩)
   ·omega
   ·exact Or.inl h
   ·exact Or.inr (Or.inl (by omega))
   ·exact Or.inr (Or.inr ⟨by omega,by omega⟩)
  ·rintro (h|h|⟨h1,h2⟩)
   ·exact Or.inl (Or.inl (Or.inr h))
   ·exact Or.inl (Or.inr (by omega))
   ·exact Or.inr ⟨by omega,by omega⟩
 rw [hg]
 by_cases h:s=[]∨s.length > 4∨(s.length > 1∧(s.getD 0 0).toNat=48)
 ·rw [if_pos h,decide_eq_true h];rfl
 ·rw [if_neg h,decide_eq_false h]
  obtain ⟨r,hr,hm⟩:=idx_l1 (s:=s) (b:=0) (by omega) ((sLen s:Int).toNat+1) 0 (u1:=0) (u2:=false) (a:=0) (by omega) (by rw [sLen_eq];omega) (by omega) (by omega)
  simp only [show (((0:Nat):Int))=0 from rfl,List.drop_zero] at hr hm
  rw [hr]
  cases hp:pv s 0 with
  |none=>
   rw [hp] at hm
   rw [qsel,hm.1,hm.2];rfl
  |some v=>
   rw [hp] at hm
   rw [qsel,hm.1,hm.2]
   by_cases hv:v≥1024<;>simp [hv]
theorem u8eq {a:UInt8}{n:Nat}(h:a.toNat=n):UInt8.ofNat n=a:=by subst h;simp
theorem idx_back {s:List UInt8}{v:Int}(h:key_Index ⟨s,0⟩=(v,true)):∃n:Nat,v=n∧n<1024∧ref07_Tens (n:Int)=s:=by
 rw [idx_eq] at h
 split at h
 ·cases h
 rename_i hg
 cases hp:pv s 0 with
 |none=>rw [hp] at h;cases h
 |some w=>
  rw [hp] at h
  simp only at h
  split at h
  ·cases h
  rename_i hw
  simp only [Prod.mk.injEq,and_true] at h
  subst h
  match s,hg,hp with
  |[],hg,hp=>exact absurd (Or.inl rfl) hg
  |[a],hg,hp=>
   simp only [pv] at hp
   split at hp
   ·cases hp
   simp only [Option.some.injEq] at hp
   refine ⟨a.toNat-48,by omega,by omega,?_⟩
   rw [tens_D _ (by omega)]
   unfold tD
   rw [if_pos (by omega),u8eq (a:=a) (by omega)]
  |[a,b],hg,hp=>
   simp only [pv] at hp
   split at hp
   ·cases hp
   split at hp
   ·cases hp
   simp only [Option.some.injEq] at hp
   simp at hg
   refine ⟨10*(a.toNat-48)+(b.toNat-48),by omega,by omega,?_⟩
   rw [tens_D _ (by omega)]
   unfold tD
   rw [if_neg (by omega),if_pos (by omega),u8eq (a:=a) (by omega),u8eq (a:=b) (by omega)]
  |[a,b,c],hg,hp=>
   simp only [pv] at hp
   split at hp
   ·cases hp
   split at hp
   ·cases hp
   split at hp
   ·cases hp
   simp only [Option.some.injEq] at hp
   simp at hg
   refine ⟨100*(a.toNat-48)+10*(b.toNat-48)+(c.toNat-48),by omega,by omega,?_⟩
   rw [tens_D _ (by omega)]
   unfold tD
   rw [if_neg (by omega),if_neg (by omega),if_pos (by omega),u8eq (a:=a) (by omega),u8eq (a:=b) (by omega),u8eq (a:=c) (by omega)]
  |[a,b,c,d],hg,hp=>
   simp only [pv] at hp
   split at hp
   ·cases hp
   split at hp
   ·cases hp
   split at hp
   ·cases hp
   split at hp
   ·cases hp
   simp only [Option.some.injEq] at hp
   simp at hg
   refine ⟨1000*(a.toNat-48)+100*(b.toNat-48)+10*(c.toNat-48)+(d.toNat-48),by omega,by omega,?_⟩
   rw [tens_D _ (by omega)]
   unfold tD
   rw [if_neg (by omega),if_neg (by omega),if_neg (by omega),u8eq (a:=a) (by omega),u8eq (a:=b) (by omega),u8eq (a:=c) (by omega),u8eq (a:=d) (by omega)]
  |a::b::c::d::e::r,hg,hp=>exact absurd (Or.inr (Or.inl (by simp))) hg
theorem idx_false {s:List UInt8}{x:Int}(h:key_Index ⟨s,0⟩=(x,false)):x=0:=by
 rw [idx_eq] at h
 split at h
 ·cases h;rfl
 ·split at h
  ·cases h;rfl
  ·split at h
   ·cases h;rfl
   ·cases h
theorem inR_idx {k:GKey}:inR .i64 (key_Index k).1:=by
 by_cases h:k.Sym > 0
 ·rw [idx_sym1 h];exact inR_of (by decide) (by decide)
 ·obtain ⟨s,a⟩:=k
  rw [idx_sym h]
  generalize hk:key_Index ⟨s,0⟩=x
  obtain ⟨v,b⟩:=x
  cases b with
  |true=>
   obtain ⟨n,rfl,h1,_⟩:=idx_back hk
   exact inR_of (by omega) (by omega)
  |false=>
   rw [idx_false hk];exact inR_of (by decide) (by decide)
theorem kv_str {k:GKey}(h:k.wf):(key_Value k).Str.length≤1048576:=by
 unfold key_Value
 cases decide (k.Sym > 0)
 ·exact h.Str
 ·exact Nat.zero_le _
theorem kv_ref {k:GKey}(h:k.wf):inR .i64 (key_Value k).Ref:=by
 unfold key_Value
 cases decide (k.Sym > 0)
 ·show inR .i64 (0:Int)
  exact inR_of (by decide) (by decide)
 ·exact wrap_in _
theorem kv_num {k:GKey}:(key_Value k).Num<2 ^ 64:=by
 unfold key_Value
 cases decide (k.Sym > 0)
 ·show (0:Nat)<2 ^ 64
  decide
 ·show (0:Nat)<2 ^ 64
  decide
end Go.Fw
end
section
set_option linter.unusedVariables false
set_option linter.unusedSimpArgs false
set_option linter.unusedSectionVars false
namespace Go.Fw
set_option linter.unusedVariables false
set_option linter.unusedSimpArgs false
set_option maxRecDepth 100000
set_option maxHeartbeats 4000000
open Go.Proofs
instance : FzR GVal.enc:=⟨GVal.fzL⟩
instance {x : GVal}:Fz (GVal.av x):=⟨GVal.fz x⟩
instance : Rok GVal.enc 4:=⟨GVal.len⟩
instance : FzR GKey.enc:=⟨GKey.fzL⟩
instance {x : GKey}:Fz (GKey.av x):=⟨GKey.fz x⟩
instance : Rok GKey.enc 2:=⟨GKey.len⟩
instance : FzR GDesc.enc:=⟨GDesc.fzL⟩
instance {x : GDesc}:Fz (GDesc.av x):=⟨GDesc.fz x⟩
instance : Rok GDesc.enc 16:=⟨GDesc.len⟩
instance : FzR GProp.enc:=⟨GProp.fzL⟩
instance {x : GProp}:Fz (GProp.av x):=⟨GProp.fz x⟩
instance : Rok GProp.enc 18:=⟨GProp.len⟩
instance : FzR GObj.enc:=⟨GObj.fzL⟩
instance {x : GObj}:Fz (GObj.av x):=⟨GObj.fz x⟩
instance : Rok GObj.enc 18:=⟨GObj.len⟩
instance : FzR GHeap.enc:=⟨GHeap.fzL⟩
instance {x : GHeap}:Fz (GHeap.av x):=⟨GHeap.fz x⟩
instance : Rok GHeap.enc 1:=⟨GHeap.len⟩
instance : FzR GOut.enc:=⟨GOut.fzL⟩
instance {x : GOut}:Fz (GOut.av x):=⟨GOut.fz x⟩
instance : Rok GOut.enc 26:=⟨GOut.len⟩
instance : FzR GSeen.enc:=⟨GSeen.fzL⟩
instance {x : GSeen}:Fz (GSeen.av x):=⟨GSeen.fz x⟩
instance : Rok GSeen.enc 32:=⟨GSeen.len⟩
instance : FzR GAsk.enc:=⟨GAsk.fzL⟩
instance {x : GAsk}:Fz (GAsk.av x):=⟨GAsk.fz x⟩
instance : Rok GAsk.enc 29:=⟨GAsk.len⟩
instance : FzR GWant.enc:=⟨GWant.fzL⟩
instance {x : GWant}:Fz (GWant.av x):=⟨GWant.fz x⟩
instance : Rok GWant.enc 87:=⟨GWant.len⟩
instance : FzR GFix.enc:=⟨GFix.fzL⟩
instance {x : GFix}:Fz (GFix.av x):=⟨GFix.fz x⟩
instance : Rok GFix.enc 23:=⟨GFix.len⟩
instance : FzR GFacts.enc:=⟨GFacts.fzL⟩
instance {x : GFacts}:Fz (GFacts.av x):=⟨GFacts.fz x⟩
instance : Rok GFacts.enc 24:=⟨GFacts.len⟩
instance {r : GKey×Int}:Fz (eR_Key_ii64 r):=⟨(inferInstance:FzL [(GKey.av r.1),(.p (.int .i64 r.2))]).h⟩
instance {r : Int×Bool}:Fz (eR_ii64_bool r):=⟨(inferInstance:FzL [(.p (.int .i64 r.1)),(.p (.bool r.2))]).h⟩
noncomputable def xBase : Ext':=xOr (xNum 65 64 62) (xClone Tryd.prog)
theorem xBase_ok : ∀σ:List AV,fzL σ=true→ExtOk Tryd.prog σ xBase:=xOr_ok (xNum_ok pc_math_Float64bits pc_math_Float64frombits pc_math_archTrunc) xClone_ok
noncomputable def iBase : Inl:=inOr (inlRefT Tryd.prog refCfg) (inOr (inlO Tryd.prog (ocT [(37,[],2,true)])) (notF [71,72] (inlW Tryd.prog (wcT [(100000,[(0,18)]),(60,[(1,2)]),(80,[(1,2)]),(81,[(1,2)]),(88,[(1,2)]),(91,[(1,2)]),(100000,[]),(100000,[]),(100000,[]),(100000,[])]))))
theorem iBase_ok : ∀σ:List AV,fzL σ=true→InlOk Tryd.prog σ iBase:=inOr_ok (inlRefT_ok refOk) (inOr_ok inlO_ok (notF_ok inlW_ok))
def mdI : Md:=mdT 4212491666754739009775603535740533325308849843402242741379931308032
def kA : List (List Nat):=[[],[],[],[],[],[],[],[],[],[],[],[],[],[],[],[],[],[],[],[],[],[],[],[],[],[],[],[],[],[],[],[],[],[],[],[],[],[],[],[],[],[],[],[],[],[],[],[],[],[],[0,1,2,5,6,7,8,9,30,31,32,33,34,35,36,37],[],[0,1,4,5],[],[],[],[],[],[],[],[1,2,4,5,6,7,11,26,31,49],[],[],[],[],[],[],[],[],[],[],[],[],[],[],[],[],[],[],[],[1,2,3,6,7,12,20,21,22,23,24,25,26],[1,2,3,4,8,9,10,11,12,13,14,15,16,17,18,19,20,21,22,26,31,42,50,62,67,79,86,106,117,131,142,143,144,145,155,156,157,158,168,169,170,171],[],[],[],[],[],[],[1,2,3,4,8,9,18,21],[],[],[1,2,3,4,8,11],[],[],[],[],[],[],[],[],[],[],[],[],[],[],[],[],[],[],[],[],[],[],[],[],[],[],[]]
def sT : SpT:=⟨[(49,⟨[(qM (.li 0) (V 0)),(qM (V 0) (.bin .add kU (V 0) (.li 1))),(qM (.bin .add kU (V 0) (.li 1)) (.li 16))],[],[]⟩),
 (36,⟨[(qM (.slen (V 0)) (.li 1048576))],[],[]⟩),
 (29,⟨[(qM (.slen (W 0 2)) (.li 1048576))],[],[]⟩),
 (6,⟨[(qM (.slen (W 0 2)) (.li 1048576))],[],[]⟩),
 (20,⟨[(qM (.slen (W 0 0)) (.li 1048576))],[],[]⟩)],[]⟩
def R53 : PRes:=
 ⟨[((.lb true),(zF (V 1)))],
 [([],(.call 62 [(zF (V 0))] (zF (V 1))))],[]⟩
theorem e53 : sFnI Tryd.prog xBase iBase mdI (fcI kA 53 [] []) 3 200 53 [zF (V 0)] 1=some R53:=by kernel_rfl
theorem ct_math_Trunc (x0:Nat)(h0:notNan x0):CT Tryd.prog sT 53 [eF x0] (eF (math_Trunc x0)):=
 let v1:Nat:=math_archTrunc x0
 mkH hmix xBase_ok iBase_ok e53 lh0 (by kernel_rfl) [eF x0,eF v1] xn
  (wCp (by intro h;exact ctP (pc_math_archTrunc x0 h0))<|wn)
  ln
  (selL rfl)
def R54 : PRes:=
 ⟨[((.lb true),(zF (V 2)))],
 [([],(.call 65 [(zF (V 0))] (.sc (.int .u64) (V 1)))),
 ([],(.call 64 [(.sc (.int .u64) (.bin .andNot (.int .u64) (V 1) (.li 9223372036854775808)))] (zF (V 2))))],[]⟩
theorem e54 : sFnI Tryd.prog xBase iBase mdI (fcI kA 54 [] []) 3 200 54 [zF (V 0)] 1=some R54:=by kernel_rfl
theorem ct_math_Abs (x0:Nat):CT Tryd.prog sT 54 [eF x0] (eF (math_Abs x0)):=
 let v1:Int:=math_Float64bits x0
 let v2:Nat:=math_Float64frombits (iAndNot .u64 v1 9223372036854775808)
 mkH hmix xBase_ok iBase_ok e54 lh0 (by kernel_rfl) [eF x0,.p (.int .u64 v1),eF v2] xn
  (wC (ctP (pc_math_Float64bits x0)) <|
  wC (ctP (pc_math_Float64frombits (iAndNot .u64 v1 9223372036854775808))) <|
  wn)
  ln
  (selL rfl)
def R55 : PRes:=
 ⟨[((.lb true),(zB (qL (.conv .i64 (V 1)) (.li 0))))],
 [([],(.call 65 [(zF (V 0))] (.sc (.int .u64) (V 1))))],[]⟩
theorem e55 : sFnI Tryd.prog xBase iBase mdI (fcI kA 55 [] []) 3 200 55 [zF (V 0)] 1=some R55:=by kernel_rfl
theorem ct_math_Signbit (x0:Nat):CT Tryd.prog sT 55 [eF x0] (eB (math_Signbit x0)):=
 let v1:Int:=math_Float64bits x0
 mkH hmix xBase_ok iBase_ok e55 lh0 (by kernel_rfl) [eF x0,.p (.int .u64 v1)] xn
  (wC (ctP (pc_math_Float64bits x0))<|wn)
  ln
  (selL rfl)
def R38 : PRes:=
 let p0:Pc:=((.bin .neq .flt (V 0) (V 0)),false)::[]
 let p1:Pc:=((.bin .eql .flt (V 1) (V 0)),true)::p0
 let p2:Pc:=((.and (.bin .eql .flt (V 1) (V 0)) (.bin .leq .flt (V 2) (.lf 4845873199050653695))),true)::p0
 let p3:Pc:=((.bin .neq .flt (V 0) (.lf 0)),false)::p2
 ⟨[((.lb true),(zB (.or (.bin .neq .flt (V 0) (V 0)) (.and (.and (.bin .eql .flt (V 1) (V 0)) (.bin .leq .flt (V 2) (.lf 4845873199050653695))) (.or (.bin .neq .flt (V 0) (.lf 0)) (.not (V 3)))))))],
 [(p0,(.call 53 [(zF (V 0))] (zF (V 1)))),
 (p1,(.call 54 [(zF (V 0))] (zF (V 2)))),
 (p3,(.call 55 [(zF (V 0))] (zB (V 3))))],[]⟩
theorem e38 : sFnI Tryd.prog xBase iBase mdI (fcI kA 38 [] []) 3 200 38 [zF (V 0)] 1=some R38:=by kernel_rfl
theorem ct_num_May (x0:Nat):CT Tryd.prog sT 38 [eF x0] (eB (num_May x0)):=
 let v1:Nat:=math_Trunc x0
 let v2:Nat:=math_Abs x0
 let v3:Bool:=math_Signbit x0
 mkH hmix xBase_ok iBase_ok e38 lh0 (by kernel_rfl) [eF x0,eF v1,eF v2,eB v3] xn
  (wCp (by intro h;exact ct_math_Trunc x0 (fnn3 (h.at 0 rfl))) <|
  wC (ct_math_Abs x0) <|
  wC (ct_math_Signbit x0) <|
  wn)
  ln
  (selL rfl)
def R22 : PRes:=
 let p0:Pc:=((qG (.slen (W 0 2)) (.li 4096)),false)::[]
 let p1:Pc:=((qL (W 0 3) (.li 0)),false)::p0
 let p2:Pc:=((.bin .gtr kU (W 0 0) (.li 8)),false)::p1
 let p3:Pc:=((uE (W 0 0) (.li 2)),true)::p2
 let p4:Pc:=((.bin .neq .flt (W 0 1) (.lf 4607182418800017408)),true)::p3
 let p5:Pc:=((.bin .neq .flt (W 0 1) (.lf 0)),false)::p4
 let p6:Pc:=((uE (W 0 0) (.li 2)),false)::p2
 let p7:Pc:=((uE (W 0 0) (.li 3)),true)::p6
 let p8:Pc:=((.and (uE (W 0 0) (.li 2)) (.and (.bin .neq .flt (W 0 1) (.lf 4607182418800017408)) (.or (.bin .neq .flt (W 0 1) (.lf 0)) (.not (V 1))))),false)::p2
 let p9:Pc:=((.and (.not (uE (W 0 0) (.li 2))) (.and (uE (W 0 0) (.li 3)) (.not (V 2)))),false)::p8
 let p10:Pc:=((.and (uE (W 0 0) (W 0 0)) (.and (.or (uE (W 0 0) (.li 2)) (.or (uE (W 0 0) (.li 3)) (.bin .eql .flt (W 0 1) (.lf 0)))) (.and (.ite (uE (W 0 0) (.li 2)) (sE (W 0 2) (.ls [])) (.ite (uE (W 0 0) (.li 3)) (sE (W 0 2) (.ls [])) (.or (uE (W 0 0) (.li 4)) (sE (W 0 2) (.ls []))))) (.ite (uE (W 0 0) (.li 2)) (qE (W 0 3) (.li 0)) (.ite (uE (W 0 0) (.li 3)) (qE (W 0 3) (.li 0)) (.ite (uE (W 0 0) (.li 4)) (qE (W 0 3) (.li 0)) (.or (.or (uE (W 0 0) (.li 5)) (.or (uE (W 0 0) (.li 6)) (.or (uE (W 0 0) (.li 7)) (uE (W 0 0) (.li 8))))) (qE (W 0 3) (.li 0))))))))),true)::p9
 ⟨[((.or (.or (.bin .gtr kU (W 0 0) (.li 8)) (qL (W 0 3) (.li 0))) (qG (.slen (W 0 2)) (.li 4096))),(zB (.lb false))),((.and (uE (W 0 0) (.li 2)) (.and (.bin .neq .flt (W 0 1) (.lf 4607182418800017408)) (.or (.bin .neq .flt (W 0 1) (.lf 0)) (.not (V 1))))),(zB (.lb false))),((.and (.not (uE (W 0 0) (.li 2))) (.and (uE (W 0 0) (.li 3)) (.not (V 2)))),(zB (.lb false))),((.lb true),(zB (.and (.and (uE (W 0 0) (W 0 0)) (.and (.or (uE (W 0 0) (.li 2)) (.or (uE (W 0 0) (.li 3)) (.bin .eql .flt (W 0 1) (.lf 0)))) (.and (.ite (uE (W 0 0) (.li 2)) (sE (W 0 2) (.ls [])) (.ite (uE (W 0 0) (.li 3)) (sE (W 0 2) (.ls [])) (.or (uE (W 0 0) (.li 4)) (sE (W 0 2) (.ls []))))) (.ite (uE (W 0 0) (.li 2)) (qE (W 0 3) (.li 0)) (.ite (uE (W 0 0) (.li 3)) (qE (W 0 3) (.li 0)) (.ite (uE (W 0 0) (.li 4)) (qE (W 0 3) (.li 0)) (.or (.or (uE (W 0 0) (.li 5)) (.or (uE (W 0 0) (.li 6)) (.or (uE (W 0 0) (.li 7)) (uE (W 0 0) (.li 8))))) (qE (W 0 3) (.li 0))))))))) (V 3))))],
 [(p5,(.call 38 [(zF (W 0 1))] (zB (V 1)))),
 (p7,(.call 38 [(zF (W 0 1))] (zB (V 2)))),
 (p10,(.call 38 [(zF (.ite (uE (W 0 0) (.li 2)) (.lf 0) (.ite (uE (W 0 0) (.li 3)) (.lf 0) (W 0 1))))] (zB (V 3))))],[]⟩
theorem e22 : sFnI Tryd.prog xBase iBase mdI (fcI kA 22 [] []) 3 200 22 [.agg (cV 0 GVal.kds)] 1=some R22:=by kernel_rfl
theorem ct_value_May (x0:GVal):CT Tryd.prog sT 22 [GVal.av x0] (eB (value_May x0)):=
 let v1:Bool:=num_May x0.Num
 let v2:Bool:=num_May x0.Num
 let v3:Bool:=num_May (bif (iEq x0.Kind 2) then 0 else (bif (iEq x0.Kind 3) then 0 else x0.Num))
 mkH hmix xBase_ok iBase_ok e22 lh0 (by kernel_rfl) [GVal.av x0,eB v1,eB v2,eB v3] xn
  (wC (ct_num_May x0.Num) <|
  wC (ct_num_May x0.Num) <|
  wC (ct_num_May (bif (iEq x0.Kind 2) then 0 else (bif (iEq x0.Kind 3) then 0 else x0.Num))) <|
  wn)
  ln
  (selE (fun r=>.p (.bool r)) rfl rfl (selE (fun r=>.p (.bool r)) rfl rfl (selE (fun r=>.p (.bool r)) rfl rfl (selL rfl))))
def R23 : PRes:=
 ⟨[((.lb true),(zB (.and (.bin .geq kU (W 0 0) (.li 6)) (.bin .leq kU (W 0 0) (.li 8)))))],
 [],[]⟩
theorem e23 : sFnI Tryd.prog xBase iBase mdI (fcI kA 23 [] []) 3 200 23 [.agg (cV 0 GVal.kds)] 1=some R23:=by kernel_rfl
theorem ct_value_IsObject (x0:GVal):CT Tryd.prog sT 23 [GVal.av x0] (eB (value_IsObject x0)):=
 mkH hmix xBase_ok iBase_ok e23 lh0 (by kernel_rfl) [GVal.av x0] xn
  wn
  ln
  (selL rfl)
def R11 : PRes:=
 ⟨[((.lb true),(.agg [(zS (V 0)),(zI (.li 0))]))],
 [],[]⟩
theorem e11 : sFnI Tryd.prog xBase iBase mdI (fcI kA 11 [] []) 3 200 11 [zS (V 0)] 1=some R11:=by kernel_rfl
theorem ct_key_Of (x0:List UInt8):CT Tryd.prog sT 11 [eS x0] (GKey.av (key_Of x0)):=
 mkH hmix xBase_ok iBase_ok e11 lh0 (by kernel_rfl) [eS x0] xn
  wn
  ln
  (selL rfl)
def R12 : PRes:=
 ⟨[((.or (qL (V 0) (.li 0)) (qE (V 0) (.li 9223372036854775807))),(.agg [(zS (.ls [])),(zI (.li 0))])),((.lb true),(.agg [(zS (.ls [])),(zI (aI (V 0) (.li 1)))]))],
 [],[]⟩
theorem e12 : sFnI Tryd.prog xBase iBase mdI (fcI kA 12 [] []) 3 200 12 [zI (V 0)] 1=some R12:=by kernel_rfl
theorem ct_key_Sym (x0:Int):CT Tryd.prog sT 12 [eI x0] (GKey.av (key_Sym x0)):=
 mkH hmix xBase_ok iBase_ok e12 lh0 (by kernel_rfl) [eI x0] xn
  wn
  ln
  (selE GKey.av rfl rfl (selL rfl))
def R24 : PRes:=
 let p0:Pc:=((.bin .neq .flt (V 0) (V 0)),false)::[]
 let p1:Pc:=((V 1),true)::p0
 ⟨[((.bin .neq .flt (V 0) (V 0)),(zS (.ls [78,97,78]))),((.not (V 1)),(zS (.ls []))),((.lb true),(zS (V 2)))],
 [(p0,(.call 38 [(zF (V 0))] (zB (V 1)))),
 (p1,(.num .i64 (V 0) (.toI (V 0)))),
 (p1,(.call 39 [(zI (.toI (V 0))),(zI (.li 10))] (zS (V 2))))],[]⟩
theorem e24 : sFnI Tryd.prog xBase iBase mdI (fcI kA 24 [] []) 3 200 24 [zF (V 0)] 1=some R24:=by kernel_rfl
theorem ct_num_Text (x0:Nat)(h0:x0<2 ^ 64):CT Tryd.prog sT 24 [eF x0] (eS (num_Text x0)):=
 let v1:Bool:=num_May x0
 let v2:List UInt8:=strconv_FormatInt (((FloatKind.f64.decode x0).toInt .zero).getD 0) 10
 mkH hmix xBase_ok iBase_ok e24 lh0 (by kernel_rfl) [eF x0,eB v1,eS v2] xn
  (wC (ct_num_May x0) <|
  wX (fun h _=>num_side h0 (h.at 0 rfl) (h.at 1 rfl)) <|
  wCp (by intro h;exact ctP (pc_strconv_FormatInt (((FloatKind.f64.decode x0).toInt .zero).getD 0) 10 (num_rng h0 (h.at 0 rfl) (h.at 1 rfl)) rfl)) <|
  wn)
  ln
  (selE (fun r=>.str r) rfl rfl (selE (fun r=>.str r) rfl rfl (selL rfl)))
def R25 : PRes:=
 let p0:Pc:=((uE (W 0 0) (.li 0)),false)::[]
 let p1:Pc:=((uE (W 0 0) (.li 1)),false)::p0
 let p2:Pc:=((uE (W 0 0) (.li 2)),false)::p1
 let p3:Pc:=((uE (W 0 0) (.li 3)),true)::p2
 let p4:Pc:=((uE (W 0 0) (.li 3)),false)::p2
 let p5:Pc:=((uE (W 0 0) (.li 4)),true)::p4
 let p6:Pc:=((uE (W 0 0) (.li 4)),false)::p4
 let p7:Pc:=((uE (W 0 0) (.li 5)),true)::p6
 let p8:Pc:=((uE (W 0 0) (.li 5)),false)::p6
 let p9:Pc:=((.or (uE (W 0 0) (.li 6)) (.or (uE (W 0 0) (.li 7)) (uE (W 0 0) (.li 8)))),true)::p8
 ⟨[((uE (W 0 0) (.li 0)),(zS (.ls [117,110,100,101,102,105,110,101,100]))),((uE (W 0 0) (.li 1)),(zS (.ls [110,117,108,108]))),((.and (uE (W 0 0) (.li 2)) (.bin .eql .flt (W 0 1) (.lf 0))),(zS (.ls [102,97,108,115,101]))),((uE (W 0 0) (.li 2)),(zS (.ls [116,114,117,101]))),((uE (W 0 0) (.li 3)),(zS (V 1))),((uE (W 0 0) (.li 4)),(zS (V 2))),((uE (W 0 0) (.li 5)),(zS (.bin .add .str (.ls [115,121,109,98,111,108,32]) (V 3)))),((.or (uE (W 0 0) (.li 6)) (.or (uE (W 0 0) (.li 7)) (uE (W 0 0) (.li 8)))),(zS (.bin .add .str (.ls [111,98,106,101,99,116,32]) (V 4)))),((.lb true),(zS (.ls [])))],
 [(p3,(.call 24 [(zF (W 0 1))] (zS (V 1)))),
 (p5,(.call 35 [(zS (W 0 2))] (zS (V 2)))),
 (p7,(.call 31 [(zI (W 0 3))] (zS (V 3)))),
 (p7,(.cat (.ls [115,121,109,98,111,108,32]) (V 3))),
 (p9,(.call 31 [(zI (W 0 3))] (zS (V 4)))),
 (p9,(.cat (.ls [111,98,106,101,99,116,32]) (V 4)))],[]⟩
def H25 : LH:=.mk [] (.li 0) [] [([],(qM (.slen (V 3)) (.li 100))),([],(qM (.slen (V 4)) (.li 100)))] 0 [] []
theorem e25 : sFnI Tryd.prog xBase iBase mdI (fcI kA 25 [] []) 3 200 25 [.agg (cV 0 GVal.kds)] 1=some R25:=by kernel_rfl
theorem ct_value_Text (x0:GVal)(h0:x0.Str.length≤1048576)(h1:inR .i64 x0.Ref)(h2:x0.Num<2 ^ 64):CT Tryd.prog sT 25 [GVal.av x0] (eS (value_Text x0)):=
 let v1:List UInt8:=num_Text x0.Num
 let v2:List UInt8:=str_Quote x0.Str
 let v3:List UInt8:=strconv_Itoa x0.Ref
 let v4:List UInt8:=strconv_Itoa x0.Ref
 mkH hmix xBase_ok iBase_ok e25 H25 (by kernel_rfl) [GVal.av x0,eS v1,eS v2,eS v3,eS v4] (xc (decide_eq_true (itoa_len h1))<|xc (decide_eq_true (itoa_len h1))<|xn)
  (wCp (by intro h;exact ct_num_Text x0.Num h2) <|
  wCp (by intro h;exact ctP (pc_str_Quote x0.Str (by omega))) <|
  wCp (by intro h;exact ctP (pc_strconv_Itoa x0.Ref h1)) <|
  wCat <|
  wCp (by intro h;exact ctP (pc_strconv_Itoa x0.Ref h1)) <|
  wCat <|
  wn)
  ln
  (selE (fun r=>.str r) rfl rfl (selE (fun r=>.str r) rfl rfl (selE (fun r=>.str r) rfl rfl (selE (fun r=>.str r) rfl rfl (selE (fun r=>.str r) rfl rfl (selE (fun r=>.str r) rfl rfl (selE (fun r=>.str r) rfl rfl (selE (fun r=>.str r) rfl rfl (selL rfl)))))))))
def R5 : PRes:=
 let p0:Pc:=((.not (V 1)),false)::[]
 let p1:Pc:=((V 2),false)::[]
 let p2:Pc:=((V 1),true)::p1
 let p3:Pc:=((uE (W 0 0) (.li 4)),true)::p2
 let p4:Pc:=((uE (W 0 0) (.li 4)),false)::p2
 let p5:Pc:=((uE (W 0 0) (.li 5)),true)::p4
 let p6:Pc:=((uE (W 0 0) (.li 5)),false)::p4
 let p7:Pc:=((uE (W 0 0) (.li 3)),true)::p6
 let p8:Pc:=((uE (W 0 0) (.li 3)),false)::p6
 ⟨[((.or (.not (V 1)) (V 2)),(.tup [(.agg [(zS (.ls [])),(zI (.li 0))]),(zI (.li 9))])),((uE (W 0 0) (.li 4)),(.tup [(.agg [(zS (W 3 0)),(zI (W 3 1))]),(zI (.li 0))])),((uE (W 0 0) (.li 5)),(.tup [(.agg [(zS (W 4 0)),(zI (W 4 1))]),(zI (.li 0))])),((uE (W 0 0) (.li 3)),(.tup [(.agg [(zS (W 6 0)),(zI (W 6 1))]),(zI (.li 0))])),((.lb true),(.tup [(.agg [(zS (W 8 0)),(zI (W 8 1))]),(zI (.li 0))]))],
 [([],(.call 22 [(.agg (cV 0 GVal.kds))] (zB (V 1)))),
 (p0,(.call 23 [(.agg (cV 0 GVal.kds))] (zB (V 2)))),
 (p3,(.call 11 [(zS (W 0 2))] (.agg [(zS (W 3 0)),(zI (W 3 1))]))),
 (p5,(.call 12 [(zI (W 0 3))] (.agg [(zS (W 4 0)),(zI (W 4 1))]))),
 (p7,(.call 24 [(zF (W 0 1))] (zS (V 5)))),
 (p7,(.call 11 [(zS (V 5))] (.agg [(zS (W 6 0)),(zI (W 6 1))]))),
 (p8,(.call 25 [(.agg (cV 0 GVal.kds))] (zS (V 7)))),
 (p8,(.call 11 [(zS (V 7))] (.agg [(zS (W 8 0)),(zI (W 8 1))])))],[]⟩
theorem e5 : sFnI Tryd.prog xBase iBase mdI (fcI kA 5 [] []) 3 200 5 [.agg (cV 0 GVal.kds)] 1=some R5:=by kernel_rfl
theorem ct_key_Prim (x0:GVal)(h0:x0.Str.length≤1048576)(h1:inR .i64 x0.Ref)(h2:x0.Num<2 ^ 64):CT Tryd.prog sT 5 [GVal.av x0] (eR_Key_ii64 (key_Prim x0)):=
 let v1:Bool:=value_May x0
 let v2:Bool:=value_IsObject x0
 let v3:GKey:=key_Of x0.Str
 let v4:GKey:=key_Sym x0.Ref
 let v5:List UInt8:=num_Text x0.Num
 let v6:GKey:=key_Of v5
 let v7:List UInt8:=value_Text x0
 let v8:GKey:=key_Of v7
 mkH hmix xBase_ok iBase_ok e5 lh0 (by kernel_rfl) [GVal.av x0,eB v1,eB v2,GKey.av v3,GKey.av v4,eS v5,GKey.av v6,eS v7,GKey.av v8] xn
  (wC (ct_value_May x0) <|
  wC (ct_value_IsObject x0) <|
  wC (ct_key_Of x0.Str) <|
  wC (ct_key_Sym x0.Ref) <|
  wCp (by intro h;exact ct_num_Text x0.Num h2) <|
  wC (ct_key_Of v5) <|
  wCp (by intro h;exact ct_value_Text x0 h0 h1 h2) <|
  wC (ct_key_Of v7) <|
  wn)
  ln
  (selE eR_Key_ii64 rfl rfl (selE eR_Key_ii64 rfl rfl (selE eR_Key_ii64 rfl rfl (selE eR_Key_ii64 rfl rfl (selL rfl)))))
def R6 : PRes:=
 let p0:Pc:=((.not (V 1)),false)::[]
 let p1:Pc:=((V 2),false)::[]
 let p2:Pc:=((V 1),true)::p1
 let p3:Pc:=((uE (W 0 0) (.li 4)),false)::p2
 let p4:Pc:=((uE (W 0 0) (.li 5)),true)::p3
 let p5:Pc:=((uE (W 0 0) (.li 5)),false)::p3
 let p6:Pc:=((uE (W 0 0) (.li 3)),true)::p5
 let p7:Pc:=((uE (W 0 0) (.li 3)),false)::p5
 ⟨[((.or (.not (V 1)) (V 2)),(.tup [(.agg [(zS (.ls [])),(zI (.li 0))]),(zI (.li 9))])),((uE (W 0 0) (.li 4)),(.tup [(.agg [(zS (W 0 2)),(zI (.li 0))]),(zI (.li 0))])),((uE (W 0 0) (.li 5)),(.tup [(.agg [(zS (W 3 0)),(zI (W 3 1))]),(zI (.li 0))])),((uE (W 0 0) (.li 3)),(.tup [(.agg [(zS (V 4)),(zI (.li 0))]),(zI (.li 0))])),((.lb true),(.tup [(.agg [(zS (V 5)),(zI (.li 0))]),(zI (.li 0))]))],
 [([],(.call 26 [(.agg (cV 0 GVal.kds))] (zB (V 1)))),
 (p0,(.call 27 [(.agg (cV 0 GVal.kds))] (zB (V 2)))),
 (p4,(.call 13 [(zI (W 0 3))] (.agg [(zS (W 3 0)),(zI (W 3 1))]))),
 (p6,(.call 28 [(zF (W 0 1))] (zS (V 4)))),
 (p7,(.call 29 [(.agg (cV 0 GVal.kds))] (zS (V 5))))],[]⟩
theorem e6 : sFnI Tryd.prog xBase iBase mdI (fcI kA 6 [] []) 3 200 6 [.agg (cV 0 GVal.kds)] 1=some R6:=by kernel_rfl
def L7_1 : Lo:=
 let p0:Pc:=((.and (qG (.slen (W 0 0)) (.li 1)) (uE (.byte (W 0 0) (.li 0)) (.li 48))),false)::[]
 let p1:Pc:=((qG (.slen (W 0 0)) (.li 4)),false)::p0
 let p2:Pc:=((sE (W 0 0) (.ls [])),false)::p1
 let p3:Pc:=((qG (W 0 1) (.li 0)),false)::p2
 let p4:Pc:=((qL (V 4) (.slen (W 0 0))),true)::p3
 let p5:Pc:=((.bin .lss kU (.byte (W 0 0) (V 4)) (.li 48)),false)::p4
 let p6:Pc:=((.bin .gtr kU (.byte (W 0 0) (V 4)) (.li 57)),false)::p4
 let p7:Pc:=((.bin .lss kU (.byte (W 0 0) (V 4)) (.li 48)),false)::p6
 .mk [((qG (W 0 1) (.li 0)),false),((sE (W 0 0) (.ls [])),false),((qG (.slen (W 0 0)) (.li 4)),false),((.and (qG (.slen (W 0 0)) (.li 1)) (uE (.byte (W 0 0) (.li 0)) (.li 48))),false)] 1 4 [(zI (.li 0)),(zB (.lb false)),(zI (.li 0)),(zI (.li 0))] [((.not (qL (V 4) (.slen (W 0 0)))),1,[(zI (V 1)),(zB (V 2)),(zI (V 3))]),((.or (.bin .lss kU (.byte (W 0 0) (V 4)) (.li 48)) (.bin .gtr kU (.byte (W 0 0) (V 4)) (.li 57))),2,[(zI (.li 0)),(zB (.lb false))]),((.lb true),0,[(zI (V 1)),(zB (V 2)),(zI (aI (.bin .mul kI (V 3) (.li 10)) (.conv .i64 (.bin .sub kU (.byte (W 0 0) (V 4)) (.li 48))))),(zI (aI (V 4) (.li 1)))])] [(p4,(.tm (qM (.li 0) (V 4)))),
 (p5,(.tm (qM (.li 0) (V 4)))),
 (p7,(.tm (qM (.li 0) (V 4))))] [] [3,2] []
def H7_1 : LH:=.mk [(qM (.li 0) (V 4))] (mI (.slen (W 0 0)) (V 4)) [((.slen (W 0 0)),1)] [] 1 [] []
def rk_key_Index_l1 (r:Bool×Int×Bool×Int×Int×Bool):Nat×List AV:=rk2 r.1 [eI r.2.1,eB r.2.2.1,eI r.2.2.2.1] [eI r.2.2.2.2.1,eB r.2.2.2.2.2]
theorem lp_key_Index_l1 (x0:GKey):∀(n:Nat) (u1:Int) (u2:Bool) (u3:Int) (u4:Int),RunL Tryd.prog sT L7_1 H7_1 [GKey.av x0] n [eI u1,eB u2,eI u3,eI u4] (rk_key_Index_l1 (key_Index_l1 x0 n u1 u2 u3 u4))
 |0,u1,u2,u3,u4=>l0
 |n+1,u1,u2,u3,u4=>
  lmk rfl [] xn (wT <|
  wT <|
  wT <|
  wn) ln <|
   rc rk_key_Index_l1 rx<|rc rk_key_Index_l1 rx<|rl (rg (lp_key_Index_l1 x0 n _ _ _ _))
def R7 : PRes:=
 let p0:Pc:=((.or (.or (qG (W 0 1) (.li 0)) (sE (W 0 0) (.ls []))) (qG (.slen (W 0 0)) (.li 4))),false)::[]
 let p1:Pc:=((qG (.slen (W 0 0)) (.li 1)),true)::p0
 ⟨[((.or (.or (.or (qG (W 0 1) (.li 0)) (sE (W 0 0) (.ls []))) (qG (.slen (W 0 0)) (.li 4))) (.and (qG (.slen (W 0 0)) (.li 1)) (uE (.byte (W 0 0) (.li 0)) (.li 48)))),(.tup [(zI (.li 0)),(zB (.lb false))])),((.not (qE (V 1) (.li 0))),(.tup [(zI (V 5)),(zB (V 6))])),((qH (V 4) (.li 1024)),(.tup [(zI (.li 0)),(zB (.lb false))])),((.lb true),(.tup [(zI (V 4)),(zB (.lb true))]))],
 [(p1,(.tm (qL (.li 0) (.slen (W 0 0)))))],[L7_1]⟩
def H7 : LH:=.mk [] (.li 0) [] [] 0 [H7_1] []
theorem e7 : sFnI Tryd.prog xBase iBase mdI (fcI kA 7 [44,46,45,47,48,35,5,4,2,3] [(0,(.mk [1,34] (.mk [(2,(.sc kI)),(3,(.sc .bool)),(4,(.sc kI)),(35,(.sc kI))] [] [] 34 []) [(.normal,(.mk [(2,(.sc kI)),(3,(.sc .bool)),(4,(.sc kI))] [] [] 34 [])),(.ret,(.mk [(2,(.sc kI)),(3,(.sc .bool))] [] [] 34 []))]))]) 3 200 7 [.agg (cV 0 GKey.kds)] 1=some R7:=by kernel_rfl
theorem ct_key_Index (x0:GKey):CT Tryd.prog sT 7 [GKey.av x0] (eR_ii64_bool (key_Index x0)):=
 let r1:Bool×Int×Bool×Int×Int×Bool:=key_Index_l1 x0 (((sLen x0.Str):Int).toNat+1) 0 false 0 0
 mkH hmix xBase_ok iBase_ok e7 H7 (by kernel_rfl) [GKey.av x0,eI (selB r1.1),eI r1.2.1,eB r1.2.2.1,eI r1.2.2.2.1,eI r1.2.2.2.2.1,eB r1.2.2.2.2.2] xn
  (wT<|wn)
  (lc2 (lp_key_Index_l1 x0 (((sLen x0.Str):Int).toNat+1) 0 false 0 0) <|
  ln)
  (selE eR_ii64_bool rfl rfl (selE eR_ii64_bool rfl rfl (selE eR_ii64_bool rfl rfl (selL rfl))))
def L8_1 : Lo:=
 let p0:Pc:=((qG (.slen (W 0 0)) (.li 4)),false)::[]
 let p1:Pc:=((qG (W 0 1) (.li 0)),false)::p0
 let p2:Pc:=((qL (V 3) (.li 1024)),true)::p1
 .mk [((qG (W 0 1) (.li 0)),false),((qG (.slen (W 0 0)) (.li 4)),false)] 1 3 [(zI (.li 0)),(zB (.lb false)),(zI (.li 0))] [((.not (qL (V 3) (.li 1024))),1,[(zI (V 1)),(zB (V 2))]),((sE (V 4) (W 0 0)),2,[(zI (V 3)),(zB (.lb true))]),((.lb true),0,[(zI (V 1)),(zB (V 2)),(zI (aI (V 3) (.li 1)))])] [(p2,(.call 30 [(zI (V 3))] (zS (V 4))))] [] [2,2] []
def R8 : PRes:=
 ⟨[((.or (qG (W 0 1) (.li 0)) (qG (.slen (W 0 0)) (.li 4))),(.tup [(zI (.li 0)),(zB (.lb false))])),((.not (qE (V 1) (.li 0))),(.tup [(zI (V 4)),(zB (V 5))])),((.lb true),(.tup [(zI (.li 0)),(zB (.lb false))]))],
 [],[L8_1]⟩
theorem e8 : sFnI Tryd.prog xBase iBase mdI (fcI kA 8 [4,2,3] [(0,(.mk [1] (.mk [(2,(.sc kI)),(3,(.sc .bool)),(4,(.sc kI))] [] [] 13 []) [(.normal,(.mk [(2,(.sc kI)),(3,(.sc .bool))] [] [] 13 [])),(.ret,(.mk [(2,(.sc kI)),(3,(.sc .bool))] [] [] 13 []))]))]) 3 200 8 [.agg (cV 0 GKey.kds)] 1=some R8:=by kernel_rfl
def R9 : PRes:=
 ⟨[((.or (.or (qL (W 0 1) (.li 0)) (qG (.slen (W 0 0)) (.li 4096))) (.and (qG (W 0 1) (.li 0)) (sN (W 0 0) (.ls [])))),(zI (.li 9))),((.lb true),(zI (.li 0)))],
 [],[]⟩
theorem e9 : sFnI Tryd.prog xBase iBase mdI (fcI kA 9 [] []) 3 200 9 [.agg (cV 0 GKey.kds)] 1=some R9:=by kernel_rfl
theorem ct_key_Check (x0:GKey):CT Tryd.prog sT 9 [GKey.av x0] (eI (key_Check x0)):=
 mkH hmix xBase_ok iBase_ok e9 lh0 (by kernel_rfl) [GKey.av x0] xn
  wn
  ln
  (selE (fun r=>.p (.int .i64 r)) rfl rfl (selL rfl))
def R10 : PRes:=
 ⟨[((.or (.or (qL (W 0 1) (.li 0)) (qG (.slen (W 0 0)) (.li 4096))) (.and (qG (W 0 1) (.li 0)) (qG (.slen (W 0 0)) (.li 0)))),(zI (.li 9))),((.lb true),(zI (.li 0)))],
 [],[]⟩
theorem e10 : sFnI Tryd.prog xBase iBase mdI (fcI kA 10 [] []) 3 200 10 [.agg (cV 0 GKey.kds)] 1=some R10:=by kernel_rfl
def R14 : PRes:=
 ⟨[((.lb true),(.agg [(zS (W 2 0)),(zI (W 2 1))]))],
 [([],(.call 31 [(zI (V 0))] (zS (V 1)))),
 ([],(.call 11 [(zS (V 1))] (.agg [(zS (W 2 0)),(zI (W 2 1))])))],[]⟩
theorem e14 : sFnI Tryd.prog xBase iBase mdI (fcI kA 14 [] []) 3 200 14 [zI (V 0)] 1=some R14:=by kernel_rfl
theorem ct_key_Number (x0:Int)(h0:inR .i64 x0):CT Tryd.prog sT 14 [eI x0] (GKey.av (key_Number x0)):=
 let v1:List UInt8:=strconv_Itoa x0
 let v2:GKey:=key_Of v1
 mkH hmix xBase_ok iBase_ok e14 lh0 (by kernel_rfl) [eI x0,eS v1,GKey.av v2] xn
  (wCp (by intro h;exact ctP (pc_strconv_Itoa x0 h0)) <|
  wC (ct_key_Of v1) <|
  wn)
  ln
  (selL rfl)
def R33 : PRes:=
 ⟨[((.lb true),(.agg [(zU (.li 4)),(zF (.lf 0)),(zS (V 0)),(zI (.li 0))]))],
 [],[]⟩
theorem e33 : sFnI Tryd.prog xBase iBase mdI (fcI kA 33 [] []) 3 200 33 [zS (V 0)] 1=some R33:=by kernel_rfl
theorem ct_value_Str (x0:List UInt8):CT Tryd.prog sT 33 [eS x0] (GVal.av (value_Str x0)):=
 mkH hmix xBase_ok iBase_ok e33 lh0 (by kernel_rfl) [eS x0] xn
  wn
  ln
  (selL rfl)
def R17 : PRes:=
 let p0:Pc:=((qG (W 0 1) (.li 0)),false)::[]
 ⟨[((qG (W 0 1) (.li 0)),(.agg [(zU (.li 5)),(zF (.lf 0)),(zS (.ls [])),(zI (mI (W 0 1) (.li 1)))])),((.lb true),(.agg (cV 1 GVal.kds)))],
 [(p0,(.call 33 [(zS (W 0 0))] (.agg (cV 1 GVal.kds))))],[]⟩
theorem e17 : sFnI Tryd.prog xBase iBase mdI (fcI kA 17 [] []) 3 200 17 [.agg (cV 0 GKey.kds)] 1=some R17:=by kernel_rfl
theorem ct_key_Value (x0:GKey):CT Tryd.prog sT 17 [GKey.av x0] (GVal.av (key_Value x0)):=
 let v1:GVal:=value_Str x0.Str
 mkH hmix xBase_ok iBase_ok e17 lh0 (by kernel_rfl) [GKey.av x0,GVal.av v1] xn
  (wC (ct_value_Str x0.Str)<|wn)
  ln
  (selE GVal.av rfl rfl (selL rfl))
def R19 : PRes:=
 let p0:Pc:=((qG (W 0 1) (.li 0)),true)::[]
 let p1:Pc:=((qG (W 0 1) (.li 0)),false)::[]
 ⟨[((qG (W 0 1) (.li 0)),(zS (.bin .add .str (.ls [115,121,109,98,111,108,32]) (V 1)))),((.lb true),(zS (V 2)))],
 [(p0,(.call 31 [(zI (mI (W 0 1) (.li 1)))] (zS (V 1)))),
 (p0,(.cat (.ls [115,121,109,98,111,108,32]) (V 1))),
 (p1,(.call 35 [(zS (W 0 0))] (zS (V 2))))],[]⟩
def H19 : LH:=.mk [] (.li 0) [] [([],(qM (.slen (V 1)) (.li 100)))] 0 [] []
theorem e19 : sFnI Tryd.prog xBase iBase mdI (fcI kA 19 [] []) 3 200 19 [.agg (cV 0 GKey.kds)] 1=some R19:=by kernel_rfl
theorem ct_key_Text (x0:GKey)(h0:x0.Str.length≤1048576):CT Tryd.prog sT 19 [GKey.av x0] (eS (key_Text x0)):=
 let v1:List UInt8:=strconv_Itoa (iSub .i64 x0.Sym 1)
 let v2:List UInt8:=str_Quote x0.Str
 mkH hmix xBase_ok iBase_ok e19 H19 (by kernel_rfl) [GKey.av x0,eS v1,eS v2] (xc (decide_eq_true (itoa_len inR_sub))<|xn)
  (wCp (by intro h;exact ctP (pc_strconv_Itoa (iSub .i64 x0.Sym 1) inR_sub)) <|
  wCat <|
  wCp (by intro h;exact ctP (pc_str_Quote x0.Str (by omega))) <|
  wn)
  ln
  (selE (fun r=>.str r) rfl rfl (selL rfl))
def R3 : PRes:=
 let p0:Pc:=((qG (.slen (W 2 2)) (.li 9000)),false)::[]
 let p1:Pc:=((qG (.slen (W 0 0)) (.li 9000)),false)::p0
 let p2:Pc:=((.and (.and (.and (.and (sE (.var 3 [0,0]) (.var 4 [0,0])) (qE (.var 3 [0,1]) (.var 4 [0,1]))) (qE (W 3 1) (W 4 1))) (qE (W 5 0) (W 6 0))) (.bin .eql .bool (W 5 1) (W 6 1))),true)::p1
 let p3:Pc:=((.and (sE (W 9 0) (W 0 0)) (qE (W 9 1) (.li 0))),true)::p1
 let p4:Pc:=((.and (.and (sE (W 9 0) (W 0 0)) (qE (W 9 1) (.li 0))) (.and (sE (W 10 0) (W 11 0)) (qE (W 10 1) (W 11 1)))),true)::p1
 let p5:Pc:=((.and (.and (.and (.and (.and (.and (sE (.var 3 [0,0]) (.var 4 [0,0])) (qE (.var 3 [0,1]) (.var 4 [0,1]))) (qE (W 3 1) (W 4 1))) (qE (W 5 0) (W 6 0))) (.bin .eql .bool (W 5 1) (W 6 1))) (qE (V 7) (V 8))) (.and (.and (.and (sE (W 9 0) (W 0 0)) (qE (W 9 1) (.li 0))) (.and (sE (W 10 0) (W 11 0)) (qE (W 10 1) (W 11 1)))) (.and (sE (W 12 0) (W 13 0)) (qE (W 12 1) (W 13 1))))),true)::p1
 let p6:Pc:=((.and (.and (.and (.and (.and (.and (.and (sE (.var 3 [0,0]) (.var 4 [0,0])) (qE (.var 3 [0,1]) (.var 4 [0,1]))) (qE (W 3 1) (W 4 1))) (qE (W 5 0) (W 6 0))) (.bin .eql .bool (W 5 1) (W 6 1))) (qE (V 7) (V 8))) (.and (.and (.and (sE (W 9 0) (W 0 0)) (qE (W 9 1) (.li 0))) (.and (sE (W 10 0) (W 11 0)) (qE (W 10 1) (W 11 1)))) (.and (sE (W 12 0) (W 13 0)) (qE (W 12 1) (W 13 1))))) (V 16)),true)::p1
 ⟨[((.or (qG (.slen (W 0 0)) (.li 9000)) (qG (.slen (W 2 2)) (.li 9000))),(zB (.lb true))),((.lb true),(zB (.and (.and (.and (.and (.and (.and (.and (.and (sE (.var 3 [0,0]) (.var 4 [0,0])) (qE (.var 3 [0,1]) (.var 4 [0,1]))) (qE (W 3 1) (W 4 1))) (qE (W 5 0) (W 6 0))) (.bin .eql .bool (W 5 1) (W 6 1))) (qE (V 7) (V 8))) (.and (.and (.and (sE (W 9 0) (W 0 0)) (qE (W 9 1) (.li 0))) (.and (sE (W 10 0) (W 11 0)) (qE (W 10 1) (W 11 1)))) (.and (sE (W 12 0) (W 13 0)) (qE (W 12 1) (W 13 1))))) (V 16)) (sE (V 17) (V 18)))))],
 [(p1,(.call 5 [(.agg (cV 2 GVal.kds))] (.tup [(.agg [(zS (.var 3 [0,0])),(zI (.var 3 [0,1]))]),(zI (W 3 1))]))),
 (p1,(.call 6 [(.agg (cV 2 GVal.kds))] (.tup [(.agg [(zS (.var 4 [0,0])),(zI (.var 4 [0,1]))]),(zI (W 4 1))]))),
 (p1,(.call 7 [(.agg [(zS (W 0 0)),(zI (W 0 1))])] (.tup [(zI (W 5 0)),(zB (W 5 1))]))),
 (p1,(.call 8 [(.agg [(zS (W 0 0)),(zI (W 0 1))])] (.tup [(zI (W 6 0)),(zB (W 6 1))]))),
 (p2,(.call 9 [(.agg [(zS (W 0 0)),(zI (W 0 1))])] (zI (V 7)))),
 (p2,(.call 10 [(.agg [(zS (W 0 0)),(zI (W 0 1))])] (zI (V 8)))),
 (p1,(.call 11 [(zS (W 0 0))] (.agg [(zS (W 9 0)),(zI (W 9 1))]))),
 (p3,(.call 12 [(zI (V 1))] (.agg [(zS (W 10 0)),(zI (W 10 1))]))),
 (p3,(.call 13 [(zI (V 1))] (.agg [(zS (W 11 0)),(zI (W 11 1))]))),
 (p4,(.call 14 [(zI (V 1))] (.agg [(zS (W 12 0)),(zI (W 12 1))]))),
 (p4,(.call 15 [(zI (V 1))] (.agg [(zS (W 13 0)),(zI (W 13 1))]))),
 (p5,(.call 17 [(.agg [(zS (W 0 0)),(zI (W 0 1))])] (.agg (cV 14 GVal.kds)))),
 (p5,(.call 18 [(.agg [(zS (W 0 0)),(zI (W 0 1))])] (.agg (cV 15 GVal.kds)))),
 (p5,(.call 16 [(.agg (cV 14 GVal.kds)),(.agg (cV 15 GVal.kds))] (zB (V 16)))),
 (p6,(.call 19 [(.agg [(zS (W 0 0)),(zI (W 0 1))])] (zS (V 17)))),
 (p6,(.call 20 [(.agg [(zS (W 0 0)),(zI (W 0 1))])] (zS (V 18))))],[]⟩
theorem e3 : sFnI Tryd.prog xBase iBase mdI (fcI kA 3 [] []) 3 200 3 [.agg (cV 0 GKey.kds),zI (V 1),.agg (cV 2 GVal.kds)] 3=some R3:=by kernel_rfl
def R4 : PRes:=
 let p0:Pc:=((qN (V 3) (.li 0)),false)::[]
 let p1:Pc:=((V 2),true)::[]
 let p2:Pc:=((qN (V 4) (.li 0)),false)::p1
 let p3:Pc:=((qN (V 3) (.li 0)),false)::p2
 let p4:Pc:=((.or (qN (W 6 1) (.li 0)) (.not (.and (sE (.var 6 [0,0]) (W 0 0)) (qE (.var 6 [0,1]) (W 0 1))))),false)::p3
 let p5:Pc:=((.bin .eql .bool (sE (V 7) (V 8)) (.and (sE (W 0 0) (W 1 0)) (qE (W 0 1) (W 1 1)))),true)::p3
 let p6:Pc:=((qE (.var 6 [0,1]) (W 0 1)),true)::p5
 let p7:Pc:=((sE (.var 6 [0,0]) (W 0 0)),true)::p6
 let p8:Pc:=((qN (W 6 1) (.li 0)),false)::p7
 let p9:Pc:=((W 9 1),true)::p8
 ⟨[((.or (.or (qN (V 3) (.li 0)) (qN (V 4) (.li 0))) (.not (V 2))),(zB (V 2))),((.or (.or (qN (W 6 1) (.li 0)) (.not (.and (sE (.var 6 [0,0]) (W 0 0)) (qE (.var 6 [0,1]) (W 0 1))))) (.not (.bin .eql .bool (sE (V 7) (V 8)) (.and (sE (W 0 0) (W 1 0)) (qE (W 0 1) (W 1 1)))))),(zB (.lb false))),((.not (W 9 1)),(zB (qE (W 9 0) (.li 0)))),((.lb true),(zB (.and (.and (.and (sE (W 10 0) (W 0 0)) (qE (W 10 1) (W 0 1))) (qH (W 9 0) (.li 0))) (qL (W 9 0) (.li 1024)))))],
 [([],(.call 21 [] (zB (V 2)))),
 ([],(.call 9 [(.agg [(zS (W 0 0)),(zI (W 0 1))])] (zI (V 3)))),
 (p0,(.call 9 [(.agg [(zS (W 1 0)),(zI (W 1 1))])] (zI (V 4)))),
 (p3,(.call 17 [(.agg [(zS (W 0 0)),(zI (W 0 1))])] (.agg (cV 5 GVal.kds)))),
 (p3,(.call 5 [(.agg (cV 5 GVal.kds))] (.tup [(.agg [(zS (.var 6 [0,0])),(zI (.var 6 [0,1]))]),(zI (W 6 1))]))),
 (p4,(.call 19 [(.agg [(zS (W 0 0)),(zI (W 0 1))])] (zS (V 7)))),
 (p4,(.call 19 [(.agg [(zS (W 1 0)),(zI (W 1 1))])] (zS (V 8)))),
 (p8,(.call 7 [(.agg [(zS (W 0 0)),(zI (W 0 1))])] (.tup [(zI (W 9 0)),(zB (W 9 1))]))),
 (p9,(.call 14 [(zI (W 9 0))] (.agg [(zS (W 10 0)),(zI (W 10 1))])))],[]⟩
theorem e4 : sFnI Tryd.prog xBase iBase mdI (fcI kA 4 [] []) 3 200 4 [.agg (cV 0 GKey.kds),.agg (cV 1 GKey.kds)] 2=some R4:=by kernel_rfl
theorem ct_law08_KeyBack (x0:GKey)(x1:GKey)(h0:x0.wf)(h1:x1.wf):CT Tryd.prog sT 4 [GKey.av x0,GKey.av x1] (eB (law08_KeyBack x0 x1)):=
 let v2:Bool:=law08_alive
 let v3:Int:=key_Check x0
 let v4:Int:=key_Check x1
 let v5:GVal:=key_Value x0
 let v6:GKey×Int:=key_Prim v5
 let v7:List UInt8:=key_Text x0
 let v8:List UInt8:=key_Text x1
 let v9:Int×Bool:=key_Index x0
 let v10:GKey:=key_Number v9.1
 mkH hmix xBase_ok iBase_ok e4 lh0 (by kernel_rfl) [GKey.av x0,GKey.av x1,eB v2,eI v3,eI v4,GVal.av v5,eR_Key_ii64 v6,eS v7,eS v8,eR_ii64_bool v9,GKey.av v10] xn
  (wC (ctP (pc_law08_alive)) <|
  wC (ct_key_Check x0) <|
  wC (ct_key_Check x1) <|
  wC (ct_key_Value x0) <|
  wCp (by intro h;exact ct_key_Prim v5 (kv_str h0) (kv_ref h0) kv_num) <|
  wCp (by intro h;exact ct_key_Text x0 (by first|exact h0.Str|exact h1.Str)) <|
  wCp (by intro h;exact ct_key_Text x1 (by first|exact h0.Str|exact h1.Str)) <|
  wC (ct_key_Index x0) <|
  wCp (by intro h;exact ct_key_Number v9.1 inR_idx) <|
  wn)
  ln
  (show _=eB (bif (((iNe v3 0)||(iNe v4 0))||(!v2)) then v2 else bif (((iNe v6.2 0)||(!((sEq v6.1.Str x0.Str)&&(iEq v6.1.Sym x0.Sym))))||(!(bEq (sEq v7 v8) ((sEq x0.Str x1.Str)&&(iEq x0.Sym x1.Sym))))) then false else bif (!v9.2) then (iEq v9.1 0) else ((((sEq v10.Str x0.Str)&&(iEq v10.Sym x0.Sym))&&(decide ((v9.1:Int)≥0)))&&(decide ((v9.1:Int)<1024)))) from selE (fun r=>.p (.bool r)) rfl rfl (selE (fun r=>.p (.bool r)) rfl rfl (selE (fun r=>.p (.bool r)) rfl rfl (selL rfl))))
theorem pc_law08_KeyBack (x0:GKey)(x1:GKey)(h0:x0.wf)(h1:x1.wf):PC Tryd.prog 4 [GKey.av x0,GKey.av x1] (eB (law08_KeyBack x0 x1)):=(ct_law08_KeyBack x0 x1 h0 h1 trivial).1
end Go.Fw
end
section
set_option linter.unusedVariables false
set_option linter.unusedSimpArgs false
set_option linter.unusedSectionVars false
namespace Go.Fw
open Go.Proofs
set_option maxRecDepth 100000
theorem rd_GKey : Rd Tryd.prog 23 GKey.enc GKey.wf:=
 (rd_struct Tryd.underlying23 (by kernel_rfl) (rdF_cons (m:=1) rfl (by kernel_rfl) (rd_str Tryd.underlying9) (rdF_cons (m:=1) rfl (by kernel_rfl) (rd_int Tryd.underlying3) (rdF_nil)))).to (fun x=>GKey.mk x.1 x.2.1) (fun _=>rfl) (fun _ h=>⟨h.1,h.2.1⟩)
end Go.Fw
end
section
set_option linter.unusedVariables false
set_option linter.unusedSimpArgs false
set_option linter.unusedSectionVars false
namespace Go.Fw
open Go.Proofs
set_option linter.unusedVariables false
set_option linter.unusedSimpArgs false
def unh (c:UInt8):UInt8:=if c<97 then c-48 else c-87
def dec1' : List UInt8→UInt8
 |a::b::c::d::_=>if a=92∧b=120 then unh c*16+unh d else if a=92 then (if b=110 then 10 else if b=116 then 9 else if b=114 then 13 else b) else a
 |[a,b,_]=>if a=92 then (if b=110 then 10 else if b=116 then 9 else if b=114 then 13 else b) else a
 |[a,b]=>if a=92 then (if b=110 then 10 else if b=116 then 9 else if b=114 then 13 else b) else a
 |[a]=>a
 |[]=>0
theorem unh_fin : ∀n:Fin 256,unh (hexB (UInt8.ofNat n.val / 16))*16+unh (hexB (UInt8.ofNat n.val % 16))=UInt8.ofNat n.val:=by decide +kernel
theorem unh_hex (c:UInt8):unh (hexB (c / 16))*16+unh (hexB (c % 16))=c:=by
 have:=unh_fin ⟨c.toNat,c.toNat_lt⟩
 simpa using this
theorem dec_esc (c:UInt8)(r:List UInt8):dec1' (escB c++r)=c:=by
 unfold escB
 split
 ·rename_i h
  rcases h with rfl|rfl<;>(match r with | []=>rfl | [_]=>rfl|_::_::_=>rfl)
 ·rename_i h0
  split
  ·rename_i h;subst h;(match r with | []=>rfl | [_]=>rfl|_::_::_=>rfl)
  ·split
   ·rename_i h;subst h;(match r with | []=>rfl | [_]=>rfl|_::_::_=>rfl)
   ·split
    ·rename_i h;subst h;(match r with | []=>rfl | [_]=>rfl|_::_::_=>rfl)
    ·split
     ·exact unh_hex c
     ·have h9:c≠92:=fun h=>h0 (Or.inr h)
      match r with
      |[]=>rfl
      |[_]=>simp [dec1',h9]
      |[_,_]=>simp [dec1',h9]
      |_::_::_::_=>simp [dec1',h9]
theorem esc_ne (c:UInt8):escB c≠[]:=by
 unfold escB;split<;>(try split)<;>(try split)<;>(try split)<;>(try split)<;>simp
theorem flat_inj : ∀{a b:List UInt8},a.flatMap escB=b.flatMap escB→a=b
 |[],[],_=>rfl
 |[],d::s,h=>by
  rw [List.flatMap_cons,List.flatMap_nil] at h
  exact absurd (List.append_eq_nil_iff.1 h.symm).1 (esc_ne d)
 |c::r,[],h=>by
  rw [List.flatMap_cons,List.flatMap_nil] at h
  exact absurd (List.append_eq_nil_iff.1 h).1 (esc_ne c)
 |c::r,d::s,h=>by
  rw [List.flatMap_cons,List.flatMap_cons] at h
  have e:c=d:=by rw [← dec_esc c (r.flatMap escB),h,dec_esc]
  subst e
  rw [flat_inj (List.append_cancel_left h)]
theorem quote_inj {a b:List UInt8}(h:str_Quote a=str_Quote b):a=b:=by
 unfold str_Quote quoteL at h
 simp only [List.cons.injEq,true_and] at h
 exact flat_inj (List.append_cancel_right h)
theorem dd_ne (n:Nat):Lib.decDigits n≠[]:=by
 rw [Lib.decDigits];split<;>simp
theorem dd_inj : ∀(n m:Nat),Lib.decDigits n=Lib.decDigits m→n=m:=by
 have key:∀d e:Nat,d<10→e<10→UInt8.ofNat (48+d)=UInt8.ofNat (48+e)→d=e:=by
  intro d e hd he h
  have:=congrArg UInt8.toNat h
  simp at this
  omega
 intro n
 induction n using Nat.strongRecOn with
 |_ n ih=>
  intro m h
  by_cases hn:n<10
  ·by_cases hm:m<10
   ·rw [dec1 hn,dec1 hm] at h
    exact key n m hn hm (by simpa using h)
   ·rw [dec1 hn,dec2 hm] at h
    have:=congrArg List.length h
    simp only [List.length_append,List.length_cons,List.length_nil] at this
    exact absurd (List.length_eq_zero_iff.1 (by omega)) (dd_ne (m / 10))
  ·by_cases hm:m<10
   ·rw [dec2 hn,dec1 hm] at h
    have:=congrArg List.length h
    simp only [List.length_append,List.length_cons,List.length_nil] at this
    exact absurd (List.length_eq_zero_iff.1 (by omega)) (dd_ne (n / 10))
   ·rw [dec2 hn,dec2 hm] at h
    have hh:=List.append_inj' h (by simp)
    have h1:=ih (n / 10) (by omega) (m / 10) hh.1
    have h2:=key (n % 10) (m % 10) (by omega) (by omega) (by simpa using hh.2)
    omega
theorem itoa_inj {a b:Int}(ha:0≤a)(hb:0≤b)(h:Lib.itoa a=Lib.itoa b):a=b:=by
 rw [itoa_pos ha,itoa_pos hb] at h
 have:=dd_inj _ _ h
 omega
theorem subP {a:Int}(h0:0<a)(h:a≤9223372036854775807):iSub .i64 a 1=a-1:=by
 show IntKind.wrap .i64 (a-1)=_
 rw [wrap_eq]
 split<;>omega
theorem addP {a:Int}(h0:0≤a)(h:a<9223372036854775807):iAdd .i64 a 1=a+1:=by
 show IntKind.wrap .i64 (a+1)=_
 rw [wrap_eq]
 split<;>omega
theorem kchk {k:GKey}(h:key_Check k=0):0≤k.Sym∧k.Str.length≤4096∧(0<k.Sym→k.Str=[]):=by
 unfold key_Check at h
 cases hb:((decide (k.Sym<0)||decide ((sLen k.Str:Int) > 4096))||(decide (k.Sym > 0)&&sNe k.Str [])) with
 |true=>rw [hb] at h;cases h
 |false=>
  rw [qsNe,sLen_eq] at hb
  simp at hb
  refine ⟨by omega,by omega,fun h=>?_⟩
  exact hb.2 h
theorem text_iff {a b:GKey}(ha:0≤a.Sym∧(0<a.Sym→a.Str=[]))(hb:0≤b.Sym∧(0<b.Sym→b.Str=[]))(wa:inR .i64 a.Sym)(wb:inR .i64 b.Sym):key_Text a=key_Text b↔a=b:=by
 constructor
 ·intro h
  unfold key_Text at h
  dsimp only at h
  obtain ⟨sa,ya⟩:=a
  obtain ⟨sb,yb⟩:=b
  simp only at ha hb h wa wb
  have u1:ya≤9223372036854775807:=wa.2
  have u2:yb≤9223372036854775807:=wb.2
  by_cases h1:ya > 0
  ·by_cases h2:yb > 0
   ·simp only [decide_eq_true h1,decide_eq_true h2,cond_true] at h
    have e:=List.append_cancel_left h
    unfold strconv_Itoa at e
    rw [subP h1 u1,subP h2 u2] at e
    have:=itoa_inj (by omega) (by omega) e
    rw [ha.2 h1,hb.2 h2]
    congr 1;omega
   ·simp only [decide_eq_true h1,decide_eq_false h2,cond_true,cond_false,str_Quote,quoteL] at h
    simp at h
  ·by_cases h2:yb > 0
   ·simp only [decide_eq_false h1,decide_eq_true h2,cond_true,cond_false,str_Quote,quoteL] at h
    simp at h
   ·simp only [decide_eq_false h1,decide_eq_false h2,cond_false] at h
    rw [quote_inj h]
    congr 1;omega
 ·intro h;rw [h]
theorem back_prim {k:GKey}(h:key_Check k=0)(w:inR .i64 k.Sym):key_Prim (key_Value k)=(k,0):=by
 obtain ⟨h0,h1,h2⟩:=kchk h
 have w1:k.Sym≤9223372036854775807:=w.2
 obtain ⟨s,y⟩:=k
 simp only at h0 h1 h2 w1
 by_cases hy:y > 0
 ·have e:s=[]:=h2 hy
  subst e
  unfold key_Value
  simp only [decide_eq_true hy,cond_true]
  rw [subP hy w1]
  have hm:value_May (GVal.mk 5 0 [] (y-1))=true:=by
   unfold value_May
   simp [iEq,sEq,num_May_zero,sLen,fEq,show ¬(y-1<0) by omega,show FloatKind.f64.format.order 0 0=some .eq by decide +kernel]
  unfold key_Prim
  dsimp only
  rw [hm]
  unfold key_Sym
  simp only [decide_eq_false (show ¬(y-1<0) by omega),qiEq,decide_eq_false (show ¬(y-1=9223372036854775807) by omega),addP (show 0≤y-1 by omega) (by omega)]
  simp [value_IsObject]
 ·have e:y=0:=by omega
  subst e
  have hm:value_May (GVal.mk 4 0 s 0)=true:=by
   unfold value_May
   simp [iEq,sEq,num_May_zero,sLen,fEq,show ¬((s.length:Int) > 4096) by omega,show FloatKind.f64.format.order 0 0=some .eq by decide +kernel]
  unfold key_Value key_Prim value_Str
  simp [hm,value_IsObject,iEq,key_Of]
theorem KeyBack_true (x0 x1:GKey)(h0:x0.wf)(h1:x1.wf):law08_KeyBack x0 x1=true:=by
 unfold law08_KeyBack
 dsimp only
 have el:law08_alive=true:=rfl
 rw [el]
 cases hg:((iNe (key_Check x0) 0||iNe (key_Check x1) 0)||!true) with
 |true=>rfl
 |false=>
  rw [qiNe,qiNe] at hg
  simp at hg
  rw [back_prim hg.1 h0.Sym]
  obtain ⟨a0,a1,a2⟩:=kchk hg.1
  obtain ⟨b0,b1,b2⟩:=kchk hg.2
  have e:sEq (key_Text x0) (key_Text x1)=(sEq x0.Str x1.Str&&iEq x0.Sym x1.Sym):=by
   rw [key_eq,qsEq]
   exact decide_eq_decide.2 (text_iff ⟨a0,a2⟩ ⟨b0,b2⟩ h0.Sym h1.Sym)
  simp only [e,qiNe_self,qsEq_self,qiEq_self,qbEq_self,Bool.and_self,Bool.not_true,Bool.or_self,cond_false]
  by_cases hy:x0.Sym > 0
  ·rw [idx_sym1 hy];rfl
  ·obtain ⟨s,y⟩:=x0
   have ey:y=0:=by simp only at hy a0;omega
   subst ey
   generalize hk:key_Index ⟨s,0⟩=r
   obtain ⟨v,q⟩:=r
   cases q with
   |false=>rw [idx_false hk];rfl
   |true=>
    obtain ⟨n,rfl,hn,ht⟩:=idx_back hk
    have e2:key_Number (n:Int)=⟨s,0⟩:=by
     unfold key_Number key_Of
     dsimp only
     rw [← ht];rfl
    simp only [e2,Bool.not_true,cond_false,qsEq_self,qiEq_self,Bool.true_and,Bool.and_eq_true,decide_eq_true_eq]
    omega
end Go.Fw
end
section
set_option linter.unusedVariables false
set_option linter.unusedSimpArgs false
set_option linter.unusedSectionVars false
namespace Go.Fw
open Go.Proofs Go.Proofs.YteipfnbeeehagaaDoor Go.RowKit
set_option maxRecDepth 100000
theorem tab_lits : (Rows.laid_internal_strconv_uint64pow10:DataW Unit)=.agg (Lib.pow10Tab.map fun n=>.lit (.int .u64 n)):=by kernel_rfl
theorem tab_laid {W:World}(h:laidMetH Tryd.prog Rows.keyOnesUptoRow.laid W):W.var? Tryd.prog "internal/strconv.uint64pow10" = some (Lib.pow10Tab.map fun z=>Value.int .u64 z).toArray:=by
 rw [MakeChecks.laidMetH_plain _ _ _ (by kernel_rfl)] at h
 obtain ⟨ps,⟨_,_,_,_,_,_,_,_,_,_,⟨_,_,_,_,_,_,_,_,_,_,⟨g,t,cs,fuel,p,q,hg,ht,hv,hd,_,_⟩,_⟩,_⟩,_,_⟩:=h
 obtain rfl:=Option.some.inj ((show Tryd.prog.globalNamed "internal/strconv.uint64pow10" = some 1 by kernel_rfl).symm.trans hg)
 obtain rfl:=Option.some.inj ((show (Tryd.prog.globals[1]?).map (·.type)=some 105 by kernel_rfl).symm.trans ht)
 obtain ⟨xs,m,_,ex,hlen,hl,hel⟩:=DataW.trod_array Tryd.underlying105 hd
 have c5:Tryd.prog.cellsOf 89=1:=by kernel_rfl
 have c20:Tryd.prog.cellsOf 105=20:=by kernel_rfl
 rw [c20] at hlen
 rw [tab_lits] at ex
 have e3:(xs.map (·.1))=Lib.pow10Tab.map fun n=>.lit (.int .u64 n):=(DataW.agg.inj (Prod.mk.inj ex).1).symm
 rw [hv]
 congr 1
 apply Array.toList_inj.1
 show cs.toList=(Lib.pow10Tab.map fun z=>Value.int .u64 z)
 have hp:Lib.pow10Tab.length=20:=Lib.pow10Tab_length
 refine List.ext_getElem (by simp [hlen,hp]) fun r h1 h2=>?_
 have hr:r<20:=by omega
 have hE:=hel r hr
 rw [c5,Nat.mul_one,List.getElem?_eq_getElem (by omega)] at hE
 obtain ⟨z,e1,e2,_⟩:=DataW.trod_int Tryd.underlying89 hE
 have e4:(xs.map (·.1))[r]?=(Lib.pow10Tab.map fun n=>(DataW.lit (.int .u64 n):DataW Unit))[r]?:=by rw [e3]
 rw [List.getElem?_map,List.getElem?_map,List.getElem?_eq_getElem (by omega:r<xs.length),List.getElem?_eq_getElem (by omega:r<Lib.pow10Tab.length),e2] at e4
 have hz:z=Lib.pow10Tab[r]'(by omega):=by
  simpa using e4
 have e5:((cs.toList.drop r).take 1)[0]?=some (.int .u64 z):=by rw [e1];rfl
 have e6:cs.toList[r]?=some (.int .u64 z):=by simpa using e5
 rw [List.getElem?_eq_getElem h1] at e6
 rw [List.getElem_map,← hz]
 exact Option.some.inj e6
theorem gok_laid {W:World}(h:laidMetH Tryd.prog Rows.keyOnesUptoRow.laid W):GOk W (fun c _=>c<W.heap.size):=by
 have hv:=tab_laid h
 unfold World.var? at hv
 rw [show Tryd.prog.globalNamed "internal/strconv.uint64pow10" = some 1 by kernel_rfl] at hv
 simp only [Option.bind_some] at hv
 split at hv
 ·rename_i cs ty fz hc
  simp only [Option.some.injEq] at hv
  subst hv
  intro g row hg
  have:g=1∧row=Lib.pow10Tab.map fun z=>Value.int .u64 z:=by
   simp only [Glob.tab,gFind] at hg
   cases hb:Nat.beq 1 g with
   |false=>rw [hb] at hg;cases hg
   |true=>
    rw [hb] at hg
    exact ⟨(Nat.eq_of_beq_eq_true hb).symm,(Option.some.inj hg).symm⟩
  obtain ⟨rfl,rfl⟩:=this
  have hs:1<W.heap.size:=(Array.getElem?_eq_some_iff.1 hc).1
  refine ⟨⟨_,ty,fz,hc,by simp⟩,fun j v hj=>⟨hs,?_⟩⟩
  simp only [World.cell?,hc]
  simpa using hj
 ·cases hv
end Go.Fw
end
section
set_option linter.unusedVariables false
set_option linter.unusedSimpArgs false
set_option linter.unusedSectionVars false
namespace Go.Proofs.YteipfnbeeehagaaDoor.FwZ4
open Go.Fw
open Go.Proofs Go.Proofs.YteipfnbeeehagaaDoor Go.RowKit Go.ChangeShapes
set_option maxRecDepth 100000
set_option linter.unusedVariables false
theorem bulkA {H:Type}:Bulk (H:=H) Rows.uptoBulk Rows.uptoBulkAll where
 str:=fun b=>by simp [Rows.uptoBulk]
 sl:=fun e s=>by simp [Rows.uptoBulk]
 agg:=fun p=>by simp [Rows.uptoBulk]
 nil:=by simp [Rows.uptoBulkAll]
 cons:=fun d r=>by simp [Rows.uptoBulkAll]
 one:=fun d=>by
  cases d with
  |lit l=>cases l<;>simp [Rows.uptoBulk]
  |_=>simp [Rows.uptoBulk]
theorem own : ownKnob Tryd.prog.godebug=none:=by kernel_rfl
theorem args : RdA Tryd.prog [23,23] (fun x:GKey×GKey×Unit=>[(GKey.av x.1),(GKey.av x.2.1)]) (fun x=>x.1.wf∧x.2.1.wf∧True):=
 rdA_cons (rdV_struct Tryd.underlying23 rd_GKey) (rdA_cons (rdV_struct Tryd.underlying23 rd_GKey) (rdA_nil))
theorem contract (H:Type)(enc:TypeId×Value→H)(W:World)(base:Nat)(args':Array Value)(ds gs:List (DataW H))(before:List MemPlace)
  (hval:∀(j:Nat) t v,Tryd.f4.params[j]?=some t→args'[j]?=some v→Value.okWide Tryd.prog W .any base t v)
  (hW:DataW.Whole enc Tryd.prog Tryd.f4.params.toList Rows.keyBackSpec.vars false W args'.toList ds gs before) (hk:Rows.uptoSmall H (ds++gs)=true) (hL:laidMetH Tryd.prog Rows.keyOnesUptoRow.laid W) :
  Calls Tryd.prog 4 args' W fun e W'=>∃v,e=.returned v∧Rows.keyBackSpec.post enc Tryd.prog Tryd.f4 false true false false W args' v W':=
 law_contract (fid:=4) (fn:=Tryd.f4) (s:=Rows.keyBackSpec) (tb:=4) (wf:=fun x:GKey×GKey×Unit=>x.1.wf∧x.2.1.wf∧True)
  (avs:=fun x=>[(GKey.av x.1),(GKey.av x.2.1)])
  Tryd.func4 (by kernel_rfl) (by kernel_rfl) (by rw [Tryd.params4];intro t ht;simp only [List.mem_cons,List.not_mem_nil,or_false] at ht;rcases ht with rfl|rfl<;>exact ⟨by kernel_rfl,of_decide_eq_true (by kernel_rfl)⟩)
  (by kernel_rfl) Tryd.underlying4 rfl
  (fun H ds h=>by
   rw [Tryd.params4] at h
   match ds,h with
   |[d1,d2],_=>rfl)
  (by rw [Tryd.params4];exact args)
  (fun x h=>by
   have e:law08_KeyBack x.1 x.2.1=true:=KeyBack_true x.1 x.2.1 h.1 h.2.1
   have:=pc_law08_KeyBack x.1 x.2.1 h.1 h.2.1
   rw [e] at this
   exact this)
  bulkA hval hW (of_decide_eq_true hk) (gok_laid hL)
def cellsOfD : DataW Unit→Array Value
 | .agg l=>(l.map fun | .lit (.int k n)=>Value.int k n|_=>.int .u8 0).toArray
 |_=>#[]
noncomputable def laidWorld (os:Os):World:=
 let w0:=World.holding Tryd.prog os ⟨#[],#[],[]⟩
 let put (h:Array Obj) (g:Nat) (cs:Array Value):Array Obj:=h.modify g fun
  | .cells _ t frozen=>.cells cs t frozen
  |o=>o
 let h1:=put w0.heap ((Tryd.prog.globalNamed "math/bits.deBruijn32tab").getD 0) (cellsOfD Rows.laid_math_bits_deBruijn32tab)
 let h2:=put h1 ((Tryd.prog.globalNamed "math/bits.deBruijn64tab").getD 0) (cellsOfD Rows.laid_math_bits_deBruijn64tab)
 let h3:=put h2 ((Tryd.prog.globalNamed "internal/strconv.uint64pow10").getD 0) (cellsOfD Rows.laid_internal_strconv_uint64pow10)
 {w0 with heap:=h3}
theorem laid_met (os:Os)(args:Array Value):laidMet Tryd.prog Rows.keyBackUptoRow.laid ((laidWorld os).forCall (fun _ _=>0) ⟨#[],args,[]⟩).memory:=
 (LaidIn.of_run (l:=[("math/bits.deBruijn32tab",Rows.laid_math_bits_deBruijn32tab),("math/bits.deBruijn64tab",Rows.laid_math_bits_deBruijn64tab),("internal/strconv.uint64pow10",Rows.laid_internal_strconv_uint64pow10)])
  [(Tryd.prog.globalNamed "math/bits.deBruijn32tab").getD 0,(Tryd.prog.globalNamed "math/bits.deBruijn64tab").getD 0,(Tryd.prog.globalNamed "internal/strconv.uint64pow10").getD 0] 8 (by kernel_rfl) (by kernel_rfl) (by kernel_rfl) (by kernel_rfl)).met
theorem witness_row (os:Os){H:Type}(enc:TypeId×Value→H) :
  (Rows.OpenSpec.upto Rows.keyBackSpec).preRow enc Tryd.prog Tryd.f4 Rows.keyBackUptoRow.domain false Rows.keyBackUptoRow.laid ((laidWorld os).forCall (fun _ _=>0) ⟨#[],#[.agg #[.string ⟨#[]⟩,.int .i64 0],.agg #[.string ⟨#[]⟩,.int .i64 0]],[]⟩).memory #[.agg #[.string ⟨#[]⟩,.int .i64 0],.agg #[.string ⟨#[]⟩,.int .i64 0]]:=by
 have hw:(DataW.whole enc Tryd.prog ((laidWorld os).forCall (fun _ _=>0) ⟨#[],#[.agg #[.string ⟨#[]⟩,.int .i64 0],.agg #[.string ⟨#[]⟩,.int .i64 0]],[]⟩).memory Tryd.f4.params.toList (Rows.OpenSpec.upto Rows.keyBackSpec).vars false (#[.agg #[.string ⟨#[]⟩,.int .i64 0],.agg #[.string ⟨#[]⟩,.int .i64 0]]:Array Value).toList 8).map (fun x=>(x.1,x.2.1)) =
   some ([.agg [.lit (.string []),.lit (.int .i64 0)],.agg [.lit (.string []),.lit (.int .i64 0)]],[]):=by kernel_rfl
 obtain ⟨⟨x1,x2,x3⟩,hx,hx1⟩:=Option.map_eq_some_iff.1 hw
 simp only [Prod.mk.injEq] at hx1
 obtain ⟨rfl,rfl⟩:=hx1
 exact OpenSpec.preRow_of_cond 8 hx (by kernel_rfl) (fun k hk=>by cases hk;rfl) (by kernel_rfl) (laid_met os _)
theorem lifted (os:Os)(started:os.Started)(H:Type)(enc:TypeId×Value→H)(F:Stop.Interp) :
  ReturnsInHanded {} Tryd.checked os 4 .any ((Rows.OpenSpec.upto Rows.keyBackSpec).preRow enc Tryd.prog Tryd.f4 Rows.keyBackUptoRow.domain false Rows.keyBackUptoRow.laid) (((Rows.OpenSpec.upto Rows.keyBackSpec).at F).post enc Tryd.prog Tryd.f4 false true false false):=by
 refine returnsInHanded_of_row (C:=Tryd.checked) (s:=Rows.OpenSpec.upto Rows.keyBackSpec) own started (by kernel_rfl) Tryd.func4
  (witness_row_at (enc:=enc) (C:=Tryd.checked) false (laidWorld os) #[.agg #[.string ⟨#[]⟩,.int .i64 0],.agg #[.string ⟨#[]⟩,.int .i64 0]] rfl (by kernel_rfl) (by kernel_rfl) (by kernel_rfl) (witness_row os enc)) ?_
 intro W base args' ds gs before hval hW _ hk _ hL _ _
 exact contract H enc W base args' ds gs before hval hW (hk _ rfl) hL
end Go.Proofs.YteipfnbeeehagaaDoor.FwZ4
end
