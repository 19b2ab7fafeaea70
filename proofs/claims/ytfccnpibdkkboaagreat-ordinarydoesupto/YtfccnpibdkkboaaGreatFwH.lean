
import Derived.Test.YtfccnpibdkkboaaGreatFwF
import Derived.Test.YtfccnpibdkkboaaGreatFwG
import Derived.Test.YtfccnpibdkkboaaGreatFwE
set_option linter.unusedVariables false
set_option linter.unusedSimpArgs false
set_option linter.unusedSectionVars false
set_option linter.unnecessarySimpa false
section
namespace Go.Fw
theorem Je {α β:Type}{f:α->β}{l:List α}:pW (List.map f l)=l.length:=by simp [pW]
theorem Jf {v:dP}(h:jH v=true):0<=v.Ref:=by
 unfold jH at h
 dsimp only at h
 cases hc:decide ((v.Ref:Int)<0) with
 |false=>have:=of_decide_eq_false hc;omega
 |true=>rw [hc] at h;simp at h
def hIn (h:dK)(v:dP):Prop:=dS v=true->0<=v.Ref/\v.Ref<h.Objects.length
theorem agx {h:dK}{v:dP}(q:hIn h v)(i:dS v=true):0<=v.Ref:=(q i).1
theorem Zp {h:dK}{v:dP}(q:hIn h v)(i:dS v=true):v.Ref<pW (List.map dQ.enc h.Objects):=by rw [Je];exact (q i).2
theorem Tt {h:dK}{v:dP}(q:fF h v=true):hIn h v:=by
 intro i
 unfold fF at q
 dsimp only at q
 cases hm:jH v with
 |false=>rw [hm] at q;simp at q
 |true=>
  rw [hm,i] at q
  simp only [Bool.not_true,cond_false,Bool.false_or,Bool.and_eq_true,decide_eq_true_eq,dN] at q
  exact ⟨Jf hm,q.1⟩
theorem ahv {h:dK}{v:dP}(q:fF h v=true):jH v=true:=by
 unfold fF at q
 dsimp only at q
 cases hm:jH v with
 |false=>rw [hm] at q;simp at q
 |true=>rfl
theorem Zq {h:dK}{v:dP}(q:fF h v=true):0<=v.Ref:=Jf (ahv q)
theorem Zr {h:dK}{v:dP}(q:fF h v=true)(i:dS v=true):v.Ref<pW (List.map dQ.enc h.Objects):=Zp (Tt q) i
def yx (h:dK)(i:Nat):Int:=(h.Objects.getD i default).fB.Kind
def yA (h:dK)(i:Nat):Int:=(h.Objects.getD i default).fB.Ref
def F6 (h:dK):Prop:=∀i,i<h.Objects.length->yx h i≠1->0<=yA h i/\yA h i<h.Objects.length
theorem Zt {h:dK}{i:Nat}(hi:h.Objects.length<=i):yA h i=0:=by
 unfold yA;rw [List.getD_eq_getElem?_getD,List.getElem?_eq_none hi];rfl
theorem ajx {h:dK}(hP:F6 h){i:Nat}(hk:(h.Objects.getD i default).fB.Kind≠1):0<=(h.Objects.getD i default).fB.Ref:=by
 by_cases hi:i<h.Objects.length
 .exact (hP i hi hk).1
 .have:=Zt (h:=h) (i:=i) (by omega)
  unfold yA at this;omega
theorem Oc {m:List (Int×Bool)}(ha:∀e∈m,e.2=true)(k:Int):(qh false k m).2=decide (k∈m.map (·.1)):=by
 induction m with
 |nil=>rfl
 |cons e r ih=>
  simp only [qh]
  by_cases h:k=e.1
  .simp [h,ha e (by simp)]
  .rw [if_neg h,ih fun x hx=>ha x (by simp [hx])]
   simp [h]
theorem VT {m:List (Int×Bool)}{k:Int}(h:k∉m.map (·.1)):qj k true m=m++[(k,true)]:=by
 induction m with
 |nil=>rfl
 |cons e r ih=>
  simp only [List.map_cons,List.mem_cons,not_or] at h
  simp only [qj,if_neg h.1,ih h.2,List.cons_append]
theorem VU {x0:dK}{u4:List Bool}{S:List Int}(hS:∀u∈S,(x0.Objects.getD u.toNat default).fB.Kind≠1->(x0.Objects.getD u.toNat default).fB.Ref∈S){u5:Bool} :
  ∀(n:Nat) (u6:Int) (m:List (Int×Bool)),(m.map (·.1)).Nodup->(∀e∈m,e.2=true)->(∀k∈m.map (·.1),k∈S)->u6∈S->S.length<n+m.length->kJ x0 u4 n u5 u6 m=true
 |0,u6,m,hn,ha,hk,hu,hl=>by
  have:=List.Nodup.length_le_of_subset hn hk
  rw [List.length_map] at this
  omega
 |n+1,u6,m,hn,ha,hk,hu,hl=>by
  simp only [kJ]
  cases (!(!(u4.getD u6.toNat default))) with
  |true=>rfl
  |false=>
   simp only [cond_false]
   rw [Oc ha]
   cases hm:decide (u6∈m.map (·.1)) with
   |true=>rfl
   |false=>
    have hm:=of_decide_eq_false hm
    simp only [cond_false]
    cases hq:dV (x0.Objects.getD u6.toNat default).fB.Kind 1 with
    |true=>rfl
    |false=>
     simp only [cond_false]
     rw [VT hm]
     refine VU hS n _ _ ?_ ?_ ?_ (hS _ hu (pJ.1 hq)) (by simp;omega)
     .rw [List.map_append,List.nodup_append]
      refine ⟨hn,by simp,fun a ha' b hb=>?_⟩
      simp at hb;subst hb
      intro e;subst e;exact hm ha'
     .intro e he
      rcases List.mem_append.1 he with he|he
      .exact ha e he
      .simp at he;subst he;rfl
     .intro k hk'
      rw [List.map_append] at hk'
      rcases List.mem_append.1 hk' with hk' | hk'
      .exact hk k hk'
      .simp at hk';subst hk';exact hu
theorem Ko {x0:dK}(hP:F6 x0){u4:List Bool}{u2:Bool}{u3:Int}:kJ x0 u4 (x0.Objects.length+3) u2 u3 []=true:=by
 refine VU (S:=u3::0::(List.range x0.Objects.length).map Int.ofNat) (fun u hu hk=>?_) _ _ _ (by simp) (by simp) (by simp) (by simp) (by simp)
 by_cases hi:u.toNat<x0.Objects.length
 .obtain ⟨h1,h2⟩:=hP _ hi hk
  unfold yA at h1 h2
  refine List.mem_cons_of_mem _ (List.mem_cons_of_mem _ (List.mem_map.2 ⟨(x0.Objects.getD u.toNat default).fB.Ref.toNat,List.mem_range.2 (by omega),?_⟩))
  simp only [Int.ofNat_eq_natCast];omega
 .have:=Zt (h:=x0) (i:=u.toNat) (by omega)
  unfold yA at this
  rw [this];simp
theorem wG {c b:Bool}(h:(bif c then false else b)=true):c=false/\b=true:=by cases c<;>simp_all
theorem Dy {x0:dK}{i:Int}(h:jo x0 i=true):(x0.Objects.getD i.toNat default).fB.Kind=1\/(dS (x0.Objects.getD i.toNat default).fB=true/\fF x0 (x0.Objects.getD i.toNat default).fB=true):=by
 unfold jo at h
 dsimp only at h
 generalize x0.Objects.getD i.toNat default=o at h ⊢
 cases h6:dV o.Kind 6 with
 |true=>
  rw [h6] at h
  simp only [cond_true] at h
  unfold o7 at h
  dsimp only at h
  obtain ⟨hc,-⟩:=wG h
  left
  simp only [Bool.or_eq_false_iff,Bool.not_eq_false'] at hc
  have:=hc.1.1.2
  unfold qx at this
  dsimp only at this
  rw [Bool.and_eq_true] at this
  exact mV.1 this.1
 |false=>
  rw [h6] at h
  simp only [cond_false] at h
  obtain ⟨hc,h⟩:=wG h
  obtain ⟨hd,h⟩:=wG h
  simp only [Bool.or_eq_false_iff,Bool.not_eq_false'] at hd
  by_cases hk:o.fB.Kind=1
  .exact .inl hk
  .right
   have h1:=hd.1.1
   rw [Gq.2 hk] at h1
   simp only [Bool.true_and,Bool.not_eq_false'] at h1
   exact ⟨h1,hd.1.2⟩
open Classical in
theorem Jg {x0:dK}(hB:x0.Objects.length<=4294967296):∀(n j:Nat) (u1:Int),j<=x0.Objects.length->x0.Objects.length-j<n->oD x0 n u1 j=if ∀i,j<=i->i<x0.Objects.length->jo x0 (i:Nat)=true then (true,u1,default) else (false,default,9)
 |0,j,_,_,h=>by omega
 |n+1,j,u1,hj,hn=>by
  simp only [oD,dN]
  by_cases hlt:j<x0.Objects.length
  .have e1:(!decide ((j:Int)<(x0.Objects.length:Int)))=false:=by rw [decide_eq_true (by omega)];rfl
   rw [e1]
   simp only [cond_false]
   cases ho:jo x0 (j:Nat) with
   |false=>
    rw [if_neg (fun hh=>by have:=hh j (Nat.le_refl _) hlt;rw [ho] at this;cases this)]
    rfl
   |true=>
    simp only [Bool.not_true,cond_false]
    rw [ng (by omega) (by omega)]
    have e2:((j:Int)+1)=((j+1:Nat):Int):=by omega
    rw [e2,Jg hB n (j+1) u1 (by omega) (by omega)]
    have:(∀i,j+1<=i->i<x0.Objects.length->jo x0 (i:Nat)=true)↔(∀i,j<=i->i<x0.Objects.length->jo x0 (i:Nat)=true):=by
     constructor
     .intro hh i h1 h2
      by_cases e:i=j
      .subst e;exact ho
      .exact hh i (by omega) h2
     .intro hh i h1 h2;exact hh i (by omega) h2
    simp only [this]
  .have e1:(!decide ((j:Int)<(x0.Objects.length:Int)))=true:=by rw [decide_eq_false (by omega)];rfl
   rw [e1,if_pos (fun i h1 h2=>by omega)]
   rfl
theorem ada {x0:dK}(h:decide ((jc dQ.enc x0.Objects:Int) > 4096)=false):x0.Objects.length<=4294967296:=by
 have:=of_decide_eq_false h
 rw [dN] at this;omega
theorem Jh {x0:dK}(h:∀i,i<x0.Objects.length->jo x0 (i:Nat)=true):F6 x0:=by
 intro i hi hk
 rcases Dy (h i hi) with h1|⟨h1,h2⟩
 .exact absurd h1 hk
 .have:=Tt h2 h1
  exact this
theorem afq {x0:dK}(hB:x0.Objects.length<=4294967296)(h:kP (oD x0 (x0.Objects.length+1) 0 0).1=0):F6 x0:=by
 have e:=Jg hB (x0.Objects.length+1) 0 0 (Nat.zero_le _) (by omega)
 have e0:((0:Nat):Int)=0:=rfl
 rw [e0] at e
 rw [e] at h
 split at h<;>rename_i hc
 .exact Jh fun i hi=>hc i (Nat.zero_le _) hi
 .simp [kP] at h
structure Zu (h:dK):Prop where
 len:h.Objects.length<=4096
 obj:∀i,i<h.Objects.length->jo h (i:Nat)=true
 lps:qm h=false
theorem tq {h:dK}:iR h=0↔Zu h:=by
 unfold iR
 dsimp only
 rw [dN]
 by_cases hl:h.Objects.length<=4096
 .have e1:decide ((h.Objects.length:Int) > 4096)=false:=decide_eq_false (by omega)
  have e:=Jg (x0:=h) (by omega) (h.Objects.length+1) 0 0 (Nat.zero_le _) (by omega)
  have e0:((0:Nat):Int)=0:=rfl
  rw [e0] at e
  rw [e1,e]
  simp only [cond_false]
  by_cases hc:∀i,0<=i->i<h.Objects.length->jo h (i:Nat)=true
  .rw [if_pos hc]
   have e2:(!dV (kP true) 0)=false:=rfl
   simp only [e2,cond_false]
   cases hL:qm h with
   |true=>exact ⟨fun h=>absurd h (by decide),fun h=>by have:=h.lps;rw [hL] at this;cases this⟩
   |false=>exact ⟨fun _=>⟨hl,fun i hi=>hc i (Nat.zero_le _) hi,hL⟩,fun _=>rfl⟩
  .rw [if_neg hc]
   have e2:(!dV (kP false) 0)=true:=rfl
   simp only [e2,cond_true]
   exact ⟨fun h=>absurd h (by decide),fun h=>absurd (fun i _ hi=>h.obj i hi) hc⟩
 .have e1:decide ((h.Objects.length:Int) > 4096)=true:=decide_eq_true (by omega)
  rw [e1]
  exact ⟨fun h=>absurd h (by simp),fun h=>absurd h.len hl⟩
theorem Zu.pok {h:dK}(k:Zu h):F6 h:=Jh k.obj
theorem ahw {h:dK}(hC:iR h=0){i:Nat}:hIn h (h.Objects.getD i default).fB:=by
 have k:=tq.1 hC
 intro hi
 by_cases hl:i<h.Objects.length
 .rcases Dy (k.obj i hl) with h1|⟨h1,h2⟩
  .unfold dS at hi
   simp only [Int.toNat_natCast] at h1
   rw [h1] at hi;simp at hi
  .exact Tt h2 h1
 .have h0:h.Objects.getD i default=default:=by rw [List.getD_eq_getElem?_getD,List.getElem?_eq_none (by omega)];rfl
  rw [h0] at hi;cases hi
def run (h:dK):Nat->Nat->Bool
 |0,_=>false
 |n+1,i=>bif dV (yx h i) 1 then true else run h n (yA h i).toNat
theorem Ji {h:dK}:∀{n i:Nat},run h n i=true->run h (n+1) i=true
 |0,_,h=>by cases h
 |n+1,i,hr=>by
  simp only [run] at hr ⊢
  cases hk:dV (yx h i) 1 with
  |true=>rfl
  |false=>rw [hk] at hr;exact Ji hr
theorem ahy {h:dK}{n m i:Nat}(hr:run h n i=true)(hm:n<=m):run h m i=true:=by
 obtain ⟨k,rfl⟩:=Nat.le.dest hm
 clear hm
 induction k with
 |zero=>exact hr
 |succ k ih=>exact Ji ih
theorem F7 {h:dK}{i:Nat}:∀{n:Nat},run h n i=true->∃k,run h (k+1) i=true/\run h k i=false
 |0,hr=>by cases hr
 |n+1,hr=>by
  cases hk:run h n i with
  |false=>exact ⟨n,hr,hk⟩
  |true=>exact F7 hk
def Gj (h:dK):Prop:=∀i,i<h.Objects.length->∃n,run h n i=true
def ao0 (h:dK):Nat->Nat->List Nat
 |0,_=>[]
 |n+1,i=>i::ao0 h n (yA h i).toNat
theorem QI {h:dK}:∀{n i:Nat},run h n i=true->(n=0\/run h (n-1) i=false)->∀x∈ao0 h n i,run h n x=true
 |0,i,hr,_=>by cases hr
 |n+1,i,hr,hl=>by
  intro x hx
  rcases List.mem_cons.1 hx with rfl|hx
  .exact hr
  .cases n with
   |zero=>cases hx
   |succ n=>
    have hl:run h (n+1) i=false:=by simpa using hl
    have hk:dV (yx h i) 1=false:=by
     cases hk:dV (yx h i) 1 with
     |false=>rfl
     |true=>simp only [run,hk,cond_true] at hl;cases hl
    have h1:run h (n+1) (yA h i).toNat=true:=by
     have:run h (n+2) i=(bif dV (yx h i) 1 then true else run h (n+1) (yA h i).toNat):=rfl
     rw [this,hk] at hr;exact hr
    have h2:run h n (yA h i).toNat=false:=by
     have:run h (n+1) i=(bif dV (yx h i) 1 then true else run h n (yA h i).toNat):=rfl
     rw [this,hk] at hl;exact hl
    exact Ji (QI h1 (.inr (by simpa using h2)) x hx)
theorem VW {h:dK}(hP:F6 h):∀{n i:Nat},i<h.Objects.length->run h (n+1) i=true->run h n i=false->(ao0 h (n+1) i).Nodup/\(∀x∈ao0 h (n+1) i,x<h.Objects.length)/\(ao0 h (n+1) i).length=n+1
 |0,i,hi,hr,hl=>by simp [ao0,hi]
 |n+1,i,hi,hr,hl=>by
  have hk:dV (yx h i) 1=false:=by
   cases hk:dV (yx h i) 1 with
   |false=>rfl
   |true=>simp only [run,hk,cond_true] at hl;cases hl
  have h1:run h (n+1) (yA h i).toNat=true:=by
   have:run h (n+2) i=(bif dV (yx h i) 1 then true else run h (n+1) (yA h i).toNat):=rfl
   rw [this,hk] at hr;exact hr
  have h2:run h n (yA h i).toNat=false:=by
   have:run h (n+1) i=(bif dV (yx h i) 1 then true else run h n (yA h i).toNat):=rfl
   rw [this,hk] at hl;exact hl
  obtain ⟨p0,p1⟩:=hP i hi (pJ.1 hk)
  obtain ⟨c1,c2,c3⟩:=VW hP (i:=(yA h i).toNat) (by omega) h1 h2
  refine ⟨?_,?_,?_⟩
  .show (i::ao0 h (n+1) (yA h i).toNat).Nodup
   refine List.nodup_cons.2 ⟨fun hm=>?_,c1⟩
   have:=QI h1 (.inr (by simpa using h2)) i hm
   rw [hl] at this;cases this
  .intro x hx
   rcases List.mem_cons.1 hx with rfl|hx
   .exact hi
   .exact c2 x hx
  .show (i::ao0 h (n+1) (yA h i).toNat).length=_
   rw [List.length_cons,c3]
theorem Zv {h:dK}(hP:F6 h)(ha:Gj h){i:Nat}(hi:i<h.Objects.length):run h h.Objects.length i=true:=by
 obtain ⟨n,hn⟩:=ha i hi
 obtain ⟨k,h1,h2⟩:=F7 hn
 obtain ⟨c1,c2,c3⟩:=VW hP hi h1 h2
 have:=List.Nodup.length_le_of_subset c1 (l₂:=List.range h.Objects.length) fun x hx=>List.mem_range.2 (c2 x hx)
 rw [c3,List.length_range] at this
 exact ahy h1 this
theorem VX {x0:dK}{u4:List Bool}:∀{n:Nat} {u5:Bool} {u6:Int} {m:List (Int×Bool)},kJ x0 u4 n u5 u6 m=true->(jh x0 u4 n u5 u6 m).1=true\/((jh x0 u4 n u5 u6 m).1=false/\(jh x0 u4 n u5 u6 m).2.2.2.2.1=true)
 |0,_,_,_,h=>by cases h
 |n+1,u5,u6,m,h=>by
  simp only [kJ] at h
  simp only [jh]
  cases hb:(!(!(u4.getD u6.toNat default))) with
  |true=>exact .inl rfl
  |false=>
   cases hg:(qh false u6 m).2 with
   |true=>exact .inr ⟨rfl,rfl⟩
   |false=>
    cases hq:dV (x0.Objects.getD u6.toNat default).fB.Kind 1 with
    |true=>exact .inl rfl
    |false=>
     rw [hb,hg,hq] at h
     exact VX h
theorem QJ {x0:dK}(hP:F6 x0){u4:List Bool}(hd:∀i,u4.getD i default=true->∃n,run x0 n i=true):∀{n:Nat} {u5:Bool} {u6:Int} {m:List (Int×Bool)},(jh x0 u4 n u5 u6 m).1=true->
  (∃k,run x0 k u6.toNat=true)/\(∀e∈(jh x0 u4 n u5 u6 m).2.2.2.1,e∈m\/∃k,run x0 k e.1.toNat=true)/\(∀e∈m,∃e'∈(jh x0 u4 n u5 u6 m).2.2.2.1,e'.1=e.1)/\(u4.getD u6.toNat default=true\/∃e'∈(jh x0 u4 n u5 u6 m).2.2.2.1,e'.1=u6)
 |0,_,_,_,h=>by cases h
 |n+1,u5,u6,m,h=>by
  have hput:∀{l:List (Int×Bool)},(∀e∈qj u6 true l,e∈l\/e=(u6,true))/\(∀e∈l,∃e'∈qj u6 true l,e'.1=e.1)/\(u6,true)∈qj u6 true l:=by
   intro l
   induction l with
   |nil=>exact ⟨fun e he=>.inr (by simpa [qj] using he),fun e he=>(by cases he),by simp [qj]⟩
   |cons a r ih=>
    obtain ⟨i1,i2,i3⟩:=ih
    simp only [qj]
    by_cases hc:u6=a.1
    .rw [if_pos hc]
     refine ⟨fun e he=>?_,fun e he=>?_,by simp⟩
     .rcases List.mem_cons.1 he with rfl|he
      .exact .inr rfl
      .exact .inl (List.mem_cons_of_mem _ he)
     .rcases List.mem_cons.1 he with rfl|he
      .exact ⟨_,List.mem_cons_self ..,hc⟩
      .exact ⟨e,List.mem_cons_of_mem _ he,rfl⟩
    .rw [if_neg hc]
     refine ⟨fun e he=>?_,fun e he=>?_,List.mem_cons_of_mem _ i3⟩
     .rcases List.mem_cons.1 he with rfl|he
      .exact .inl (List.mem_cons_self ..)
      .rcases i1 e he with h|h
       .exact .inl (List.mem_cons_of_mem _ h)
       .exact .inr h
     .rcases List.mem_cons.1 he with rfl|he
      .exact ⟨_,List.mem_cons_self ..,rfl⟩
      .obtain ⟨e',h1,h2⟩:=i2 e he
       exact ⟨e',List.mem_cons_of_mem _ h1,h2⟩
  simp only [jh] at h ⊢
  cases hb:(!(!(u4.getD u6.toNat default))) with
  |true=>
   have hb':u4.getD u6.toNat default=true:=by simpa using hb
   exact ⟨hd _ hb',fun e he=>.inl he,fun e he=>⟨e,he,rfl⟩,.inl hb'⟩
  |false=>
   cases hg:(qh false u6 m).2 with
   |true=>rw [hb,hg] at h;cases h
   |false=>
    obtain ⟨p1,p2,p3⟩:=hput (l:=m)
    cases hq:dV (x0.Objects.getD u6.toNat default).fB.Kind 1 with
    |true=>
     have hr:run x0 1 u6.toNat=true:=by
      show (bif dV (yx x0 u6.toNat) 1 then true else _)=true
      unfold yx;rw [hq];rfl
     refine ⟨⟨1,hr⟩,fun e he=>?_,p2,.inr ⟨_,p3,rfl⟩⟩
     rcases p1 e he with h' | h'
     .exact .inl h'
     .subst h';exact .inr ⟨1,hr⟩
    |false=>
     rw [hb,hg,hq] at h
     simp only [cond_false] at h ⊢
     obtain ⟨⟨k,a1⟩,a2,a3,a4⟩:=QJ hP hd h
     have hr:run x0 (k+1) u6.toNat=true:=by
      show (bif dV (yx x0 u6.toNat) 1 then true else run x0 k (yA x0 u6.toNat).toNat)=true
      unfold yx yA;rw [hq];exact a1
     refine ⟨⟨k+1,hr⟩,fun e he=>?_,fun e he=>?_,.inr ?_⟩
     .rcases a2 e he with h' | h'
      .rcases p1 e h' with h'' | h''
       .exact .inl h''
       .subst h'';exact .inr ⟨k+1,hr⟩
      .exact .inr h'
     .obtain ⟨e1,q1,q2⟩:=p2 e he
      obtain ⟨e2,q3,q4⟩:=a3 e1 q1
      exact ⟨e2,q3,q4.trans q2⟩
     .obtain ⟨e2,q3,q4⟩:=a3 _ p3
      exact ⟨e2,q3,q4⟩
theorem VY {m:List (Int×Bool)}{d:List Bool}{i:Nat}(hi:i<d.length):(EK m d).getD i default=(d.getD i default||m.any fun e=>Nat.beq e.1.toNat i):=by
 simp [EK,List.getD_eq_getElem?_getD,List.getElem?_mapIdx,hi]
theorem VZ {m:List (Int×Bool)}{d:List Bool}:(EK m d).length=d.length:=by simp [EK]
theorem V3 {x0:dK}(hP:F6 x0)(hB:x0.Objects.length<=4294967296):∀(n j:Nat) (u2:Bool) (u4:List Bool),j<=x0.Objects.length->x0.Objects.length-j<n->u4.length=x0.Objects.length->
  (∀i,u4.getD i default=true->∃k,run x0 k i=true)->(∀i,i<j->u4.getD i default=true)->
  ((lN x0 n u2 j u4).1=true/\Gj x0)\/((lN x0 n u2 j u4).1=false/\(lN x0 n u2 j u4).2.2.2.1=true)
 |0,j,_,_,_,h,_,_,_=>by omega
 |n+1,j,u2,u4,hj,hn,hl,hd,ha=>by
  simp only [lN,dN]
  by_cases hlt:j<x0.Objects.length
  .have e1:(!decide ((j:Int)<(x0.Objects.length:Int)))=false:=by rw [decide_eq_true (by omega)];rfl
   rw [e1]
   simp only [cond_false]
   rcases VX (Ko hP (u4:=u4) (u2:=u2) (u3:=(j:Int))) with hw|⟨hw,hw2⟩
   .rw [hw]
    have e2:(!dV (kP true) 0)=false:=rfl
    simp only [e2,cond_false]
    rw [ng (by omega) (by omega)]
    have e3:((j:Int)+1)=((j+1:Nat):Int):=by omega
    rw [e3]
    obtain ⟨a1,a2,a3,a4⟩:=QJ hP hd hw
    generalize (jh x0 u4 (x0.Objects.length+3) u2 (j:Int) []).2.2.2.1=m at a2 a4
    refine V3 hP hB n (j+1) _ _ (by omega) (by omega) (by rw [VZ,hl]) (fun i hi=>?_) (fun i hi=>?_)
    .by_cases hil:i<u4.length
     .rw [VY hil,Bool.or_eq_true] at hi
      rcases hi with hi|hi
      .exact hd i hi
      .rw [List.any_eq_true] at hi
       obtain ⟨e,he,hei⟩:=hi
       have hei:=Nat.eq_of_beq_eq_true hei
       rcases a2 e he with h' | h'
       .cases h'
       .rw [hei] at h';exact h'
     .rw [List.getD_eq_getElem?_getD,List.getElem?_eq_none (by rw [VZ];omega)] at hi;cases hi
    .rw [VY (by omega),Bool.or_eq_true]
     by_cases hij:i<j
     .exact .inl (ha i hij)
     .have:i=j:=by omega
      subst this
      rcases a4 with a4|⟨e,he,hei⟩
      .left;simpa using a4
      .right
       rw [List.any_eq_true]
       exact ⟨e,he,by rw [hei];simp⟩
   .rw [hw]
    have e2:(!dV (kP false) 0)=true:=rfl
    simp only [e2,cond_true]
    exact .inr ⟨trivial,hw2⟩
  .have e1:(!decide ((j:Int)<(x0.Objects.length:Int)))=true:=by rw [decide_eq_false (by omega)];rfl
   rw [e1]
   simp only [cond_true]
   exact .inl ⟨trivial,fun i hi=>hd i (ha i (by omega))⟩
theorem adb {n i:Nat}:(List.replicate n false).getD i default=false:=by
 rw [List.getD_eq_getElem?_getD,List.getElem?_replicate]
 split<;>rfl
theorem X_ {x0:dK}(hP:F6 x0)(hB:x0.Objects.length<=4294967296)(h:qm x0=false):Gj x0:=by
 unfold qm at h
 dsimp only at h
 rw [dN,Int.toNat_natCast] at h
 have e0:((0:Nat):Int)=0:=rfl
 rcases V3 hP hB (x0.Objects.length+1) 0 false (List.replicate x0.Objects.length false) (Nat.zero_le _) (by omega) (by simp) (fun i hi=>by rw [adb] at hi;cases hi) (fun i hi=>by omega) with ⟨h1,h2⟩|⟨h1,h2⟩
 .exact h2
 .rw [e0] at h1 h2
  rw [h1] at h
  have e2:(!dV (kP false) 0)=true:=rfl
  rw [e2] at h
  simp only [cond_true] at h
  rw [h2] at h;cases h
theorem Zu.ade {h:dK}(k:Zu h):Gj h:=X_ k.pok (by have:=k.len;omega) k.lps
theorem V4 {x0:dK}{x1:Int}:∀{k:Nat} {u3:Bool} {v:dP},(dS v=true->run x0 k v.Ref.toNat=true)->jP x0 x1 (k+1) u3 v=true
 |k,u3,v,hr=>by
  simp only [jP]
  cases ho:dS v with
  |false=>rfl
  |true=>
   simp only [Bool.not_true,cond_false]
   cases dV v.Ref x1 with
   |true=>rfl
   |false=>
    simp only [cond_false]
    cases dV (x0.Objects.getD v.Ref.toNat default).Kind 6 with
    |true=>rfl
    |false=>
     simp only [cond_false]
     have hr:=hr ho
     match k,hr with
     |0,hr=>cases hr
     |j+1,hr=>
      refine V4 fun hp=>?_
      have:run x0 (j+1) v.Ref.toNat=(bif dV (yx x0 v.Ref.toNat) 1 then true else run x0 j (yA x0 v.Ref.toNat).toNat):=rfl
      rw [this] at hr
      cases hk:dV (yx x0 v.Ref.toNat) 1 with
      |false=>rw [hk] at hr;exact hr
      |true=>
       have hk:=mV.1 hk
       unfold yx at hk
       unfold dS at hp
       rw [hk] at hp;simp at hp
theorem Oe {x0:dK}(hC:iR x0=0){x1:Int}{x2:dP}(h2:hIn x0 x2){u3:Bool}:jP x0 x1 (x0.Objects.length+1) u3 x2=true:=by
 have k:=tq.1 hC
 exact V4 fun ho=>Zv k.pok k.ade (by have:=h2 ho;omega)
theorem ahz {h:dK}{v:dP}(q:jF h v=true):hIn h v:=by
 intro i
 unfold jF at q
 dsimp only at q
 rw [i] at q
 simp only [Bool.not_true,cond_false] at q
 obtain ⟨q1,-⟩:=wG q
 rw [dN] at q1
 simp only [Bool.or_eq_false_iff,Bool.not_eq_false',decide_eq_false_iff_not] at q1
 exact ⟨Jf q1.1,by omega⟩
theorem adf {h:dK}{v:dP}(q:jD h v=true):hIn h v:=by
 unfold jD at q
 dsimp only at q
 rw [Bool.and_eq_true] at q
 exact ahz q.2
theorem ajz {x0:dK}{a:iK}(h:(vJ x0 a).2.2=0):iR x0=0/\fZ x0 a=0:=by
 unfold vJ at h
 dsimp only at h
 cases hc:iO (iR x0) 0 with
 |true=>rw [hc] at h;exact absurd h (Gq.1 hc)
 |false=>
  rw [hc] at h
  simp only [cond_false] at h
  cases hw:iO (fZ x0 a) 0 with
  |true=>rw [hw] at h;exact absurd h (Gq.1 hw)
  |false=>exact ⟨qy.1 hc,qy.1 hw⟩
theorem Kq {x0:dK}{a:iK}(h:fZ x0 a=0):0<=a.Object/\a.Object<x0.Objects.length:=by
 unfold fZ at h
 dsimp only at h
 rw [dN] at h
 cases hc:(decide (a.Object<0)||decide (a.Object>=(x0.Objects.length:Int))) with
 |true=>rw [hc] at h;cases h
 |false=>
  simp only [Bool.or_eq_false_iff,decide_eq_false_iff_not] at hc
  omega
end Go.Fw
end
section
namespace Go.Fw
theorem apm {α:Type}[Inhabited α]{l:List α}{i:Nat}:l.set i (l.getD i default)=l:=by
 apply List.ext_getElem?
 intro j
 rw [List.getElem?_set]
 by_cases h:i=j
 .subst h
  rw [if_pos rfl]
  by_cases h2:i<l.length
  .rw [if_pos h2,List.getD_eq_getElem?_getD,List.getElem?_eq_getElem h2];rfl
  .rw [if_neg h2,List.getElem?_eq_none (by omega)]
 .rw [if_neg h]
theorem Zw {x0:dK}(hB:x0.Objects.length<=4294967296):∀(n j:Nat) (l:List dQ),j<=x0.Objects.length->x0.Objects.length-j<n->wz x0 n j l=l
 |0,j,l,_,h=>by omega
 |n+1,j,l,hj,hn=>by
  simp only [wz,dN,VB]
  by_cases hlt:j<x0.Objects.length
  .have e1:(!decide ((j:Int)<(x0.Objects.length:Int)))=false:=by rw [decide_eq_true (by omega)];rfl
   rw [e1,ng (by omega) (by omega)]
   simp only [cond_false]
   have e2:((j:Int)+1)=((j+1:Nat):Int):=by omega
   rw [e2,apm,Zw hB n (j+1) l (by omega) (by omega)]
  .have e1:(!decide ((j:Int)<(x0.Objects.length:Int)))=true:=by rw [decide_eq_false (by omega)];rfl
   rw [e1];rfl
theorem aaX {x0:dK}(hB:x0.Objects.length<=4294967296){l:List dQ}:wz x0 (x0.Objects.length+1) 0 l=l:=Zw hB _ 0 l (Nat.zero_le _) (by omega)
theorem afr {x0:dK}(hb:x0.Objects.length<=4294967296):J6 x0=x0:=by
 unfold J6
 dsimp only
 rw [dN,Int.toNat_natCast,aaX hb]
 cases x0
 simp
def d0 : dM:=dM.mk 0 (dP.mk 0 0 [] 0) (dP.mk 0 0 [] 0) (dP.mk 0 0 [] 0) false false false
def WZ : dP:=dP.mk 0 0 [] 0
def doB (h:dK)(a:iK):dK×gZ×Int:=
 let o:=h.Objects.getD a.Object.toNat default
 let st (o':dQ):dK:=⟨h.Objects.set a.Object.toNat o'⟩
 let f:=dZ o.Props a.Key
 bif dV a.Method 1 then (h,⟨1,o.fB,false,false,d0,[],0,[]⟩,0)
 else bif dV a.Method 2 then (bif jQ a.Value o.fB||!o.Ext||iD h a.Object a.Value then (h,dW (jQ a.Value o.fB),0) else (st {o with fB:=a.Value},dW true,0))
 else bif dV a.Method 3 then (h,dW o.Ext,0)
 else bif dV a.Method 4 then (st {o with Ext:=false},dW true,0)
 else bif dV a.Method 5 then (h,⟨1,WZ,false,f.2.1,f.1,[],0,[]⟩,0)
 else bif dV a.Method 6 then
  let ap:=fG o.Ext a.dY f.2.1 f.1
  let pt:=fC o.Props a.Key ap.1
  bif !ap.2.1 then (h,dW false,0) else bif iO pt.2 0 then (h,⟨3,WZ,false,false,d0,[],2,[116,111,111,32,109,97,110,121]⟩,0) else (st {o with Props:=pt.1},dW true,0)
 else bif dV a.Method 10 then
  bif f.2.1&&!f.1.Configurable then (h,dW false,0) else (st {o with Props:=(fK o.Props a.Key).1},dW true,0)
 else (h,⟨1,WZ,false,false,d0,(jC o.Props).1,0,[]⟩,0)
theorem apf {l:List dQ}{i:Nat}{x:dQ}:((l.set i x).drop 0).take (l.length-0)=l.set i x:=by
 rw [List.drop_zero,Nat.sub_zero,List.take_of_length_le (by simp)]
theorem ajA {x0:dK}{a:iK}(hC:iR x0=0)(hw:fZ x0 a=0):vJ x0 a=doB x0 a:=by
 have hk:=(tq.1 hC).len
 unfold vJ doB
 dsimp only
 rw [qy.2 hC,qy.2 hw,afr (by omega)]
 simp only [cond_false,dN,Int.toNat_natCast,apf]
 generalize x0.Objects.getD a.Object.toNat default=o
 cases m1:dV a.Method 1 with
 |true=>rfl
 |false=>
  simp only [cond_false]
  cases m2:dV a.Method 2 with
  |true=>
   simp only [Bool.true_and]
   cases hs:jQ a.Value o.fB with
   |true=>rfl
   |false=>
    cases (!o.Ext) with
    |true=>rfl
    |false=>cases iD x0 a.Object a.Value<;>rfl
  |false=>
   simp only [Bool.false_and,cond_false]
   cases m3:dV a.Method 3 with
   |true=>rfl
   |false=>
    cases m4:dV a.Method 4 with
    |true=>rfl
    |false=>
     cases m5:dV a.Method 5 with
     |true=>rfl
     |false=>
      simp only [cond_false]
      cases m6:dV a.Method 6 with
      |true=>
       simp only [Bool.true_and]
       cases (fG o.Ext a.dY (dZ o.Props a.Key).2.1 (dZ o.Props a.Key).1).2.1 with
       |false=>rfl
       |true=>
        simp only [Bool.not_true,Bool.false_or]
        cases iO (fC o.Props a.Key (fG o.Ext a.dY (dZ o.Props a.Key).2.1 (dZ o.Props a.Key).1).1).2 0<;>rfl
      |false=>
       simp only [Bool.false_and,cond_false]
       cases m10:dV a.Method 10 with
       |true=>
        simp only [Bool.true_and]
        cases ((dZ o.Props a.Key).2.1&&!(dZ o.Props a.Key).1.Configurable)<;>rfl
       |false=>rfl
theorem aaY {l:List dJ}:(jC l).1.length<=1024:=by
 unfold jC
 dsimp only
 cases hc:iO (jm l) 0 with
 |true=>simp
 |false=>
  have hc:=qy.1 hc
  simp only [cond_false]
  by_cases hl:l.length<=1024
  .have e:=Fg (x0:=l) (by omega) (l.length+1) 0 [] (Nat.zero_le _) (by omega)
   have e0:((0:Nat):Int)=0:=rfl
   rw [e0] at e
   rw [Ph,e]
   simpa using hl
  .unfold jm at hc
   dsimp only at hc
   rw [dN,decide_eq_true (by omega)] at hc
   cases hc
theorem adg {h:dK}{a:iK}:(doB h a).2.1.Keys.length<=1024:=by
 unfold doB
 dsimp only
 cases dV a.Method 1 with
 |true=>simp
 |false=>
  cases dV a.Method 2 with
  |true=>simp only [cond_false,cond_true];cases (jQ a.Value (h.Objects.getD a.Object.toNat default).fB||!(h.Objects.getD a.Object.toNat default).Ext||iD h a.Object a.Value)<;>simp [dW]
  |false=>
   cases dV a.Method 3 with
   |true=>simp [dW]
   |false=>
    cases dV a.Method 4 with
    |true=>simp [dW]
    |false=>
     cases dV a.Method 5 with
     |true=>simp
     |false=>
      cases dV a.Method 6 with
      |true=>
       simp only [cond_false,cond_true]
       generalize (fG (h.Objects.getD a.Object.toNat default).Ext a.dY (dZ (h.Objects.getD a.Object.toNat default).Props a.Key).2.1 (dZ (h.Objects.getD a.Object.toNat default).Props a.Key).1)=ap
       generalize fC (h.Objects.getD a.Object.toNat default).Props a.Key ap.1=pt
       cases (!ap.2.1)<;>cases (iO pt.2 0)<;>simp [dW]
      |false=>
       cases dV a.Method 10 with
       |true=>simp only [cond_false,cond_true];cases ((dZ (h.Objects.getD a.Object.toNat default).Props a.Key).2.1&&!(dZ (h.Objects.getD a.Object.toNat default).Props a.Key).1.Configurable)<;>simp [dW]
       |false=>exact aaY
end Go.Fw
end
section
namespace Go.Fw
def Pj (h:dK)(o:dQ)(n:Int):Bool:=
 bif (dV o.Kind 6) then o7 h o n
 else bif ((((!(qx o.Target 0))&&(!(((((dV o.Kind 5)&&dS o.Target)&&(decide ((o.Target.Ref:Int)<n)))&&fF h o.Target)&&(dV (h.Objects.getD (o.Target.Ref:Int).toNat default).Kind 6))))||(!(qx o.Handler 0)))||((YZ o.Text [])&&(iO o.Kind 3))) then false
 else bif ((((iO o.fB.Kind 1)&&(!(dS o.fB)))||(!(fF h o.fB)))||(iO (jm o.Props) 0)) then false
 else bif (!(dV (kP (gU h o (o.Props.length+1) false 0).1) 0)) then (gU h o (o.Props.length+1) false 0).2.2
 else bif (dV o.Kind 1) then ((!o.Calls)&&(!o.Makes))
 else bif (dV o.Kind 2) then (((!o.Calls)&&(!o.Makes))&&uQ o.Props)
 else bif (dV o.Kind 3) then (((!o.Calls)&&(!o.Makes))&&uS o.Props o.Text)
 else bif (dV o.Kind 4) then (o.Calls&&o.Makes)
 else bif (dV o.Kind 5) then o.Calls
 else false
theorem Jj {h:dK}{n:Int}:jo h n=Pj h (h.Objects.getD n.toNat default) n:=rfl
structure adh (h k:dK):Prop where
 len:h.Objects.length=k.Objects.length
 kind:∀i,(h.Objects.getD i default).Kind=(k.Objects.getD i default).Kind
 calls:∀i,(h.Objects.getD i default).Calls=(k.Objects.getD i default).Calls
 makes:∀i,(h.Objects.getD i default).Makes=(k.Objects.getD i default).Makes
theorem adi {h k:dK}(s:adh h k)(v:dP):fF h v=fF k v:=by
 unfold fF wY
 dsimp only
 rw [dN,dN,s.len,s.calls,s.makes]
theorem agy {h k:dK}(s:adh h k){x2:Int}:∀{n:Nat} {a:Bool} {b:Int} {l:List dP},lQ h x2 n a b l=lQ k x2 n a b l
 |0,_,_,_=>rfl
 |n+1,a,b,l=>by simp only [lQ,adi s,agy s (n:=n)]
theorem adk {h k:dK}(s:adh h k){o:dQ}:∀{n:Nat} {a:Bool} {b:Int},gU h o n a b=gU k o n a b
 |0,_,_=>rfl
 |n+1,a,b=>by simp only [gU,adi s,adk s (n:=n)]
theorem afs {h k:dK}(s:adh h k)(o:dQ)(n:Int):Pj h o n=Pj k o n:=by
 unfold Pj o7
 dsimp only
 simp only [adi s,agy s,adk s,s.kind,s.calls,s.makes]
theorem adl {h k:dK}(hk:∀i,yx h i=yx k i)(hr:∀i,yA h i=yA k i):∀{n i:Nat},run h n i=run k n i
 |0,_=>rfl
 |n+1,i=>by simp only [run,hk,hr,adl hk hr (n:=n)]
theorem QK {x0:dK}{u4:List Bool}(hP:F6 x0):∀{n:Nat} {u5:Bool} {u6:Int} {m:List (Int×Bool)} {k:Nat},kJ x0 u4 n u5 u6 m=true->(∀e∈m,e.2=true/\0<=e.1)->0<=u6->run x0 (k+1) u6.toNat=true->run x0 k u6.toNat=false->
  (∀e∈m,run x0 (k+1) e.1.toNat=false)->(jh x0 u4 n u5 u6 m).1=true
 |0,_,_,_,_,h,_,_,_,_,_=>by cases h
 |n+1,u5,u6,m,k,h,hm,h0,hr,hl,hb=>by
  simp only [kJ] at h
  simp only [jh]
  cases hd:(!(!(u4.getD u6.toNat default))) with
  |true=>rfl
  |false=>
   have hg:(qh false u6 m).2=false:=by
    rw [Oc (fun e he=>(hm e he).1)]
    refine decide_eq_false fun hmem=>?_
    obtain ⟨e,he,hee⟩:=List.mem_map.1 hmem
    have:=hb e he
    rw [hee,hr] at this;cases this
   rw [hg]
   cases hq:dV (x0.Objects.getD u6.toNat default).fB.Kind 1 with
   |true=>rfl
   |false=>
    rw [hd,hg,hq] at h
    simp only [cond_false] at h ⊢
    have hnm:u6∉m.map (·.1):=by
     rw [Oc (fun e he=>(hm e he).1)] at hg
     exact of_decide_eq_false hg
    rw [VT hnm] at h ⊢
    have hk:dV (yx x0 u6.toNat) 1=false:=hq
    have hr':run x0 k (yA x0 u6.toNat).toNat=true:=by
     have:run x0 (k+1) u6.toNat=(bif dV (yx x0 u6.toNat) 1 then true else run x0 k (yA x0 u6.toNat).toNat):=rfl
     rw [this,hk] at hr;exact hr
    match k,hr',hl,hb,hr with
    |0,hr',_,_,_=>cases hr'
    |j+1,hr',hl,hb,hr=>
     have hl':run x0 j (yA x0 u6.toNat).toNat=false:=by
      have:run x0 (j+1) u6.toNat=(bif dV (yx x0 u6.toNat) 1 then true else run x0 j (yA x0 u6.toNat).toNat):=rfl
      rw [this,hk] at hl;exact hl
     refine QK hP h (fun e he=>?_) (ajx hP (pJ.1 hq)) hr' hl' (fun e he=>?_)
     .rcases List.mem_append.1 he with he|he
      .exact hm e he
      .simp at he;subst he;exact ⟨rfl,h0⟩
     .rcases List.mem_append.1 he with he|he
      .cases hc:run x0 (j+1) e.1.toNat with
       |false=>rfl
       |true=>have:=Ji hc;rw [hb e he] at this;cases this
      .simp at he;subst he;exact hl
theorem Og {x0:dK}(hP:F6 x0)(hB:x0.Objects.length<=4294967296)(ha:Gj x0):∀(n j:Nat) (u2:Bool) (u4:List Bool),j<=x0.Objects.length->x0.Objects.length-j<n->(lN x0 n u2 j u4).1=true
 |0,j,_,_,_,h=>by omega
 |n+1,j,u2,u4,hj,hn=>by
  simp only [lN,dN]
  by_cases hlt:j<x0.Objects.length
  .have e1:(!decide ((j:Int)<(x0.Objects.length:Int)))=false:=by rw [decide_eq_true (by omega)];rfl
   rw [e1]
   simp only [cond_false]
   obtain ⟨m,hm⟩:=ha j hlt
   obtain ⟨k,h1,h2⟩:=F7 hm
   have hw:=QK hP (Ko hP (u4:=u4) (u2:=u2) (u3:=(j:Int))) (by simp) (by omega) (k:=k) (by simpa using h1) (by simpa using h2) (by simp)
   rw [hw]
   have e2:(!dV (kP true) 0)=false:=rfl
   simp only [e2,cond_false]
   rw [ng (by omega) (by omega)]
   have e3:((j:Int)+1)=((j+1:Nat):Int):=by omega
   rw [e3]
   exact Og hP hB ha n (j+1) _ _ (by omega) (by omega)
  .have e1:(!decide ((j:Int)<(x0.Objects.length:Int)))=true:=by rw [decide_eq_false (by omega)];rfl
   rw [e1];rfl
theorem Oh {x0:dK}(hP:F6 x0)(hB:x0.Objects.length<=4294967296)(ha:Gj x0):qm x0=false:=by
 unfold qm
 dsimp only
 rw [dN,Int.toNat_natCast]
 have:=Og hP hB ha (x0.Objects.length+1) 0 false (List.replicate x0.Objects.length false) (Nat.zero_le _) (by omega)
 have e0:((0:Nat):Int)=0:=rfl
 rw [e0] at this
 rw [this]
 rfl
theorem xY {α:Type}[Inhabited α]{l:List α}{i j:Nat}{x:α}(hi:i<l.length):(l.set i x).getD j default=if j=i then x else l.getD j default:=by
 rw [List.getD_eq_getElem?_getD,List.getElem?_set]
 by_cases h:i=j
 .subst h;simp [hi]
 .rw [if_neg h,if_neg (fun e=>h e.symm),List.getD_eq_getElem?_getD]
def Aa (h:dK)(i:Nat)(o:dQ):dK:=⟨h.Objects.set i o⟩
theorem uF {h:dK}{i j:Nat}{o:dQ}(hi:i<h.Objects.length):(Aa h i o).Objects.getD j default=if j=i then o else h.Objects.getD j default:=xY hi
theorem F8 {h:dK}{i:Nat}{o:dQ}:(Aa h i o).Objects.length=h.Objects.length:=by simp [Aa]
theorem ahA {h:dK}{i:Nat}{o:dQ}(hi:i<h.Objects.length)(hk:o.Kind=(h.Objects.getD i default).Kind)(hc:o.Calls=(h.Objects.getD i default).Calls)(hm:o.Makes=(h.Objects.getD i default).Makes):adh h (Aa h i o):=by
 refine ⟨F8.symm,fun j=>?_,fun j=>?_,fun j=>?_⟩<;>
 .rw [uF hi]
  by_cases e:j=i
  .subst e;rw [if_pos rfl];simp [hk,hc,hm]
  .rw [if_neg e]
theorem Zu.set {h:dK}(k:Zu h){i:Nat}(hi:i<h.Objects.length){o:dQ}(hk:o.Kind=(h.Objects.getD i default).Kind)(hc:o.Calls=(h.Objects.getD i default).Calls)(hm:o.Makes=(h.Objects.getD i default).Makes)
  (ho:Pj h o (i:Nat)=true) (ha:Gj (Aa h i o)):Zu (Aa h i o):=by
 have s:=ahA hi hk hc hm
 have ajB:∀j,j<(Aa h i o).Objects.length->jo (Aa h i o) (j:Nat)=true:=fun j hj=>by
  rw [Jj,<- afs s,Int.toNat_natCast,uF hi]
  by_cases e:j=i
  .subst e;rw [if_pos rfl];exact ho
  .rw [if_neg e]
   have:=k.obj j (by rw [F8] at hj;exact hj)
   rw [Jj,Int.toNat_natCast] at this
   exact this
 have hl:(Aa h i o).Objects.length<=4096:=by rw [F8];exact k.len
 exact ⟨hl,ajB,Oh (Jh ajB) (by omega) ha⟩
theorem QM {h:dK}{i:Nat}{o:dQ}(hi:i<h.Objects.length)(hp:o.fB=(h.Objects.getD i default).fB)(ha:Gj h):Gj (Aa h i o):=by
 have hk:∀j,yx h j=yx (Aa h i o) j:=fun j=>by
  unfold yx;rw [uF hi]
  by_cases e:j=i
  .subst e;rw [if_pos rfl,hp]
  .rw [if_neg e]
 have hr:∀j,yA h j=yA (Aa h i o) j:=fun j=>by
  unfold yA;rw [uF hi]
  by_cases e:j=i
  .subst e;rw [if_pos rfl,hp]
  .rw [if_neg e]
 intro j hj
 rw [F8] at hj
 obtain ⟨n,hn⟩:=ha j hj
 exact ⟨n,by rw [<- adl hk hr];exact hn⟩
structure ahB (h:dK)(o:dQ)(n:Int):Prop where
 tg:((((!(qx o.Target 0))&&(!(((((dV o.Kind 5)&&dS o.Target)&&(decide ((o.Target.Ref:Int)<n)))&&fF h o.Target)&&(dV (h.Objects.getD (o.Target.Ref:Int).toNat default).Kind 6))))||(!(qx o.Handler 0)))||((YZ o.Text [])&&(iO o.Kind 3)))=false
 pk:((iO o.fB.Kind 1)&&(!(dS o.fB)))=false
 pin:fF h o.fB=true
 tc:jm o.Props=0
 pv:∀p∈o.Props,fF h p.dY.Value=true/\fF h p.dY.Get=true/\fF h p.dY.Set=true
 kc:(bif (dV o.Kind 1) then ((!o.Calls)&&(!o.Makes)) else bif (dV o.Kind 4) then (o.Calls&&o.Makes) else o.Calls)=true
theorem Dz {l:List dJ}(h:jm l=0):l.length<=1024:=by
 by_cases hl:l.length<=1024
 .exact hl
 .unfold jm at h
  dsimp only at h
  rw [dN,decide_eq_true (by omega)] at h
  cases h
open Classical in
theorem Ya {h:dK}{o:dQ}(hB:o.Props.length<=4294967296):∀(n j:Nat) (a:Bool),j<=o.Props.length->o.Props.length-j<n->gU h o n a j=if ∀p∈o.Props.drop j,fF h p.dY.Value=true/\fF h p.dY.Get=true/\fF h p.dY.Set=true then (true,a,default) else (false,default,false)
 |0,j,_,_,hh=>by omega
 |n+1,j,a,hj,hn=>by
  simp only [gU,dN,Int.toNat_natCast]
  by_cases hlt:j<o.Props.length
  .have e1:(!decide ((j:Int)<(o.Props.length:Int)))=false:=by rw [decide_eq_true (by omega)];rfl
   have e4:o.Props.drop j=o.Props.getD j default::o.Props.drop (j+1):=by
    rw [List.drop_eq_getElem_cons hlt,List.getD_eq_getElem?_getD,List.getElem?_eq_getElem hlt];rfl
   rw [e1,ng (by omega) (by omega)]
   have e2:((j:Int)+1)=((j+1:Nat):Int):=by omega
   rw [e2]
   simp only [cond_false]
   rw [Ya hB n (j+1) a (by omega) (by omega),e4]
   simp only [List.mem_cons,forall_eq_or_imp]
   generalize o.Props.getD j default=p
   cases fF h p.dY.Value<;>cases fF h p.dY.Get<;>cases fF h p.dY.Set<;>simp
  .have e1:(!decide ((j:Int)<(o.Props.length:Int)))=true:=by rw [decide_eq_false (by omega)];rfl
   rw [e1,if_pos (by rw [List.drop_eq_nil_of_le (by omega)];simp)]
   rfl
theorem V5 {h:dK}{o:dQ}{n:Int}(hk:o.Kind=1\/o.Kind=4\/o.Kind=5):Pj h o n=true↔ahB h o n:=by
 have h6:dV o.Kind 6=false:=pJ.2 (by omega)
 have h2:dV o.Kind 2=false:=pJ.2 (by omega)
 have h3:dV o.Kind 3=false:=pJ.2 (by omega)
 have hlast:(bif (dV o.Kind 1) then ((!o.Calls)&&(!o.Makes)) else bif (dV o.Kind 2) then (((!o.Calls)&&(!o.Makes))&&uQ o.Props) else bif (dV o.Kind 3) then (((!o.Calls)&&(!o.Makes))&&uS o.Props o.Text) else bif (dV o.Kind 4) then (o.Calls&&o.Makes) else bif (dV o.Kind 5) then o.Calls else false)=(bif (dV o.Kind 1) then ((!o.Calls)&&(!o.Makes)) else bif (dV o.Kind 4) then (o.Calls&&o.Makes) else o.Calls):=by
  rw [h2,h3]
  rcases hk with e|e|e<;>rw [e]<;>rfl
 unfold Pj
 rw [h6,hlast]
 simp only [cond_false]
 constructor
 .intro q
  obtain ⟨q1,q⟩:=wG q
  obtain ⟨q2,q⟩:=wG q
  simp only [Bool.or_eq_false_iff,Bool.not_eq_false'] at q2
  have tc:=qy.1 q2.2
  have e:=Ya (h:=h) (o:=o) (by have:=Dz tc;omega) (o.Props.length+1) 0 false (Nat.zero_le _) (by omega)
  have e0:((0:Nat):Int)=0:=rfl
  rw [e0] at e
  rw [e] at q
  split at q<;>rename_i hc
  .exact ⟨q1,q2.1.1,q2.1.2,tc,by simpa using hc,q⟩
  .simp [kP,dV] at q
 .intro p
  have e:=Ya (h:=h) (o:=o) (by have:=Dz p.tc;omega) (o.Props.length+1) 0 false (Nat.zero_le _) (by omega)
  have e0:((0:Nat):Int)=0:=rfl
  rw [e0,if_pos (by simpa using p.pv)] at e
  rw [p.tg,e,p.pk,p.pin,qy.2 p.tc]
  exact p.kc
end Go.Fw
end
section
namespace Go.Fw
structure HWf (h:dK):Prop where
 ps:∀o∈h.Objects,∀p∈o.Props,p.dY.ok
 pr:∀o∈h.Objects,o.fB.ok
theorem hwf {h:dK}(w:h.wf):HWf h:=⟨fun o ho p hp=>dok ((w.Objects.2 o ho).Props.2 p hp).dY,fun o ho=>vok (w.Objects.2 o ho).fB⟩
theorem HWf.at {h:dK}(w:HWf h)(i:Nat):(∀p∈(h.Objects.getD i default).Props,p.dY.ok)/\(h.Objects.getD i default).fB.ok:=by
 by_cases hi:i<h.Objects.length
 .have:h.Objects.getD i default∈h.Objects:=by rw [List.getD_eq_getElem?_getD,List.getElem?_eq_getElem hi];exact List.getElem_mem hi
  exact ⟨w.ps _ this,w.pr _ this⟩
 .rw [List.getD_eq_getElem?_getD,List.getElem?_eq_none (by omega)]
  exact ⟨fun p hp=>(by cases hp),⟨⟨by decide,by decide⟩,by decide⟩⟩
theorem HWf.set {h:dK}(w:HWf h){i:Nat}{o:dQ}(h1:∀p∈o.Props,p.dY.ok)(h2:o.fB.ok):HWf (Aa h i o):=by
 refine ⟨fun x hx=>?_,fun x hx=>?_⟩
 .rcases List.mem_or_eq_of_mem_set hx with hx|hx
  .exact w.ps x hx
  .subst hx;exact h1
 .rcases List.mem_or_eq_of_mem_set hx with hx|hx
  .exact w.pr x hx
  .subst hx;exact h2
theorem LX {h:dK}{v:dP}(q:jF h v=true):fF h v=true:=by
 unfold jF at q
 unfold fF wY
 dsimp only at q ⊢
 cases ho:dS v with
 |false=>rw [ho] at q;simp at q;simp [q]
 |true=>
  rw [ho] at q
  simp only [Bool.not_true,cond_false] at q
  obtain ⟨q1,q2⟩:=wG q
  simp only [Bool.or_eq_false_iff,Bool.not_eq_false',decide_eq_false_iff_not] at q1
  rw [q1.1]
  simp only [Bool.not_true,cond_false,Bool.false_or,Bool.and_eq_true,decide_eq_true_eq]
  refine ⟨by omega,?_⟩
  generalize h.Objects.getD v.Ref.toNat default=o at q2 ⊢
  simp only [Bool.or_eq_true,Bool.and_eq_true,Bool.not_eq_true',mV] at q2
  rcases q2 with (⟨a,b⟩|⟨⟨a,b⟩,c⟩)|⟨⟨a,b⟩,c⟩
  .rw [b,a];rfl
  .rw [b,c,a];rfl
  .rw [b,c,a];rfl
structure Asked (h:dK)(a:iK):Prop where
 i0:0<=a.Object
 i1:a.Object.toNat<h.Objects.length
 kind:(h.Objects.getD a.Object.toNat default).Kind=1\/(h.Objects.getD a.Object.toNat default).Kind=4\/(h.Objects.getD a.Object.toNat default).Kind=5
 m2:a.Method=2->jD h a.Value=true
 key:a.Method=5\/a.Method=6\/a.Method=10->qZ a.Key=0
 m6:a.Method=6->qL a.dY=0/\jF h a.dY.Value=true/\jF h a.dY.Get=true/\jF h a.dY.Set=true
 mm:a.Method=1\/a.Method=2\/a.Method=3\/a.Method=4\/a.Method=5\/a.Method=6\/a.Method=10\/a.Method=11
theorem Zx {c:Bool}{n b:Int}(hn:n≠0)(h:(bif c then n else b)=0):c=false/\b=0:=by cases c<;>simp_all
theorem agz {c:Bool}{n b:Int}(h:(bif c&&iO n 0 then n else b)=0):(c=true->n=0)/\b=0:=by
 cases c
 .simpa using h
 .simp only [Bool.true_and] at h
  cases hn:iO n 0 with
  |true=>rw [hn] at h;exact absurd h (Gq.1 hn)
  |false=>rw [hn] at h;exact ⟨fun _=>qy.1 hn,h⟩
theorem aaZ {h:dK}{a:iK}(q:fZ h a=0):Asked h a:=by
 unfold fZ at q
 dsimp only at q
 obtain ⟨q1,q⟩:=Zx (by decide) q
 obtain ⟨q2,q⟩:=Zx (by decide) q
 obtain ⟨q3,q⟩:=Zx (by decide) q
 rw [dN] at q1
 simp only [Bool.or_eq_false_iff,decide_eq_false_iff_not] at q1
 simp only [Bool.not_eq_false',Bool.or_eq_true,mV] at q2
 have hfin:∀{c:Bool},(bif c then (2:Int) else 0)=0->c=false:=by intro c;cases c<;>simp
 by_cases g:a.Method=1\/a.Method=3\/a.Method=4\/a.Method=11
 .exact ⟨by omega,by omega,q2,fun e=>by omega,fun e=>by omega,fun e=>by omega,by omega⟩
 .have g':(!(dV a.Method 1||(dV a.Method 3||(dV a.Method 4||dV a.Method 11))))=true:=by
   simp only [Bool.not_eq_true',Bool.or_eq_false_iff,pJ];omega
  rw [g'] at q q3
  simp only [Bool.true_and] at q q3
  by_cases m2:a.Method=2
  .rw [m2] at q3
   have:jD h a.Value=true:=by simpa [dV] using q3
   exact ⟨by omega,by omega,q2,fun _=>this,fun e=>by omega,fun e=>by omega,by omega⟩
  .have g2:(!(dV a.Method 2))=true:=by simp only [Bool.not_eq_true',pJ];exact m2
   rw [g2] at q
   simp only [Bool.true_and] at q
   by_cases m5:a.Method=5\/a.Method=10
   .have:(dV a.Method 5||dV a.Method 10)=true:=by simp only [Bool.or_eq_true,mV];exact m5
    rw [this] at q
    exact ⟨by omega,by omega,q2,fun e=>by omega,fun _=>q,fun e=>by omega,by omega⟩
   .have:(dV a.Method 5||dV a.Method 10)=false:=by simp only [Bool.or_eq_false_iff,pJ];omega
    rw [this] at q
    simp only [cond_false] at q
    by_cases m6:a.Method=6
    .have e6:dV a.Method 6=true:=mV.2 m6
     rw [e6] at q
     obtain ⟨k1,q⟩:=agz q
     obtain ⟨k2,q⟩:=agz q
     obtain ⟨k3,q⟩:=Zx (by decide) q
     simp only [Bool.true_and,Bool.or_eq_false_iff,Bool.not_eq_false'] at k3
     exact ⟨by omega,by omega,q2,fun e=>by omega,fun _=>k1 rfl,fun _=>⟨k2 rfl,k3.1.1,k3.1.2,k3.2⟩,by omega⟩
    .have e6:dV a.Method 6=false:=pJ.2 m6
     rw [e6] at q
     simp at q
theorem apw {α:Type}{l:List α}{i:Nat}{x y:α}(h:y∈l.set i x):y∈l\/y=x:=List.mem_or_eq_of_mem_set h
theorem afu {l:List dJ}{k:dL}{d:dM}:∀p∈(fC l k d).1,p∈l\/p.dY=d:=by
 unfold fC
 dsimp only
 intro p
 cases (iO (mD l k) 0) with
 |true=>intro hp;cases hp
 |false=>
  cases (!sF d) with
  |true=>intro hp;cases hp
  |false=>
   cases (decide (lU l k<0)&&dV (jc dJ.enc l) 1024) with
   |true=>intro hp;cases hp
   |false=>
    cases decide (lU l k<0) with
    |true=>
     intro hp
     simp only [cond_true,cond_false] at hp
     rcases List.mem_append.1 hp with hp|hp
     .exact .inl (List.mem_of_mem_drop (List.mem_of_mem_take hp))
     .simp at hp;subst hp;exact .inr rfl
    |false=>
     intro hp
     simp only [cond_false] at hp
     rcases apw (List.mem_of_mem_drop (List.mem_of_mem_take hp)) with hp|hp
     .exact .inl hp
     .subst hp;exact .inr rfl
theorem zin {h:dK}:fF h (dP.mk 0 0 [] 0)=true:=by
 unfold fF
 dsimp only
 have e1:jH (dP.mk 0 0 [] 0)=true:=by decide +kernel
 have e2:dS (dP.mk 0 0 [] 0)=false:=by decide +kernel
 rw [e1,e2];rfl
theorem DC {x0:Bool}{x1:dM}{x2:Bool}{x3:dM}(h:(fG x0 x1 x2 x3).2.1=true):jy x0 x1 x2 x3=(true,0):=by
 unfold fG at h
 dsimp only at h
 cases hc:(iO (jy x0 x1 x2 x3).2 0||!(jy x0 x1 x2 x3).1) with
 |true=>rw [hc] at h;cases h
 |false=>
  simp only [Bool.or_eq_false_iff,Bool.not_eq_false',qy] at hc
  exact Prod.ext hc.2 hc.1
theorem adn {h:dK}{x0:Bool}{x1:dM}{x2:Bool}{x3:dM}(h1:x1.ok)(h3:x3.ok)(q:(fG x0 x1 x2 x3).2.1=true)(i1:fF h x1.Value=true/\fF h x1.Get=true/\fF h x1.Set=true)(i3:fF h x3.Value=true/\fF h x3.Get=true/\fF h x3.Set=true) :
  fF h (fG x0 x1 x2 x3).1.Value=true/\fF h (fG x0 x1 x2 x3).1.Get=true/\fF h (fG x0 x1 x2 x3).1.Set=true:=by
 rw [apo h1 h3 (DC q)]
 dsimp only
 unfold mix lu
 dsimp only
 cases x2
 .exact i1
 .simp only [Bool.not_true,cond_false]
  cases ao7 x1 x3
  .simp only [cond_false]
   refine ⟨?_,?_,?_⟩
   .cases hb x1.Has 0<;>simp [i1,i3]
   .cases hb x1.Has 2<;>simp [i1,i3]
   .cases hb x1.Has 3<;>simp [i1,i3]
  .exact i1
theorem J_.ofT {l:List dJ}(hok:∀p∈l,p.dY.ok)(h:jm l=0):J_ l:=by
 have hl:=Dz h
 have:iY l=0:=by rw [<- y8 l (by omega) hok];exact h
 exact J_.of (by omega) this
theorem J_.ajC {l:List dJ}(hok:∀p∈l,p.dY.ok)(h:J_ l):jm l=0:=by
 rw [y8 l h.big hok];exact h.chk
theorem Zy {l:List dJ}{k:dL}(h:(y9 l k).2.1=true):∃p∈l,p.Key=k/\(y9 l k).1=p.dY:=by
 unfold y9 at h ⊢
 cases hf:l.find? (isK k) with
 |none=>rw [hf] at h;cases h
 |some p=>
  have:=List.find?_some hf
  exact ⟨p,List.mem_of_find?_eq_some hf,of_decide_eq_true this,rfl⟩
theorem V6 {l:List dJ}{k:dL}(h:(y9 l k).2.1=false):(y9 l k).1=d00:=by
 unfold y9 at h ⊢
 cases hf:l.find? (isK k) with
 |none=>rfl
 |some p=>rw [hf] at h;cases h
theorem ahC : d00.ok:=⟨⟨by decide,by decide⟩,⟨⟨by decide,by decide⟩,by decide⟩,⟨⟨by decide,by decide⟩,by decide⟩,⟨⟨by decide,by decide⟩,by decide⟩⟩
theorem ado {l:List dJ}(hok:∀p∈l,p.dY.ok){k:dL}:(y9 l k).1.ok:=by
 cases h:(y9 l k).2.1 with
 |true=>obtain ⟨p,hp,-,e⟩:=Zy h;rw [e];exact hok p hp
 |false=>rw [V6 h];exact ahC
theorem ahD {h:dK}{l:List dJ}(hv:∀p∈l,fF h p.dY.Value=true/\fF h p.dY.Get=true/\fF h p.dY.Set=true){k:dL}:fF h (y9 l k).1.Value=true/\fF h (y9 l k).1.Get=true/\fF h (y9 l k).1.Set=true:=by
 cases hf:(y9 l k).2.1 with
 |true=>obtain ⟨p,hp,-,e⟩:=Zy hf;rw [e];exact hv p hp
 |false=>rw [V6 hf];exact ⟨zin,zin,zin⟩
structure Obj (h:dK)(a:iK):Prop where
 ok:Zu h
 wf:HWf h
 ak:Asked h a
 po:ahB h (h.Objects.getD a.Object.toNat default) (a.Object.toNat:Nat)
 pp:J_ (h.Objects.getD a.Object.toNat default).Props
 pd:∀p∈(h.Objects.getD a.Object.toNat default).Props,p.dY.ok
theorem Obj.mk' {h:dK}{a:iK}(w:HWf h)(e:(vJ h a).2.2=0):Obj h a:=by
 obtain ⟨hC,hw⟩:=ajz e
 have k:=tq.1 hC
 have A:=aaZ hw
 have:=k.obj _ A.i1
 rw [Jj,Int.toNat_natCast] at this
 have po:=(V5 A.kind).1 this
 exact ⟨k,w,A,po,J_.ofT (w.at _).1 po.tc,(w.at _).1⟩
structure Left (h:dK)(a:iK)(x:dK):Prop where
 ok:Zu x
 wf:HWf x
 len:x.Objects.length=h.Objects.length
 el:∀j,j≠a.Object.toNat->x.Objects.getD j default=h.Objects.getD j default
 kd:(x.Objects.getD a.Object.toNat default).Kind=(h.Objects.getD a.Object.toNat default).Kind
theorem Left.refl {h:dK}{a:iK}(B:Obj h a):Left h a h:=⟨B.ok,B.wf,rfl,fun _ _=>rfl,rfl⟩
theorem Left.set {h:dK}{a:iK}(B:Obj h a){o:dQ}(hk:o.Kind=(h.Objects.getD a.Object.toNat default).Kind)(hc:o.Calls=(h.Objects.getD a.Object.toNat default).Calls)(hm:o.Makes=(h.Objects.getD a.Object.toNat default).Makes)
  (ho:ahB h o (a.Object.toNat:Nat)) (ha:Gj (Aa h a.Object.toNat o)) (h1:∀p∈o.Props,p.dY.ok) (h2:o.fB.ok):Left h a (Aa h a.Object.toNat o):=by
 refine ⟨B.ok.set B.ak.i1 hk hc hm ((V5 (by rw [hk];exact B.ak.kind)).2 ho) ha,B.wf.set h1 h2,F8,fun j hj=>?_,?_⟩
 .rw [uF B.ak.i1,if_neg hj]
 .rw [uF B.ak.i1,if_pos rfl,hk]
theorem Left.ext {h:dK}{a:iK}(B:Obj h a)(b:Bool):Left h a (Aa h a.Object.toNat {h.Objects.getD a.Object.toNat default with Ext:=b}):=
 .set B rfl rfl rfl ⟨B.po.tg,B.po.pk,B.po.pin,B.po.tc,B.po.pv,B.po.kc⟩ (QM B.ak.i1 rfl B.ok.ade) B.pd (B.wf.at _).2
theorem Left.props {h:dK}{a:iK}(B:Obj h a){l:List dJ}(h1:jm l=0)(h2:∀p∈l,fF h p.dY.Value=true/\fF h p.dY.Get=true/\fF h p.dY.Set=true)(h3:∀p∈l,p.dY.ok):Left h a (Aa h a.Object.toNat {h.Objects.getD a.Object.toNat default with Props:=l}):=
 .set B rfl rfl rfl ⟨B.po.tg,B.po.pk,B.po.pin,h1,h2,B.po.kc⟩ (QM B.ak.i1 rfl B.ok.ade) h3 (B.wf.at _).2
theorem K_ {h:dK}{i:Nat}(k:Zu h){o:dQ}(hi:i<h.Objects.length):∀{n:Nat} {u:Bool} {v:dP},hIn h v->jP h (i:Nat) n u v=true->(bif (dV (kP (jq h (i:Nat) n u v).1) 0) then false else (jq h (i:Nat) n u v).2.2.2.1)=false->dS v=true->∃m,run (Aa h i o) m v.Ref.toNat=true
 |0,_,_,_,h,_,_=>by cases h
 |n+1,u,v,hv,hT,hq,ho=>by
  simp only [jP] at hT
  simp only [jq] at hq
  rw [ho] at hT hq
  simp only [Bool.not_true,cond_false] at hT hq
  have hin:=hv ho
  cases hr:dV v.Ref (i:Nat) with
  |true=>rw [hr] at hq;simp [kP,dV] at hq
  |false=>
   rw [hr] at hT hq
   simp only [cond_false] at hT hq
   have hne:v.Ref.toNat≠i:=by have:=pJ.1 hr;omega
   have hk:yx (Aa h i o) v.Ref.toNat=yx h v.Ref.toNat:=by unfold yx;rw [uF hi,if_neg hne]
   have hR:yA (Aa h i o) v.Ref.toNat=yA h v.Ref.toNat:=by unfold yA;rw [uF hi,if_neg hne]
   have step:∀m,run (Aa h i o) (m+1) v.Ref.toNat=(bif dV (yx h v.Ref.toNat) 1 then true else run (Aa h i o) m (yA h v.Ref.toNat).toNat):=fun m=>by
    show (bif dV (yx (Aa h i o) v.Ref.toNat) 1 then true else run (Aa h i o) m (yA (Aa h i o) v.Ref.toNat).toNat)=_
    rw [hk,hR]
   cases hn:dV (yx h v.Ref.toNat) 1 with
   |true=>exact ⟨1,by rw [step,hn];rfl⟩
   |false=>
    have hlt:v.Ref.toNat<h.Objects.length:=by omega
    rcases Dy (k.obj _ hlt) with h1|⟨h1,h2⟩
    .simp only [Int.toNat_natCast] at h1
     exact absurd h1 (pJ.1 hn)
    .simp only [Int.toNat_natCast] at h1 h2
     cases h6:dV (h.Objects.getD v.Ref.toNat default).Kind 6 with
     |true=>
      exfalso
      have:=k.obj _ hlt
      rw [Jj,Int.toNat_natCast] at this
      unfold Pj at this
      rw [h6] at this
      simp only [cond_true] at this
      unfold o7 at this
      dsimp only at this
      obtain ⟨hc,-⟩:=wG this
      simp only [Bool.or_eq_false_iff,Bool.not_eq_false'] at hc
      have hc:=hc.1.1.2
      unfold qx at hc
      dsimp only at hc
      rw [Bool.and_eq_true] at hc
      have:=hc.1
      unfold yx at hn
      rw [hn] at this;cases this
     |false=>
      rw [h6] at hT hq
      simp only [cond_false] at hT hq
      obtain ⟨m,hm⟩:=K_ k hi (Tt h2) hT hq h1
      exact ⟨m+1,by rw [step,hn];exact hm⟩
theorem Yb {h:dK}{i:Nat}{v:dP}(k:Zu h)(hi:i<h.Objects.length)(hv:hIn h v)(hn:v.Kind=1\/dS v=true)(hb:iD h (i:Nat) v=false){o:dQ}(ho:o.fB=v):Gj (Aa h i o):=by
 have kI:yx (Aa h i o) i=v.Kind:=by unfold yx;rw [uF hi,if_pos rfl,ho]
 have rI:yA (Aa h i o) i=v.Ref:=by unfold yA;rw [uF hi,if_pos rfl,ho]
 have atI:∃m,run (Aa h i o) m i=true:=by
  by_cases h1:v.Kind=1
  .refine ⟨1,?_⟩
   show (bif dV (yx (Aa h i o) i) 1 then true else _)=true
   rw [kI,mV.2 h1];rfl
  .have ho':dS v=true:=by rcases hn with h|h;exact absurd h h1;exact h
   obtain ⟨m,hm⟩:=K_ (o:=o) k hi hv (Oe (tq.2 k) hv (u3:=false) (x1:=(i:Nat))) (by unfold iD at hb;exact hb) ho'
   refine ⟨m+1,?_⟩
   show (bif dV (yx (Aa h i o) i) 1 then true else run (Aa h i o) m (yA (Aa h i o) i).toNat)=true
   rw [kI,rI,pJ.2 h1];exact hm
 have all:∀(n j:Nat),run h n j=true->∃m,run (Aa h i o) m j=true:=by
  intro n
  induction n with
  |zero=>intro j hj;cases hj
  |succ n ih=>
   intro j hj
   by_cases e:j=i
   .subst e;exact atI
   .have hk:yx (Aa h i o) j=yx h j:=by unfold yx;rw [uF hi,if_neg e]
    have hR:yA (Aa h i o) j=yA h j:=by unfold yA;rw [uF hi,if_neg e]
    have step:∀m,run (Aa h i o) (m+1) j=(bif dV (yx h j) 1 then true else run (Aa h i o) m (yA h j).toNat):=fun m=>by
     show (bif dV (yx (Aa h i o) j) 1 then true else run (Aa h i o) m (yA (Aa h i o) j).toNat)=_
     rw [hk,hR]
    have hj':(bif dV (yx h j) 1 then true else run h n (yA h j).toNat)=true:=hj
    cases hn:dV (yx h j) 1 with
    |true=>exact ⟨1,by rw [step,hn];rfl⟩
    |false=>
     rw [hn] at hj'
     obtain ⟨m,hm⟩:=ih _ hj'
     exact ⟨m+1,by rw [step,hn];exact hm⟩
 intro j hj
 rw [F8] at hj
 obtain ⟨n,hn⟩:=k.ade j hj
 exact all n j hn
theorem Oi {h:dK}{v:dP}(q:jD h v=true):v.Kind=1\/dS v=true:=by
 unfold jD at q
 dsimp only at q
 rw [Bool.and_eq_true,Bool.or_eq_true] at q
 rcases q.1 with h|h
 .exact .inl (mV.1 h)
 .exact .inr h
theorem aa0 {h:dK}{v:dP}(q:jD h v=true):fF h v=true:=by
 unfold jD at q
 dsimp only at q
 rw [Bool.and_eq_true] at q
 exact LX q.2
theorem Left.proto {h:dK}{a:iK}(B:Obj h a)(h2:a.Method=2)(hv:a.Value.ok)(hb:iD h a.Object a.Value=false):Left h a (Aa h a.Object.toNat {h.Objects.getD a.Object.toNat default with fB:=a.Value}):=by
 have hp:=B.ak.m2 h2
 have hb':iD h (a.Object.toNat:Nat) a.Value=false:=by
  have:((a.Object.toNat:Nat):Int)=a.Object:=by have:=B.ak.i0;omega
  rw [this];exact hb
 refine .set B rfl rfl rfl ⟨B.po.tg,?_,aa0 hp,B.po.tc,B.po.pv,B.po.kc⟩ (Yb B.ok B.ak.i1 (adf hp) (Oi hp) hb' rfl) B.pd hv
 show (iO a.Value.Kind 1&&!dS a.Value)=false
 rcases Oi hp with h|h
 .rw [h];rfl
 .rw [h];simp
end Go.Fw
end
section
namespace Go.Fw
abbrev oO (h:dK)(a:iK):dQ:=h.Objects.getD a.Object.toNat default
theorem afv {h:dK}{a:iK}(B:Obj h a){k:dL}(hk:qZ k=0):dZ (oO h a).Props k=y9 (oO h a).Props k:=
 B.pp.find B.pd (by rw [<- vM];exact hk)
structure alG (h:dK)(a:iK):Prop where
 pu:ajv (oO h a).Props a.Key (fG (oO h a).Ext a.dY (y9 (oO h a).Props a.Key).2.1 (y9 (oO h a).Props a.Key).1).1 (fC (oO h a).Props a.Key (fG (oO h a).Ext a.dY (y9 (oO h a).Props a.Key).2.1 (y9 (oO h a).Props a.Key).1).1).1
theorem Left.put {h:dK}{a:iK}(B:Obj h a)(m:a.Method=6)(hd:a.dY.ok)(h1:(fG (oO h a).Ext a.dY (y9 (oO h a).Props a.Key).2.1 (y9 (oO h a).Props a.Key).1).2.1=true)
  (h2:(fC (oO h a).Props a.Key (fG (oO h a).Ext a.dY (y9 (oO h a).Props a.Key).2.1 (y9 (oO h a).Props a.Key).1).1).2=0) :
  Left h a (Aa h a.Object.toNat {oO h a with Props:=(fC (oO h a).Props a.Key (fG (oO h a).Ext a.dY (y9 (oO h a).Props a.Key).2.1 (y9 (oO h a).Props a.Key).1).1).1})/\alG h a:=by
 have hk:iy a.Key=0:=by rw [<- vM];exact B.ak.key (.inr (.inl m))
 have b:=apc hd (ado B.pd) (DC h1)
 have pf:=aaW B.pp B.pd hk b.ok h2
 have m6:=B.ak.m6 m
 have ai:=adn hd (ado B.pd) h1 ⟨LX m6.2.1,LX m6.2.2.1,LX m6.2.2.2⟩ (ahD B.po.pv (k:=a.Key))
 refine ⟨Left.props B (J_.ajC pf.ok pf.tb) (fun p hp=>?_) pf.ok,⟨pf⟩⟩
 rcases afu p hp with h|h
 .exact B.po.pv p h
 .rw [h];exact ai
theorem Left.drop {h:dK}{a:iK}(B:Obj h a)(m:a.Method=10) :
  Left h a (Aa h a.Object.toNat {oO h a with Props:=(fK (oO h a).Props a.Key).1}):=by
 have hk:iy a.Key=0:=by rw [<- vM];exact B.ak.key (.inr (.inr m))
 rw [afp B.pp B.pd hk]
 have d:=X9 B.pp B.pd (k:=a.Key)
 exact Left.props B (J_.ajC d.ok d.tb) (fun p hp=>B.po.pv p (List.mem_filter.1 hp).1) d.ok
theorem adp {h:dK}{a:iK}(B:Obj h a)(hv:a.Value.ok)(hd:a.dY.ok):Left h a (doB h a).1:=by
 unfold doB
 dsimp only
 cases m1:dV a.Method 1 with
 |true=>exact .refl B
 |false=>
 cases m2:dV a.Method 2 with
 |true=>
  simp only [cond_false,cond_true]
  cases hc:(jQ a.Value (h.Objects.getD a.Object.toNat default).fB||!(h.Objects.getD a.Object.toNat default).Ext||iD h a.Object a.Value) with
  |true=>exact .refl B
  |false=>
   simp only [Bool.or_eq_false_iff] at hc
   exact .proto B (mV.1 m2) hv hc.2
 |false=>
 cases m3:dV a.Method 3 with
 |true=>exact .refl B
 |false=>
 cases m4:dV a.Method 4 with
 |true=>exact .ext B false
 |false=>
 cases m5:dV a.Method 5 with
 |true=>exact .refl B
 |false=>
 cases m6:dV a.Method 6 with
 |true=>
  simp only [cond_false,cond_true]
  rw [afv B (B.ak.key (.inr (.inl (mV.1 m6))))]
  cases h1:(fG (oO h a).Ext a.dY (y9 (oO h a).Props a.Key).2.1 (y9 (oO h a).Props a.Key).1).2.1 with
  |false=>exact .refl B
  |true=>
   simp only [Bool.not_true,cond_false]
   cases h2:iO (fC (oO h a).Props a.Key (fG (oO h a).Ext a.dY (y9 (oO h a).Props a.Key).2.1 (y9 (oO h a).Props a.Key).1).1).2 0 with
   |true=>exact .refl B
   |false=>exact (Left.put B (mV.1 m6) hd h1 (qy.1 h2)).1
 |false=>
 cases m10:dV a.Method 10 with
 |true=>
  simp only [cond_false,cond_true]
  cases (dZ (h.Objects.getD a.Object.toNat default).Props a.Key).2.1&&!(dZ (h.Objects.getD a.Object.toNat default).Props a.Key).1.Configurable with
  |true=>exact .refl B
  |false=>exact .drop B (mV.1 m10)
 |false=>exact .refl B
end Go.Fw
end
section
namespace Go.Fw
theorem Yc {h:dK}{o:dQ}{n:Int}(q:Pj h o n=true):o.Props.length<=1024:=by
 unfold Pj at q
 cases h6:dV o.Kind 6 with
 |true=>
  rw [h6] at q
  simp only [cond_true] at q
  unfold o7 at q
  dsimp only at q
  obtain ⟨hc,-⟩:=wG q
  rw [dN] at hc
  simp only [Bool.or_eq_false_iff,decide_eq_false_iff_not] at hc
  have:=hc.1.1.1.1
  omega
 |false=>
  rw [h6] at q
  simp only [cond_false] at q
  obtain ⟨-,q⟩:=wG q
  obtain ⟨q2,q⟩:=wG q
  simp only [Bool.or_eq_false_iff,Bool.not_eq_false'] at q2
  exact Dz (qy.1 q2.2)
theorem Zu.props {h:dK}(k:Zu h):∀o∈h.Objects,o.Props.length<=1024:=by
 intro o ho
 obtain ⟨i,hi,rfl⟩:=List.getElem_of_mem ho
 have:=k.obj i hi
 rw [Jj,Int.toNat_natCast,List.getD_eq_getElem?_getD,List.getElem?_eq_getElem hi] at this
 exact Yc this
end Go.Fw
end
section
namespace Go.Fw
theorem ao3 {α:Type}[Inhabited α]{l:List α}{i:Nat}(hi:i<l.length):l.getD i default∈l:=by
 rw [List.getD_eq_getElem?_getD,List.getElem?_eq_getElem hi];exact List.getElem_mem hi
end Go.Fw
end
section
namespace Go.Fw
end Go.Fw
end
section
namespace Go.Fw
theorem Jk {v:dP}(h:jr v=true):0<=v.Ref:=by
 unfold jr at h
 dsimp only at h
 obtain ⟨-,h⟩:=wG h
 rw [Bool.and_eq_true] at h
 have h:=h.2
 rw [Bool.or_eq_true,Bool.and_eq_true] at h
 rcases h with h|h
 .have:=mV.1 h;omega
 .have:=of_decide_eq_true h.2;omega
theorem w_ {v:dP}:fV v=dS v:=by
 unfold fV dS
 rw [Bool.eq_iff_iff]
 simp only [Bool.or_eq_true,Bool.and_eq_true,decide_eq_true_eq,mV]
 omega
theorem Oj {h:dK}{v:dP}(q:kT h v=true):hIn h v:=by
 intro i
 unfold kT at q
 dsimp only at q
 cases hm:jr v with
 |false=>rw [hm] at q;simp at q
 |true=>
  rw [hm,w_,i] at q
  simp only [Bool.not_true,cond_false,Bool.and_eq_true,decide_eq_true_eq,dN] at q
  exact ⟨Jk hm,q.1⟩
theorem Yd {h:dK}{v:dP}(q:kT h v=true):0<=v.Ref:=by
 unfold kT at q
 dsimp only at q
 cases hm:jr v with
 |false=>rw [hm] at q;simp at q
 |true=>exact Jk hm
theorem Ye {h:dK}{v:dP}(q:kT h v=true)(i:fV v=true):v.Ref<pW (List.map dQ.enc h.Objects):=Zp (Oj q) (w_▸i)
theorem afw {h:dK}{v:dP}(q:nO h v=true):hIn h v:=Oj (show kT h v=true from q)
theorem Pm {x0:dK}{i:Int}(h:jX x0 i=true):(x0.Objects.getD i.toNat default).fB.Kind=1\/(dS (x0.Objects.getD i.toNat default).fB=true/\kT x0 (x0.Objects.getD i.toNat default).fB=true):=by
 unfold jX at h
 dsimp only at h
 generalize x0.Objects.getD i.toNat default=o at h ⊢
 cases h6:dV o.Kind 6 with
 |true=>
  rw [h6] at h
  simp only [cond_true] at h
  unfold vK at h
  dsimp only at h
  obtain ⟨hc,-⟩:=wG h
  left
  simp only [Bool.or_eq_false_iff,Bool.not_eq_false'] at hc
  have:=hc.1.1.2
  unfold lq at this
  dsimp only at this
  rw [Bool.and_eq_true] at this
  exact mV.1 this.1
 |false=>
  rw [h6] at h
  simp only [cond_false] at h
  obtain ⟨hc,h⟩:=wG h
  obtain ⟨hd,h⟩:=wG h
  simp only [Bool.or_eq_false_iff,Bool.not_eq_false'] at hd
  by_cases hk:o.fB.Kind=1
  .exact .inl hk
  .right
   have h1:=hd.1.1
   rw [Gq.2 hk] at h1
   simp only [Bool.true_and,Bool.not_eq_false'] at h1
   exact ⟨w_▸h1,hd.1.2⟩
theorem Kr {x0:dK}(h:∀i,i<x0.Objects.length->jX x0 (i:Nat)=true):F6 x0:=by
 intro i hi hk
 rcases Pm (h i hi) with h1|⟨h1,h2⟩
 .exact absurd h1 hk
 .have:=Oj h2 h1
  exact this
open Classical in
theorem Yf {x0:dK}(hB:x0.Objects.length<=4294967296):∀(n j:Nat) (u1:Bool),j<=x0.Objects.length->x0.Objects.length-j<n->lW x0 n u1 j=if ∀i,j<=i->i<x0.Objects.length->jX x0 (i:Nat)=true then (true,u1,default) else (false,default,false)
 |0,j,_,_,h=>by omega
 |n+1,j,u1,hj,hn=>by
  simp only [lW,dN]
  by_cases hlt:j<x0.Objects.length
  .have e1:(!decide ((j:Int)<(x0.Objects.length:Int)))=false:=by rw [decide_eq_true (by omega)];rfl
   rw [e1]
   simp only [cond_false]
   cases ho:jX x0 (j:Nat) with
   |false=>
    rw [if_neg (fun hh=>by have:=hh j (Nat.le_refl _) hlt;rw [ho] at this;cases this)]
    rfl
   |true=>
    simp only [Bool.not_true,cond_false]
    rw [ng (by omega) (by omega)]
    have e2:((j:Int)+1)=((j+1:Nat):Int):=by omega
    rw [e2,Yf hB n (j+1) u1 (by omega) (by omega)]
    have:(∀i,j+1<=i->i<x0.Objects.length->jX x0 (i:Nat)=true)↔(∀i,j<=i->i<x0.Objects.length->jX x0 (i:Nat)=true):=by
     constructor
     .intro hh i h1 h2
      by_cases e:i=j
      .subst e;exact ho
      .exact hh i (by omega) h2
     .intro hh i h1 h2;exact hh i (by omega) h2
    simp only [this]
  .have e1:(!decide ((j:Int)<(x0.Objects.length:Int)))=true:=by rw [decide_eq_false (by omega)];rfl
   rw [e1,if_pos (fun i h1 h2=>by omega)]
   rfl
theorem adq {x0:dK}(hB:x0.Objects.length<=4294967296)(h:kP (lW x0 (x0.Objects.length+1) false 0).1=0):F6 x0:=by
 have e:=Yf hB (x0.Objects.length+1) 0 false (Nat.zero_le _) (by omega)
 have e0:((0:Nat):Int)=0:=rfl
 rw [e0] at e
 rw [e] at h
 split at h<;>rename_i hc
 .exact Kr fun i hi=>hc i (Nat.zero_le _) hi
 .simp [kP] at h
theorem Zz {p:Int->Bool}{l:List Int}{i:Nat}{a:Int}(hi:i<l.length)(h1:p (l.getD i default)=true)(h2:p a=false):(l.set i a).countP p+1=l.countP p:=by
 have hg:l.getD i default=l[i]:=by simp [List.getD_eq_getElem?_getD,hi]
 rw [hg] at h1
 have:0<l.countP p:=List.countP_pos_iff.2 ⟨_,List.getElem_mem hi,h1⟩
 rw [List.countP_set hi,h1,h2]
 simp;omega
theorem adr {x0:dK}(hP:F6 x0){u6:Int}(h6:eG .i64 u6 1≠0){u8:Bool}:∀(n:Nat) (u9:Int) (u10:List Int),0<=u9->u9<x0.Objects.length->u10.length=x0.Objects.length->u10.countP (fun z=>dV z 0)<n->kY x0 u6 n u8 u9 u10=true
 |0,_,_,_,_,_,h=>by omega
 |n+1,u9,u10,h0,h1,hl,hn=>by
  simp only [kY]
  cases hz:dV (u10.getD u9.toNat default) 0 with
  |false=>rfl
  |true=>
   simp only [Bool.not_true,cond_false]
   cases hk:dV (x0.Objects.getD u9.toNat default).fB.Kind 1 with
   |true=>rfl
   |false=>
    simp only [cond_false]
    cases dV ((u10.set u9.toNat (eG .i64 u6 1)).getD (x0.Objects.getD u9.toNat default).fB.Ref.toNat default) (eG .i64 u6 1) with
    |true=>rfl
    |false=>
     simp only [cond_false]
     obtain ⟨p0,p1⟩:=hP _ (show u9.toNat<_ by omega) (pJ.1 hk)
     have:=Zz (p:=fun z=>dV z 0) (l:=u10) (i:=u9.toNat) (a:=eG .i64 u6 1) (by omega) hz (pJ.2 h6)
     exact adr hP h6 n _ _ p0 p1 (by simp;omega) (by omega)
theorem Yg {x0:dK}(hP:F6 x0){u6:Int}(h6:eG .i64 u6 1 ≠ -1):∀(n:Nat) (u9:Int) (u10:List Int),0<=u9->u9<x0.Objects.length->u10.length=x0.Objects.length->u10.countP (fun z=>dV z (eG .i64 u6 1))<n->kK x0 u6 n u9 u10=true
 |0,_,_,_,_,_,h=>by omega
 |n+1,u9,u10,h0,h1,hl,hn=>by
  simp only [kK]
  cases hz:dV (u10.getD u9.toNat default) (eG .i64 u6 1) with
  |false=>rfl
  |true=>
   simp only [Bool.not_true,cond_false]
   cases hk:dV (x0.Objects.getD u9.toNat default).fB.Kind 1 with
   |true=>rfl
   |false=>
    simp only [cond_false]
    obtain ⟨p0,p1⟩:=hP _ (show u9.toNat<_ by omega) (pJ.1 hk)
    have:=Zz (p:=fun z=>dV z (eG .i64 u6 1)) (l:=u10) (i:=u9.toNat) (a := -1) (by omega) hz (pJ.2 (Ne.symm h6))
    exact Yg hP h6 n _ _ p0 p1 (by simp;omega) (by omega)
theorem Yh {x0:dK}{u6:Int}:∀{n:Nat} {u8:Bool} {u9:Int} {u10:List Int},(iI x0 u6 n u8 u9 u10).1=true->(iI x0 u6 n u8 u9 u10).2.2.2.1.length=u10.length
 |0,_,_,_,h=>by cases h
 |n+1,u8,u9,u10,h=>by
  simp only [iI] at h ⊢
  cases hz:(!dV (u10.getD u9.toNat default) 0) with
  |true=>rfl
  |false=>
   rw [hz] at h
   simp only [cond_false] at h ⊢
   cases hk:dV (x0.Objects.getD u9.toNat default).fB.Kind 1 with
   |true=>simp
   |false=>
    rw [hk] at h
    simp only [cond_false] at h ⊢
    cases hc:dV ((u10.set u9.toNat (eG .i64 u6 1)).getD (x0.Objects.getD u9.toNat default).fB.Ref.toNat default) (eG .i64 u6 1) with
    |true=>rw [hc] at h;cases h
    |false=>
     rw [hc] at h
     simp only [cond_false] at h ⊢
     rw [Yh h];simp
theorem ZA {x0:dK}{u6:Int}:∀{n:Nat} {u9:Int} {u10:List Int},kK x0 u6 n u9 u10=true->(nD x0 u6 n u9 u10).2.length=u10.length
 |0,_,_,h=>by cases h
 |n+1,u9,u10,h=>by
  simp only [kK] at h
  simp only [nD]
  cases hz:(!dV (u10.getD u9.toNat default) (eG .i64 u6 1)) with
  |true=>rfl
  |false=>
   rw [hz] at h
   simp only [cond_false] at h ⊢
   cases hk:dV (x0.Objects.getD u9.toNat default).fB.Kind 1 with
   |true=>simp
   |false=>
    rw [hk] at h
    simp only [cond_false] at h ⊢
    rw [ZA h];simp
theorem alH {b:Bool}(h:dV (kP b) 0=true):b=true:=by cases b;cases h;rfl
theorem ajD {x0:dK}(hB:x0.Objects.length<=4294967296){u6:Int}(k0:0<=u6)(g:decide (u6<pW (List.map dQ.enc x0.Objects))=true):eG .i64 u6 1=u6+1/\u6<x0.Objects.length:=by
 have g:=of_decide_eq_true g
 rw [Je] at g
 exact ⟨ng (by omega) (by omega),g⟩
theorem V7 {x0:dK}(hP:F6 x0)(hB:x0.Objects.length<=4294967296){u6:Int}(k0:0<=u6)(g:decide (u6<pW (List.map dQ.enc x0.Objects))=true){u8:Bool}{u10:List Int}(k1:u10.length=x0.Objects.length):kY x0 u6 (x0.Objects.length+1) u8 u6 u10=true:=by
 obtain ⟨e,g⟩:=ajD hB k0 g
 have:=List.countP_le_length (p:=fun z=>dV z 0) (l:=u10)
 exact adr hP (by omega) _ _ _ k0 g k1 (by omega)
theorem ads {x0:dK}(hP:F6 x0)(hB:x0.Objects.length<=4294967296){u6:Int}(k0:0<=u6)(g:decide (u6<pW (List.map dQ.enc x0.Objects))=true){n:Nat}{u8:Bool}{u9:Int}{u10:List Int}(k1:u10.length=x0.Objects.length)(h:dV (kP (iI x0 u6 n u8 u9 u10).1) 0=true):kK x0 u6 (x0.Objects.length+1) u6 (iI x0 u6 n u8 u9 u10).2.2.2.1=true:=by
 obtain ⟨e,g⟩:=ajD hB k0 g
 have hl:=Yh (alH h)
 have:=List.countP_le_length (p:=fun z=>dV z (eG .i64 u6 1)) (l:=(iI x0 u6 n u8 u9 u10).2.2.2.1)
 exact Yg hP (by omega) _ _ _ k0 g (by omega) (by omega)
end Go.Fw
end
section
namespace Go.Fw
theorem ahE {h:dK}(hP:F6 h){i:Nat}:hIn h (h.Objects.getD i default).fB:=by
 intro hi
 by_cases hl:i<h.Objects.length
 .refine hP i hl fun h1=>?_
  have h1:(h.Objects.getD i default).fB.Kind=1:=h1
  unfold dS at hi
  rw [h1] at hi;simp at hi
 .have h0:h.Objects.getD i default=default:=by rw [List.getD_eq_getElem?_getD,List.getElem?_eq_none (by omega)];rfl
  rw [h0] at hi;cases hi
theorem QN {x0:dK}{x1:Int}:∀{k:Nat} {u3:Bool} {v:dP},(dS v=true->run x0 k v.Ref.toNat=true)->oK x0 x1 (k+1) u3 v=true
 |k,u3,v,hr=>by
  simp only [oK,w_]
  cases ho:dS v with
  |false=>rfl
  |true=>
   simp only [Bool.not_true,cond_false]
   cases dV v.Ref x1 with
   |true=>rfl
   |false=>
    simp only [cond_false]
    cases dV (x0.Objects.getD v.Ref.toNat default).Kind 6 with
    |true=>rfl
    |false=>
     simp only [cond_false]
     have hr:=hr ho
     match k,hr with
     |0,hr=>cases hr
     |j+1,hr=>
      refine QN fun hp=>?_
      have:run x0 (j+1) v.Ref.toNat=(bif dV (yx x0 v.Ref.toNat) 1 then true else run x0 j (yA x0 v.Ref.toNat).toNat):=rfl
      rw [this] at hr
      cases hk:dV (yx x0 v.Ref.toNat) 1 with
      |false=>rw [hk] at hr;exact hr
      |true=>
       have hk:=mV.1 hk
       unfold yx at hk
       unfold dS at hp
       rw [hk] at hp;simp at hp
theorem V8 {x0:dK}(hP:F6 x0)(hA:Gj x0){x1:Int}{x2:dP}(h2:hIn x0 x2){u3:Bool}:oK x0 x1 (x0.Objects.length+1) u3 x2=true:=
 QN fun ho=>Zv hP hA (by have:=h2 ho;omega)
theorem ahF {h:dK}{v:dP}(q:hIn h v)(i:fV v=true):0<=v.Ref:=agx q (w_▸i)
theorem ahG {h:dK}{v:dP}(q:hIn h v)(i:fV v=true):v.Ref<pW (List.map dQ.enc h.Objects):=Zp q (w_▸i)
theorem ZB {h:dK}{n i:Nat}:run h (n+1) i=(bif dV (yx h i) 1 then true else run h n (yA h i).toNat):=rfl
def aps (h:dK)(i:Nat):Prop:=∃n,run h n i=true
theorem afx {h:dK}{i:Nat}(hr:aps h (yA h i).toNat):aps h i:=by
 obtain ⟨n,hn⟩:=hr
 refine ⟨n+1,?_⟩
 rw [ZB];cases dV (yx h i) 1
 .exact hn
 .rfl
theorem ahH {h:dK}{i:Nat}(hk:dV (yx h i) 1=true):aps h i:=⟨1,by rw [ZB,hk];rfl⟩
theorem agA {x0:dK}(hP:F6 x0){u6 c:Int}(hc:eG .i64 u6 1=c)(h6:0<c):∀{n:Nat} {u8:Bool} {u9:Int} {u10:List Int},0<=u9->u9<x0.Objects.length->u10.length=x0.Objects.length->
  (∀k,k<x0.Objects.length->u10.getD k default≠0->u10.getD k default=c\/aps x0 k)->u10.getD u9.toNat default≠c->(∀k,u10.getD k default<=c)->(iI x0 u6 n u8 u9 u10).1=true->
  aps x0 u9.toNat/\(∀k,k<x0.Objects.length->(iI x0 u6 n u8 u9 u10).2.2.2.1.getD k default≠0->u10.getD k default=c\/aps x0 k)/\(∀k,(iI x0 u6 n u8 u9 u10).2.2.2.1.getD k default<=c)
 |0,_,_,_,_,_,_,_,_,_,h=>by cases h
 |n+1,u8,u9,u10,h0,h1,hl,hm,hs,hle,h=>by
  simp only [iI,hc] at h ⊢
  have hi:u9.toNat<x0.Objects.length:=by omega
  have hi':u9.toNat<u10.length:=by omega
  cases hz:(!dV (u10.getD u9.toNat default) 0) with
  |true=>
   simp only [cond_true]
   refine ⟨?_,hm,hle⟩
   rw [Bool.not_eq_true'] at hz
   rcases hm _ hi (pJ.1 hz) with h|h
   .exact absurd h hs
   .exact h
  |false=>
   rw [Bool.not_eq_false'] at hz
   have hz:=mV.1 hz
   rw [hz] at h
   simp only [cond_false] at h ⊢
   have le2:∀k,(u10.set u9.toNat c).getD k default<=c:=by
    intro k;rw [xY hi'];split
    .exact Int.le_refl _
    .exact hle k
   cases hk:dV (x0.Objects.getD u9.toNat default).fB.Kind 1 with
   |true=>
    simp only [cond_true]
    have hr:=ahH (h:=x0) (i:=u9.toNat) hk
    refine ⟨hr,fun k hk2 hne=>?_,le2⟩
    rw [xY hi'] at hne
    split at hne
    .rename_i e;subst e;exact .inr hr
    .exact hm k hk2 hne
   |false=>
    rw [hk] at h
    simp only [cond_false] at h ⊢
    cases hcc:dV ((u10.set u9.toNat c).getD (x0.Objects.getD u9.toNat default).fB.Ref.toNat default) c with
    |true=>rw [hcc] at h;cases h
    |false=>
     rw [hcc] at h
     simp only [cond_false] at h ⊢
     obtain ⟨p0,p1⟩:=hP _ hi (pJ.1 hk)
     obtain ⟨r,q,l⟩:=agA hP hc h6 p0 p1 (by simp;omega) (fun k hk2 hne=>by
      rw [xY hi'] at hne ⊢
      split
      .exact .inl rfl
      .rename_i e;rw [if_neg e] at hne;exact hm k hk2 hne) (pJ.1 hcc) le2 h
     have hr:=afx (h:=x0) (i:=u9.toNat) r
     refine ⟨hr,fun k hk2 hne=>?_,l⟩
     rcases q k hk2 hne with h|h
     .rw [xY hi'] at h
      split at h
      .rename_i e;subst e;exact .inr hr
      .exact .inl h
     .exact .inr h
theorem ajE {x0:dK}{u6:Int}:∀{n:Nat} {u8:Bool} {u9:Int} {u10:List Int},kY x0 u6 n u8 u9 u10=true->(iI x0 u6 n u8 u9 u10).1=false->(iI x0 u6 n u8 u9 u10).2.2.2.2.1=false
 |0,_,_,_,t,_=>by cases t
 |n+1,u8,u9,u10,t,h=>by
  simp only [kY] at t
  simp only [iI] at h ⊢
  cases hz:(!dV (u10.getD u9.toNat default) 0) with
  |true=>rw [hz] at h;cases h
  |false=>
   rw [hz] at h t
   simp only [cond_false] at h t ⊢
   cases hk:dV (x0.Objects.getD u9.toNat default).fB.Kind 1 with
   |true=>rw [hk] at h;cases h
   |false=>
    rw [hk] at h t
    simp only [cond_false] at h t ⊢
    cases hcc:dV ((u10.set u9.toNat (eG .i64 u6 1)).getD (x0.Objects.getD u9.toNat default).fB.Ref.toNat default) (eG .i64 u6 1) with
    |true=>rfl
    |false=>
     rw [hcc] at h t
     simp only [cond_false] at h t ⊢
     exact ajE t h
theorem ZC {x0:dK}(hP:F6 x0){u6 c:Int}(hc:eG .i64 u6 1=c):∀{n:Nat} {u8:Bool} {u9:Int} {u10:List Int} {k:Nat},kY x0 u6 n u8 u9 u10=true->0<=u9->u9<x0.Objects.length->u10.length=x0.Objects.length->
  run x0 (k+1) u9.toNat=true->run x0 k u9.toNat=false->(∀y,u10.getD y default=c->run x0 k y=false)->(iI x0 u6 n u8 u9 u10).1=true
 |0,_,_,_,_,h,_,_,_,_,_,_=>by cases h
 |n+1,u8,u9,u10,k,t,h0,h1,hl,hr,hf,hb=>by
  simp only [kY,hc] at t
  simp only [iI,hc]
  have hi:u9.toNat<x0.Objects.length:=by omega
  have hi':u9.toNat<u10.length:=by omega
  cases hz:(!dV (u10.getD u9.toNat default) 0) with
  |true=>rfl
  |false=>
   rw [hz] at t
   simp only [cond_false] at t ⊢
   cases hk:dV (x0.Objects.getD u9.toNat default).fB.Kind 1 with
   |true=>rfl
   |false=>
    rw [hk] at t
    simp only [cond_false] at t ⊢
    obtain ⟨p0,p1⟩:=hP _ hi (pJ.1 hk)
    have hk':dV (yx x0 u9.toNat) 1=false:=hk
    have hr':run x0 k (yA x0 u9.toNat).toNat=true:=by rw [ZB,hk'] at hr;exact hr
    have hb':∀y,(u10.set u9.toNat c).getD y default=c->run x0 k y=false:=by
     intro y hy
     rw [xY hi'] at hy
     split at hy
     .rename_i e;subst e;exact hf
     .exact hb y hy
    cases hcc:dV ((u10.set u9.toNat c).getD (x0.Objects.getD u9.toNat default).fB.Ref.toNat default) c with
    |true=>
     have:=hb' _ (mV.1 hcc)
     have hr2:run x0 k (x0.Objects.getD u9.toNat default).fB.Ref.toNat=true:=hr'
     rw [hr2] at this;cases this
    |false=>
     rw [hcc] at t
     simp only [cond_false] at t ⊢
     match k,hr',hf,hb' with
     |0,hr',_,_=>cases hr'
     |j+1,hr',hf,hb'=>
      have hl':run x0 j (yA x0 u9.toNat).toNat=false:=by rw [ZB,hk'] at hf;exact hf
      refine ZC hP hc t p0 p1 (by simp;omega) hr' hl' fun y hy=>?_
      cases hcy:run x0 j y with
      |false=>rfl
      |true=>have:=Ji hcy;rw [hb' y hy] at this;cases this
theorem adt {x0:dK}(hP:F6 x0){u6 c:Int}(hc:eG .i64 u6 1=c)(h6:0<c):∀{n:Nat} {u9:Int} {u10:List Int},0<=u9->u9<x0.Objects.length->u10.length=x0.Objects.length->(∀k,u10.getD k default<=c)->kK x0 u6 n u9 u10=true->
  (∀k,(nD x0 u6 n u9 u10).2.getD k default≠0->u10.getD k default≠0)/\(∀k,(nD x0 u6 n u9 u10).2.getD k default<=c)
 |0,_,_,_,_,_,_,t=>by cases t
 |n+1,u9,u10,h0,h1,hl,hle,t=>by
  simp only [kK,hc] at t
  simp only [nD,hc]
  have hi:u9.toNat<x0.Objects.length:=by omega
  have hi':u9.toNat<u10.length:=by omega
  cases hz:dV (u10.getD u9.toNat default) c with
  |false=>exact ⟨fun _ h=>h,hle⟩
  |true=>
   rw [hz] at t
   simp only [Bool.not_true,cond_false] at t ⊢
   have hz:=mV.1 hz
   have a1:∀k,(u10.set u9.toNat (-1)).getD k default≠0->u10.getD k default≠0:=by
    intro k hk
    rw [xY hi'] at hk
    split at hk
    .rename_i e;subst e;rw [hz];omega
    .exact hk
   have a2:∀k,(u10.set u9.toNat (-1)).getD k default<=c:=by
    intro k
    rw [xY hi']
    split
    .omega
    .exact hle k
   cases hk:dV (x0.Objects.getD u9.toNat default).fB.Kind 1 with
   |true=>exact ⟨a1,a2⟩
   |false=>
    rw [hk] at t
    simp only [cond_false] at t ⊢
    obtain ⟨p0,p1⟩:=hP _ hi (pJ.1 hk)
    obtain ⟨b1,b2⟩:=adt hP hc h6 p0 p1 (by simp;omega) a2 t
    exact ⟨fun k h=>a1 k (b1 k h),b2⟩
theorem m5 {x0:dK}(hP:F6 x0)(hB:x0.Objects.length<=4096):∀(n j:Nat) (u5:Bool) (s:List Int),j<=x0.Objects.length->x0.Objects.length-j<n->s.length=x0.Objects.length->(∀k,k<x0.Objects.length->s.getD k default≠0->aps x0 k)->(∀k,s.getD k default<=(j:Int))->
  ((nG x0 n u5 j s).1=true->∀i,j<=i->i<x0.Objects.length->aps x0 i)/\(Gj x0->(nG x0 n u5 j s).1=true)/\((nG x0 n u5 j s).1=false->(nG x0 n u5 j s).2.2.2.1=false)
 |0,j,_,_,_,h,_,_,_=>by omega
 |n+1,j,u5,s,hj,hn,hl,hr,hle=>by
  simp only [nG,dN]
  by_cases hlt:j<x0.Objects.length
  .have e1:(!decide ((j:Int)<(x0.Objects.length:Int)))=false:=by rw [decide_eq_true (by omega)];rfl
   rw [e1]
   simp only [cond_false]
   have ec:eG .i64 (j:Int) 1=(j:Int)+1:=ng (by omega) (by omega)
   have g0:decide ((j:Int)<pW (List.map dQ.enc x0.Objects))=true:=by rw [Je];exact decide_eq_true (by omega)
   have T1:=V7 hP (by omega) (u6:=(j:Int)) (by omega) g0 (u8:=u5) hl
   have nc:s.getD (j:Int).toNat default≠(j:Int)+1:=by have:=hle (j:Int).toNat;omega
   have hle':∀k,s.getD k default<=(j:Int)+1:=fun k=>by have:=hle k;omega
   cases h8:(iI x0 j (x0.Objects.length+1) u5 j s).1 with
   |false=>
    have e2:(!dV (kP false) 0)=true:=rfl
    simp only [e2,cond_true]
    refine ⟨fun h=>Bool.noConfusion h,fun ha=>?_,fun _=>ajE T1 h8⟩
    obtain ⟨m,hm⟩:=ha j hlt
    obtain ⟨k,h1,h2⟩:=F7 hm
    have:=ZC hP ec T1 (by omega) (by omega) hl (k:=k) (by simpa using h1) (by simpa using h2) (fun y hy=>by have:=hle y;omega)
    rw [h8] at this;cases this
   |true=>
    have e2:(!dV (kP true) 0)=false:=rfl
    simp only [e2,cond_false]
    obtain ⟨r,q,l⟩:=agA hP ec (by omega) (by omega) (by omega) hl (fun k hk hne=>.inr (hr k hk hne)) nc hle' h8
    have l8:=Yh h8
    have g1:dV (kP (iI x0 j (x0.Objects.length+1) u5 j s).1) 0=true:=by rw [h8];rfl
    have T2:=ads hP (by omega) (u6:=(j:Int)) (by omega) g0 hl g1
    obtain ⟨b1,b2⟩:=adt hP ec (by omega) (by omega) (by omega) (by omega) l T2
    rw [ec]
    have e3:((j:Int)+1)=((j+1:Nat):Int):=by omega
    rw [e3]
    have ih:=m5 hP hB n (j+1) (iI x0 j (x0.Objects.length+1) u5 j s).2.1 _ (by omega) (by omega) (by rw [ZA T2];omega) (fun k hk hne=>by
     rcases q k hk (b1 k hne) with h|h
     .have:=hle k;omega
     .exact h) (fun k=>by rw [<- e3];exact b2 k)
    refine ⟨fun h i h1 h2=>?_,ih.2.1,ih.2.2⟩
    by_cases e:i=j
    .subst e;simpa using r
    .exact ih.1 h i (by omega) h2
  .have e1:(!decide ((j:Int)<(x0.Objects.length:Int)))=true:=by rw [decide_eq_false (by omega)];rfl
   rw [e1]
   exact ⟨fun _ i h1 h2=>by omega,fun _=>rfl,fun h=>Bool.noConfusion h⟩
theorem Ol {h:dK}:rC h=true↔h.Objects.length<=4096/\(∀i,i<h.Objects.length->jX h (i:Nat)=true)/\Gj h:=by
 unfold rC
 dsimp only
 rw [dN,Int.toNat_natCast]
 by_cases hl:h.Objects.length<=4096
 .have e1:decide ((h.Objects.length:Int) > 4096)=false:=decide_eq_false (by omega)
  have e:=Yf (x0:=h) (by omega) (h.Objects.length+1) 0 false (Nat.zero_le _) (by omega)
  have e0:((0:Nat):Int)=0:=rfl
  rw [e0] at e
  rw [e1,e]
  simp only [cond_false]
  by_cases hc:∀i,0<=i->i<h.Objects.length->jX h (i:Nat)=true
  .rw [if_pos hc]
   have e2:(!dV (kP true) 0)=false:=rfl
   simp only [e2,cond_false]
   have hP:F6 h:=Kr fun i hi=>hc i (Nat.zero_le _) hi
   have rep:∀k,(List.replicate h.Objects.length (0:Int)).getD k default=0:=fun k=>by
    rw [List.getD_eq_getElem?_getD]
    by_cases hk:k<h.Objects.length
    .rw [List.getElem?_replicate,if_pos hk];rfl
    .rw [List.getElem?_replicate,if_neg hk];rfl
   obtain ⟨a,b,c⟩:=m5 hP hl (h.Objects.length+1) 0 false (List.replicate h.Objects.length 0) (Nat.zero_le _) (by omega) (by simp) (fun k _ hne=>absurd (rep k) hne) (fun k=>by rw [rep k];exact Int.le_refl _)
   rw [e0] at a b c
   cases h5:(nG h (h.Objects.length+1) false 0 (List.replicate h.Objects.length 0)).1 with
   |true=>
    have e3:(!dV (kP true) 0)=false:=rfl
    simp only [e3,cond_false]
    exact ⟨fun _=>⟨hl,fun i hi=>hc i (Nat.zero_le _) hi,fun i hi=>a h5 i (Nat.zero_le _) hi⟩,fun _=>by first|rfl|trivial⟩
   |false=>
    have e3:(!dV (kP false) 0)=true:=rfl
    simp only [e3,cond_true]
    rw [c h5]
    exact ⟨fun h=>Bool.noConfusion h,fun k=>by have:=b k.2.2;rw [h5] at this;cases this⟩
  .rw [if_neg hc]
   have e2:(!dV (kP false) 0)=true:=rfl
   simp only [e2,cond_true]
   exact ⟨fun h=>(Bool.false_ne_true h).elim,fun h=>absurd (fun i _ hi=>h.2.1 i hi) hc⟩
 .have e1:decide ((h.Objects.length:Int) > 4096)=true:=decide_eq_true (by omega)
  rw [e1]
  exact ⟨fun h=>(Bool.false_ne_true h).elim,fun h=>absurd h.1 hl⟩
theorem adu {h:dK}(k:rC h=true):F6 h:=Kr (Ol.1 k).2.1
theorem aa1 {h:dK}(k:rC h=true):Gj h:=(Ol.1 k).2.2
end Go.Fw
end
section
namespace Go.Fw
structure HWg (h:dK):Prop where
 wf:HWf h
 tg:∀o∈h.Objects,o.Target.ok/\o.Handler.ok
 pl:∀o∈h.Objects,o.Props.length<=4294967296
theorem hwg {h:dK}(w:h.wf):HWg h:=⟨hwf w,fun o ho=>⟨vok (w.Objects.2 o ho).Target,vok (w.Objects.2 o ho).Handler⟩,fun o ho=>Nat.le_trans (w.Objects.2 o ho).Props.1 (by decide)⟩
theorem HWg.at {h:dK}(w:HWg h){i:Nat}(hi:i<h.Objects.length):(h.Objects.getD i default).Target.ok/\(h.Objects.getD i default).Handler.ok/\(h.Objects.getD i default).Props.length<=4294967296:=by
 have:h.Objects.getD i default∈h.Objects:=by rw [List.getD_eq_getElem?_getD,List.getElem?_eq_getElem hi];exact List.getElem_mem hi
 exact ⟨(w.tg _ this).1,(w.tg _ this).2,w.pl _ this⟩
theorem afz (o:dQ):(bif o.Makes then (8:Int) else (bif o.Calls then 7 else 6))=wY o:=rfl
theorem Fh {h:dK}{v:dP}(hv:v.ok):kT h v=fF h v:=by
 unfold kT fF
 dsimp only
 rw [wF hv,w_]
 cases hm:jr v with
 |false=>rfl
 |true=>
  cases ho:dS v with
  |false=>rfl
  |true=>
   simp only [Bool.not_true,cond_false,Bool.false_or,xP,afz]
   have h1:=hm
   unfold jr at h1
   dsimp only at h1
   obtain ⟨-,h1⟩:=wG h1
   unfold dS at ho
   simp only [Bool.and_eq_true,decide_eq_true_eq] at ho
   have k3:dV v.Kind 3=false:=pJ.2 (by omega)
   have k2:dV v.Kind 2=false:=pJ.2 (by omega)
   have k4:dV v.Kind 4=false:=pJ.2 (by omega)
   rw [k3,k2,k4] at h1
   simp only [cond_false,Bool.false_and,Bool.or_false,Bool.and_eq_true] at h1
   obtain ⟨⟨n,s⟩,-⟩:=h1
   unfold jW at n
   rw [Bool.and_eq_true] at n
   have n:=n.1
   rw [U_] at n
   have s':wJ [] v.Str=true:=by unfold wJ at s ⊢;rw [decide_eq_true_eq] at s ⊢;exact s.symm
   have r:dV v.Ref v.Ref=true:=mV.2 rfl
   rw [n,s',r]
   simp
theorem V9 {v:dP}(hv:v.ok):qx v 1=lq v/\qx v 0=sH v:=by
 unfold qx lq sH
 dsimp only
 rw [wF hv]
 exact ⟨rfl,rfl⟩
theorem aa2 {h:dK}{o:dQ}(n:Int)(hp:o.fB.ok)(ht:o.Target.ok)(hh:o.Handler.ok):vK h o n=o7 h o n:=by
 unfold vK o7
 dsimp only
 rw [(V9 hp).1,(V9 ht).1,(V9 hh).1,Fh ht,Fh hh,w_,w_]
 have e3:lQ h n ((2:Int).toNat+1) false 0 [o.Target,o.Handler]=bif ((!dS o.Target||!fF h o.Target)||decide (o.Target.Ref>=n)) then (false,default,default,false,[o.Target,o.Handler]) else bif ((!dS o.Handler||!fF h o.Handler)||decide (o.Handler.Ref>=n)) then (false,default,default,false,[o.Target,o.Handler]) else (true,false,[o.Target,o.Handler],default,default):=by
  show lQ h n 3 false 0 [o.Target,o.Handler]=_
  simp only [lQ]
  have a0:eG .i64 0 1=1:=rfl
  have a1:eG .i64 1 1=2:=rfl
  rw [a0,a1]
  rfl
 rw [e3]
 have nt:∀{v:dP},lq v=true->dS v=false:=by
  intro v hv
  unfold lq at hv
  dsimp only at hv
  rw [Bool.and_eq_true] at hv
  have:=mV.1 hv.1
  unfold dS
  rw [this];rfl
 cases ht':lq o.Target with
 |true=>
  cases hh':lq o.Handler with
  |true=>rfl
  |false=>rw [nt ht'];rfl
 |false=>
  cases hh':lq o.Handler with
  |true=>rw [nt hh'];simp only [Bool.false_or,cond_true,Bool.false_and,Bool.not_false,Bool.true_or];cases (!dS o.Target||!fF h o.Target||decide (o.Target.Ref>=n))<;>rfl
  |false=>
   simp only [Bool.or_self,Bool.and_self,cond_false]
   cases dS o.Target<;>cases dS o.Handler<;>cases fF h o.Target<;>cases fF h o.Handler<;>cases decide (o.Target.Ref>=n)<;>cases decide (o.Handler.Ref>=n)<;>rfl
theorem V_ {h:dK}{o:dQ}(hd:∀p∈o.Props,p.dY.ok):∀{n:Nat} {u:Bool} {i:Int},o8 h o.Props n u i=gU h o n u i
 |0,_,_=>rfl
 |n+1,u,i=>by
  simp only [o8,gU]
  have:(o.Props.getD i.toNat default).dY.ok:=by
   by_cases hi:i.toNat<o.Props.length
   .exact hd _ (ao3 hi)
   .rw [List.getD_eq_getElem?_getD,List.getElem?_eq_none (by omega)];exact ⟨⟨by decide,by decide⟩,⟨⟨by decide,by decide⟩,by decide⟩,⟨⟨by decide,by decide⟩,by decide⟩,⟨⟨by decide,by decide⟩,by decide⟩⟩
  rw [Fh this.2.1,Fh this.2.2.1,Fh this.2.2.2,V_ hd]
theorem agB {h:dK}{o:dQ}:∀{n:Nat} {u:Bool} {i:Int},(gU h o n u i).1=false->(gU h o n u i).2.2=false
 |0,_,_,_=>rfl
 |n+1,u,i,hf=>by
  simp only [gU] at hf ⊢
  cases h1:(!(decide ((i:Int)<(jc dJ.enc o.Props)))) with
  |true=>rw [h1] at hf;cases hf
  |false=>
   rw [h1] at hf
   simp only [cond_false] at hf ⊢
   cases h2:(((!fF h (o.Props.getD i.toNat default).dY.Value)||(!fF h (o.Props.getD i.toNat default).dY.Get))||(!fF h (o.Props.getD i.toNat default).dY.Set)) with
   |true=>rfl
   |false=>rw [h2] at hf;simp only [cond_false] at hf ⊢;exact agB hf
theorem Wh {x0:Nat}{l:List dJ}{c:Int}(hc:((FloatKind.f64.decode x0).toInt .zero).getD 0=c)(hl:l.length<=4294967296):∀(n j:Nat) {u:Int} {b:Bool},j<=l.length->l.length-j<n->(iC x0 l n u j).1=(kW l c n b j).1/\((kW l c n b j).1=false->0<=(iC x0 l n u j).2.2/\(kW l c n b j).2.2=false)
 |0,j,_,_,_,h=>by omega
 |n+1,j,u,b,hj,hn=>by
  simp only [iC,kW,dN,LW,hc]
  by_cases hlt:j<l.length
  .have e1:(!decide ((j:Int)<(l.length:Int)))=false:=by rw [decide_eq_true (by omega)];rfl
   rw [e1]
   simp only [cond_false]
   cases ((iE (l.getD (j:Int).toNat default).Key).2&&decide ((iE (l.getD (j:Int).toNat default).Key).1>=c)) with
   |true=>exact ⟨rfl,fun _=>⟨by simp only [cond_true];omega,rfl⟩⟩
   |false=>
    simp only [cond_false]
    rw [ng (by omega) (by omega)]
    have e3:((j:Int)+1)=((j+1:Nat):Int):=by omega
    rw [e3]
    exact Wh hc hl n (j+1) (by omega) (by omega)
  .have e1:(!decide ((j:Int)<(l.length:Int)))=true:=by rw [decide_eq_false (by omega)];rfl
   rw [e1]
   exact ⟨rfl,fun h=>Bool.noConfusion h⟩
theorem adv {x0:Nat}{l:List dJ}(hl:l.length<=4294967296):xQ l (((FloatKind.f64.decode x0).toInt .zero).getD 0)=!jL x0 l:=by
 unfold xQ jL mO
 dsimp only
 have h:=Wh (x0:=x0) rfl hl (l.length+1) 0 (u:=0) (b:=false) (Nat.zero_le _) (by omega)
 have e0:((0:Nat):Int)=0:=rfl
 rw [e0] at h
 rw [h.1]
 cases hb:(kW l (((FloatKind.f64.decode x0).toInt .zero).getD 0) (l.length+1) false 0).1 with
 |true=>rfl
 |false=>
  have e2:(!dV (kP false) 0)=true:=rfl
  simp only [e2,cond_true]
  obtain ⟨a,b⟩:=h.2 hb
  rw [b,decide_eq_true a];rfl
theorem Wi {l:List dJ}{s:List UInt8}(hl:l.length<=4294967296):∀(n j:Nat) {u:Int} {b:Bool},j<=l.length->l.length-j<n->(iQ l s n u j).1=(kX l s n b j).1/\((kX l s n b j).1=false->0<=(iQ l s n u j).2.2/\(kX l s n b j).2.2=false)
 |0,j,_,_,_,h=>by omega
 |n+1,j,u,b,hj,hn=>by
  simp only [iQ,kX,dN,LW,EX]
  by_cases hlt:j<l.length
  .have e1:(!decide ((j:Int)<(l.length:Int)))=false:=by rw [decide_eq_true (by omega)];rfl
   rw [e1]
   simp only [cond_false]
   cases (((iE (l.getD (j:Int).toNat default).Key).2&&decide ((iE (l.getD (j:Int).toNat default).Key).1<(sLen s)))||(wJ (l.getD (j:Int).toNat default).Key.Str [108,101,110,103,116,104]&&dV (l.getD (j:Int).toNat default).Key.Sym 0)) with
   |true=>exact ⟨rfl,fun _=>⟨by simp only [cond_true];omega,rfl⟩⟩
   |false=>
    simp only [cond_false]
    rw [ng (by omega) (by omega)]
    have e3:((j:Int)+1)=((j+1:Nat):Int):=by omega
    rw [e3]
    exact Wi hl n (j+1) (by omega) (by omega)
  .have e1:(!decide ((j:Int)<(l.length:Int)))=true:=by rw [decide_eq_false (by omega)];rfl
   rw [e1]
   exact ⟨rfl,fun h=>Bool.noConfusion h⟩
theorem adw {l:List dJ}{s:List UInt8}(hl:l.length<=4294967296):xU l s=uS l s:=by
 unfold xU uS lV nR
 dsimp only
 have h:=Wi (s:=s) hl (l.length+1) 0 (u:=0) (b:=false) (Nat.zero_le _) (by omega)
 have e0:((0:Nat):Int)=0:=rfl
 rw [e0] at h
 rw [h.1]
 by_cases hs:sLen s<=4096
 .rw [decide_eq_true hs,decide_eq_false (show ¬sLen s > 4096 by omega)]
  simp only [cond_false,Bool.true_and]
  cases hb:(kX l s (l.length+1) false 0).1 with
  |true=>rfl
  |false=>
   have e2:(!dV (kP false) 0)=true:=rfl
   simp only [e2,cond_true]
   obtain ⟨a,b⟩:=h.2 hb
   rw [b,decide_eq_true a];rfl
 .rw [decide_eq_false hs,decide_eq_true (show sLen s > 4096 by omega)];rfl
theorem aa3 {d:dM}(h:fQ d=true):iO (jS .u8 d.Has 12) 0=!iO (jS .u8 d.Has 3) 0:=by
 unfold fQ at h
 dsimp only at h
 rw [Bool.and_eq_true,Bool.or_eq_true] at h
 rcases h.2 with h|h<;>rw [mV.1 h]<;>rfl
theorem adx {l:List dJ}(hl:l.length<=4294967296)(hw:∀p∈l,fQ p.dY=true):xR l=uQ l:=by
 unfold xR uQ mg
 dsimp only [EX]
 rw [adv hl]
 by_cases h0:0<l.length
 .have hm:l.getD (0:Int).toNat default∈l:=ao3 h0
  rw [aa3 (hw _ hm)]
 .have:dV (jc dJ.enc l) 0=true:=by rw [dN];exact mV.2 (by omega)
  rw [this];rfl
theorem ZE {h:dK}(w:HWg h){i:Nat}(hi:i<h.Objects.length):jX h (i:Nat)=jo h (i:Nat):=by
 unfold jX jo
 dsimp only [Int.toNat_natCast]
 obtain ⟨hd,hp⟩:=w.wf.at i
 obtain ⟨ht,hh,hl⟩:=w.at hi
 generalize h.Objects.getD i default=o at hd hp ht hh hl
 rw [aa2 _ hp ht hh,(V9 ht).2,(V9 hh).2,Fh hp]
 have e1:tZ h o (i:Nat)=(((((dV o.Kind 5)&&dS o.Target)&&(decide ((o.Target.Ref:Int)<(i:Nat))))&&fF h o.Target)&&(dV (h.Objects.getD o.Target.Ref.toNat default).Kind 6)):=by
  unfold tZ
  dsimp only
  rw [Fh ht,w_]
 rw [e1,w_]
 cases dV o.Kind 6 with
 |true=>rfl
 |false=>
  simp only [cond_false]
  cases (((!sH o.Target)&&(!(((((dV o.Kind 5)&&dS o.Target)&&(decide ((o.Target.Ref:Int)<(i:Nat))))&&fF h o.Target)&&(dV (h.Objects.getD o.Target.Ref.toNat default).Kind 6))))||(!sH o.Handler))||((YZ o.Text [])&&(iO o.Kind 3)) with
  |true=>rfl
  |false=>
   simp only [cond_false]
   cases ((iO o.fB.Kind 1)&&(!dS o.fB))||(!fF h o.fB) with
   |true=>rfl
   |false=>
    simp only [Bool.false_or]
    unfold zZ
    dsimp only
    rw [<- y8 _ hl hd,V_ hd]
    cases hc:iO (jm o.Props) 0 with
    |true=>rfl
    |false=>
     simp only [cond_false]
     cases h12:(gU h o (o.Props.length+1) false 0).1 with
     |false=>
      have e2:(!dV (kP false) 0)=true:=rfl
      simp only [e2,cond_true]
      rw [agB h12];rfl
     |true=>
      have e2:(!dV (kP true) 0)=false:=rfl
      simp only [e2,cond_false,Bool.not_true]
      rw [adw hl]
      have hw:∀p∈o.Props,fQ p.dY=true:=by
       have hc:=qy.1 hc
       rw [y8 _ hl hd,BJ _ hl] at hc
       cases hb:decide ((o.Props.length:Int) > 1024) with
       |true=>rw [hb] at hc;cases hc
       |false=>rw [hb] at hc;exact N9 hc
      rw [adx hl hw]
theorem afA {h:dK}(w:HWg h):rC h=dV (iR h) 0:=by
 rw [Bool.eq_iff_iff,Ol,mV,tq]
 constructor
 .rintro ⟨a,b,c⟩
  have ho:∀i,i<h.Objects.length->jo h (i:Nat)=true:=fun i hi=>by rw [<- ZE w hi];exact b i hi
  exact ⟨a,ho,Oh (Jh ho) (by omega) c⟩
 .intro k
  exact ⟨k.len,fun i hi=>by rw [ZE w hi];exact k.obj i hi,k.ade⟩
end Go.Fw
end
section
namespace Go.Fw
theorem Tv {h:dK}:iR h≠0->iR h=9:=by
 unfold iR
 dsimp only
 cases hl:decide (((jc dQ.enc h.Objects):Int) > 4096) with
 |true=>exact fun _=>rfl
 |false=>
  have e:=Jg (x0:=h) (ada hl) (h.Objects.length+1) 0 0 (Nat.zero_le _) (by omega)
  have e0:((0:Nat):Int)=0:=rfl
  rw [e0] at e
  rw [e]
  simp only [cond_false]
  split
  .have e2:(!dV (kP true) 0)=false:=rfl
   simp only [e2,cond_false]
   cases qm h with
   |true=>exact fun _=>rfl
   |false=>exact fun h=>absurd rfl h
  .have e2:(!dV (kP false) 0)=true:=rfl
   simp only [e2,cond_true]
   intros;trivial
theorem afB {h:dK}{i:Int}(k:jo h i=true):jm (h.Objects.getD i.toNat default).Props=0:=by
 unfold jo at k
 dsimp only at k
 cases h6:dV (h.Objects.getD i.toNat default).Kind 6 with
 |true=>
  rw [h6] at k
  simp only [cond_true] at k
  unfold o7 at k
  dsimp only at k
  obtain ⟨hc,-⟩:=wG k
  simp only [Bool.or_eq_false_iff] at hc
  have:=of_decide_eq_false hc.1.1.1.1
  rw [dN] at this
  have:(h.Objects.getD i.toNat default).Props=[]:=List.length_eq_zero_iff.1 (by omega)
  rw [this];rfl
 |false=>
  rw [h6] at k
  simp only [cond_false] at k
  obtain ⟨-,k⟩:=wG k
  obtain ⟨k,-⟩:=wG k
  rw [Bool.or_eq_false_iff] at k
  exact qy.1 k.2
theorem ahI {h:dK}{v:dP}:jF h v=fF h v:=by
 unfold jF fF wY
 dsimp only
 cases ho:dS v with
 |false=>cases jH v<;>rfl
 |true=>
  cases jH v with
  |false=>rfl
  |true=>
   simp only [Bool.not_true,cond_false,Bool.false_or]
   by_cases hr:v.Ref<jc dQ.enc h.Objects
   .rw [decide_eq_true hr,decide_eq_false (show ¬v.Ref>=jc dQ.enc h.Objects by omega)]
    simp only [cond_false,Bool.true_and]
    unfold dS at ho
    simp only [Bool.and_eq_true,decide_eq_true_eq] at ho
    have:v.Kind=6\/v.Kind=7\/v.Kind=8:=by omega
    cases (h.Objects.getD v.Ref.toNat default).Makes<;>cases (h.Objects.getD v.Ref.toNat default).Calls<;>rcases this with e|e|e<;>rw [e]<;>rfl
   .rw [decide_eq_false hr,decide_eq_true (show v.Ref>=jc dQ.enc h.Objects by omega)];rfl
theorem Jl {h:dK}{x1:Int}:∀{n:Nat} {u:Bool} {v:dP},nU h x1 n u v=jq h x1 n u v
 |0,_,_=>rfl
 |n+1,u,v=>by simp only [nU,jq,w_,Jl (n:=n)]
theorem aa4 {h:dK}{x1:Int}{v:dP}:wB h x1 v=iD h x1 v:=by
 unfold wB iD
 rw [Jl]
theorem uT (v:dP):o9 v v=true:=by
 unfold o9
 rw [mV.2 rfl,mV.2 rfl,FV]
 have:wJ v.Str v.Str=true:=by unfold wJ;simp
 rw [this]
 cases fEq v.Num v.Num<;>rfl
theorem Fj (d:dM):qC d d=true:=by
 unfold qC
 dsimp only
 rw [uT,uT,uT,mV.2 rfl]
 have:∀b:Bool,Nh b b=true:=fun b=>by cases b<;>rfl
 rw [this,this,this];rfl
theorem ZF {l:List dL}(hl:l.length<=4294967296):∀(n j:Nat) {u:Bool},j<=l.length->l.length-j<n->(lY l l n u j).1=true
 |0,j,_,_,h=>by omega
 |n+1,j,u,hj,hn=>by
  simp only [lY,dN]
  by_cases hlt:j<l.length
  .have e1:(!decide ((j:Int)<(l.length:Int)))=false:=by rw [decide_eq_true (by omega)];rfl
   rw [e1]
   have s:∀k:dL,(!((wJ k.Str k.Str)&&(dV k.Sym k.Sym)))=false:=fun k=>by rw [mV.2 rfl];unfold wJ;simp
   rw [s]
   simp only [cond_false]
   rw [ng (by omega) (by omega)]
   have e3:((j:Int)+1)=((j+1:Nat):Int):=by omega
   rw [e3]
   exact ZF hl n (j+1) (by omega) (by omega)
  .have e1:(!decide ((j:Int)<(l.length:Int)))=true:=by rw [decide_eq_false (by omega)];rfl
   rw [e1];rfl
theorem Om {l:List dL}(hl:l.length<=4294967296):sJ l l=true:=by
 unfold sJ
 dsimp only
 have h:=ZF hl (l.length+1) 0 (u:=false) (Nat.zero_le _) (by omega)
 have e0:((0:Nat):Int)=0:=rfl
 rw [e0] at h
 rw [h,qy.2 rfl];rfl
end Go.Fw
end
section
namespace Go.Fw
theorem ZG {x0:dK}(hl:x0.Objects.length<=4294967296):∀(n j:Nat) (u:dK),j<=x0.Objects.length->x0.Objects.length-j<n->u.Objects=x0.Objects.take j->oG x0 n j u=x0
 |0,_,_,_,h,_=>by omega
 |n+1,j,u,hj,hn,hu=>by
  simp only [oG,dN]
  by_cases hlt:j<x0.Objects.length
  .have e1:(!decide ((j:Int)<(x0.Objects.length:Int)))=false:=by rw [decide_eq_true (by omega)];rfl
   rw [e1]
   simp only [cond_false]
   rw [ng (by omega) (by omega)]
   have e3:((j:Int)+1)=((j+1:Nat):Int):=by omega
   rw [e3]
   refine ZG hl n (j+1) _ (by omega) (by omega) ?_
   show u.Objects++[qM (x0.Objects.getD (j:Int).toNat default)]=_
   rw [hu,Int.toNat_natCast,List.take_add_one,List.getD_eq_getElem?_getD,List.getElem?_eq_getElem hlt]
   rfl
  .have e1:(!decide ((j:Int)<(x0.Objects.length:Int)))=true:=by rw [decide_eq_false (by omega)];rfl
   rw [e1]
   simp only [cond_true]
   rw [List.take_of_length_le (by omega)] at hu
   obtain ⟨l⟩:=x0
   obtain ⟨m⟩:=u
   exact congrArg dK.mk hu
theorem Oo {h:dK}(hl:h.Objects.length<=4294967296):qN h=h:=ZG hl (h.Objects.length+1) 0 ⟨[]⟩ (Nat.zero_le _) (by omega) rfl
theorem ady {o:dQ}(hl:o.Props.length<=4294967296):∀(n j:Nat) {u:Bool},j<=o.Props.length->o.Props.length-j<n->(kR o o n u j).1=true
 |0,j,_,_,h=>by omega
 |n+1,j,u,hj,hn=>by
  simp only [kR,dN]
  by_cases hlt:j<o.Props.length
  .have e1:(!decide ((j:Int)<(o.Props.length:Int)))=false:=by rw [decide_eq_true (by omega)];rfl
   rw [e1,Fj]
   have s:∀k:dL,(!((wJ k.Str k.Str)&&(dV k.Sym k.Sym)))=false:=fun k=>by rw [mV.2 rfl];unfold wJ;simp
   rw [s]
   simp only [cond_false,Bool.not_true,Bool.or_false]
   rw [ng (by omega) (by omega)]
   have e3:((j:Int)+1)=((j+1:Nat):Int):=by omega
   rw [e3]
   exact ady hl n (j+1) (by omega) (by omega)
  .have e1:(!decide ((j:Int)<(o.Props.length:Int)))=true:=by rw [decide_eq_false (by omega)];rfl
   rw [e1];rfl
theorem adz {o:dQ}(hl:o.Props.length<=4294967296):qE o o=true:=by
 unfold qE
 dsimp only
 have h:=ady hl (o.Props.length+1) 0 (u:=false) (Nat.zero_le _) (by omega)
 have e0:((0:Nat):Int)=0:=rfl
 rw [e0] at h
 have b:∀b:Bool,Nh b b=true:=fun b=>by cases b<;>rfl
 have t:YZ o.Text o.Text=false:=by unfold YZ;simp
 rw [h,uT,uT,uT,b,b,b,t,qy.2 rfl,qy.2 rfl];rfl
theorem Wj {x:dK}(hl:x.Objects.length<=4294967296)(hp:∀o∈x.Objects,o.Props.length<=4294967296):∀(n j:Nat) {u:Bool},j<=x.Objects.length->x.Objects.length-j<n->(qo x x n u j).1=true
 |0,j,_,_,h=>by omega
 |n+1,j,u,hj,hn=>by
  simp only [qo,dN]
  by_cases hlt:j<x.Objects.length
  .have e1:(!decide ((j:Int)<(x.Objects.length:Int)))=false:=by rw [decide_eq_true (by omega)];rfl
   have hm:x.Objects.getD (j:Int).toNat default∈x.Objects:=by rw [Int.toNat_natCast,List.getD_eq_getElem?_getD,List.getElem?_eq_getElem hlt];exact List.getElem_mem hlt
   rw [e1,adz (hp _ hm)]
   simp only [cond_false,Bool.not_true]
   rw [ng (by omega) (by omega)]
   have e3:((j:Int)+1)=((j+1:Nat):Int):=by omega
   rw [e3]
   exact Wj hl hp n (j+1) (by omega) (by omega)
  .have e1:(!decide ((j:Int)<(x.Objects.length:Int)))=true:=by rw [decide_eq_false (by omega)];rfl
   rw [e1];rfl
theorem Oq {x:dK}(hl:x.Objects.length<=4294967296)(hp:∀o∈x.Objects,o.Props.length<=4294967296):zy x x=true:=by
 unfold zy
 dsimp only
 have h:=Wj hl hp (x.Objects.length+1) 0 (u:=false) (Nat.zero_le _) (by omega)
 have e0:((0:Nat):Int)=0:=rfl
 rw [e0] at h
 rw [h,qy.2 rfl];rfl
end Go.Fw
end
section
namespace Go.Fw
theorem Ot {x0:dK}{x1:iK}(hA:lD x0 x1=0)(hm:dV x1.Method 2=true):hIn x0 x1.Value:=by
 unfold lD at hA
 dsimp only at hA
 rw [hm] at hA
 cases h8:nO x0 x1.Value with
 |true=>exact afw h8
 |false=>
  rw [h8] at hA
  exfalso
  revert hA
  cases ((((dV x1.Method 5)||(dV x1.Method 6))||(dV x1.Method 10))&&(iO (iy x1.Key) 0))<;>cases ((dV x1.Method 6)&&(iO (jl x1.dY) 0))<;>
   cases ((dV x1.Method 6)&&(((!nO x0 x1.dY.Value)||(!nO x0 x1.dY.Get))||(!nO x0 x1.dY.Set)))<;>cases (((true)&&(iO x1.Value.Kind 1))&&(!fV x1.Value))<;>intro hA<;>exact absurd hA (by decide)
end Go.Fw
end
section
namespace Go.Fw
open Go.Proofs Go.Lib
set_option maxRecDepth 100000
set_option maxHeartbeats 4000000
theorem Pn {x0:dK}:PC Tryz.prog 4 [dK.av x0] (eB (EY x0)):=oN fun hb=>by
 have h0:x0.Objects.length<=4294967296:=by simpa using hb.1.1.1
 refine mF (M:=[(0,dK.av x0)]) Tryz.func4 ?_ ⟨rfl,trivial⟩
 unfold EY
 try simp only [dN]
 generalize hR:sG x0 (x0.Objects.length+1) false 0=R
 exact kZ (KE.mk @sG.eq_2) (QB.mk hR.symm (J:=fun (n:Nat) (u1:Bool) (u2:Int)=>((0:Int)<=u2)/\0<=((x0.Objects.length:Int)-u2)/\((x0.Objects.length:Int)-u2)<n) (F:=(sG x0)) (R:=R) (vars:=fun (u1:Bool) (u2:Int)=>[(2,eB u1),(3,eI u2)]) (ow:=fun (u1:Bool) (u2:Int)=>[]) (vb:=fun _ _=>[]) (ts:=[1]) (a0:=(false:Bool)) (b0:=(0:Int)) (n0:=(x0.Objects.length+1)))
theorem wH {x0:dQ}:PC Tryz.prog 10 [dQ.av x0] (dQ.av (qM x0)):=by
 refine mF (M:=[(0,dQ.av x0)]) Tryz.func10 ?_ ⟨rfl,trivial⟩
 unfold qM
 try simp only [dN]
 exact kZ ai1.mk
theorem lF {x0:dP}:PC Tryz.prog 50 [dP.av x0] (eB (fV x0)):=by
 refine mF (M:=[(0,dP.av x0)]) Tryz.func50 ?_ ⟨rfl,trivial⟩
 unfold fV
 try simp only [dN]
 exact kZ
theorem Tz {x0:Int}(p1:0<=x0)(p2:x0<=1000000):PC Tryz.prog 152 [eI x0] (eS (Ht x0)):=by
 refine mF (M:=[(0,eI x0)]) Tryz.func152 ?_ ⟨rfl,trivial⟩
 have hT:TJ (x0.toNat+1) x0 []:=⟨p1,p2,by omega,by simp;omega⟩
 unfold Ht
 generalize hR:tY (x0.toNat+1) x0 []=R
 exact kZ (KE.mk @tY.eq_2) (QB.mk hR.symm (J:=TJ) (F:=tY) (R:=R) (vars:=fun u2 u3=>[(0,eI u2),(3,eS u3)]) (ow:=fun _ _=>[]) (vb:=fun _ _=>[]) (ts:=[2]) (a0:=x0) (b0:=[]) (n0:=x0.toNat+1)) @afg
theorem Po {x0:Nat}:PC Tryz.prog 136 [eF x0] (yM (xO x0)):=by
 refine mF (M:=[(0,eF x0)]) Tryz.func136 ?_ ⟨rfl,trivial⟩
 unfold xO
 try simp only [dN]
 exact kZ (alh (b:=x0)) (aiI (m:=x0) (n:=0))
theorem Ou {x0:Nat}:PC Tryz.prog 118 [eF x0] (eB (jW x0)):=by
 refine mF (M:=[(0,eF x0)]) Tryz.func118 ?_ ⟨rfl,trivial⟩
 unfold jW
 try simp only [dN]
 exact kZ (aiI (m:=x0) (n:=0))
theorem Gz {x0:dQ}{x1:Int}:PC Tryz.prog 91 [dQ.av x0,eI x1] (dP.av (xP x0 x1)):=by
 refine mF (M:=[(0,dQ.av x0),(1,eI x1)]) Tryz.func91 ?_ ⟨rfl,rfl,trivial⟩
 unfold xP
 try simp only [dN]
 exact kZ
theorem Aq {x0:dL}:PC Tryz.prog 47 [dL.av x0] (eI (iy x0)):=by
 refine mF (M:=[(0,dL.av x0)]) Tryz.func47 ?_ ⟨rfl,trivial⟩
 unfold iy
 try simp only [dN]
 exact kZ
theorem xZ {x0:dM}{x1:Int}(p1:x1≠0):PC Tryz.prog 88 [dM.av x0,eU x1] (eB (ig x0 x1)):=by
 refine mF (M:=[(0,dM.av x0),(1,eU x1)]) Tryz.func88 ?_ ⟨rfl,rfl,trivial⟩
 unfold ig
 try simp only [dN]
 exact kZ
theorem TA {x0:Nat}{x1:Nat}:PC Tryz.prog 135 [eF x0,eF x1] (eB (zx x0 x1)):=by
 refine mF (M:=[(0,eF x0),(1,eF x1)]) Tryz.func135 ?_ ⟨rfl,rfl,trivial⟩
 unfold zx
 try simp only [dN]
 exact kZ (agZ (m:=x0) (n:=x0)) (agZ (m:=x1) (n:=x1))
end Go.Fw
end
section
namespace Go.Fw
open Go.Proofs Go.Lib
set_option maxRecDepth 100000
set_option maxHeartbeats 4000000
theorem Wl {l:List dL}(h:2<=l.length):mZ l=fU l l.length:=by
 unfold mZ
 have:(dV (jc dL.enc l) 0||dV (jc dL.enc l) 1)=false:=by
  rw [dN,Bool.or_eq_false_iff,pJ,pJ];omega
 dsimp only
 rw [this,dN]
 simp only [cond_false,List.drop_zero]
 rw [List.take_of_length_le (by rw [Dx];omega)]
theorem Wn {l:List dL}(h:l.length<=1):mZ l=l:=by
 unfold mZ
 have:(dV (jc dL.enc l) 0||dV (jc dL.enc l) 1)=true:=by
  rw [dN,Bool.or_eq_true,mV,mV];omega
 dsimp only
 rw [this];rfl
theorem TD {x0:dK}:PC Tryz.prog 5 [dK.av x0] (dK.av (qN x0)):=oN fun hb=>by
 have h0:x0.Objects.length<=4294967296:=by simpa using hb.1.1.1
 refine mF (M:=[(0,dK.av x0)]) Tryz.func5 ?_ ⟨rfl,trivial⟩
 unfold qN
 try simp only [dN]
 exact kZ (KE.mk @oG.eq_2) (KNB.mk:KNB 2 18 dQ.enc) (KB2.mk:KB2 (fun (n:Nat) (u1:Int) (u2:dK)=>0<=u1/\0<=(x0.Objects.length:Int)-u1/\(x0.Objects.length:Int)-u1<n/\(u2.Objects.length:Int)<=u1) (oG x0) (fun u2=>[(4,eI u2)]) 2 18 (fun u2:dK=>List.map dQ.enc u2.Objects) [1,2,3] (dK.mk []) (x0.Objects.length+1)) @wH
theorem TF {x0:Int}(p1:0<=x0)(p2:x0<=1000000):PC Tryz.prog 134 [eI x0] (eS (ql x0)):=by
 refine mF (M:=[(0,eI x0)]) Tryz.func134 ?_ ⟨rfl,trivial⟩
 unfold ql
 try simp only [dN]
 exact kZ @Tz
theorem Wp {x0:Nat}:PC Tryz.prog 119 [eF x0] (eB (y7 x0)):=by
 refine mF (M:=[(0,eF x0)]) Tryz.func119 ?_ ⟨rfl,trivial⟩
 unfold y7
 try simp only [dN]
 exact kZ @Po
theorem tu {x0:dM}:PC Tryz.prog 86 [dM.av x0] (eB (jd x0)):=by
 refine mF (M:=[(0,dM.av x0)]) Tryz.func86 ?_ ⟨rfl,trivial⟩
 unfold jd
 try simp only [dN]
 exact kZ @xZ
theorem zC {x0:dM}:PC Tryz.prog 85 [dM.av x0] (eB (jV x0)):=by
 refine mF (M:=[(0,dM.av x0)]) Tryz.func85 ?_ ⟨rfl,trivial⟩
 unfold jV
 try simp only [dN]
 exact kZ @xZ
theorem Pq {x0:dP}{x1:dP}:PC Tryz.prog 117 [dP.av x0,dP.av x1] (eB (xM x0 x1)):=by
 refine mF (M:=[(0,dP.av x0),(1,dP.av x1)]) Tryz.func117 ?_ ⟨rfl,rfl,trivial⟩
 unfold xM
 try simp only [dN]
 exact kZ @TA
theorem Ov {x0:dK}:Y0 Tryz.prog 5 [dK.av x0] (.agg [.sl (List.map dQ.enc (qN x0).Objects) false]) [0] 18:=RJ fun hb=>by
 have h0:x0.Objects.length<=4294967296:=by simpa using hb.1.1.1
 refine kpo (rows:=List.map dQ.enc (qN x0).Objects) (y:=.agg) (M:=[(0,dK.av x0)]) Tryz.func5 ?_ ⟨rfl,trivial⟩
 unfold qN
 try simp only [dN]
 exact kZ (KE.mk @oG.eq_2) (KNB.mk:KNB 2 18 dQ.enc) (KB2.mk:KB2 (fun (n:Nat) (u1:Int) (u2:dK)=>0<=u1/\0<=(x0.Objects.length:Int)-u1/\(x0.Objects.length:Int)-u1<n/\(u2.Objects.length:Int)<=u1) (oG x0) (fun u2=>[(4,eI u2)]) 2 18 (fun u2:dK=>List.map dQ.enc u2.Objects) [1,2,3] (dK.mk []) (x0.Objects.length+1)) @wH
theorem Jm {x0:dP}{x1:dP}:PC Tryz.prog 52 [dP.av x0,dP.av x1] (eB (sD x0 x1)):=by
 refine mF (M:=[(0,dP.av x0),(1,dP.av x1)]) Tryz.func52 ?_ ⟨rfl,rfl,trivial⟩
 unfold sD
 try simp only [dN]
 exact kZ @lF
end Go.Fw
end
section
namespace Go.Fw
open Go.Proofs Go.Lib
set_option maxRecDepth 100000
set_option maxHeartbeats 4000000
theorem Pv {x0:dP}:PC Tryz.prog 120 [dP.av x0] (eB (EW x0)):=by
 refine mF (M:=[(0,dP.av x0)]) Tryz.func120 ?_ ⟨rfl,trivial⟩
 unfold EW
 try simp only [dN]
 exact kZ
theorem Ar {x0:List dJ}{x1:dL}:PC Tryz.prog 93 [eL dJ.enc x0,dL.av x1] (eI (jE x0 x1)):=oN fun hb=>by
 have h0:x0.length<=4294967296:=by simpa using hb.1.1
 refine mF (M:=[(0,eL dJ.enc x0),(1,dL.av x1)]) Tryz.func93 ?_ ⟨rfl,rfl,trivial⟩
 unfold jE
 try simp only [dN]
 generalize hR:jK x0 x1 (x0.length+1) 0 0=R
 exact kZ (KE.mk @jK.eq_2) (QB.mk hR.symm (J:=fun (n:Nat) (u2:Int) (u3:Int)=>((0:Int)<=u3)/\0<=((x0.length:Int)-u3)/\((x0.length:Int)-u3)<n) (F:=(jK x0 x1)) (R:=R) (vars:=fun (u2:Int) (u3:Int)=>[(4,eI u2),(5,eI u3)]) (ow:=fun (u2:Int) (u3:Int)=>[]) (vb:=fun _ _=>[]) (ts:=[0,3]) (a0:=(0:Int)) (b0:=(0:Int)) (n0:=(x0.length+1)))
theorem afC {x0:dK}(hP:F6 x0)(hB:x0.Objects.length<=4294967296) ⦃u6:Int⦄ ⦃u8:Bool⦄ ⦃u10:List Int⦄:KT (0<=u6/\u6<x0.Objects.length/\u10.length=x0.Objects.length) (kY x0 u6 (x0.Objects.length+1) u8 u6 u10=true):=fun ⟨k0,g,k1⟩=>
 V7 hP hB k0 (by rw [Je];exact decide_eq_true g) k1
theorem afD {x0:dK}(hP:F6 x0)(hB:x0.Objects.length<=4294967296) ⦃u6:Int⦄ ⦃u10:List Int⦄:KT (0<=u6/\u6<x0.Objects.length/\u10.length=x0.Objects.length) (kK x0 u6 (x0.Objects.length+1) u6 u10=true):=fun ⟨k0,g,k1⟩=>by
 have e:eG .i64 u6 1=u6+1:=ng (by omega) (by omega)
 have:=List.countP_le_length (p:=fun z=>dV z (eG .i64 u6 1)) (l:=u10)
 exact Yg hP (by omega) _ _ _ k0 g (by omega) (by omega)
theorem TG {x0:dK}(hB:x0.Objects.length<=4294967296){u:Bool}{v:Bool}(h:lW x0 (x0.Objects.length+1) false 0=(true,u,v)):F6 x0:=adq hB (by rw [h];rfl)
theorem adA {x0:dK}(hP:F6 x0) ⦃k:Int⦄ (hk:dV (x0.Objects.getD k.toNat default).fB.Kind 1=false) (hh:0<=k/\k<x0.Objects.length):0<=(x0.Objects.getD k.toNat default).fB.Ref/\(x0.Objects.getD k.toNat default).fB.Ref<x0.Objects.length:=have h0:=hh.1;have h1:=hh.2;hP k.toNat (by omega) (pJ.1 hk)
theorem ahJ {L:Nat}{u6:Int} ⦃l:List dL⦄ ⦃m:List Int⦄:KT (0<=u6/\u6<=L/\l.length=L+1/\m.length=L+1/\L<=1048576) (0<=u6/\u6<=jg .i64 (l.length:Nat) 1/\jg .i64 (l.length:Nat) 1<=L/\jg .i64 (l.length:Nat) 1<(L+1:Nat)/\l.length=L+1/\m.length=L+1):=fun ⟨h1,h2,h3,h4,h5⟩=>by
 have:=XL (u:=(l.length:Nat)) (by omega) (by omega)
 omega
theorem TI {x0:dP}:PC Tryz.prog 51 [dP.av x0] (gZ.av (Hu x0)):=by
 refine mF (M:=[(0,dP.av x0)]) Tryz.func51 ?_ ⟨rfl,trivial⟩
 unfold Hu
 try simp only [dN]
 exact kZ
theorem La {x0:Bool}:PC Tryz.prog 53 [eB x0] (gZ.av (rD x0)):=by
 refine mF (M:=[(0,eB x0)]) Tryz.func53 ?_ ⟨rfl,trivial⟩
 unfold rD
 try simp only [dN]
 exact kZ
theorem TK {x0:Int}{x1:List UInt8}:PC Tryz.prog 123 [eU x0,eS x1] (gZ.av (Hw x0 x1)):=by
 refine mF (M:=[(0,eU x0),(1,eS x1)]) Tryz.func123 ?_ ⟨rfl,rfl,trivial⟩
 unfold Hw
 try simp only [dN]
 exact kZ
end Go.Fw
end
section
namespace Go.Fw
open Go.Proofs Go.Lib
set_option maxRecDepth 100000
set_option maxHeartbeats 4000000
theorem Px {x0:Int}:PC Tryz.prog 23 [eU x0] (eB (oH x0)):=by
 refine mF (M:=[(0,eU x0)]) Tryz.func23 ?_ ⟨rfl,trivial⟩
 unfold oH
 try simp only [dN]
 exact kZ
theorem DF {x0:dP}{x1:dP}:PC Tryz.prog 27 [dP.av x0,dP.av x1] (eB (o9 x0 x1)):=by
 refine mF (M:=[(0,dP.av x0),(1,dP.av x1)]) Tryz.func27 ?_ ⟨rfl,rfl,trivial⟩
 unfold o9
 try simp only [dN]
 exact kZ
theorem Kt {x0:List dL}{x1:List dL}:PC Tryz.prog 29 [eL dL.enc x0,eL dL.enc x1] (eB (sJ x0 x1)):=oN fun hb=>by
 have h0:x0.length<=4294967296:=by simpa using hb.1.1
 have h1:x1.length<=4294967296:=by simpa using hb.2.1.1
 refine mF (M:=[(0,eL dL.enc x0),(1,eL dL.enc x1)]) Tryz.func29 ?_ ⟨rfl,rfl,trivial⟩
 unfold sJ
 try simp only [dN]
 generalize hR:lY x0 x1 (x0.length+1) false 0=R
 exact kZ (KE.mk @lY.eq_2) (QB.mk hR.symm (J:=fun (n:Nat) (u2:Bool) (u3:Int)=>((0:Int)<=u3)/\0<=((x0.length:Int)-u3)/\((x0.length:Int)-u3)<n) (F:=(lY x0 x1)) (R:=R) (vars:=fun (u2:Bool) (u3:Int)=>[(4,eB u2),(5,eI u3)]) (ow:=fun (u2:Bool) (u3:Int)=>[]) (vb:=fun _ _=>[]) (ts:=[0,1]) (a0:=(false:Bool)) (b0:=(0:Int)) (n0:=(x0.length+1)))
theorem adB {x0:dK}(hP:F6 x0) ⦃u4:List Bool⦄ ⦃u2:Bool⦄ ⦃u3:Int⦄:KT True (kJ x0 u4 (x0.Objects.length+3) u2 u3 []=true):=fun _=>Ko hP
theorem xC {x0:dM}:PC Tryz.prog 66 [dM.av x0] (eB (mg x0)):=by
 refine mF (M:=[(0,dM.av x0)]) Tryz.func66 ?_ ⟨rfl,trivial⟩
 unfold mg
 try simp only [dN]
 exact kZ
theorem Fp {x0:dL}:PC Tryz.prog 104 [dL.av x0] (yM (iE x0)):=oN fun hb=>by
 refine mF (M:=[(0,dL.av x0)]) Tryz.func104 ?_ ⟨rfl,trivial⟩
 unfold iE
 try simp only [dN]
 generalize hR:nC x0 (((sLen x0.Str):Int).toNat+1) 0 false 0 0=R
 exact kZ (KE.mk @nC.eq_2) (KL4.mk hR.symm (J:=fun (n:Nat) (u1:Int) (u2:Bool) (u3:Int) (u4:Int)=>((0:Int)<=u4)/\0<=((x0.Str.length:Int)-u4)/\((x0.Str.length:Int)-u4)<n) (F:=(nC x0)) (R:=R) (vars:=fun (u1:Int) (u2:Bool) (u3:Int) (u4:Int)=>[(2,eI u1),(3,eB u2),(4,eI u3),(35,eI u4)]) (ow:=fun (u1:Int) (u2:Bool) (u3:Int) (u4:Int)=>[]) (vb:=fun _ _ _ _=>[]) (ts:=[1,34]) (a0:=(0:Int)) (b0:=(false:Bool)) (c0:=(0:Int)) (d0:=(0:Int)) (n0:=(((sLen x0.Str):Int).toNat+1)))
theorem Wq {x0:List UInt8}:PC Tryz.prog 101 [eS x0] (dL.av (EX x0)):=by
 refine mF (M:=[(0,eS x0)]) Tryz.func101 ?_ ⟨rfl,trivial⟩
 unfold EX
 try simp only [dN]
 exact kZ
theorem Ws {x0:dQ}:PC Tryz.prog 100 [dQ.av x0] (eU (wY x0)):=by
 refine mF (M:=[(0,dQ.av x0)]) Tryz.func100 ?_ ⟨rfl,trivial⟩
 unfold wY
 try simp only [dN]
 exact kZ
theorem m_ {x0:dP}:PC Tryz.prog 60 [dP.av x0] (eB (dS x0)):=by
 refine mF (M:=[(0,dP.av x0)]) Tryz.func60 ?_ ⟨rfl,trivial⟩
 unfold dS
 try simp only [dN]
 exact kZ
theorem Yi {x0:Nat}:PC Tryz.prog 127 [eF x0] (eF (IU x0)):=by
 refine mF (M:=[(0,eF x0)]) Tryz.func127 ?_ ⟨rfl,trivial⟩
 unfold IU
 try simp only [dN]
 exact kZ (yG x0) (Bz (o_ .u64 (sW x0) 9223372036854775808))
end Go.Fw
end
section
namespace Go.Fw
open Go.Proofs Go.Lib
set_option maxRecDepth 100000
set_option maxHeartbeats 4000000
theorem Ox {x0:Nat}:PC Tryz.prog 128 [eF x0] (eB (yN x0)):=by
 refine mF (M:=[(0,eF x0)]) Tryz.func128 ?_ ⟨rfl,trivial⟩
 unfold yN
 try simp only [dN]
 exact kZ (yG x0)
theorem TL {x0:Nat}(h0:CQ x0):PC Tryz.prog 126 [eF x0] (eF (Du x0)):=by
 refine mF (M:=[(0,eF x0)]) Tryz.func126 ?_ ⟨rfl,trivial⟩
 unfold Du
 try simp only [dN]
 exact kZ (IL x0 h0)
theorem Fq {x0:dL}:PC Tryz.prog 34 [dL.av x0] (eI (qZ x0)):=by
 refine mF (M:=[(0,dL.av x0)]) Tryz.func34 ?_ ⟨rfl,trivial⟩
 unfold qZ
 try simp only [dN]
 exact kZ
theorem yB {x0:dM}:PC Tryz.prog 67 [dM.av x0] (eB (lK x0)):=by
 refine mF (M:=[(0,dM.av x0)]) Tryz.func67 ?_ ⟨rfl,trivial⟩
 unfold lK
 try simp only [dN]
 exact kZ
theorem Py {x0:dP}:PC Tryz.prog 107 [dP.av x0] (eB (ET x0)):=by
 refine mF (M:=[(0,dP.av x0)]) Tryz.func107 ?_ ⟨rfl,trivial⟩
 unfold ET
 try simp only [dN]
 exact kZ
theorem Oy {x0:Bool}:PC Tryz.prog 39 [eB x0] (gZ.av (dW x0)):=by
 refine mF (M:=[(0,eB x0)]) Tryz.func39 ?_ ⟨rfl,trivial⟩
 unfold dW
 try simp only [dN]
 exact kZ
theorem HY {x0:List dJ}{x1:dL}:PC Tryz.prog 73 [eL dJ.enc x0,dL.av x1] (eI (lU x0 x1)):=oN fun hb=>by
 have h0:x0.length<=4294967296:=by simpa using hb.1.1
 refine mF (M:=[(0,eL dJ.enc x0),(1,dL.av x1)]) Tryz.func73 ?_ ⟨rfl,rfl,trivial⟩
 unfold lU
 try simp only [dN]
 generalize hR:kG x0 x1 (x0.length+1) 0 0=R
 exact kZ (KE.mk @kG.eq_2) (QB.mk hR.symm (J:=fun (n:Nat) (u2:Int) (u3:Int)=>((0:Int)<=u3)/\0<=((x0.length:Int)-u3)/\((x0.length:Int)-u3)<n) (F:=(kG x0 x1)) (R:=R) (vars:=fun (u2:Int) (u3:Int)=>[(4,eI u2),(8,eI u3)]) (ow:=fun (u2:Int) (u3:Int)=>[]) (vb:=fun _ _=>[]) (ts:=[0,3,7]) (a0:=(0:Int)) (b0:=(0:Int)) (n0:=(x0.length+1)))
theorem Oz {x0:dM}:PC Tryz.prog 129 [dM.av x0] (eB (yO x0)):=by
 refine mF (M:=[(0,dM.av x0)]) Tryz.func129 ?_ ⟨rfl,trivial⟩
 unfold yO
 try simp only [dN]
 exact kZ
theorem Wu {n:Nat}{l:List dL}{x1 x2 x3:Int}(h:l.length=n/\n<=4294967296/\(0<=x1/\0<=x2/\0<=x3)/\x1+x3<=n/\x2+x3<=n):SC n 155 [eI x1,eI x2,eI x3] l (gW l x1 x2 x3):=by
 refine kpS (M:=[(0,sDa n),(1,eI x1),(2,eI x2),(3,eI x3)]) Tryz.func155 ?_ ⟨rfl,rfl,rfl,rfl,trivial⟩
 unfold gW
 exact kZ (KE.mk @iL.eq_2)
  (J5.mk:J5 (fun (m:Nat) (u4:Int) (u5:List dL)=>0<=u4/\u4<=x3/\x3-u4<m/\u5.length=n) (iL x1 x2 x3) (fun u4 _=>[(8,eI u4)]) (fun _ _=>[]) (fun _ u5=>[(3,.rows 1 [[.os 2 2 0 n]]),(2,.rows 2 (List.map dL.enc u5))]) [1,2,3,4] (x3.toNat+1))
  (fun {m:Nat} {u4:Int} {u5:List dL} (hJ:0<=u4/\u4<=x3/\x3-u4<m/\u5.length=n)=>And.intro (wu (a:=x1) (b:=u4) (by omega)) (And.intro (wu (a:=x2) (b:=u4) (by omega)) (wu (a:=u4) (b:=1) (by omega))))
theorem ahK {g n:Nat}{l:List dL}(h:n<=1):SCg (.agg [.fn (.func 111) [] [.op 3 1 0 0],.fn (.func g) [] []]) n 150 [eI 0,eI n] l l:=by
 refine kpS (M:=[(0,.agg [.fn (.func 111) [] [.op 3 1 0 0],.fn (.func g) [] []]),(1,eI 0),(2,eI n)]) Tryz.func150 ?_ ⟨rfl,rfl,rfl,trivial⟩
 have e:decide (eG .i64 0 1<(n:Int))=false:=decide_eq_false (by rw [show eG .i64 0 1=1 from rfl];omega)
 exact kZ (KU.mk:KU 1)
end Go.Fw
end
section
namespace Go.Fw
open Go.Proofs Go.Lib
set_option maxRecDepth 100000
set_option maxHeartbeats 4000000
theorem Fv {x0:dK}{x1:Int}{x2:dP}(hP:F6 x0)(hA:Gj x0)(h2:hIn x0 x2):PC Tryz.prog 54 [dK.av x0,eI x1,dP.av x2] (eB (wB x0 x1 x2)):=by
 refine mF (M:=[(0,dK.av x0),(1,eI x1),(2,dP.av x2)]) Tryz.func54 ?_ ⟨rfl,rfl,rfl,trivial⟩
 unfold wB
 generalize hR:nU x0 x1 (x0.Objects.length+1) false x2=R
 have hE:=V8 hP hA h2 (x1:=x1) (u3:=false)
 have hI:=fun k=>ahE hP (i:=k)
 clear hP hA
 exact kZ (KE.mk @nU.eq_2) (QB.mk hR.symm (J:=fun n u3 u4=>oK x0 x1 n u3 u4=true/\hIn x0 u4) (F:=nU x0 x1) (R:=R) (vars:=fun u3 u4=>[(6,eB u3)]) (ow:=fun _ _=>[]) (vb:=fun u3 u4=>[(1,.rows 4 [u4.enc])]) (ts:=[1,3,5]) (a0:=false) (b0:=x2) (n0:=x0.Objects.length+1)) @lF (fun {v}=>ahF (h:=x0) (v:=v)) (fun {v}=>ahG (h:=x0) (v:=v)) (KE.mk @oK.eq_2)
theorem Pz {x0:List UInt8}:PC Tryz.prog 95 [eS x0] (gZ.av (EZ x0)):=by
 refine mF (M:=[(0,eS x0)]) Tryz.func95 ?_ ⟨rfl,trivial⟩
 unfold EZ
 try simp only [dN]
 exact kZ @TK
theorem BM {x0:dM}{x1:dM}:PC Tryz.prog 28 [dM.av x0,dM.av x1] (eB (qC x0 x1)):=by
 refine mF (M:=[(0,dM.av x0),(1,dM.av x1)]) Tryz.func28 ?_ ⟨rfl,rfl,trivial⟩
 unfold qC
 try simp only [dN]
 exact kZ @DF
theorem TM {x0:dK}(hP:F6 x0)(hB:x0.Objects.length<=4294967296):PC Tryz.prog 32 [dK.av x0] (eB (qm x0)):=by
 refine mF (M:=[(0,dK.av x0)]) Tryz.func32 ?_ ⟨rfl,trivial⟩
 unfold qm
 try simp only [dN]
 exact kZ (KE.mk @lN.eq_2) (KE.mk @jh.eq_2) (KE.mk @kJ.eq_2)
  (Sz.mk:Sz (fun (n:Nat) (u2:Bool) (u3:Int) (u4:List Bool)=>0<=u3/\0<=(x0.Objects.length:Int)-u3/\(x0.Objects.length:Int)-u3<n/\u4.length=x0.Objects.length) (lN x0) (fun u2 u3 _=>[(2,eB u2),(16,eI u3)]) (fun _ _ u4=>[(3,1,List.map Vx u4)]) (fun _ _ _=>[]) [1,15] (x0.Objects.length+1))
  (fun {n:Nat} {u3:Int} {u4:List Bool} (h:0<=u3/\0<=(x0.Objects.length:Int)-u3/\(x0.Objects.length:Int)-u3<n/\u4.length=x0.Objects.length)=>(Sz.mk:Sz (fun (n:Nat) (u5:Bool) (u6:Int) (u7:List (Int×Bool))=>kJ x0 u4 n u5 u6 u7=true/\0<=u6/\u6<x0.Objects.length/\acL x0.Objects.length u7) (jh x0 u4) (fun u5 u6 _=>[(2,eB u5),(6,eI u6),(5,.mp 15)]) (fun _ _ _=>[]) (fun _ _ u7=>[(15,.map (mE (fun n:Int=>AV.p (.int .i64 n)) (fun b:Bool=>AV.p (.bool b)) u7))]) [1,3,4,15,16] (x0.Objects.length+3)))
  (KMk.mk:KMk ⟨43,44,45,46,47,8,3,48,49,50,99,4⟩ x0.Objects.length) (KMM.mk:KMM (fun n:Int=>AV.p (.int .i64 n)) (fun b:Bool=>AV.p (.bool b))) @(adA hP) @(adB hP) (KMS.mk:KMS Vx false)
theorem adC {x0:dJ}{x1:Nat}(p1:nOk x1):PC Tryz.prog 103 [dJ.av x0,.vp [eF x1] 0] (eB ((iE x0.Key).2&&decide ((iE x0.Key).1>=(((FloatKind.f64.decode x1).toInt .zero).getD 0)))):=by
 refine mF (M:=[(0,dJ.av x0),(1,.vp [eF x1] 0)]) Tryz.func103 ?_ ⟨rfl,rfl,trivial⟩
 exact kZ @Fp
theorem adD {x0:dJ}{x1:List UInt8}:PC Tryz.prog 105 [dJ.av x0,.vp [eS x1] 0] (eB (((iE x0.Key).2&&decide ((iE x0.Key).1<sLen x1))||(wJ x0.Key.Str (EX [108,101,110,103,116,104]).Str&&dV x0.Key.Sym (EX [108,101,110,103,116,104]).Sym))):=by
 refine mF (M:=[(0,dJ.av x0),(1,.vp [eS x1] 0)]) Tryz.func105 ?_ ⟨rfl,rfl,trivial⟩
 exact kZ @Fp @Wq
theorem aa5 {x0:Nat}:PC Tryz.prog 106 [eF x0] (eB (xu x0)):=by
 refine mF (M:=[(0,eF x0)]) Tryz.func106 ?_ ⟨rfl,trivial⟩
 unfold xu
 try simp only [dN]
 exact kZ @TL @Yi @Ox (agZ (m:=x0) (n:=x0))
theorem yT {x0:dM}:PC Tryz.prog 75 [dM.av x0] (dM.av (mY x0)):=by
 refine mF (M:=[(0,dM.av x0)]) Tryz.func75 ?_ ⟨rfl,trivial⟩
 unfold mY
 try simp only [dN]
 exact kZ @yB
theorem OA {x0:dP}{x1:dP}:PC Tryz.prog 71 [dP.av x0,dP.av x1] (eB (yP x0 x1)):=by
 refine mF (M:=[(0,dP.av x0),(1,dP.av x1)]) Tryz.func71 ?_ ⟨rfl,rfl,trivial⟩
 unfold yP
 try simp only [dN]
 exact kZ @m_
theorem Jo {x0:dK}{x1:Int}{x2:dP}(hC:iR x0=0)(h2:hIn x0 x2):PC Tryz.prog 40 [dK.av x0,eI x1,dP.av x2] (eB (iD x0 x1 x2)):=by
 refine mF (M:=[(0,dK.av x0),(1,eI x1),(2,dP.av x2)]) Tryz.func40 ?_ ⟨rfl,rfl,rfl,trivial⟩
 unfold iD
 generalize hR:jq x0 x1 (x0.Objects.length+1) false x2=R
 have hE:=Oe hC h2 (x1:=x1) (u3:=false)
 have hP:=fun k=>ahw hC (i:=k)
 clear hC
 exact kZ (KE.mk @jq.eq_2) (QB.mk hR.symm (J:=fun n u3 u4=>jP x0 x1 n u3 u4=true/\hIn x0 u4) (F:=jq x0 x1) (R:=R) (vars:=fun u3 u4=>[(6,eB u3)]) (ow:=fun _ _=>[]) (vb:=fun u3 u4=>[(1,.rows 4 [u4.enc])]) (ts:=[1,3,5]) (a0:=false) (b0:=x2) (n0:=x0.Objects.length+1)) @m_ (fun {v}=>agx (h:=x0) (v:=v)) (fun {v}=>Zp (h:=x0) (v:=v)) (KE.mk @jP.eq_2)
end Go.Fw
end
section
namespace Go.Fw
open Go.Proofs Go.Lib
set_option maxRecDepth 100000
set_option maxHeartbeats 4000000
theorem Wv {x0:dL}:PC Tryz.prog 112 [dL.av x0] (IV (dX x0)):=by
 refine mF (M:=[(0,dL.av x0)]) Tryz.func112 ?_ ⟨rfl,trivial⟩
 unfold dX
 try simp only [dN]
 exact kZ @Fp
theorem adE {n:Nat}{l:List dL}{x1 x2 x3:Int}(h:l.length=n/\n<=4294967296/\0<=x1/\x1<x2/\x2<x3/\x3<=n):SC n 154 [eI x1,eI x2,eI x3] l (jf l x1 x2 x3):=by
 refine kpS (M:=[(0,sDa n),(1,eI x1),(2,eI x2),(3,eI x3)]) Tryz.func154 ?_ ⟨rfl,rfl,rfl,rfl,trivial⟩
 unfold jf
 have e0:=uN (a:=x2) (b:=x1) (by omega)
 have e1:=uN (a:=x3) (b:=x2) (by omega)
 exact kZ (KE.mk @gX.eq_2)
  (Sz.mk:Sz (fun (m:Nat) (u4 u5:Int) (u6:List dL)=>0<u4/\0<u5/\u4<=x2-x1/\u5<=x3-x2/\u4+u5<m/\u6.length=n) (gX x2) (fun u4 u5 _=>[(8,eI u4),(9,eI u5)]) (fun _ _ _=>[]) (fun _ _ u6=>[(3,.rows 1 [[.os 2 2 0 n]]),(2,.rows 2 (List.map dL.enc u6))]) [1,2,3,4] ((x3-x1).toNat+1))
  (fun {m:Nat} {u4 u5:Int} {u6:List dL} (hJ:0<u4/\0<u5/\u4<=x2-x1/\u5<=x3-x2/\u4+u5<m/\u6.length=n)=>And.intro (uN (a:=x2) (b:=u4) (by omega)) (And.intro (wu (a:=x2) (b:=u5) (by omega)) (And.intro (uN (a:=u4) (b:=u5) (by omega)) (uN (a:=u5) (b:=u4) (by omega)))))
  (fun {m:Nat} {u4 u5:Int} {u6:List dL} (hJ:0<u4/\0<u5/\u4<=x2-x1/\u5<=x3-x2/\u4+u5<m/\u6.length=n)=>uN (a:=eG .i64 x2 u5) (b:=u4) (by have:=wu (a:=x2) (b:=u5) (by omega);omega))
  @Wu
theorem aa6 {g n:Nat}{l:List dL}(h:n<=1):SCg (.agg [.fn (.func 111) [] [.op 3 1 0 0],.fn (.func g) [] []]) n 132 [eI n] l l:=by
 refine kpS (M:=[(0,.agg [.fn (.func 111) [] [.op 3 1 0 0],.fn (.func g) [] []]),(1,eI n)]) Tryz.func132 ?_ ⟨rfl,rfl,trivial⟩
 have e:decide ((20:Int)<=(n:Int))=false:=decide_eq_false (by omega)
 have e2:decide ((20:Int)<(n:Int))=false:=decide_eq_false (by omega)
 exact kZ (KU.mk:KU 1) @ahK
theorem QO {l:List dL}:(mZ l).length=l.length:=by
 by_cases h2:2<=l.length
 .rw [Wl h2,Dx]
 .rw [Wn (by omega)]
theorem Au {x0:dL}:PC Tryz.prog 116 [dL.av x0] (yM (nN x0)):=oN fun hb=>by
 refine mF (M:=[(0,dL.av x0)]) Tryz.func116 ?_ ⟨rfl,trivial⟩
 unfold nN
 try simp only [dN]
 generalize hR:oQ x0 ((1024:Int).toNat+1) 0 false 0=R
 exact kZ (KE.mk @oQ.eq_2) (KL3.mk hR.symm (J:=fun (n:Nat) (u1:Int) (u2:Bool) (u3:Int)=>((0:Int)<=u3)/\0<=((1024:Int)-u3)/\((1024:Int)-u3)<n) (F:=(oQ x0)) (R:=R) (vars:=fun (u1:Int) (u2:Bool) (u3:Int)=>[(2,eI u1),(3,eB u2),(4,eI u3)]) (ow:=fun (u1:Int) (u2:Bool) (u3:Int)=>[]) (vb:=fun _ _ _=>[]) (ts:=[1]) (a0:=(0:Int)) (b0:=(false:Bool)) (c0:=(0:Int)) (n0:=((1024:Int).toNat+1))) @TF
theorem vO {x0:dP}:PC Tryz.prog 89 [dP.av x0] (eB (jr x0)):=by
 refine mF (M:=[(0,dP.av x0)]) Tryz.func89 ?_ ⟨rfl,trivial⟩
 unfold jr
 try simp only [dN]
 exact kZ @Ou @Wp
theorem TN {x0:dP}:PC Tryz.prog 87 [dP.av x0] (eB (je x0)):=by
 refine mF (M:=[(0,dP.av x0)]) Tryz.func87 ?_ ⟨rfl,trivial⟩
 unfold je
 try simp only [dN]
 exact kZ (@Pq x0 (dP.mk 0 0 [] 0))
theorem PD {x0:dK}{x1:Int}{x2:dQ}(p1:0<=x1)(p2:x1<x0.Objects.length):PC Tryz.prog 26 [dK.av x0,eI x1,dQ.av x2] (dK.av (xW x0 x1 x2)):=oN fun hb=>by
 have h0:x0.Objects.length<=4294967296:=by simpa using hb.1.1.1
 have h1:x1<(qN x0).Objects.length:=by rw [Oo h0];exact p2
 refine mF (M:=[(0,dK.av x0),(1,eI x1),(2,dQ.av x2)]) Tryz.func26 ?_ ⟨rfl,rfl,rfl,trivial⟩
 unfold xW
 try simp only [dN]
 exact kZ @Ov @wH QC.mk
theorem PE {x0:dM}:PC Tryz.prog 122 [dM.av x0] (dM.av (lu x0)):=by
 refine mF (M:=[(0,dM.av x0)]) Tryz.func122 ?_ ⟨rfl,trivial⟩
 unfold lu
 try simp only [dN]
 exact kZ @tu
theorem Lr {x0:gZ}{x1:gZ}:PC Tryz.prog 8 [gZ.av x0,gZ.av x1] (eB (t_ x0 x1)):=by
 refine mF (M:=[(0,gZ.av x0),(1,gZ.av x1)]) Tryz.func8 ?_ ⟨rfl,rfl,trivial⟩
 unfold t_
 try simp only [dN]
 exact kZ @DF @BM @Kt
end Go.Fw
end
section
namespace Go.Fw
open Go.Proofs Go.Lib
set_option maxRecDepth 100000
set_option maxHeartbeats 4000000
theorem H6 {x0:dQ}{x1:dQ}:PC Tryz.prog 30 [dQ.av x0,dQ.av x1] (eB (qE x0 x1)):=oN fun hb=>by
 have h0:x0.Props.length<=4294967296:=by simpa using hb.1.2.2.2.2.2.2.1.1
 have h1:x1.Props.length<=4294967296:=by simpa using hb.2.1.2.2.2.2.2.2.1.1
 refine mF (M:=[(0,dQ.av x0),(1,dQ.av x1)]) Tryz.func30 ?_ ⟨rfl,rfl,trivial⟩
 unfold qE
 try simp only [dN]
 generalize hR:kR x0 x1 (x0.Props.length+1) false 0=R
 exact kZ (KE.mk @kR.eq_2) (QB.mk hR.symm (J:=fun (n:Nat) (u5:Bool) (u6:Int)=>((0:Int)<=u6)/\0<=((x0.Props.length:Int)-u6)/\((x0.Props.length:Int)-u6)<n) (F:=(kR x0 x1)) (R:=R) (vars:=fun (u5:Bool) (u6:Int)=>[(4,eB u5),(5,eI u6)]) (ow:=fun (u5:Bool) (u6:Int)=>[]) (vb:=fun _ _=>[]) (ts:=[2,3]) (a0:=(false:Bool)) (b0:=(0:Int)) (n0:=(x0.Props.length+1))) @BM @DF
theorem TP {x0:Nat}{x1:List dJ}(p1:nOk x0):PC Tryz.prog 125 [eL dJ.enc x1,.fn (.func 103) [] [.vp [eF x0] 0]] (eI (mO x0 x1)):=oN fun hb=>by
 have h0:x1.length<=4294967296:=by simpa using hb.1.1
 refine mF (M:=[(0,eL dJ.enc x1),(1,.fn (.func 103) [] [.vp [eF x0] 0])]) Tryz.func125 ?_ ⟨rfl,rfl,trivial⟩
 unfold mO
 try simp only [dN]
 generalize hR:iC x0 x1 (x1.length+1) 0 0=R
 exact kZ (KE.mk @iC.eq_2) (QB.mk hR.symm (J:=fun (n:Nat) (u2:Int) (u3:Int)=>0<=u3/\0<=(x1.length:Int)-u3/\(x1.length:Int)-u3<n) (F:=iC x0 x1) (R:=R) (vars:=fun u2 u3=>[(4,eI u2),(8,eI u3)]) (ow:=fun _ _=>[]) (vb:=fun _ _=>[]) (ts:=[0,1,7]) (a0:=(0:Int)) (b0:=(0:Int)) (n0:=x1.length+1)) (fun {p}=>adC (x0:=p) p1)
theorem TQ {x0:List dJ}{x1:List UInt8}:PC Tryz.prog 125 [eL dJ.enc x0,.fn (.func 105) [] [.vp [eS x1] 0]] (eI (nR x0 x1)):=oN fun hb=>by
 have h0:x0.length<=4294967296:=by simpa using hb.1.1
 refine mF (M:=[(0,eL dJ.enc x0),(1,.fn (.func 105) [] [.vp [eS x1] 0])]) Tryz.func125 ?_ ⟨rfl,rfl,trivial⟩
 unfold nR
 try simp only [dN]
 generalize hR:iQ x0 x1 (x0.length+1) 0 0=R
 exact kZ (KE.mk @iQ.eq_2) (QB.mk hR.symm (J:=fun (n:Nat) (u2:Int) (u3:Int)=>0<=u3/\0<=(x0.length:Int)-u3/\(x0.length:Int)-u3<n) (F:=iQ x0 x1) (R:=R) (vars:=fun u2 u3=>[(4,eI u2),(8,eI u3)]) (ow:=fun _ _=>[]) (vb:=fun _ _=>[]) (ts:=[0,1,7]) (a0:=(0:Int)) (b0:=(0:Int)) (n0:=x0.length+1)) @adD
theorem x9 {x0:dP}:PC Tryz.prog 68 [dP.av x0] (eB (jH x0)):=by
 refine mF (M:=[(0,dP.av x0)]) Tryz.func68 ?_ ⟨rfl,trivial⟩
 unfold jH
 try simp only [dN]
 exact kZ @aa5
theorem Jp {x0:dP}{x1:dP}:PC Tryz.prog 38 [dP.av x0,dP.av x1] (eB (jQ x0 x1)):=by
 refine mF (M:=[(0,dP.av x0),(1,dP.av x1)]) Tryz.func38 ?_ ⟨rfl,rfl,trivial⟩
 unfold jQ
 try simp only [dN]
 exact kZ @OA
theorem adF : Less:=fun {l i j} p1 p2=>by
 refine mF (M:=[(0,eI i),(1,eI j),(2,.vp [.sl (List.map dL.enc l) false] 0)]) Tryz.func111 ?_ ⟨rfl,rfl,rfl,trivial⟩
 exact kZ @Wv
theorem Wx {g n:Nat}{l:List dL}(h:n<=1)(kp:KSp n 2 (.fn (.func g) [] [])):SCg (.wI 37 (.os 2 2 0 n)) n 113 [.fn (.func 111) [] [.op 3 1 0 0]] l l:=by
 refine kpS (M:=[(0,.wI 37 (.os 2 2 0 n)),(1,.fn (.func 111) [] [.op 3 1 0 0])]) Tryz.func113 ?_ ⟨rfl,rfl,trivial⟩
 exact kZ (@aa6 g) kp
theorem PG {x0:List dJ}{x1:Int}:PC Tryz.prog 115 [eL dJ.enc x0,eI x1] (eB (xQ x0 x1)):=oN fun hb=>by
 have h0:x0.length<=4294967296:=by simpa using hb.1.1
 refine mF (M:=[(0,eL dJ.enc x0),(1,eI x1)]) Tryz.func115 ?_ ⟨rfl,rfl,trivial⟩
 unfold xQ
 try simp only [dN]
 generalize hR:kW x0 x1 (x0.length+1) false 0=R
 exact kZ (KE.mk @kW.eq_2) (QB.mk hR.symm (J:=fun (n:Nat) (u2:Bool) (u3:Int)=>((0:Int)<=u3)/\0<=((x0.length:Int)-u3)/\((x0.length:Int)-u3)<n) (F:=(kW x0 x1)) (R:=R) (vars:=fun (u2:Bool) (u3:Int)=>[(4,eB u2),(5,eI u3)]) (ow:=fun (u2:Bool) (u3:Int)=>[]) (vb:=fun _ _=>[]) (ts:=[0,1]) (a0:=(false:Bool)) (b0:=(0:Int)) (n0:=(x0.length+1))) @Au
theorem PI {x0:List dJ}{x1:List UInt8}:PC Tryz.prog 84 [eL dJ.enc x0,eS x1] (eB (xU x0 x1)):=oN fun hb=>by
 have h0:x0.length<=4294967296:=by simpa using hb.1.1
 refine mF (M:=[(0,eL dJ.enc x0),(1,eS x1)]) Tryz.func84 ?_ ⟨rfl,rfl,trivial⟩
 unfold xU
 try simp only [dN]
 generalize hR:kX x0 x1 (x0.length+1) false 0=R
 exact kZ (KE.mk @kX.eq_2) (QB.mk hR.symm (J:=fun (n:Nat) (u2:Bool) (u3:Int)=>((0:Int)<=u3)/\0<=((x0.length:Int)-u3)/\((x0.length:Int)-u3)<n) (F:=(kX x0 x1)) (R:=R) (vars:=fun (u2:Bool) (u3:Int)=>[(4,eB u2),(5,eI u3)]) (ow:=fun (u2:Bool) (u3:Int)=>[]) (vb:=fun _ _=>[]) (ts:=[0,1]) (a0:=(false:Bool)) (b0:=(0:Int)) (n0:=(x0.length+1))) @Au
theorem Ac {x0:dK}{x1:dP}:PC Tryz.prog 81 [dK.av x0,dP.av x1] (eB (kT x0 x1)):=by
 refine mF (M:=[(0,dK.av x0),(1,dP.av x1)]) Tryz.func81 ?_ ⟨rfl,rfl,trivial⟩
 unfold kT
 try simp only [dN]
 exact kZ @vO @lF @Gz (@Jk x1)
end Go.Fw
end
section
namespace Go.Fw
open Go.Proofs Go.Lib
set_option maxRecDepth 100000
set_option maxHeartbeats 4000000
theorem TR {x0:dP}:PC Tryz.prog 79 [dP.av x0] (eB (sH x0)):=by
 refine mF (M:=[(0,dP.av x0)]) Tryz.func79 ?_ ⟨rfl,trivial⟩
 unfold sH
 try simp only [dN]
 exact kZ @vO
theorem OB {x0:dP}:PC Tryz.prog 90 [dP.av x0] (eB (jk x0)):=by
 refine mF (M:=[(0,dP.av x0)]) Tryz.func90 ?_ ⟨rfl,trivial⟩
 unfold jk
 try simp only [dN]
 exact kZ @vO @Pv
theorem TS {x0:dP}:PC Tryz.prog 114 [dP.av x0] (eB (lq x0)):=by
 refine mF (M:=[(0,dP.av x0)]) Tryz.func114 ?_ ⟨rfl,trivial⟩
 unfold lq
 try simp only [dN]
 exact kZ @vO
theorem Yj {x0:dK}{x1:dP}:PC Tryz.prog 49 [dK.av x0,dP.av x1] (eB (nO x0 x1)):=by
 refine mF (M:=[(0,dK.av x0),(1,dP.av x1)]) Tryz.func49 ?_ ⟨rfl,rfl,trivial⟩
 unfold nO
 try simp only [dN]
 exact kZ @vO @lF @Gz (@Jk x1)
theorem PK {x0:List dL}(p1:x0.length<=1048576):PC Tryz.prog 99 [eL dL.enc x0] (eL dL.enc (qG x0)):=by
 refine mF (M:=[(0,eL dL.enc x0)]) Tryz.func99 ?_ ⟨rfl,trivial⟩
 unfold qG
 try simp only [dN]
 exact kZ (KE.mk @oV.eq_2) (KE.mk @oW.eq_2) (KE.mk @oZ.eq_2) (KE.mk @qB.eq_2) (KE.mk @oU.eq_2)
  (Sz.mk:Sz (fun (n:Nat) (u1:List dL) (u2:List Int) (u3:Int)=>0<=u3/\0<=(x0.length:Int)-u3/\(x0.length:Int)-u3<n/\(u1.length:Int)<=u3/\u2.length=u1.length) (oV x0) (fun _ _ u3=>[(5,eI u3)]) (fun u1 u2 _=>[(3,2,List.map dL.enc u1),(4,1,List.map Vw u2)]) (fun _ _ _=>[]) [0] (x0.length+1))
  (fun {n:Nat} {u1:List dL} {u2:List Int} {u3:Int} (h:0<=u3/\0<=(x0.length:Int)-u3/\(x0.length:Int)-u3<n/\(u1.length:Int)<=u3/\u2.length=u1.length)=>(KI1.mk:KI1 (fun (n:Nat) (u6:Int)=>0<=u6/\u6<=u1.length/\u6<n) (qB u2 (nN (x0.getD u3.toNat default))) (fun u6=>[(8,eI u6)]) (fun _=>[]) (fun _=>[]) [0,3,4,5,6,7] (u1.length+1)))
  (fun {n:Nat} {u1:List dL} {u2:List Int} {u3:Int} (h:0<=u3/\0<=(x0.length:Int)-u3/\(x0.length:Int)-u3<n/\(u1.length:Int)<=u3/\u2.length=u1.length)=>fun ⦃n:Nat⦄ ⦃u6:Int⦄ (h6:0<=u6/\u6<=u1.length/\u6<n)=>(Sz.mk:Sz (fun (n:Nat) (u9:Int) (u10:List dL) (u11:List Int)=>0<=u6/\u6<=u9/\u9<=u1.length/\u9<n/\u10.length=u1.length+1/\u11.length=u1.length+1) (oU u6) (fun u9 _ _=>[(9,eI u9)]) (fun _ u10 u11=>[(3,2,List.map dL.enc u10),(4,1,List.map Vw u11)]) (fun _ _ _=>[]) [0,5,6,7,8] (u1.length+1)))
  (fun {n:Nat} {u1:List dL} {u2:List Int} {u3:Int} (h:0<=u3/\0<=(x0.length:Int)-u3/\(x0.length:Int)-u3<n/\(u1.length:Int)<=u3/\u2.length=u1.length)=>fun ⦃n:Nat⦄ ⦃u6:Int⦄ (h6:0<=u6/\u6<=u1.length/\u6<n)=>XL (u:=u6) h6.1 (by omega))
  (fun {n:Nat} {u1:List dL} {u2:List Int} {u3:Int} (h:0<=u3/\0<=(x0.length:Int)-u3/\(x0.length:Int)-u3<n/\(u1.length:Int)<=u3/\u2.length=u1.length)=>fun ⦃n:Nat⦄ ⦃u6:Int⦄ (h6:0<=u6/\u6<=u1.length/\u6<n)=>@ahJ u1.length u6)
  (fun ⦃n:Nat⦄ ⦃u6 u9:Int⦄ ⦃u1 u10:List dL⦄ ⦃u11:List Int⦄ (h:0<=u6/\u6<=u9/\u9<=(u1.length:Int)/\u9<n/\u10.length=u1.length+1/\u11.length=u1.length+1)=>fun (hh:u1.length<=1048576)=>XL (u:=u9) (by omega) (by omega))
  (J5.mk:J5 (fun (n:Nat) (u2:List dL) (u3:Int)=>0<=u3/\0<=(x0.length:Int)-u3/\(x0.length:Int)-u3<n/\(u2.length:Int)<=1048576+u3) (oW x0) (fun _ u3=>[(10,eI u3)]) (fun u2 _=>[(3,2,List.map dL.enc u2)]) (fun _ _=>[]) [0] (x0.length+1))
  (J5.mk:J5 (fun (n:Nat) (u3:List dL) (u4:Int)=>0<=u4/\0<=(x0.length:Int)-u4/\(x0.length:Int)-u4<n/\(u3.length:Int)<=2097152+u4) (oZ x0) (fun _ u4=>[(13,eI u4)]) (fun u3 _=>[(3,2,List.map dL.enc u3)]) (fun _ _=>[]) [0] (x0.length+1))
  (KV.mk (v:=dL.mk [] 0)) (KV.mk (v:=(0:Int))) (KNE.mk:KNE 3 2 dL.enc) (KNE.mk:KNE 4 1 Vw) @Au
theorem TU {x0:dK}{x1:dK}:PC Tryz.prog 9 [dK.av x0,dK.av x1] (eB (zy x0 x1)):=oN fun hb=>by
 have h0:x0.Objects.length<=4294967296:=by simpa using hb.1.1.1
 have h1:x1.Objects.length<=4294967296:=by simpa using hb.2.1.1.1
 refine mF (M:=[(0,dK.av x0),(1,dK.av x1)]) Tryz.func9 ?_ ⟨rfl,rfl,trivial⟩
 unfold zy
 try simp only [dN]
 generalize hR:qo x0 x1 (x0.Objects.length+1) false 0=R
 exact kZ (KE.mk @qo.eq_2) (QB.mk hR.symm (J:=fun (n:Nat) (u2:Bool) (u3:Int)=>((0:Int)<=u3)/\0<=((x0.Objects.length:Int)-u3)/\((x0.Objects.length:Int)-u3)<n) (F:=(qo x0 x1)) (R:=R) (vars:=fun (u2:Bool) (u3:Int)=>[(4,eB u2),(5,eI u3)]) (ow:=fun (u2:Bool) (u3:Int)=>[]) (vb:=fun _ _=>[]) (ts:=[2,3]) (a0:=(false:Bool)) (b0:=(0:Int)) (n0:=(x0.Objects.length+1))) @H6
theorem Yk {x0:Nat}{x1:List dJ}(p1:nOk x0):PC Tryz.prog 102 [eL dJ.enc x1,.fn (.func 103) [] [.vp [eF x0] 0]] (eB (jL x0 x1)):=by
 refine mF (M:=[(0,eL dJ.enc x1),(1,.fn (.func 103) [] [.vp [eF x0] 0])]) Tryz.func102 ?_ ⟨rfl,rfl,trivial⟩
 unfold jL
 exact kZ (TP (x0:=x0) (x1:=x1) p1)
theorem Yl {x0:List dJ}{x1:List UInt8}:PC Tryz.prog 102 [eL dJ.enc x0,.fn (.func 105) [] [.vp [eS x1] 0]] (eB (lV x0 x1)):=by
 refine mF (M:=[(0,eL dJ.enc x0),(1,.fn (.func 105) [] [.vp [eS x1] 0])]) Tryz.func102 ?_ ⟨rfl,rfl,trivial⟩
 unfold lV
 exact kZ @TQ
theorem QS {x0:dK}{x1:dP}:PC Tryz.prog 61 [dK.av x0,dP.av x1] (eB (fF x0 x1)):=by
 refine mF (M:=[(0,dK.av x0),(1,dP.av x1)]) Tryz.func61 ?_ ⟨rfl,rfl,trivial⟩
 unfold fF
 try simp only [dN]
 exact kZ @x9 @m_ @Ws @Jf
theorem QT {x0:dP}{x1:Int}:PC Tryz.prog 62 [dP.av x0,eU x1] (eB (qx x0 x1)):=by
 refine mF (M:=[(0,dP.av x0),(1,eU x1)]) Tryz.func62 ?_ ⟨rfl,rfl,trivial⟩
 unfold qx
 try simp only [dN]
 exact kZ @x9
end Go.Fw
end
section
namespace Go.Fw
open Go.Proofs Go.Lib
set_option maxRecDepth 100000
set_option maxHeartbeats 4000000
theorem PL {x0:dP}:PC Tryz.prog 69 [dP.av x0] (eB (ou x0)):=by
 refine mF (M:=[(0,dP.av x0)]) Tryz.func69 ?_ ⟨rfl,trivial⟩
 unfold ou
 try simp only [dN]
 exact kZ @x9 @Py
theorem GH {x0:dK}{x1:dP}:PC Tryz.prog 36 [dK.av x0,dP.av x1] (eB (jF x0 x1)):=by
 refine mF (M:=[(0,dK.av x0),(1,dP.av x1)]) Tryz.func36 ?_ ⟨rfl,rfl,trivial⟩
 unfold jF
 try simp only [dN]
 exact kZ @m_ @x9 @Jf
theorem Ym {x0:dM}{x1:dM}:PC Tryz.prog 109 [dM.av x0,dM.av x1] (eB (EU x0 x1)):=by
 refine mF (M:=[(0,dM.av x0),(1,dM.av x1)]) Tryz.func109 ?_ ⟨rfl,rfl,trivial⟩
 unfold EU
 try simp only [dN]
 exact kZ @Oz @xC @Jp
theorem Wy {n:Nat}{l:List dL}{x1 x2:Int}(h:l.length=n/\n<=4294967296/\0<=x1/\x1<=n/\0<=x2/\x2<=n):SC n 150 [eI x1,eI x2] l (iU l x1 x2):=by
 refine kpS (M:=[(0,sDa n),(1,eI x1),(2,eI x2)]) Tryz.func150 ?_ ⟨rfl,rfl,rfl,trivial⟩
 unfold iU
 have e0:=wu (a:=x1) (b:=1) (by omega)
 exact kZ (KE.mk @fO.eq_2) (KE.mk @gy.eq_2)
  (J5.mk:J5 (fun (m:Nat) (u3:Int) (u4:List dL)=>1<=m/\x1+1<=u3/\u3<=n+1/\x2-u3<m/\u4.length=n) (fO x1 x2) (fun u3 _=>[(6,eI u3)]) (fun _ _=>[]) (fun _ u4=>[(3,.rows 1 [[.os 2 2 0 n]]),(2,.rows 2 (List.map dL.enc u4))]) [1,2,3] (x2.toNat+1))
  (fun {m:Nat} {u3:Int} {u4:List dL} (hJ:1<=m/\x1+1<=u3/\u3<=n+1/\x2-u3<m/\u4.length=n)=>(J5.mk:J5 (fun (m:Nat) (u5:Int) (u6:List dL)=>x1<=u5/\u5<=u3/\u3<n/\u5-x1<m/\u6.length=n) (gy x1) (fun u5 _=>[(7,eI u5)]) (fun _ _=>[]) (fun _ u6=>[(3,.rows 1 [[.os 2 2 0 n]]),(2,.rows 2 (List.map dL.enc u6))]) [1,2,3,6] ((u3-x1).toNat+1)))
  (fun {m:Nat} {u3:Int} {u4:List dL} (hJ:1<=m/\x1+1<=u3/\u3<=n+1/\x2-u3<m/\u4.length=n)=>wu (a:=u3) (b:=1) (by omega))
  (fun {m:Nat} {u3 u5:Int} {u6:List dL} (hJ:x1<=u5/\u5<=u3/\u3<n/\u5-x1<m/\u6.length=n)=>uN (a:=u5) (b:=1) (by omega))
  (acR.mk @adF)
theorem ahM {k:Nat}{l:List dL}{x1 x2 x3:Int}:eu (k+1) l x1 x2 x3 =
  bif dV (jg .i64 x2 x1) 1 then gq (fP l x1 ((x3-x2).toNat+1) x2 x3) ((jg .i64 (fP l x1 ((x3-x2).toNat+1) x2 x3) 1).toNat+1) x1 l
  else bif dV (jg .i64 x3 x2) 1 then gu (g_ l x2 ((x2-x1).toNat+1) x1 x2) ((x2-x1).toNat+1) x2 l
  else
   let r:=h_ l x1 x2 x3 ((x3-x1).toNat+1) (bif decide (x2 > IntKind.wrap .i64 (jA .u64 (IntKind.wrap .u64 (eG .i64 x1 x3)) 1)) then jg .i64 (eG .i64 (IntKind.wrap .i64 (jA .u64 (IntKind.wrap .u64 (eG .i64 x1 x3)) 1)) x2) x3 else x1) (bif decide (x2 > IntKind.wrap .i64 (jA .u64 (IntKind.wrap .u64 (eG .i64 x1 x3)) 1)) then IntKind.wrap .i64 (jA .u64 (IntKind.wrap .u64 (eG .i64 x1 x3)) 1) else x2)
   let e:=jg .i64 (eG .i64 (IntKind.wrap .i64 (jA .u64 (IntKind.wrap .u64 (eG .i64 x1 x3)) 1)) x2) r
   let a:=bif decide (r<x2)&&decide (x2<e) then jf l r x2 e else l
   let b:=bif decide (x1<r)&&decide (r<IntKind.wrap .i64 (jA .u64 (IntKind.wrap .u64 (eG .i64 x1 x3)) 1)) then eu k a x1 r (IntKind.wrap .i64 (jA .u64 (IntKind.wrap .u64 (eG .i64 x1 x3)) 1)) else a
   bif decide (IntKind.wrap .i64 (jA .u64 (IntKind.wrap .u64 (eG .i64 x1 x3)) 1)<e)&&decide (e<x3) then eu k b (IntKind.wrap .i64 (jA .u64 (IntKind.wrap .u64 (eG .i64 x1 x3)) 1)) e x3 else b:=by
 rw [eu]
 dsimp only
 cases dV (jg .i64 x2 x1) 1<;>cases dV (jg .i64 x3 x2) 1<;>try rfl
 simp only [cond_false]
 generalize h_ l x1 x2 x3 _ _ _=r
 generalize jg .i64 (eG .i64 (IntKind.wrap .i64 (jA .u64 (IntKind.wrap .u64 (eG .i64 x1 x3)) 1)) x2) r=e
 generalize (decide (r<x2)&&decide (x2<e))=A
 generalize (decide (x1<r)&&decide (r<IntKind.wrap .i64 (jA .u64 (IntKind.wrap .u64 (eG .i64 x1 x3)) 1)))=B
 generalize (decide (IntKind.wrap .i64 (jA .u64 (IntKind.wrap .u64 (eG .i64 x1 x3)) 1)<e)&&decide (e<x3))=C
 cases A<;>cases B<;>cases C<;>rfl
end Go.Fw
end
