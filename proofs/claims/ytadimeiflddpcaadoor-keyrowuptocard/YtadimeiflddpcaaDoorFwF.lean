/- Machinery of this seat's proofs (LS3, LS4, LKO, LKP, LKR, LA, LB, LC, LQ, LTT, LKQ, MKW, RfT, SeatK, TAL, Ar, H, Hp, THK, RK, LTA): lemmas that the last text uses; no statement of its own. -/
import Derived.Test.YtadimeiflddpcaaDoorFwE
import Derived.Test.YtadimeiflddpcaaDoorProg
import Derived.Test.YtadimeiflddpcaaDoorRows
section
set_option linter.unusedVariables false
set_option linter.unusedSimpArgs false
set_option linter.unusedSectionVars false
namespace Go.Fw
set_option linter.unusedVariables false
set_option linter.unusedSimpArgs false
theorem mem_gt {P A T:List GKey}{x:GKey}(hx:x∈A):∃c:Int,(P.length:Int)≤c∧c<P.length+A.length∧gt (P++A++T) c=x:=by
 obtain ⟨A1,A2,rfl⟩:=List.append_of_mem hx
 refine ⟨P.length+A1.length,by omega,by simp;omega,?_⟩
 show (P++(A1++x::A2)++T).getD _ default=x
 rw [show P++(A1++x::A2)++T=(P++A1)++x::(A2++T) by simp]
 exact at_mid (by simp)
theorem gt_mem {P A T:List GKey}{c:Int}(h0:(P.length:Int)≤c)(h1:c<P.length+A.length):∃A1 A2,A=A1++gt (P++A++T) c::A2∧(A1.length:Int)=c-P.length:=by
 refine ⟨A.take (c-P.length).toNat,A.drop ((c-P.length).toNat+1),?_,by simp;omega⟩
 have hk:(c-P.length).toNat<A.length:=by omega
 have e:gt (P++A++T) c=A.getD (c-P.length).toNat default:=by
  show (P++A++T).getD c.toNat default=_
  simp only [List.getD_eq_getElem?_getD,List.append_assoc]
  rw [List.getElem?_append_right (by omega),List.getElem?_append_left (by omega),show c.toNat-P.length=(c-P.length).toNat by omega]
 rw [e,← q_drop A _ hk,List.take_append_drop]
theorem seg_srt {P A T:List GKey}(hs:Srt A){c d:Int}(h0:(P.length:Int)≤c)(h1:c≤d)(h2:d<P.length+A.length):ltK (gt (P++A++T) d) (gt (P++A++T) c)=false:=by
 by_cases hcd:c=d
 ·subst hcd;rw [ltK_f];omega
 obtain ⟨A1,A2,q1,q2⟩:=gt_mem (T:=T) h0 (by omega:c<P.length+A.length)
 generalize gt (P++A++T) c=x at *
 have e:P++A++T=(P++(A1++[x]))++A2++T:=by rw [q1];simp
 rw [e]
 obtain ⟨B1,B2,r1,r2⟩:=gt_mem (P:=P++(A1++[x])) (A:=A2) (T:=T) (c:=d) (by simp;omega) (by rw [q1] at h2;simp at h2 ⊢;omega)
 generalize gt ((P++(A1++[x]))++A2++T) d=y at *
 rw [q1] at hs
 have:=(List.pairwise_append.1 hs).2.1
 have:=(List.pairwise_cons.1 this).1 y (by rw [r1];simp)
 exact this
theorem srt_app {A B:List GKey}(ha:Srt A)(hb:Srt B)(h:∀x∈A,∀y∈B,ltK y x=false):Srt (A++B):=List.pairwise_append.2 ⟨ha,hb,h⟩
theorem split_at {A:List GKey}{k:Int}(h0:0≤k)(h1:k≤A.length):∃A1 A2,A=A1++A2∧(A1.length:Int)=k:=
 ⟨A.take k.toNat,A.drop k.toNat,(List.take_append_drop _ _).symm,by simp;omega⟩
theorem cut_ok {P A B T:List GKey}{a m b mid lo hi r:Int}{k:Nat}(ha:a=P.length)(hm:m=a+A.length)(hb:b=m+B.length)(hA:Srt A)(hB:Srt B)(hmid:mid=(a+b) / 2)
  (hlo:lo=if m > mid then mid+m-b else a) (hhi:hi=if m > mid then mid else m) (hA0:0<A.length) (hB0:0<B.length)
  (hr:r=bs (fun c=>!ltK (gt (P++A++B++T) (mid+m-1-c)) (gt (P++A++B++T) c)) k lo hi) (hk:b-a<k) :
  ∃A1 A2 B1 B2,A=A1++A2∧B=B1++B2∧r=a+A1.length∧mid-r=B1.length∧(∀x∈A1,∀y∈B2,ltK y x=false)∧(∀x∈A2,∀y∈B1,ltK y x=true):=by
 have hlh:lo≤hi:=by split at hlo<;>split at hhi<;>omega
 have bd:=bs_bd (q:=fun c=>!ltK (gt (P++A++B++T) (mid+m-1-c)) (gt (P++A++B++T) c)) k hlh
 rw [← hr] at bd
 have eA:∀c d:Int,a≤c→c≤d→d<m→ltK (gt (P++A++B++T) d) (gt (P++A++B++T) c)=false:=by
  intro c d h1 h2 h3
  have:=seg_srt (P:=P) (T:=B++T) hA (c:=c) (d:=d) (by omega) h2 (by omega)
  rw [show P++A++B++T=P++A++(B++T) by simp];exact this
 have eB:∀c d:Int,m≤c→c≤d→d<b→ltK (gt (P++A++B++T) d) (gt (P++A++B++T) c)=false:=by
  intro c d h1 h2 h3
  exact seg_srt (P:=P++A) (T:=T) hB (c:=c) (d:=d) (by simp;omega) h2 (by simp;omega)
 obtain ⟨h1,h2⟩:=bs_ok (q:=fun c=>!ltK (gt (P++A++B++T) (mid+m-1-c)) (gt (P++A++B++T) c)) k hlh (by split at hlo<;>split at hhi<;>omega) (by
  intro c d h1 h2 h3 h4
  simp only [Bool.not_eq_true'] at h4 ⊢
  have q1:=eA c d (by split at hlo<;>omega) h2 (by split at hhi<;>omega)
  have q2:=eB (mid+m-1-d) (mid+m-1-c) (by split at hhi<;>omega) (by omega) (by split at hlo<;>omega)
  exact le_trans' q1 (le_trans' h4 q2))
 rw [← hr] at h1 h2
 have b1:a≤r:=by split at hlo<;>omega
 have b2:r≤m:=by split at hhi<;>omega
 have b3:r≤mid:=by split at hhi<;>omega
 have b4:mid+m-r≤b:=by split at hlo<;>omega
 obtain ⟨A1,A2,rfl,l1⟩:=split_at (A:=A) (k:=r-a) (by omega) (by omega)
 obtain ⟨B1,B2,rfl,l2⟩:=split_at (A:=B) (k:=mid-r) (by omega) (by omega)
 simp only [List.length_append] at *
 refine ⟨A1,A2,B1,B2,rfl,rfl,by omega,by omega,fun x hx y hy=>?_,fun x hx y hy=>?_⟩
 ·obtain ⟨c,c0,c1,c2⟩:=mem_gt (P:=P) (T:=A2++(B1++B2)++T) hx
  obtain ⟨d,d0,d1,d2⟩:=mem_gt (P:=P++(A1++A2)++B1) (T:=T) hy
  rw [show P++A1++(A2++(B1++B2)++T)=P++(A1++A2)++(B1++B2)++T by simp] at c2
  rw [show P++(A1++A2)++B1++B2++T=P++(A1++A2)++(B1++B2)++T by simp] at d2
  simp only [List.length_append] at d0 d1
  have q:=h1 (r-1) (by split at hlo<;>omega) (by omega)
  simp only [Bool.not_eq_true'] at q
  have q1:=eA c (r-1) (by omega) (by omega) (by omega)
  have q2:=eB (mid+m-1-(r-1)) d (by omega) (by omega) (by omega)
  rw [← c2,← d2]
  exact le_trans' q1 (le_trans' q q2)
 ·obtain ⟨c,c0,c1,c2⟩:=mem_gt (P:=P++A1) (T:=(B1++B2)++T) hx
  obtain ⟨d,d0,d1,d2⟩:=mem_gt (P:=P++(A1++A2)) (T:=B2++T) hy
  rw [show P++A1++A2++(B1++B2++T)=P++(A1++A2)++(B1++B2)++T by simp] at c2
  rw [show P++(A1++A2)++B1++(B2++T)=P++(A1++A2)++(B1++B2)++T by simp] at d2
  simp only [List.length_append] at c0 c1 d0 d1
  have q:=h2 r (by omega) (by split at hhi<;>omega)
  simp only [Bool.not_eq_false'] at q
  have q1:=eA r c (by omega) (by omega) (by omega)
  have q2:=eB d (mid+m-1-r) (by omega) (by omega) (by omega)
  rw [← c2,← d2]
  exact lt_of_lt_of_le' (lt_of_le_of_lt' q2 q) q1
theorem one1 {A:List GKey}(h:A.length=1):∃x,A=[x]:=by
 match A,h with
 |[x],_=>exact ⟨x,rfl⟩
theorem one_up {P B T:List GKey}{x:GKey}{a m b:Int}(ha:a=P.length)(hm:m=a+1)(hb:b=m+B.length)(hB:Srt B)(hlim:b<4294967296) :
  ∃C,sort_symMerge_func_w3_2_l5 (sort_symMerge_func_w3_2_l4 (P++[x]++B++T) a ((b-m).toNat+1) m b) ((iSub .i64 (sort_symMerge_func_w3_2_l4 (P++[x]++B++T) a ((b-m).toNat+1) m b) 1).toNat+1) a (P++[x]++B++T)=P++C++T∧Srt C∧Eqp C ([x]++B):=by
 rw [l4_bs _ (by omega) (by omega) (by omega)]
 have gx:gt (P++[x]++B++T) a=x:=by
  show (P++[x]++B++T).getD _ default=x
  rw [show P++[x]++B++T=P++x::(B++T) by simp];exact at_mid ha
 rw [gx]
 have eB:∀c d:Int,m≤c→c≤d→d<b→ltK (gt (P++[x]++B++T) d) (gt (P++[x]++B++T) c)=false:=by
  intro c d h1 h2 h3
  exact seg_srt (P:=P++[x]) (T:=T) hB (c:=c) (d:=d) (by simp;omega) h2 (by simp;omega)
 generalize hr:bs (fun c=>ltK (gt (P++[x]++B++T) c) x) ((b-m).toNat+1) m b=r
 have bd:=bs_bd (q:=fun c=>ltK (gt (P++[x]++B++T) c) x) ((b-m).toNat+1) (i:=m) (j:=b) (by omega)
 obtain ⟨h1,h2⟩:=bs_ok (q:=fun c=>ltK (gt (P++[x]++B++T) c) x) ((b-m).toNat+1) (i:=m) (j:=b) (by omega) (by omega) (fun c d h1 h2 h3 h4=>lt_of_le_of_lt' (eB c d h1 h2 h3) h4)
 rw [hr] at bd h1 h2
 obtain ⟨B1,B2,rfl,l1⟩:=split_at (A:=B) (k:=r-m) (by omega) (by omega)
 have m1:∀y∈B1,ltK y x=true:=by
  intro y hy
  obtain ⟨c,c0,c1,c2⟩:=mem_gt (P:=P++[x]) (T:=B2++T) hy
  rw [← c2,show P++[x]++B1++(B2++T)=P++[x]++(B1++B2)++T by simp]
  exact h1 c (by simp at c0;omega) (by simp at c1;omega)
 have m2:∀y∈B2,ltK y x=false:=by
  intro y hy
  obtain ⟨c,c0,c1,c2⟩:=mem_gt (P:=P++[x]++B1) (T:=T) hy
  rw [← c2,show P++[x]++B1++B2++T=P++[x]++(B1++B2)++T by simp]
  simp at c0 c1 hb
  exact h2 c (by omega) (by omega)
 have e1:iSub .i64 r 1=r-1:=iSubC (by omega) (by omega)
 rw [e1,show P++[x]++(B1++B2)++T=P++x::(B1++(B2++T)) by simp,l5_ok _ P B1 (B2++T) x a ha (by omega) (by omega) (by simp at hb;omega)]
 obtain ⟨s1,s2,s3⟩:=List.pairwise_append.1 hB
 refine ⟨B1++x::B2,by simp,List.pairwise_append.2 ⟨s1,List.pairwise_cons.2 ⟨m2,s2⟩,fun y hy z hz=>?_⟩,?_⟩
 ·cases hz with
  |head=>exact le_of_lt' (m1 y hy)
  |tail _ hz=>exact s3 y hy z hz
 ·rw [show B1++x::B2=(B1++[x])++B2 by simp,← List.append_assoc]
  exact Eqp.app (Eqp.symm (Eqp.swap fun z hz y hy=>by simp at hz;subst hz;exact m1 y hy)) (Eqp.refl _)
theorem one_down {P A T:List GKey}{y:GKey}{a m:Int}(ha:a=P.length)(hm:m=a+A.length)(hA:Srt A)(hlim:m+1<4294967296) :
  ∃C,sort_symMerge_func_w3_2_l7 (sort_symMerge_func_w3_2_l6 (P++A++[y]++T) m ((m-a).toNat+1) a m) ((m-a).toNat+1) m (P++A++[y]++T)=P++C++T∧Srt C∧Eqp C (A++[y]):=by
 rw [l6_bs _ (by omega) (by omega) (by omega)]
 have gx:gt (P++A++[y]++T) m=y:=by
  show (P++A++[y]++T).getD _ default=y
  rw [show P++A++[y]++T=(P++A)++y::T by simp];exact at_mid (by simp;omega)
 rw [gx]
 have eA:∀c d:Int,a≤c→c≤d→d<m→ltK (gt (P++A++[y]++T) d) (gt (P++A++[y]++T) c)=false:=by
  intro c d h1 h2 h3
  rw [show P++A++[y]++T=P++A++([y]++T) by simp]
  exact seg_srt (P:=P) (T:=[y]++T) hA (c:=c) (d:=d) (by omega) h2 (by omega)
 generalize hr:bs (fun c=>!ltK y (gt (P++A++[y]++T) c)) ((m-a).toNat+1) a m=r
 have bd:=bs_bd (q:=fun c=>!ltK y (gt (P++A++[y]++T) c)) ((m-a).toNat+1) (i:=a) (j:=m) (by omega)
 obtain ⟨h1,h2⟩:=bs_ok (q:=fun c=>!ltK y (gt (P++A++[y]++T) c)) ((m-a).toNat+1) (i:=a) (j:=m) (by omega) (by omega) (fun c d h1 h2 h3 h4=>by
  simp only [Bool.not_eq_true'] at h4 ⊢
  exact le_trans' (eA c d h1 h2 h3) h4)
 rw [hr] at bd h1 h2
 obtain ⟨A1,A2,rfl,l1⟩:=split_at (A:=A) (k:=r-a) (by omega) (by omega)
 simp only [List.length_append] at hm
 have m1:∀z∈A1,ltK y z=false:=by
  intro z hz
  obtain ⟨c,c0,c1,c2⟩:=mem_gt (P:=P) (T:=A2++[y]++T) hz
  rw [← c2,show P++A1++(A2++[y]++T)=P++(A1++A2)++[y]++T by simp]
  have:=h1 c (by omega) (by omega)
  simpa using this
 have m2:∀z∈A2,ltK y z=true:=by
  intro z hz
  obtain ⟨c,c0,c1,c2⟩:=mem_gt (P:=P++A1) (T:=[y]++T) hz
  rw [← c2,show P++A1++A2++([y]++T)=P++(A1++A2)++[y]++T by simp]
  simp only [List.length_append] at c0 c1
  have:=h2 c (by omega) (by omega)
  simpa using this
 rw [show P++(A1++A2)++[y]++T=(P++A1)++A2++y::T by simp,l7_ok _ (P++A1) A2 T y m (by simp;omega) (by simp;omega) (by omega) (by simp;omega)]
 refine ⟨A1++y::A2,by simp,ins_srt hA m1 m2,ins_eqp m2⟩
theorem nine {α:Type}{c1 c2 c3:Bool}{x v9:α}{M1 M2:α→α} :
  (bif c1&&(c2&&c3) then M2 (M1 v9) else bif c1&&c2 then M1 v9 else bif c1&&c3 then M2 v9 else bif c1 then v9 else bif c2&&c3 then M2 (M1 x) else bif c2 then M1 x else bif c3 then M2 x else x)
   = (bif c3 then M2 (bif c2 then M1 (bif c1 then v9 else x) else (bif c1 then v9 else x)) else (bif c2 then M1 (bif c1 then v9 else x) else (bif c1 then v9 else x))):=by
 cases c1<;>cases c2<;>cases c3<;>rfl
theorem symMerge_ok : ∀(k:Nat) (P A B T:List GKey) (a m b:Int),a=P.length→m=a+A.length→b=m+B.length→0<A.length→0<B.length→b-a≤k→4*b<4294967296→Srt A→Srt B→
  ∃C,sort_symMerge_func_w3_2 k (P++A++B++T) a m b=P++C++T∧Srt C∧Eqp C (A++B)
 |0,P,A,B,T,a,m,b,ha,hm,hb,hA,hB,hk,hlim,sA,sB=>by omega
 |k+1,P,A,B,T,a,m,b,ha,hm,hb,hA,hB,hk,hlim,sA,sB=>by
  unfold sort_symMerge_func_w3_2
  simp only [show IntKind.wrap .i64 (iShr .u64 (IntKind.wrap .u64 (iAdd .i64 a b)) 1)=(a+b) / 2 from midT_eq (by omega) (by omega) (by omega)]
  have e1:iSub .i64 m a=m-a:=iSubC (by omega) (by omega)
  have e2:iSub .i64 b m=b-m:=iSubC (by omega) (by omega)
  simp only [e1,e2]
  by_cases hA1:A.length=1
  ·obtain ⟨x,rfl⟩:=one1 hA1
   simp only [show iEq (m-a) 1=true from by rw [qiEq];exact decide_eq_true (by omega),cond_true]
   exact one_up ha (by simp at hm;omega) hb sB (by omega)
  simp only [show iEq (m-a) 1=false from by rw [qiEq];exact decide_eq_false (by omega),cond_false]
  by_cases hB1:B.length=1
  ·obtain ⟨y,rfl⟩:=one1 hB1
   simp only [show iEq (b-m) 1=true from by rw [qiEq];exact decide_eq_true (by omega),cond_true]
   exact one_down ha hm sA (by simp at hb;omega)
  simp only [show iEq (b-m) 1=false from by rw [qiEq];exact decide_eq_false (by omega),cond_false]
  have e3:iAdd .i64 ((a+b) / 2) m=(a+b) / 2+m:=iAddC (by omega) (by omega)
  have e4:iSub .i64 ((a+b) / 2+m) b=(a+b) / 2+m-b:=iSubC (by omega) (by omega)
  simp only [e3,e4]
  generalize hlo:(bif decide (m > (a+b) / 2) then (a+b) / 2+m-b else a)=lo
  generalize hhi:(bif decide (m > (a+b) / 2) then (a+b) / 2 else m)=hi
  have hlo':lo=if m > (a+b) / 2 then (a+b) / 2+m-b else a:=by rw [← hlo];simp only [Bool.cond_eq_ite,decide_eq_true_eq]
  have hhi':hi=if m > (a+b) / 2 then (a+b) / 2 else m:=by rw [← hhi];simp only [Bool.cond_eq_ite,decide_eq_true_eq]
  rw [l8_bs (by omega) (by omega) (by omega) (by omega) (by omega) _ (by split at hlo'<;>omega) (by split at hlo'<;>split at hhi'<;>omega) (by split at hhi'<;>omega)]
  obtain ⟨A1,A2,B1,B2,rfl,rfl,q1,q2,q3,q4⟩:=cut_ok (P:=P) (A:=A) (B:=B) (T:=T) ha hm hb sA sB rfl hlo' hhi' hA hB rfl (by omega:b-a<(((b-a).toNat+1:Nat):Int))
  generalize hr:bs (fun c=>!ltK (gt (P++(A1++A2)++(B1++B2)++T) ((a+b) / 2+m-1-c)) (gt (P++(A1++A2)++(B1++B2)++T) c)) ((b-a).toNat+1) lo hi=r at *
  simp only [List.length_append] at *
  have e5:iSub .i64 ((a+b) / 2+m) r=(a+b) / 2+m-r:=iSubC (by omega) (by omega)
  simp only [e5]
  generalize hmid:(a+b) / 2=mid at *
  rw [nine (M1:=fun l=>sort_symMerge_func_w3_2 k l a r mid) (M2:=fun l=>sort_symMerge_func_w3_2 k l mid (mid+m-r) b)]
  obtain ⟨sA1,sA2,sA3⟩:=List.pairwise_append.1 sA
  obtain ⟨sB1,sB2,sB3⟩:=List.pairwise_append.1 sB
  have w:(bif (decide (r<m)&&decide (m<mid+m-r)) then sort_rotate_func_w3_2 (P++(A1++A2)++(B1++B2)++T) r m (mid+m-r) else P++(A1++A2)++(B1++B2)++T)=P++A1++B1++(A2++B2++T):=by
   by_cases h1:r<m
   ·by_cases h2:m<mid+m-r
    ·simp only [h1,h2,decide_true,Bool.true_and,cond_true]
     have:=rotate_ok (P:=P++A1) (A:=A2) (B:=B1) (T:=B2++T) (a:=r) (m:=m) (b:=mid+m-r) (by simp;omega) (by omega) (by omega) (by omega) (by omega) (by simp;omega)
     rw [show P++(A1++A2)++(B1++B2)++T=P++A1++A2++B1++(B2++T) by simp,this]
     simp
    ·have:B1=[]:=List.length_eq_zero_iff.1 (by omega)
     subst this
     simp [h2]
   ·have:A2=[]:=List.length_eq_zero_iff.1 (by omega)
    subst this
    simp [h1]
  rw [w]
  have w2:∃D,(bif (decide (a<r)&&decide (r<mid)) then sort_symMerge_func_w3_2 k (P++A1++B1++(A2++B2++T)) a r mid else P++A1++B1++(A2++B2++T))=P++D++(A2++B2++T)∧Srt D∧Eqp D (A1++B1)∧D.length=A1.length+B1.length:=by
   by_cases h1:a<r
   ·by_cases h2:r<mid
    ·simp only [h1,h2,decide_true,Bool.true_and,cond_true]
     obtain ⟨C,c1,c2,c3⟩:=symMerge_ok k P A1 B1 (A2++B2++T) a r mid ha (by omega) (by omega) (by omega) (by omega) (by omega) (by omega) sA1 sB1
     refine ⟨C,c1,c2,c3,?_⟩
     have:=congrArg List.length c1
     rw [symMerge_len] at this
     simp at this
     omega
    ·have:B1=[]:=List.length_eq_zero_iff.1 (by omega)
     subst this
     exact ⟨A1,by simp [h2],sA1,by simpa using Eqp.refl _,by simp⟩
   ·have:A1=[]:=List.length_eq_zero_iff.1 (by omega)
    subst this
    exact ⟨B1,by simp [h1],sB1,by simpa using Eqp.refl _,by simp⟩
  obtain ⟨D,d1,d2,d3,d4⟩:=w2
  rw [d1]
  have w3:∃E,(bif (decide (mid<mid+m-r)&&decide (mid+m-r<b)) then sort_symMerge_func_w3_2 k (P++D++(A2++B2++T)) mid (mid+m-r) b else P++D++(A2++B2++T))=P++D++(E++T)∧Srt E∧Eqp E (A2++B2):=by
   by_cases h1:mid<mid+m-r
   ·by_cases h2:mid+m-r<b
    ·simp only [h1,h2,decide_true,Bool.true_and,cond_true]
     obtain ⟨C,c1,c2,c3⟩:=symMerge_ok k (P++D) A2 B2 T mid (mid+m-r) b (by simp;omega) (by omega) (by omega) (by omega) (by omega) (by omega) (by omega) sA2 sB2
     exact ⟨C,by rw [show P++D++(A2++B2++T)=P++D++A2++B2++T by simp,c1];simp,c2,c3⟩
    ·have:B2=[]:=List.length_eq_zero_iff.1 (by omega)
     subst this
     exact ⟨A2,by simp [h2],sA2,by simpa using Eqp.refl _⟩
   ·have:A2=[]:=List.length_eq_zero_iff.1 (by omega)
    subst this
    exact ⟨B2,by simp [h1],sB2,by simpa using Eqp.refl _⟩
  obtain ⟨E,f1,f2,f3⟩:=w3
  rw [f1]
  refine ⟨D++E,by simp,srt_app d2 f2 fun x hx y hy=>?_,?_⟩
  ·have hx:=d3.len_mem x hx
   have hy:=f3.len_mem y hy
   rcases List.mem_append.1 hx with hx|hx<;>rcases List.mem_append.1 hy with hy|hy
   ·exact sA3 x hx y hy
   ·exact q3 x hx y hy
   ·exact le_of_lt' (q4 y hy x hx)
   ·exact sB3 x hx y hy
  ·refine (Eqp.app d3 f3).trans ?_
   rw [show A1++B1++(A2++B2)=A1++(B1++A2)++B2 by simp,show A1++A2++(B1++B2)=A1++(A2++B1)++B2 by simp]
   exact Eqp.app (Eqp.app (Eqp.refl _) (Eqp.symm (Eqp.swap q4))) (Eqp.refl _)
end Go.Fw
end
section
set_option linter.unusedVariables false
set_option linter.unusedSimpArgs false
set_option linter.unusedSectionVars false
namespace Go.Fw
set_option linter.unusedVariables false
set_option linter.unusedSimpArgs false
inductive Full (s:Int):List GKey→Prop
 |nil:Full s []
 |cons {b r:List GKey}:(b.length:Int)=s→Srt b→Full s r→Full s (b++r)
theorem stable_l2_ok {x1:Int}(hlim:x1+64<4294967296):∀(k:Nat) (P R:List GKey) (a b:Int),a=P.length→b=a+20→x1=a+R.length→R.length<k→
  ∃Q R',(sort_stable_func_w3_2_l2 x1 k a b (P++R)).2.2=P++Q++R'∧(sort_stable_func_w3_2_l2 x1 k a b (P++R)).1=a+Q.length∧Full 20 Q∧R'.length<20∧Eqp (Q++R') R∧x1=a+Q.length+R'.length
 |0,P,R,a,b,ha,hb,hx,hk=>by omega
 |k+1,P,R,a,b,ha,hb,hx,hk=>by
  simp only [sort_stable_func_w3_2_l2]
  by_cases hd:b≤x1
  ·simp only [decide_eq_true hd,Bool.not_true,cond_false]
   have e:iAdd .i64 b 20=b+20:=iAddC (by omega) (by omega)
   rw [e]
   obtain ⟨M,R,rfl,l1⟩:=split_at (A:=R) (k:=20) (by omega) (by omega)
   simp only [List.length_append] at *
   obtain ⟨M',q1,q2,q3⟩:=insertion_ok (P:=P) (M:=M) (T:=R) (a:=a) (b:=b) ha (by omega) (by omega)
   have lM:M'.length=M.length:=by
    have:=congrArg List.length q1
    rw [insertionSort_len] at this
    simp at this;omega
   rw [show P++(M++R)=P++M++R by simp,q1]
   obtain ⟨Q,R',r1,r2,r3,r4,r5,r6⟩:=stable_l2_ok hlim k (P++M') R b (b+20) (by simp;omega) rfl (by omega) (by omega)
   refine ⟨M'++Q,R',by rw [r1];simp,by rw [r2];simp;omega,Full.cons (by omega) q2 r3,r4,?_,by simp;omega⟩
   rw [List.append_assoc]
   exact Eqp.app q3 r5
  ·simp only [decide_eq_false hd,Bool.not_false,cond_true]
   exact ⟨[],R,by simp,by simp,Full.nil,by omega,Eqp.refl _,by simp;omega⟩
def Rest (s:Int)(R:List GKey):Prop:=(∃b R0,R=b++R0∧(b.length:Int)=s∧Srt b∧Srt R0∧(R0.length:Int)<s)∨(Srt R∧(R.length:Int)<s)
theorem stable_l11_ok {x1 s:Int}(h0:20≤s)(h8:s≤2*x1+20)(hlim:64*x1+640<4294967296):∀(k:Nat) (P Q R:List GKey) (a b:Int),a=P.length→b=a+2*s→x1=a+Q.length+R.length→Q.length<k→Full s Q→Srt R→(R.length:Int)<s→
  ∃Q' R',(sort_stable_func_w3_2_l11 x1 s k a b (P++Q++R)).2.2=P++Q'++R'∧(sort_stable_func_w3_2_l11 x1 s k a b (P++Q++R)).1=a+Q'.length∧Full (2*s) Q'∧Rest s R'∧Eqp (Q'++R') (Q++R)∧x1=a+Q'.length+R'.length
 |0,P,Q,R,a,b,ha,hb,hx,hk,hf,hr,hl=>by omega
 |k+1,P,Q,R,a,b,ha,hb,hx,hk,hf,hr,hl=>by
  simp only [sort_stable_func_w3_2_l11]
  have e0:iMul .i64 2 s=2*s:=iMulC (by omega) (by omega)
  have e1:iAdd .i64 a s=a+s:=iAddC (by omega) (by omega)
  rw [e0,e1]
  cases hf with
  |nil=>
   have hd:¬b≤x1:=by simp at hx;omega
   simp only [decide_eq_false hd,Bool.not_false,cond_true]
   exact ⟨[],R,by simp,by simp,Full.nil,Or.inr ⟨hr,hl⟩,Eqp.refl _,by simp at hx ⊢;omega⟩
  |@cons b0 Q1 l0 s0 f1=>
   cases f1 with
   |nil=>
    have hd:¬b≤x1:=by simp at hx;omega
    simp only [decide_eq_false hd,Bool.not_false,cond_true]
    exact ⟨[],b0++R,by simp,by simp,Full.nil,Or.inl ⟨b0,R,rfl,l0,s0,hr,hl⟩,by simpa using Eqp.refl _,by simp at hx ⊢;omega⟩
   |@cons b1 Q2 l1 s1 f2=>
    simp only [List.length_append] at *
    have hd:b≤x1:=by omega
    simp only [decide_eq_true hd,Bool.not_true,cond_false]
    have e:iAdd .i64 b (2*s)=b+2*s:=iAddC (by omega) (by omega)
    rw [e]
    obtain ⟨C,c1,c2,c3⟩:=symMerge_ok ((b-a).toNat+1) P b0 b1 (Q2++R) a (a+s) b ha (by omega) (by omega) (by omega) (by omega) (by omega) (by omega) s0 s1
    have lC:C.length=b0.length+b1.length:=by
     have:=congrArg List.length c1
     rw [symMerge_len] at this
     simp at this;omega
    rw [show P++(b0++(b1++Q2))++R=P++b0++b1++(Q2++R) by simp,c1,← List.append_assoc]
    obtain ⟨Q',R',r1,r2,r3,r4,r5,r6⟩:=stable_l11_ok h0 h8 hlim k (P++C) Q2 R b (b+2*s) (by simp;omega) rfl (by omega) (by omega) f2 hr hl
    refine ⟨C++Q',R',by rw [r1];simp,by rw [r2];simp;omega,Full.cons (by omega) c2 r3,r4,?_,by simp;omega⟩
    rw [show C++Q'++R'=C++(Q'++R') by simp,show b0++(b1++Q2)++R=(b0++b1)++(Q2++R) by simp]
    exact Eqp.app c3 r5
theorem stable_l7_ok {x1:Int}(hlim:64*x1+640<4294967296):∀(k:Nat) (Q R:List GKey) (s u v:Int),20≤s→s≤2*x1+20→x1=Q.length+R.length→x1-s<k→0<k→Full s Q→Srt R→(R.length:Int)<s→
  ∃L,sort_stable_func_w3_2_l7 x1 k s u v (Q++R)=L∧Srt L∧Eqp L (Q++R)
 |0,Q,R,s,u,v,h0,h8,hx,hk,hk0,hf,hr,hl=>by omega
 |k+1,Q,R,s,u,v,h0,h8,hx,hk,hk0,hf,hr,hl=>by
  simp only [sort_stable_func_w3_2_l7]
  by_cases hd:s<x1
  ·simp only [decide_eq_true hd,Bool.not_true,cond_false]
   have e0:iMul .i64 2 s=2*s:=iMulC (by omega) (by omega)
   have e2:iMul .i64 s 2=s*2:=iMulC (by omega) (by omega)
   rw [e0,e2]
   obtain ⟨Q',R',r1,r2,r3,r4,r5,r6⟩:=stable_l11_ok h0 h8 hlim ((x1+2*s).toNat+1) [] Q R 0 (2*s) rfl (by omega) (by omega) (by omega) hf hr hl
   simp only [List.nil_append] at r1 r2
   rw [r1,r2]
   have e1:iAdd .i64 (0+(Q'.length:Int)) s=Q'.length+s:=by rw [iAddC (by omega) (by omega)];omega
   rw [e1,show s*2=2*s by omega]
   rcases r4 with ⟨b,R0,rfl,l1,s1,s0,l0⟩|⟨s1,l1⟩
   ·simp only [List.length_append] at r6
    by_cases h1:(Q'.length:Int)+s<x1
    ·simp only [decide_eq_true h1,cond_true]
     obtain ⟨C,c1,c2,c3⟩:=symMerge_ok ((x1-(0+(Q'.length:Int))).toNat+1) Q' b R0 [] (0+Q'.length) (Q'.length+s) x1 (by omega) (by omega) (by omega) (by omega) (by omega) (by omega) (by omega) s1 s0
     have lC:C.length=b.length+R0.length:=by
      have:=congrArg List.length c1
      rw [symMerge_len] at this
      simp at this;omega
     simp only [List.append_nil] at c1
     rw [← List.append_assoc,c1]
     obtain ⟨L,d1,d2,d3⟩:=stable_l7_ok hlim k Q' C (2*s) (0+Q'.length) ((sort_stable_func_w3_2_l11 x1 s ((x1+2*s).toNat+1) 0 (2*s) (Q++R)).2.1) (by omega) (by omega) (by omega) (by omega) (by omega) r3 c2 (by omega)
     exact ⟨L,d1,d2,d3.trans ((Eqp.app (Eqp.refl _) c3).trans r5)⟩
    ·simp only [decide_eq_false h1,cond_false]
     have:R0=[]:=List.length_eq_zero_iff.1 (by omega)
     subst this
     simp only [List.append_nil] at *
     obtain ⟨L,d1,d2,d3⟩:=stable_l7_ok hlim k Q' b (2*s) (0+Q'.length) ((sort_stable_func_w3_2_l11 x1 s ((x1+2*s).toNat+1) 0 (2*s) (Q++R)).2.1) (by omega) (by omega) (by simp at r6;omega) (by omega) (by omega) r3 s1 (by omega)
     exact ⟨L,d1,d2,d3.trans r5⟩
   ·have h1:¬(Q'.length:Int)+s<x1:=by omega
    simp only [decide_eq_false h1,cond_false]
    obtain ⟨L,d1,d2,d3⟩:=stable_l7_ok hlim k Q' R' (2*s) (0+Q'.length) ((sort_stable_func_w3_2_l11 x1 s ((x1+2*s).toNat+1) 0 (2*s) (Q++R)).2.1) (by omega) (by omega) (by omega) (by omega) (by omega) r3 s1 (by omega)
    exact ⟨L,d1,d2,d3.trans r5⟩
  ·simp only [decide_eq_false hd,Bool.not_false,cond_true]
   refine ⟨_,rfl,?_,Eqp.refl _⟩
   cases hf with
   |nil=>simpa using hr
   |@cons b0 Q1 l0 s0 f1=>
    simp only [List.length_append] at hx
    have h1:Q1=[]:=List.length_eq_zero_iff.1 (by omega)
    have h2:R=[]:=List.length_eq_zero_iff.1 (by omega)
    subst h1;subst h2
    simpa using s0
theorem stable_ok {l:List GKey}{n:Int}(hn:n=l.length)(hlim:64*n+640<4294967296):Srt (sort_stable_func_w3_2 l n)∧Eqp (sort_stable_func_w3_2 l n) l:=by
 unfold sort_stable_func_w3_2
 dsimp only
 obtain ⟨Q,R,r1,r2,r3,r4,r5,r6⟩:=stable_l2_ok (x1:=n) (by omega) (n.toNat+21) [] l 0 20 rfl rfl (by omega) (by omega)
 simp only [List.nil_append] at r1 r2
 rw [r1,r2]
 obtain ⟨M,q1,q2,q3⟩:=insertion_ok (P:=Q) (M:=R) (T:=[]) (a:=0+Q.length) (b:=n) (by omega) (by omega) (by omega)
 simp only [List.append_nil] at q1
 have lM:M.length=R.length:=by
  have:=congrArg List.length q1
  rw [insertionSort_len] at this
  simp at this;omega
 rw [q1]
 obtain ⟨L,d1,d2,d3⟩:=stable_l7_ok (x1:=n) hlim (n.toNat+1) Q M 20 (0+Q.length) ((sort_stable_func_w3_2_l2 n (n.toNat+21) 0 20 l).2.1) (by omega) (by omega) (by omega) (by omega) (by omega) r3 q2 (by omega)
 rw [d1]
 exact ⟨d2,d3.trans ((Eqp.app (Eqp.refl _) q3).trans r5)⟩
theorem srt_le1 {l:List GKey}(h:l.length≤1):Srt l:=by
 match l,h with
 |[],_=>exact List.Pairwise.nil
 |[x],_=>exact List.pairwise_singleton _ _
theorem Order_ok {l:List GKey}(hlim:l.length≤1048576):Srt (key_Order l)∧Eqp (key_Order l) l:=by
 unfold key_Order
 dsimp only
 rw [mLen_eq,qiEq,qiEq]
 by_cases h:l.length≤1
 ·have:(decide ((l.length:Int)=0)||decide ((l.length:Int)=1))=true:=by
   rw [← Bool.decide_or];exact decide_eq_true (by omega)
  rw [this]
  exact ⟨srt_le1 h,Eqp.refl _⟩
 ·have:(decide ((l.length:Int)=0)||decide ((l.length:Int)=1))=false:=by
   rw [← Bool.decide_or];exact decide_eq_false (by omega)
  rw [this]
  have hs:(sort_stable_func_w3_2 l (l.length:Int)).length=l.length:=stable_len
  have:((sort_stable_func_w3_2 l (l.length:Int)).drop 0).take ((l.length:Int).toNat-0)=sort_stable_func_w3_2 l l.length:=by
   rw [List.drop_zero];exact List.take_of_length_le (by omega)
  simp only [cond_false]
  rw [this]
  exact stable_ok rfl (by omega)
end Go.Fw
end
section
set_option linter.unusedVariables false
set_option linter.unusedSimpArgs false
set_option linter.unusedSectionVars false
namespace Go.Fw
set_option linter.unusedVariables false
set_option linter.unusedSimpArgs false
def pv : List UInt8→Int→Option Int
 |[],a=>some a
 |c::r,a=>if c.toNat<48∨c.toNat > 57 then none else pv r (10*a+(c.toNat-48))
def tD (n:Nat):List UInt8:=
 if n<10 then [UInt8.ofNat (48+n)] else if n<100 then [UInt8.ofNat (48+n / 10),UInt8.ofNat (48+n % 10)]
 else if n<1000 then [UInt8.ofNat (48+n / 100),UInt8.ofNat (48+n / 10 % 10),UInt8.ofNat (48+n % 10)]
 else [UInt8.ofNat (48+n / 1000),UInt8.ofNat (48+n / 100 % 10),UInt8.ofNat (48+n / 10 % 10),UInt8.ofNat (48+n % 10)]
end Go.Fw
end
section
set_option linter.unusedVariables false
set_option linter.unusedSimpArgs false
set_option linter.unusedSectionVars false
namespace Go.Fw
set_option linter.unusedVariables false
set_option linter.unusedSimpArgs false
def isI (k:GKey):Bool:=(key_Index k).2
def num (k:GKey):Int:=(key_Index k).1
theorem place_eq (k:GKey):key_place k=if isI k=true then (0,num k) else if k.Sym > 0 then (2,0) else (1,0):=by
 unfold key_place isI num
 dsimp only
 simp only [Bool.cond_eq_ite,decide_eq_true_eq]
end Go.Fw
end
section
set_option linter.unusedVariables false
set_option linter.unusedSimpArgs false
set_option linter.unusedSectionVars false
namespace Go.Fw
set_option linter.unusedVariables false
set_option linter.unusedSimpArgs false
end Go.Fw
end
section
set_option linter.unusedVariables false
set_option linter.unusedSimpArgs false
set_option linter.unusedSectionVars false
namespace Go.Fw
set_option linter.unusedVariables false
set_option linter.unusedSimpArgs false
def u8 (n:Int):Prop:=0≤n∧n≤255
def GVal.ok (v:GVal):Prop:=u8 v.Kind∧v.Num<2 ^ 64
end Go.Fw
end
section
set_option linter.unusedVariables false
set_option linter.unusedSimpArgs false
set_option linter.unusedSectionVars false
namespace Go.Fw
set_option linter.unusedVariables false
set_option linter.unusedSimpArgs false
set_option maxRecDepth 20000
def hb (n:Int)(i:Nat):Bool:=n.toNat.testBit i
structure Bits (n:Int):Prop where
 a1:iNe (iAnd .u8 n 1) 0=hb n 0
 a2:iNe (iAnd .u8 n 2) 0=hb n 1
 a4:iNe (iAnd .u8 n 4) 0=hb n 2
 a8:iNe (iAnd .u8 n 8) 0=hb n 3
 a16:iNe (iAnd .u8 n 16) 0=hb n 4
 a32:iNe (iAnd .u8 n 32) 0=hb n 5
 z1:iEq (iAnd .u8 n 1) 0=!hb n 0
 z4:iEq (iAnd .u8 n 4) 0=!hb n 2
 z8:iEq (iAnd .u8 n 8) 0=!hb n 3
 c1:iNe (iAnd .u8 (iCom .u8 n) 1) 0=!hb n 0
 c2:iNe (iAnd .u8 (iCom .u8 n) 2) 0=!hb n 1
 c4:iNe (iAnd .u8 (iCom .u8 n) 4) 0=!hb n 2
 c8:iNe (iAnd .u8 (iCom .u8 n) 8) 0=!hb n 3
 c16:iNe (iAnd .u8 (iCom .u8 n) 16) 0=!hb n 4
 c32:iNe (iAnd .u8 (iCom .u8 n) 32) 0=!hb n 5
 a12:iNe (iAnd .u8 n 12) 0=(hb n 2||hb n 3)
 a3:iNe (iAnd .u8 n 3) 0=(hb n 0||hb n 1)
 z15:iEq (iAnd .u8 n 15) 0=!((hb n 0||hb n 1)||(hb n 2||hb n 3))
 n63:iNe (iAndNot .u8 n 63) 0=decide (n > 63)
 r1:iEq (iRem .u8 (iQuo .u8 n 1) 2) 1=hb n 0
 r2:iEq (iRem .u8 (iQuo .u8 n 2) 2) 1=hb n 1
 r4:iEq (iRem .u8 (iQuo .u8 n 4) 2) 1=hb n 2
 r8:iEq (iRem .u8 (iQuo .u8 n 8) 2) 1=hb n 3
 r16:iEq (iRem .u8 (iQuo .u8 n 16) 2) 1=hb n 4
 r32:iEq (iRem .u8 (iQuo .u8 n 32) 2) 1=hb n 5
 o60:decide (n > 63)=false→(hb n 0||hb n 1)=false→iOr .u8 n 60=60
 o51:decide (n > 63)=false→(hb n 2||hb n 3)=false→iOr .u8 n 51=51
 p60:decide (n > 63)=false→(hb n 0||hb n 1)=false→iOr .u8 (iAndNot .u8 n 48) 60=60
 p51:decide (n > 63)=false→(hb n 2||hb n 3)=false→iOr .u8 (iAndNot .u8 n 48) 51=51
 p12:iNe (iAnd .u8 (iAndNot .u8 n 48) 12) 0=(hb n 2||hb n 3)
 e51:n=51→(hb n 0=true∧hb n 1=true∧hb n 2=false∧hb n 3=false∧hb n 4=true∧hb n 5=true)
 e60:n=60→(hb n 0=false∧hb n 1=false∧hb n 2=true∧hb n 3=true∧hb n 4=true∧hb n 5=true)
 w60:(hb n 2||hb n 3)=true→decide (n > 63)=false→(hb n 0||hb n 1)=false→iNe n (iOr .u8 n 60)=!(iEq n 51||iEq n 60)
 w51:(hb n 2||hb n 3)=false→decide (n > 63)=false→iNe n (iOr .u8 n 51)=!(iEq n 51||iEq n 60)
def bitsP0 (n:Int):Prop:=(iNe (iAnd .u8 n 1) 0=hb n 0∧iNe (iAnd .u8 n 2) 0=hb n 1∧iNe (iAnd .u8 n 4) 0=hb n 2∧iNe (iAnd .u8 n 8) 0=hb n 3∧iNe (iAnd .u8 n 16) 0=hb n 4∧iNe (iAnd .u8 n 32) 0=hb n 5∧
 iEq (iAnd .u8 n 1) 0=(!hb n 0)∧iEq (iAnd .u8 n 4) 0=(!hb n 2)∧iEq (iAnd .u8 n 8) 0=(!hb n 3))
instance (n : Int):Decidable (bitsP0 n):=by unfold bitsP0;infer_instance
theorem bits_all0 : ∀k:Fin 256,bitsP0 ((k:Nat):Int):=by decide +kernel
def bitsP1 (n:Int):Prop:=(iNe (iAnd .u8 (iCom .u8 n) 1) 0=(!hb n 0)∧iNe (iAnd .u8 (iCom .u8 n) 2) 0=(!hb n 1)∧iNe (iAnd .u8 (iCom .u8 n) 4) 0=(!hb n 2)∧iNe (iAnd .u8 (iCom .u8 n) 8) 0=(!hb n 3)∧
 iNe (iAnd .u8 (iCom .u8 n) 16) 0=(!hb n 4)∧iNe (iAnd .u8 (iCom .u8 n) 32) 0=(!hb n 5))
instance (n : Int):Decidable (bitsP1 n):=by unfold bitsP1;infer_instance
theorem bits_all1 : ∀k:Fin 256,bitsP1 ((k:Nat):Int):=by decide +kernel
def bitsP2 (n:Int):Prop:=(iNe (iAnd .u8 n 12) 0=(hb n 2||hb n 3)∧iNe (iAnd .u8 n 3) 0=(hb n 0||hb n 1)∧iEq (iAnd .u8 n 15) 0=(!((hb n 0||hb n 1)||(hb n 2||hb n 3)))∧iNe (iAndNot .u8 n 63) 0=decide (n > 63))
instance (n : Int):Decidable (bitsP2 n):=by unfold bitsP2;infer_instance
theorem bits_all2 : ∀k:Fin 256,bitsP2 ((k:Nat):Int):=by decide +kernel
def bitsP3 (n:Int):Prop:=(iEq (iRem .u8 (iQuo .u8 n 1) 2) 1=hb n 0∧iEq (iRem .u8 (iQuo .u8 n 2) 2) 1=hb n 1∧iEq (iRem .u8 (iQuo .u8 n 4) 2) 1=hb n 2∧iEq (iRem .u8 (iQuo .u8 n 8) 2) 1=hb n 3∧
 iEq (iRem .u8 (iQuo .u8 n 16) 2) 1=hb n 4∧iEq (iRem .u8 (iQuo .u8 n 32) 2) 1=hb n 5)
instance (n : Int):Decidable (bitsP3 n):=by unfold bitsP3;infer_instance
theorem bits_all3 : ∀k:Fin 256,bitsP3 ((k:Nat):Int):=by decide +kernel
def bitsP4 (n:Int):Prop:=(decide (n > 63)=false→(hb n 0||hb n 1)=false→iOr .u8 n 60=60)
instance (n : Int):Decidable (bitsP4 n):=by unfold bitsP4;infer_instance
theorem bits_all4 : ∀k:Fin 256,bitsP4 ((k:Nat):Int):=by decide +kernel
def bitsP5 (n:Int):Prop:=(decide (n > 63)=false→(hb n 2||hb n 3)=false→iOr .u8 n 51=51)
instance (n : Int):Decidable (bitsP5 n):=by unfold bitsP5;infer_instance
theorem bits_all5 : ∀k:Fin 256,bitsP5 ((k:Nat):Int):=by decide +kernel
def bitsP6 (n:Int):Prop:=(decide (n > 63)=false→(hb n 0||hb n 1)=false→iOr .u8 (iAndNot .u8 n 48) 60=60)
instance (n : Int):Decidable (bitsP6 n):=by unfold bitsP6;infer_instance
theorem bits_all6 : ∀k:Fin 256,bitsP6 ((k:Nat):Int):=by decide +kernel
def bitsP7 (n:Int):Prop:=(decide (n > 63)=false→(hb n 2||hb n 3)=false→iOr .u8 (iAndNot .u8 n 48) 51=51)
instance (n : Int):Decidable (bitsP7 n):=by unfold bitsP7;infer_instance
theorem bits_all7 : ∀k:Fin 256,bitsP7 ((k:Nat):Int):=by decide +kernel
def bitsP8 (n:Int):Prop:=iNe (iAnd .u8 (iAndNot .u8 n 48) 12) 0=(hb n 2||hb n 3)
instance (n : Int):Decidable (bitsP8 n):=by unfold bitsP8;infer_instance
theorem bits_all8 : ∀k:Fin 256,bitsP8 ((k:Nat):Int):=by decide +kernel
def bitsP9 (n:Int):Prop:=(n=51→(hb n 0=true∧hb n 1=true∧hb n 2=false∧hb n 3=false∧hb n 4=true∧hb n 5=true))
instance (n : Int):Decidable (bitsP9 n):=by unfold bitsP9;infer_instance
theorem bits_all9 : ∀k:Fin 256,bitsP9 ((k:Nat):Int):=by decide +kernel
def bitsP10 (n:Int):Prop:=(n=60→(hb n 0=false∧hb n 1=false∧hb n 2=true∧hb n 3=true∧hb n 4=true∧hb n 5=true))
instance (n : Int):Decidable (bitsP10 n):=by unfold bitsP10;infer_instance
theorem bits_all10 : ∀k:Fin 256,bitsP10 ((k:Nat):Int):=by decide +kernel
def bitsP11 (n:Int):Prop:=((hb n 2||hb n 3)=true→decide (n > 63)=false→(hb n 0||hb n 1)=false→iNe n (iOr .u8 n 60)=!(iEq n 51||iEq n 60))
instance (n : Int):Decidable (bitsP11 n):=by unfold bitsP11;infer_instance
theorem bits_all11 : ∀k:Fin 256,bitsP11 ((k:Nat):Int):=by decide +kernel
def bitsP12 (n:Int):Prop:=((hb n 2||hb n 3)=false→decide (n > 63)=false→iNe n (iOr .u8 n 51)=!(iEq n 51||iEq n 60))
instance (n : Int):Decidable (bitsP12 n):=by unfold bitsP12;infer_instance
theorem bits_all12 : ∀k:Fin 256,bitsP12 ((k:Nat):Int):=by decide +kernel
theorem bits {n:Int}(h:u8 n):Bits n:=by
 obtain ⟨h0,h1⟩:=h
 have e':((n.toNat:Nat):Int)=n:=by omega
 have q0:=bits_all0 ⟨n.toNat,by omega⟩
 rw [show ((((⟨n.toNat,by omega⟩:Fin 256):Nat)):Int)=n from e'] at q0
 have q1:=bits_all1 ⟨n.toNat,by omega⟩
 rw [show ((((⟨n.toNat,by omega⟩:Fin 256):Nat)):Int)=n from e'] at q1
 have q2:=bits_all2 ⟨n.toNat,by omega⟩
 rw [show ((((⟨n.toNat,by omega⟩:Fin 256):Nat)):Int)=n from e'] at q2
 have q3:=bits_all3 ⟨n.toNat,by omega⟩
 rw [show ((((⟨n.toNat,by omega⟩:Fin 256):Nat)):Int)=n from e'] at q3
 have q4:=bits_all4 ⟨n.toNat,by omega⟩
 rw [show ((((⟨n.toNat,by omega⟩:Fin 256):Nat)):Int)=n from e'] at q4
 have q5:=bits_all5 ⟨n.toNat,by omega⟩
 rw [show ((((⟨n.toNat,by omega⟩:Fin 256):Nat)):Int)=n from e'] at q5
 have q6:=bits_all6 ⟨n.toNat,by omega⟩
 rw [show ((((⟨n.toNat,by omega⟩:Fin 256):Nat)):Int)=n from e'] at q6
 have q7:=bits_all7 ⟨n.toNat,by omega⟩
 rw [show ((((⟨n.toNat,by omega⟩:Fin 256):Nat)):Int)=n from e'] at q7
 have q8:=bits_all8 ⟨n.toNat,by omega⟩
 rw [show ((((⟨n.toNat,by omega⟩:Fin 256):Nat)):Int)=n from e'] at q8
 have q9:=bits_all9 ⟨n.toNat,by omega⟩
 rw [show ((((⟨n.toNat,by omega⟩:Fin 256):Nat)):Int)=n from e'] at q9
 have q10:=bits_all10 ⟨n.toNat,by omega⟩
 rw [show ((((⟨n.toNat,by omega⟩:Fin 256):Nat)):Int)=n from e'] at q10
 have q11:=bits_all11 ⟨n.toNat,by omega⟩
 rw [show ((((⟨n.toNat,by omega⟩:Fin 256):Nat)):Int)=n from e'] at q11
 have q12:=bits_all12 ⟨n.toNat,by omega⟩
 rw [show ((((⟨n.toNat,by omega⟩:Fin 256):Nat)):Int)=n from e'] at q12
 obtain ⟨a,b,c,d,e,f,g,h,i⟩:=q0
 obtain ⟨j,k,l,m,o,p⟩:=q1
 obtain ⟨q,r,s,t⟩:=q2
 obtain ⟨u,v,w,x,y,z⟩:=q3
 exact ⟨a,b,c,d,e,f,g,h,i,j,k,l,m,o,p,q,r,s,t,u,v,w,x,y,z,q4,q5,q6,q7,q8,q9,q10,q11,q12⟩
def GDesc.ok (v:GDesc):Prop:=u8 v.Has∧v.Value.ok∧v.Get.ok∧v.Set.ok
end Go.Fw
end
section
set_option linter.unusedVariables false
set_option linter.unusedSimpArgs false
set_option linter.unusedSectionVars false
namespace Go.Fw
set_option linter.unusedVariables false
set_option linter.unusedSimpArgs false
structure Chk (x:GDesc):Prop where
 big:decide (x.Has > 63)=false
 da:((hb x.Has 0||hb x.Has 1)&&(hb x.Has 2||hb x.Has 3))=false
 w:(hb x.Has 1||!x.Writable)=true
 e:(hb x.Has 4||!x.Enumerable)=true
 c:(hb x.Has 5||!x.Configurable)=true
 v:hb x.Has 0=false→x.Value=GVal.mk 0 0 [] 0
 g:hb x.Has 2=false→x.Get=GVal.mk 0 0 [] 0
 s:hb x.Has 3=false→x.Set=GVal.mk 0 0 [] 0
end Go.Fw
end
section
set_option linter.unusedVariables false
set_option linter.unusedSimpArgs false
set_option linter.unusedSectionVars false
namespace Go.Fw
set_option linter.unusedVariables false
set_option linter.unusedSimpArgs false
def pl (l:List GProp)(k:GKey):Option Nat:=l.findIdx? (fun p=>decide (p.Key=k))
end Go.Fw
end
section
set_option linter.unusedVariables false
set_option linter.unusedSimpArgs false
set_option linter.unusedSectionVars false
namespace Go.Fw
set_option linter.unusedVariables false
set_option linter.unusedSimpArgs false
end Go.Fw
end
section
set_option linter.unusedVariables false
set_option linter.unusedSimpArgs false
set_option linter.unusedSectionVars false
namespace Go.Fw
set_option linter.unusedVariables false
set_option linter.unusedSimpArgs false
theorem sm_dec {x1 x2 x3:Int}{n:Nat}(h0:0≤x1)(h1:x1<x2)(h2:x2<x3)(h3:x3≤4294967296)(hm:(x3-x1).toNat<n+1):(midT x1 x3-x1).toNat<n∧(x3-midT x1 x3).toNat<n:=by
 rw [midT_eq h0 (by omega) (by omega)];omega
end Go.Fw
end
section
set_option linter.unusedVariables false
set_option linter.unusedSimpArgs false
set_option linter.unusedSectionVars false
namespace Go.Fw
set_option linter.unusedVariables false
def law08_alive : Bool:=true
def law08_times_l2 (x0:List GKey)(x1:GKey):Nat→Int→Int→Int
 |0,_,_=>default
 |n+1,u2,u3=>
  let v4:GKey:=x0.getD (u3:Int).toNat default
  bif (!(decide ((u3:Int)<(mLen GKey.enc x0)))) then u2
  else law08_times_l2 x0 x1 n (bif ((sEq v4.Str x1.Str)&&(iEq v4.Sym x1.Sym)) then (iAdd .i64 u2 1) else u2) (iAdd .i64 u3 1)
def law08_times (x0:List GKey)(x1:GKey):Int:=
 let r2:Int:=law08_times_l2 x0 x1 (x0.length+1) 0 0
 r2
def law08_third (x0:GKey):Int:=
 let v1:Int×Bool:=key_Index x0
 bif v1.2 then 0
 else bif (decide ((x0.Sym:Int) > 0)) then 2
 else 1
def law08_KeyRow_l4 (x0:List GKey)(v2:List GKey)(v3:List GKey):Nat→Bool→Int→(Bool×Bool×Bool)
 |0,_,_=>default
 |n+1,u4,u5=>
  let v6:GKey:=v3.getD (u5:Int).toNat default
  let v7:GKey:=v2.getD (u5:Int).toNat default
  let v8:GKey:=v2.getD (u5:Int).toNat default
  let v9:Int:=law08_times x0 v8
  let v10:GKey:=v2.getD (u5:Int).toNat default
  let v11:Int:=law08_times v2 v10
  let v12:GKey:=v2.getD ((iSub .i64 u5 1):Int).toNat default
  let v13:Int:=law08_third v12
  let v14:GKey:=v2.getD (u5:Int).toNat default
  let v15:Int:=law08_third v14
  let v16:GKey:=v2.getD ((iSub .i64 u5 1):Int).toNat default
  let v17:Int×Bool:=key_Index v16
  let v18:GKey:=v2.getD (u5:Int).toNat default
  let v19:Int×Bool:=key_Index v18
  bif (!(decide ((u5:Int)<(mLen GKey.enc v2)))) then (true,u4,default)
  else bif ((!((sEq v6.Str v7.Str)&&(iEq v6.Sym v7.Sym)))||(iNe v9 v11)) then (false,default,false)
  else bif (iEq u5 0) then law08_KeyRow_l4 x0 v2 v3 n u4 (iAdd .i64 u5 1)
  else bif ((decide ((v13:Int) > v15))||(((iEq v13 0)&&(iEq v15 0))&&(decide ((v17.1:Int) > v19.1)))) then (false,default,false)
  else law08_KeyRow_l4 x0 v2 v3 n u4 (iAdd .i64 u5 1)
def law08_KeyRow_l12 (v2:List GKey):Nat→Int→Int
 |0,_=>default
 |n+1,u12=>
  let v13:GKey:=v2.getD (u12:Int).toNat default
  let v14:Int:=law08_third v13
  bif (!((decide ((u12:Int)<(mLen GKey.enc v2)))&&(iNe v14 1))) then u12
  else law08_KeyRow_l12 v2 n (iAdd .i64 u12 1)
def law08_KeyRow_l7 (x0:List GKey)(v2:List GKey):Nat→Bool→Int→Int→(Bool×Bool×Bool)
 |0,_,_,_=>default
 |n+1,u7,u8,u9=>
  let v10:GKey:=x0.getD (u9:Int).toNat default
  let v11:Int:=law08_third v10
  let r12:Int:=law08_KeyRow_l12 v2 (v2.length+1) u8
  let v13:GKey:=v2.getD (r12:Int).toNat default
  let v14:GKey:=x0.getD (u9:Int).toNat default
  bif (!(decide ((u9:Int)<(mLen GKey.enc x0)))) then (true,u7,default)
  else bif ((!(iNe v11 1))&&((decide ((r12:Int)≥(mLen GKey.enc v2)))||(!((sEq v13.Str v14.Str)&&(iEq v13.Sym v14.Sym))))) then (false,default,false)
  else law08_KeyRow_l7 x0 v2 n u7 (bif (iNe v11 1) then u8 else (iAdd .i64 r12 1)) (iAdd .i64 u9 1)
def law08_KeyRow (x0:List GKey):Bool:=
 let v1:Bool:=law08_alive
 let v2:List GKey:=key_Order x0
 let v3:List GKey:=key_Order v2
 let r4:Bool×Bool×Bool:=law08_KeyRow_l4 x0 v2 v3 (v2.length+1) false 0
 let r7:Bool×Bool×Bool:=law08_KeyRow_l7 x0 v2 (x0.length+1) r4.2.1 0 0
 bif ((decide (((mLen GKey.enc x0):Int) > 200))||(!v1)) then v1
 else bif ((iNe (mLen GKey.enc v2) (mLen GKey.enc x0))||(iNe (mLen GKey.enc v3) (mLen GKey.enc v2))) then false
 else bif (!(iEq (selB r4.1) 0)) then r4.2.2
 else bif (!(iEq (selB r7.1) 0)) then r7.2.2
 else true
end Go.Fw
end
section
set_option linter.unusedVariables false
set_option linter.unusedSimpArgs false
set_option linter.unusedSectionVars false
namespace Go.Fw
set_option linter.unusedSectionVars false
variable [Glob]
open Go.Lib
set_option linter.unusedSimpArgs false
set_option linter.unusedVariables false
def eqLen (len:Tm)(n:Nat):Tm:=.bin .eql (.int .i64) len (.li (.ofNat n))
def lenK (pc:Pc)(len:Tm):Tm:=match pc.known (eqLen len 0),pc.known (eqLen len 1) with
 |some true,_=>.li 0
 |_,some true=>.li 1
 |_,_=>len
def aggOf : Option SV→Option (List SV)
 |some (.agg l)=>some l
 |_=>none
def swapR (P:Program)(th:Tr SB)(nx nv:Nat)(pc:Pc)(ti tj:Tm)(b sz:Nat)(len t:Tm)(e:TypeId):Option CR:=
 match aggOf (shapeOf P nv [] e),aggOf (shapeOf P (nv+1) [] e) with
 |some x,some y=>bif Nat.beq x.length sz&&(Nat.beq y.length sz&&(tyOf P e == some (true,sz))) then
  some ⟨[(.lb true,⟨.c .undef,wrT th [(b,some (.rowsT sz (.var (nv+3) [])))],nx⟩)],nv+4,
   (([.tm (.bin .leq (.int .i64) (.li 0) ti),.tm (.bin .lss (.int .i64) ti (.rlen t)),.tm (.bin .leq (.int .i64) (.li 0) tj),.tm (.bin .lss (.int .i64) tj (.rlen t)),.row t ti x,.row t tj y,.st t ti 0 y (.var (nv+2) []),.st (.var (nv+2) []) tj 0 x (.var (nv+3) [])]:List Side)++lenS len t).map fun s=>(pc,s)⟩ else none
 |_,_=>none
def inlRefT (P:Program)(c:RefCfg):Inl:=fun pc th nx nv f args=>
 bif Nat.beq f c.vo then
  match args with
  |[.ifc t (.os b sz off len)]=>match elTy P t with
   |some _=>some ⟨[(.lb true,⟨.agg [.c (.at P.globals.size t),.op nx 1 (.li 0) 0,.sc (.int .u64) (.li 151)],wrT th [(nx,some (.rows 1 [[.os b sz off len]]))],nx+1⟩)],nv,[]⟩
   |none=>none
  |_=>none
 else bif Nat.beq f c.ln then
  match args with
  |[.agg [.c (.at g t),.op b1 1 (.li 0) 0,.sc (.int .u64) (.li 151)]]=>match elTy P t,th.get b1 with
   |some _,some (.rows 1 [[.os b sz off len]])=>bif Nat.beq g P.globals.size then some ⟨[(.lb true,⟨.sc (.int .i64) (lenK pc len),th,nx⟩)],nv,[(pc,.tm (.bin .leq (.int .i64) (.li 0) len))]⟩ else none
   |_,_=>none
  |_=>none
 else bif Nat.beq f c.sw then
  match args with
  |[.ifc t (.os b sz off len)]=>match elTy P t with
   |some e=>bif bigEl P e then
    some ⟨[(eqLen len 0,⟨.fn c.l1 [] [],th,nx⟩),(eqLen len 1,⟨.fn c.l2 [] [],th,nx⟩),(.lb true,⟨.fn c.l9 [] [.os b sz off len,.c (.at P.globals.size e)],th,nx⟩)],nv,[(pc,.tm (.bin .leq (.int .i64) (.li 0) len))]⟩ else none
   |none=>none
  |_=>none
 else bif Nat.beq f c.l9 then
  match args with
  |[.sc (.int .i64) ti,.sc (.int .i64) tj,.os b sz 0 len,.c (.at g e)]=>match th.get b with
   |some (.rowsT sz' t)=>bif Nat.beq g P.globals.size&&Nat.beq sz sz' then swapR P th nx nv pc ti tj b sz len t e else none
   |_=>none
  |_=>none
 else none
theorem le0 {P:Program}{ρ:List AV}{len:Tm}(h:Side.holds P ρ (.tm (.bin .leq (.int .i64) (.li 0) len))):0≤(len.den ρ).I:=of_decide_eq_true h
theorem tmH {P:Program}{ρ:List AV}{t:Tm}{p:Prop}[Decidable p](h:Side.holds P ρ (.tm t))(e:(t.den ρ).B=decide p:=by rfl):p:=of_decide_eq_true (e▸h)
theorem lenK_ok {ρ:List AV}{pc:Pc}{len:Tm}(hp:pc.holds ρ):((lenK pc len).den ρ).I=(len.den ρ).I:=by
 have e:∀n:Nat,pc.known (eqLen len n)=some true→(len.den ρ).I=(n:Int):=fun n h=>by
  have:=Pc.known_holds hp h
  simpa [eqLen,Tm.den,binD,D.B,D.I,iEq] using this
 unfold lenK
 split
 ·rw [e 0 (by assumption)];rfl
 ·rw [e 1 (by assumption)];rfl
 ·rfl
theorem inlRefT_ok {P:Program}{c:RefCfg}(hc:RefOk P c):∀σ:List AV,fzL σ=true→InlOk P σ (inlRefT P c):=by
 intro ρ hfz pc th nx nv f args R h hp hs base w E ah vs hah hh hG hrep o a he next Q hnext
 unfold inlRefT at h
 cases h1:Nat.beq f c.vo
 case true=>
  rw [h1] at h
  simp only [cond_true] at h
  obtain rfl:=Nat.eq_of_beq_eq_true h1
  split at h
  ·rename_i t b sz off len
   split at h
   ·rename_i e hel
    simp only [Option.some.injEq] at h;subst h
    obtain ⟨i,hi,hd,-⟩:=elTy_ok hel
    obtain ⟨v,rfl,hv⟩:=repL_one hrep
    obtain ⟨u,rfl,hu⟩:=ifc_inv hv
    obtain ⟨p,cc,rfl⟩:=os_slice hu
    obtain ⟨w',E',hw',q1,q2,q3⟩:=new_row hh (Nat.le_refl nx) t (cs:=[SV.den ρ (.os b sz off len)]) (vs:=#[.slice p ((len.den ρ).I.toNat) cc]) ⟨rfl,fun i x y h1 h2=>by
     match i,h1,h2 with
     |0,h1,h2=>cases h1;cases h2;exact hu⟩ (by simp [SV.den,AV.scal])
    refine wp_of_value hc.vo he (run_valueOf_slice t e i hi hd p _ cc w) ?_
    rw [← hw']
    refine hnext _ rfl _ _ E' (upds ah [(nx,some (.rows 1 [[SV.den ρ (.os b sz off len)]]))]) (AhR_wr hah) q1 (q2.weaken fun b hb=>⟨Nat.le_of_succ_le hb,Nat.ne_of_gt hb⟩) ?_
    refine .agg _ _ rfl (fun c hc=>by simp only [denL,List.mem_cons,List.not_mem_nil,or_false] at hc;rcases hc with rfl|rfl|rfl<;>rfl) fun i x y h1 h2=>?_
    match i,h1,h2 with
    |0,h1,h2=>cases h1;cases h2;exact .p rfl
    |1,h1,h2=>cases h1;cases h2;exact q3
    |2,h1,h2=>cases h1;cases h2;exact .p rfl
   ·cases h
  ·cases h
 case false=>
 rw [h1] at h
 simp only [cond_false] at h
 cases h2:Nat.beq f c.ln
 case true=>
  rw [h2] at h
  simp only [cond_true] at h
  obtain rfl:=Nat.eq_of_beq_eq_true h2
  split at h
  ·rename_i g t b1
   split at h
   ·rename_i x y z b sz off len hel hb1
    cases hg:Nat.beq g P.globals.size
    ·simp [hg] at h
    ·simp only [hg,cond_true,Option.some.injEq] at h;subst h
     obtain rfl:=Nat.eq_of_beq_eq_true hg
     obtain ⟨i,hi,hd,hpk⟩:=elTy_ok hel
     obtain ⟨v,rfl,hv⟩:=repL_one hrep
     obtain ⟨vs,rfl,ha⟩:∃vs:Array Value,v=.agg vs∧RepL w E (denL ρ [.c (.at P.globals.size t),.op b1 1 (.li 0) 0,.sc (.int .u64) (.li 151)]) vs.toList:=by
      cases hv with|agg cs vs hl hs h=>exact ⟨vs,rfl,by simpa using hl,fun i x y h1 h2=>h i x y h1 (by simpa using h2)⟩
     obtain ⟨v0,v1,v2,hvs⟩:∃v0 v1 v2,vs.toList=[v0,v1,v2]:=by
      match hm:vs.toList,(show vs.toList.length=3 by rw [← ha.1];rfl) with
      |[v0,v1,v2],_=>exact ⟨v0,v1,v2,rfl⟩
     obtain rfl:vs=#[v0,v1,v2]:=by apply Array.ext';simpa using hvs
     have r0:=(ha.2 0 _ v0 rfl rfl).p_inv
     have r2:=(ha.2 2 _ v2 rfl rfl).p_inv
     obtain ⟨cb,ob,r1,hown⟩:=(ha.2 1 _ v1 rfl rfl).op_inv
     subst r0;subst r1;subst r2
     rcases hh.blk b1 _ (hah _ _ hb1) with ⟨_,h0⟩|⟨c',o',arr,tt,g1,g2,g3,g4,g5⟩
     ·simp [SB.den,denLL] at h0
     ·rw [hown] at g1;cases g1
      obtain ⟨u,hu1,hu2⟩:=g5.2.2.2 0 _ 0 _ rfl rfl
      obtain ⟨p,cc,rfl⟩:=os_slice hu2
      have hcell:w.cell? ⟨cb,ob+0*1+0,none⟩=some (.slice p ((len.den ρ).I.toNat) cc):=by
       simp only [World.cell?,g4]
       simp at hu1 ⊢
       exact hu1
      refine wp_of_value hc.ln he (run_valueLen_slice t _ i hi hd hpk _ p _ cc w hcell) ?_
      refine hnext _ rfl _ _ E ah hah (Step.refl _ _ _) hh ?_
      have h0:=le0 (hs (pc,.tm (.bin .leq (.int .i64) (.li 0) len)) (by simp) hp)
      show Rep w E (.p (.int .i64 ((lenK pc len).den ρ).I)) _
      rw [lenK_ok hp,Int.toNat_of_nonneg h0]
      exact .p rfl
   ·cases h
  ·cases h
 case false=>
 rw [h2] at h
 simp only [cond_false] at h
 cases h3:Nat.beq f c.sw
 case true=>
  rw [h3] at h
  simp only [cond_true] at h
  obtain rfl:=Nat.eq_of_beq_eq_true h3
  split at h
  ·rename_i t b sz off len
   split at h
   ·rename_i e hel
    cases hb:bigEl P e
    ·simp [hb] at h
    ·simp only [hb,cond_true,Option.some.injEq] at h;subst h
     have h0:=le0 (hs (pc,.tm (.bin .leq (.int .i64) (.li 0) len)) (by simp) hp)
     obtain ⟨i,hi,hd,-⟩:=elTy_ok hel
     obtain ⟨ie,hie,hk,hsk⟩:=bigEl_ok hb
     obtain ⟨v,rfl,hv⟩:=repL_one hrep
     obtain ⟨u,rfl,hu⟩:=ifc_inv hv
     obtain ⟨p,cc,rfl⟩:=os_slice hu
     have g0:∀n:Nat,(Tm.den ρ (eqLen len n)).B=decide ((len.den ρ).I=(n:Int)):=fun n=>by
      show iEq _ _=_;unfold iEq;exact eq_int
     by_cases e0:(len.den ρ).I.toNat=0
     ·refine wp_of_value hc.sw he (run_swapper_slice t e i ie hi hd hie 25 hk p _ cc c.l1 (by rw [hsk,if_pos e0];exact hc.n1) w) ?_
      refine hnext ⟨.fn c.l1 [] [],th,nx⟩ ?_ _ _ E ah hah (Step.refl _ _ _) hh ?_
      ·have:(Tm.den ρ (eqLen len 0)).B=true:=by rw [g0];exact decide_eq_true (by omega)
       simp only [selG,this,cond_true]
      ·rw [hsk,if_pos e0,if_pos (by omega)]
       exact .fn _ _ _ _ _ rfl rfl (fun i c v h=>by simp [denL] at h) (fun i c v h=>by simp [denL] at h)
     ·have b0:(Tm.den ρ (eqLen len 0)).B=false:=by rw [g0];exact decide_eq_false (by omega)
      by_cases e1:(len.den ρ).I.toNat=1
      ·refine wp_of_value hc.sw he (run_swapper_slice t e i ie hi hd hie 25 hk p _ cc c.l2 (by rw [hsk,if_neg e0,if_pos e1];exact hc.n2) w) ?_
       refine hnext ⟨.fn c.l2 [] [],th,nx⟩ ?_ _ _ E ah hah (Step.refl _ _ _) hh ?_
       ·have:(Tm.den ρ (eqLen len 1)).B=true:=by rw [g0];exact decide_eq_true (by omega)
        simp only [selG,b0,this,cond_true,cond_false]
       ·rw [hsk,if_neg e0,if_pos e1]
        exact .fn _ _ _ _ _ rfl rfl (fun i c v h=>by simp [denL] at h) (fun i c v h=>by simp [denL] at h)
      ·have b1:(Tm.den ρ (eqLen len 1)).B=false:=by rw [g0];exact decide_eq_false (by omega)
       refine wp_of_value hc.sw he (run_swapper_slice t e i ie hi hd hie 25 hk p _ cc c.l9 (by rw [hsk,if_neg e0,if_neg e1];exact hc.n9) w) ?_
       refine hnext ⟨.fn c.l9 [] [.os b sz off len,.c (.at P.globals.size e)],th,nx⟩ ?_ _ _ E ah hah (Step.refl _ _ _) hh ?_
       ·simp only [selG,b0,b1,cond_false]
       rw [hsk,if_neg e0,if_neg e1,if_neg (by omega)]
       refine .fn _ _ _ _ _ rfl rfl (fun i c v h=>by simp [denL] at h) (fun i x y h1 h2=>?_)
       match i,h1,h2 with
       |0,h1,h2=>cases h1;cases h2;exact hu
       |1,h1,h2=>cases h1;cases h2;exact .p rfl
   ·cases h
  ·cases h
 case false=>
 rw [h3] at h
 simp only [cond_false] at h
 cases h4:Nat.beq f c.l9
 case false=>simp [h4] at h
 case true=>
  rw [h4] at h
  simp only [cond_true] at h
  obtain rfl:=Nat.eq_of_beq_eq_true h4
  split at h
  ·rename_i ti tj b sz len g e
   split at h
   ·rename_i sz' t hb
    cases hg:Nat.beq g P.globals.size&&Nat.beq sz sz'
    ·simp [hg] at h
    simp only [hg,cond_true] at h
    simp only [Bool.and_eq_true] at hg
    obtain ⟨g1,g4⟩:=hg
    obtain rfl:=Nat.eq_of_beq_eq_true g1
    obtain rfl:=Nat.eq_of_beq_eq_true g4
    unfold swapR at h
    split at h
    ·rename_i x y hx hy
     cases hgg:Nat.beq x.length sz&&(Nat.beq y.length sz&&(tyOf P e == some (true,sz)))
     ·simp [hgg] at h
     simp only [hgg,cond_true,Option.some.injEq] at h;subst h
     simp only [Bool.and_eq_true,beq_iff_eq] at hgg
     obtain ⟨g5,g6,g7⟩:=hgg
     have lx:=Nat.eq_of_beq_eq_true g5
     have ly:=Nat.eq_of_beq_eq_true g6
     have hab:=hah _ _ hb
     have side:∀s,s∈(([.tm (.bin .leq (.int .i64) (.li 0) ti),.tm (.bin .lss (.int .i64) ti (.rlen t)),.tm (.bin .leq (.int .i64) (.li 0) tj),.tm (.bin .lss (.int .i64) tj (.rlen t)),.row t ti x,.row t tj y,.st t ti 0 y (.var (nv+2) []),.st (.var (nv+2) []) tj 0 x (.var (nv+3) [])]:List Side)++lenS len t)→s.holds P ρ:=fun s hm=>hs (pc,s) (List.mem_map.2 ⟨s,hm,rfl⟩) hp
     have i0:0≤(ti.den ρ).I:=tmH (side _ (List.mem_append_left _ (List.mem_of_getElem? (i:=0) rfl)))
     have i1:(ti.den ρ).I<((t.den ρ).R.length:Int):=tmH (side _ (List.mem_append_left _ (List.mem_of_getElem? (i:=1) rfl)))
     have j0:0≤(tj.den ρ).I:=tmH (side _ (List.mem_append_left _ (List.mem_of_getElem? (i:=2) rfl)))
     have j1:(tj.den ρ).I<((t.den ρ).R.length:Int):=tmH (side _ (List.mem_append_left _ (List.mem_of_getElem? (i:=3) rfl)))
     obtain ⟨-,rx⟩:=side _ (List.mem_append_left _ (List.mem_of_getElem? (i:=4) rfl))
     obtain ⟨-,ry⟩:=side _ (List.mem_append_left _ (List.mem_of_getElem? (i:=5) rfl))
     obtain ⟨rw1,sx1,sx2,sx3⟩:=side _ (List.mem_append_left _ (List.mem_of_getElem? (i:=6) rfl))
     obtain ⟨rw2,sy1,sy2,sy3⟩:=side _ (List.mem_append_left _ (List.mem_of_getElem? (i:=7) rfl))
     have hlen:(len.den ρ).I.toNat=(t.den ρ).R.length:=lenS_ok (P:=P) fun s hm=>side s (List.mem_append_right _ hm)
     have lx':(denL ρ x).length=sz:=by rw [denL_length,lx]
     have ly':(denL ρ y).length=sz:=by rw [denL_length,ly]
     rw [rx] at sx1;cases sx1
     rw [lay_all (by rw [lx',ly'])] at sx3
     obtain ⟨I,hI⟩:∃I,I=(ti.den ρ).I.toNat:=⟨_,rfl⟩
     obtain ⟨J,hJ⟩:∃J,J=(tj.den ρ).I.toNat:=⟨_,rfl⟩
     have rj:∃z,((t.den ρ).R.set I (denL ρ y))[J]?=some z∧z.length=sz:=by
      rw [List.getElem?_set]
      by_cases eij:I=J
      ·rw [if_pos eij,if_pos (by omega)];exact ⟨_,rfl,ly'⟩
      ·rw [if_neg eij,hJ];exact ⟨_,ry,ly'⟩
     obtain ⟨z,rz,lz⟩:=rj
     rw [sx3,← hI,← hJ,rz] at sy1;cases sy1
     rw [lay_all (by rw [lx',lz]),sx3] at sy3
     rw [← hI] at rx sy3
     rw [← hJ] at ry sy3
     obtain ⟨v0,v1,v2,v3,rfl⟩:∃v0 v1 v2 v3,vs=[v0,v1,v2,v3]:=by
      match vs,hrep.1 with
      |[v0,v1,v2,v3],_=>exact ⟨v0,v1,v2,v3,rfl⟩
     have r0:=(hrep.2 0 _ v0 rfl rfl).p_inv
     have r1:=(hrep.2 1 _ v1 rfl rfl).p_inv
     have r3:=(hrep.2 3 _ v3 rfl rfl).p_inv
     have r2:=hrep.2 2 _ v2 rfl rfl
     subst r0;subst r1;subst r3
     obtain ⟨n,hn⟩:∃n,n=(len.den ρ).I.toNat:=⟨_,rfl⟩
     have hi:I<n:=by omega
     have hj:J<n:=by omega
     obtain ⟨c0,o0,cap,hown,rfl⟩:∃c0 o0 cap,E.own b=.at c0 o0∧v2=.slice (some ⟨c0,o0+0*sz,none⟩) n cap:=by
      generalize hm:SV.den ρ (.os b sz 0 len)=A at r2
      have hm:A=.os b sz 0 n:=by rw [hn];exact hm.symm
      subst hm
      cases r2 with
      |osnil=>omega
      |os _ _ _ _ c0 o0 cap hb=>exact ⟨c0,o0,cap,hb,rfl⟩
     have hnb:¬nx≤b:=fun hc=>by have:=hh.nofresh hc;rw [hab] at this;cases this
     have px:Rep w E (.op b sz I 0) (.pointer (some ⟨c0,o0+I*sz+0,none⟩)):=.op _ _ _ _ _ _ hown
     have py:Rep w E (.op b sz J 0) (.pointer (some ⟨c0,o0+J*sz+0,none⟩)):=.op _ _ _ _ _ _ hown
     obtain ⟨q1,vx,rfl,-,ex,hvx⟩:=aLoad_rd (K:=fun r=>r=⟨.agg (denL ρ x),[],[b]⟩) hh (t:=e) (a:=.op b sz I 0) (by
      unfold aLoad
      rw [g7]
      dsimp only [withO]
      rw [hab]
      dsimp only [SB.den]
      refine ⟨rfl,?_⟩
      rw [rx]
      refine ⟨by simp [lx'],?_⟩
      simp [← lx']) px
     obtain ⟨q2,vy,rfl,-,ey,hvy⟩:=aLoad_rd (K:=fun r=>r=⟨.agg (denL ρ y),[],[b]⟩) hh (t:=e) (a:=.op b sz J 0) (by
      unfold aLoad
      rw [g7]
      dsimp only [withO]
      rw [hab]
      dsimp only [SB.den]
      refine ⟨rfl,?_⟩
      rw [ry]
      refine ⟨by simp [ly'],?_⟩
      simp [← ly']) py
     obtain ⟨q3,w1,E1,rfl,s1,st1,hh1,-⟩:=aStore_wr (K:=fun r=>r=⟨.p undef,[(b,some (.rows sz ((t.den ρ).R.set I (denL ρ y))))],[b]⟩) (id:=b) hh (t:=e) (a:=.op b sz I 0) (v:=.agg (denL ρ y)) (by
      unfold aStore
      rw [g7]
      dsimp only [withO]
      rw [hab]
      dsimp only [SB.den]
      refine ⟨rfl,rfl,ly',?_⟩
      rw [rx]
      refine ⟨by simp [lx'],?_⟩
      show _=_
      rw [show AV.cells (.agg (denL ρ y))=denL ρ y from rfl,lay_all (by rw [lx',ly'])]) px hvy
     obtain ⟨q4,w2,E2,rfl,s2,st2,hh2,-⟩:=aStore_wr (K:=fun r=>r=⟨.p undef,[(b,some (.rows sz (((t.den ρ).R.set I (denL ρ y)).set J (denL ρ x))))],[b]⟩) (id:=b) hh1 (t:=e) (a:=.op b sz J 0) (v:=.agg (denL ρ x)) (by
      unfold aStore
      rw [g7]
      dsimp only [withO]
      rw [show upds ah [(b,some (.rows sz ((t.den ρ).R.set I (denL ρ y))))] b=some (.rows sz ((t.den ρ).R.set I (denL ρ y))) by simp [upds,upd]]
      refine ⟨rfl,rfl,lx',?_⟩
      rw [rz]
      refine ⟨by simp [lz],?_⟩
      show _=_
      rw [show AV.cells (.agg (denL ρ x))=denL ρ x from rfl,lay_all (by rw [lx',lz])]) (py.mono st1.ext) (hvx.mono st1.ext)
     have hrun:(Extern.ReflectliteSwapper.swap false #[.int .i64 (ti.den ρ).I,.int .i64 (tj.den ρ).I,.slice (some ⟨c0,o0+0*sz,none⟩) n cap,typeHandle P e]).run P w=.ok (.tuple #[]) w2:=by
      rw [show (ti.den ρ).I=(I:Int) by omega,show (tj.den ρ).I=(J:Int) by omega,swap_run I J _ _ _ _ hi hj]
      rw [loadVar_of] at ex ey
      rw [storeVar_of] at s1 s2
      have ai:(⟨c0,o0,none⟩:Addr).add (I*sz)=⟨c0,o0+I*sz+0,none⟩:=by
       simp [Addr.add]
      have aj:(⟨c0,o0,none⟩:Addr).add (J*sz)=⟨c0,o0+J*sz+0,none⟩:=by
       simp [Addr.add]
      simp only [Nat.add_zero] at ai aj ex ey s1 s2
      simp [Extern.ReflectliteSwapper.exchange,Extern.Rtype.ofHandle,handleType,typeHandle,Result.andThen,size_of_ty g7,ai,aj,ex,ey,s1,s2]
     refine wp_of_value hc.l9 he hrun ?_
     refine hnext _ rfl _ _ E2 (upds ah [(b,some (.rows sz (((t.den ρ).R.set I (denL ρ y)).set J (denL ρ x))))]) ?_ (st1.trans st2) ?_ (.p rfl)
     ·have:=AhR_wr (ρ:=ρ) (wr:=[(b,some (.rowsT sz (.var (nv+3) [])))]) hah
      simp only [List.map_cons,List.map_nil,Option.map_some,SB.den,sy3] at this ⊢
      exact this
     ·have e2:upds (upds ah [(b,some (.rows sz ((t.den ρ).R.set I (denL ρ y))))]) [(b,some (.rows sz (((t.den ρ).R.set I (denL ρ y)).set J (denL ρ x))))]=upds ah [(b,some (.rows sz (((t.den ρ).R.set I (denL ρ y)).set J (denL ρ x))))]:=by
       simp only [upds]
       exact upd_upd _ _ _ _
      rw [e2] at hh2
      exact hh2.weaken fun b' hb'=>⟨⟨hb',fun e=>hnb (e▸hb')⟩,fun e=>hnb (e▸hb')⟩
    ·cases h
   ·cases h
  ·cases h
def hasF (l:List FuncId):Nat→SV→Bool
 |0,_=>true
 |n+1,.fn f _ _=>l.contains f
 |n+1,.agg cs=>cs.any (hasF l n)
 |_,_=>false
def notF (l:List FuncId)(I:Inl):Inl:=fun pc th nx nv f args=>bif args.any (hasF l 5) then none else I pc th nx nv f args
theorem notF_ok {P:Program}{l:List FuncId}{I:Inl}(h:∀σ:List AV,fzL σ=true→InlOk P σ I):∀σ:List AV,fzL σ=true→InlOk P σ (notF l I):=by
 intro σ hσ pc th nx nv f args R hR
 unfold notF at hR
 cases hb:args.any (hasF l 5)
 ·rw [hb] at hR;exact h σ hσ pc th nx nv f args R hR
 ·rw [hb] at hR;cases hR
end Go.Fw
end
section
set_option linter.unusedVariables false
set_option linter.unusedSimpArgs false
set_option linter.unusedSectionVars false
namespace Go.Fw
open Go.Proofs
set_option maxRecDepth 100000
theorem hmix : Tryd.prog.follows .mixedOrders=true:=by kernel_rfl
def refCfg : RefCfg:=⟨17,20,18,26,27,34⟩
theorem refOk : RefOk Tryd.prog refCfg where
 vo:=fun args w=>run_callFunc_extern Tryd.func17 (by kernel_rfl) (by kernel_rfl) (by kernel_rfl) (e:=fun args=>Extern.ReflectliteValue.unpack (args.getD 0 (.tuple #[]))) (by kernel_rfl) args w
 ln:=fun args w=>run_callFunc_extern Tryd.func20 (by kernel_rfl) (by kernel_rfl) (by kernel_rfl) (e:=Extern.ReflectliteValue.method (Extern.ReflectliteValue.valueError "reflectlite.Value.Len" 0) Extern.ReflectliteValue.len) (by kernel_rfl) args w
 sw:=fun args w=>run_callFunc_extern Tryd.func18 (by kernel_rfl) (by kernel_rfl) (by kernel_rfl) (e:=Extern.ReflectliteSwapper.swapper "internal/reflectlite" (Extern.ReflectliteValue.valueError "Swapper")) (by kernel_rfl) args w
 l9:=fun args w=>run_callFunc_extern Tryd.func34 (by kernel_rfl) (by kernel_rfl) (by kernel_rfl) (e:=Extern.ReflectliteSwapper.swap false) (by kernel_rfl) args w
 n1:=by kernel_rfl
 n2:=by kernel_rfl
 n9:=by kernel_rfl
end Go.Fw
end
section
set_option linter.unusedVariables false
set_option linter.unusedSimpArgs false
set_option linter.unusedSectionVars false
namespace Go.Fw
set_option linter.unusedVariables false
set_option maxRecDepth 100000
open Go.Proofs
noncomputable def xB0 : Ext':=xClone Tryd.prog
theorem xB0_ok : ∀σ:List AV,fzL σ=true→ExtOk Tryd.prog σ xB0:=xClone_ok
def mdB0 : Md:=mdT 182687704666362891819602247876938031059013293408
def fcB0 : FuncId→FCfg:=fcT [[],[],[],[0,2,3,4,5,6,7,8,9,11,13,14,20,21,22,34,35,36,37,38,39,43,56,57,58,59,60,61,62,63,64,65,66,67,68,69,71,104,105,106,107,108,109,110,111,112,113,114,115,119,127,133,134,135,136,137,138,139,147,148,149,150,151,152,153,154,155,156],[0,1,2,3,17,18,19,20,21,24,27,28,31,32,33],[0,2,3,4],[0,3,4,5,6,10,18],[1,2,4,10,13],[1,2,3,4,5,10,11,12,15,16,17,18,21,22,23,24,25,26,27,28,29,30,31,34,35,36,44,45,46,47,48,49,61],[0,2],[1,2,5],[0,2,6,7,8],[0,1,2,5,6,7,8,9,30,31,32,33,34,35,36,37],[1,2,3,4,5,11,14],[0,1,4,5],[0,2],[0,2,3,4,5,8,9,10,17,25,29,33,37],[],[],[1,2,4,5,6,7,11,26,31,49],[],[0,2],[0,1,4],[0,1,4,5],[0,2,4],[0,2],[],[],[],[],[],[],[],[],[],[1,2,3,6,7,12,20,21,22,23,24,25,26],[1,2,3,4,8,9,10,11,12,13,14,15,16,17,18,19,20,21,22,26,31,42,50,62,67,79,86,106,117,131,142,143,144,145,155,156,157,158,168,169,170,171],[0,1,4,5,6,7,9,11,15,16,17,23,34],[0,6,19],[1,2,3,4,8,9,18,21],[0,2,4],[0,2,3],[0,1,4,5,6,7,8,9,10,11,12,13,14,15,16,20,99,139,161],[0,1,2,3,4,10,11,12,13,14,15,16,17,18,22,23,26,27,28,30,34,46,68,89,94],[],[1,2,3,4,8,11],[0,2],[0,2,4,8,14],[0,2,3],[0,2],[0,2],[0,2,4],[0,2,4],[],[],[],[],[],[],[],[],[],[],[],[],[],[],[],[],[],[],[],[],[],[],[],[],[],[]]
noncomputable def i0 : Inl:=(inlRef Tryd.prog refCfg)
theorem i0_ok : ∀σ:List AV,fzL σ=true→InlOk Tryd.prog σ i0:=(inlRef_ok refOk)
def tab_law08_alive : List (FuncId×List SV×SV):=[]
noncomputable def x_law08_alive : Ext':=xOr (xTab tab_law08_alive) xB0
theorem e_law08_alive : sFnI Tryd.prog x_law08_alive i0 mdB0 fcB0 300 200 4 [] 0=some ⟨[((.lb true),(.sc .bool (.lb true)))],
 [],[]⟩:=by kernel_rfl
theorem pc_law08_alive : PC Tryd.prog 4 [] (.p (.bool (law08_alive))):=
 mk_pcXI (ρ:=[]) hmix (xOr_ok (xTab_ok tab_law08_alive) xB0_ok) i0_ok e_law08_alive (fzn)
  (sn)
  rfl (selL (by kernel_rfl))
end Go.Fw
end
section
set_option linter.unusedVariables false
set_option linter.unusedSimpArgs false
set_option linter.unusedSectionVars false
namespace Go.Fw
set_option linter.unusedSectionVars false
set_option linter.unusedSimpArgs false
set_option linter.unusedVariables false
abbrev LF :=List (Nat×Int)
def LF.ev (v:Nat→Int):LF→Int
 |[]=>0
 |x::r=>x.2*v x.1+LF.ev v r
theorem LF.ev_app {v:Nat→Int}:∀{a b:LF},LF.ev v (a++b)=a.ev v+b.ev v
 |[],b=>by simp [LF.ev]
 |x::a,b=>by simp only [List.cons_append,LF.ev,LF.ev_app (a:=a) (b:=b)];omega
def cns (i:Nat)(c:Int)(l:LF):LF:=fInt' c fun c=>match c with
 | .ofNat 0=>l
 |c=>(i,c)::l
theorem cns_ev {v:Nat→Int}{i:Nat}{c:Int}{l:LF}:(cns i c l).ev v=c*v i+l.ev v:=by
 unfold cns
 rw [fInt'_eq]
 split
 ·simp
 ·rfl
def mrg : Nat→LF→LF→LF
 |0,a,b=>a++b
 |n+1,a,b=>match a with
  |[]=>b
  |x::a'=>match b with
   |[]=>x::a'
   |y::b'=>bif Nat.blt x.1 y.1 then x::mrg n a' (y::b') else bif Nat.blt y.1 x.1 then y::mrg n (x::a') b' else cns x.1 (x.2+y.2) (mrg n a' b')
theorem mrg_ev {v:Nat→Int}:∀{n:Nat} {a b:LF},(mrg n a b).ev v=a.ev v+b.ev v
 |0,a,b=>LF.ev_app
 |n+1,[],b=>by simp [mrg,LF.ev]
 |n+1,x::a,[]=>by simp [mrg,LF.ev]
 |n+1,x::a,y::b=>by
  simp only [mrg]
  cases h:Nat.blt x.1 y.1
  ·simp only [cond_false]
   cases h2:Nat.blt y.1 x.1
   ·have e:x.1=y.1:=by
     have h1:¬x.1<y.1:=fun q=>by rw [show Nat.blt x.1 y.1=true by rw [Nat.blt_eq];exact q] at h;cases h
     have h3:¬y.1<x.1:=fun q=>by rw [show Nat.blt y.1 x.1=true by rw [Nat.blt_eq];exact q] at h2;cases h2
     omega
    simp only [cond_false,cns_ev,mrg_ev (n:=n) (a:=a) (b:=b),LF.ev,e,Int.add_mul];omega
   ·simp only [cond_true,LF.ev,mrg_ev (n:=n) (a:=x::a) (b:=b)];omega
  ·simp only [cond_true,LF.ev,mrg_ev (n:=n) (a:=a) (b:=y::b)];omega
def scl (k:Int):LF→LF
 |[]=>[]
 |x::r=>cns x.1 (k*x.2) (scl k r)
theorem scl_ev {v:Nat→Int}{k:Int}:∀{a:LF},(scl k a).ev v=k*a.ev v
 |[]=>by simp [scl,LF.ev]
 |x::r=>by simp only [scl,cns_ev,LF.ev,scl_ev (a:=r),Int.mul_add,Int.mul_assoc]
def addL (a b:LF):LF:=mrg 60 a b
def subL (a b:LF):LF:=mrg 60 a (scl (-1) b)
theorem addL_ev {v:Nat→Int}{a b:LF}:(addL a b).ev v=a.ev v+b.ev v:=mrg_ev
theorem subL_ev {v:Nat→Int}{a b:LF}:(subL a b).ev v=a.ev v-b.ev v:=by
 unfold subL;rw [mrg_ev,scl_ev];omega
def cof (i:Nat):LF→Int
 |[]=>0
 |x::r=>bif Nat.beq x.1 i then x.2 else cof i r
def isNeg : Int→Bool
 | .ofNat _=>false
 | .negSucc _=>true
theorem isNeg_iff {n:Int}:isNeg n=true↔n<0:=by cases n<;>simp [isNeg]
def absN (n:Int):Int:=match n with | .ofNat m=>.ofNat m | .negSucc m=>.ofNat (m+1)
theorem absN_nn {n:Int}:0≤absN n:=by
 cases n with
 |ofNat m=>simp [absN]
 |negSucc m=>simp [absN];omega
def comb (c d:Int)(N f:LF):LF:=bif Nat.beq c.natAbs d.natAbs then addL N f else match absN d with
 | .ofNat 1=>addL N (scl (absN c) f)
 |_=>addL (scl (absN d) N) (scl (absN c) f)
theorem comb_ev {v:Nat→Int}{c d:Int}{N f:LF}(hN:0≤N.ev v)(hf:0≤f.ev v):0≤(comb c d N f).ev v:=by
 have:=Int.mul_nonneg (absN_nn (n:=d)) hN
 have:=Int.mul_nonneg (absN_nn (n:=c)) hf
 unfold comb
 cases Nat.beq c.natAbs d.natAbs
 ·simp only [cond_false]
  split<;>simp only [addL_ev,scl_ev]<;>omega
 ·simp only [cond_true,addL_ev];omega
def partC (c d:Int):Bool:=Nat.blt d.natAbs c.natAbs&&Nat.ble c.natAbs 4
def opp (i:Nat)(ng:Bool):List LF→List LF
 |[]=>[]
 |f::r=>match cof i f with
  | .ofNat 0=>opp i ng r
  | .ofNat (_+1)=>bif ng then f::opp i ng r else opp i ng r
  | .negSucc _=>bif ng then opp i ng r else f::opp i ng r
theorem opp_mem {i:Nat}{ng:Bool}:∀{fs:List LF} {f:LF},f∈opp i ng fs→f∈fs
 |[],f,h=>by simp [opp] at h
 |g::r,f,h=>by
  unfold opp at h
  split at h
  ·exact List.mem_cons_of_mem _ (opp_mem h)
  ·cases ng
   ·exact List.mem_cons_of_mem _ (opp_mem h)
   ·simp only [cond_true,List.mem_cons] at h
    rcases h with h|h
    ·simp [h]
    ·exact List.mem_cons_of_mem _ (opp_mem h)
  ·cases ng
   ·simp only [cond_false,List.mem_cons] at h
    rcases h with h|h
    ·simp [h]
    ·exact List.mem_cons_of_mem _ (opp_mem h)
   ·exact List.mem_cons_of_mem _ (opp_mem h)
def pickA (fs:List LF):LF→Option (Int×Nat×Nat×List LF)→Option (Int×Nat×Nat×List LF)
 |[],b=>b
 |(0,_)::r,b=>pickA fs r b
 |(i+1,c)::r,b=>
  let o:=opp (i+1) (isNeg c) fs
  fNat o.length fun n=>match b with
   |none=>pickA fs r (some (c,i+1,n,o))
   |some (c',j,m,o')=>bif Nat.blt n m then pickA fs r (some (c,i+1,n,o)) else pickA fs r (some (c',j,m,o'))
theorem pickA_mem {fs:List LF}:∀{N:LF} {b:Option (Int×Nat×Nat×List LF)} {x},(∀y,b=some y→∀f∈y.2.2.2,f∈fs)→pickA fs N b=some x→∀f∈x.2.2.2,f∈fs
 |[],b,x,hb,h=>hb x h
 |(0,_)::r,b,x,hb,h=>pickA_mem (N:=r) hb h
 |(i+1,c)::r,b,x,hb,h=>by
  have hs:∀(n:Nat) (y:Int×Nat×Nat×List LF),some (c,i+1,n,opp (i+1) (isNeg c) fs)=some y→∀f∈y.2.2.2,f∈fs:=by
   intro n y hy f hf
   simp only [Option.some.injEq] at hy;subst hy
   exact opp_mem hf
  simp only [pickA,fNat_eq] at h
  split at h
  ·exact pickA_mem (N:=r) (hs _) h
  ·rename_i c' j m o'
   cases hl:Nat.blt (opp (i+1) (isNeg c) fs).length m
   ·rw [hl] at h;exact pickA_mem (N:=r) hb h
   ·rw [hl] at h;exact pickA_mem (N:=r) (hs _) h
def refC (N:LF):Bool:=match N with
 |[(0,c)]=>isNeg c
 |_=>false
def anyF (g:LF→Nat→Option Nat):List LF→Nat→Option Nat
 |[],b=>some b
 |f::r,b=>match g f b with
  |none=>none
  |some b'=>anyF g r b'
def shortF : LF→Bool
 |[]=>true
 |[_]=>true
 |[_,_]=>true
 |_=>false
def ordF (o:List LF):List LF:=o.filter shortF++o.filter fun f=>!(shortF f)
theorem ordF_mem {o:List LF}{f:LF}(h:f∈ordF o):f∈o:=by
 rcases List.mem_append.1 h with h|h<;>exact (List.mem_filter.1 h).1
def refuteF : Nat→List LF→LF→Nat→Option Nat
 |0,_,_,b=>some b
 |d+1,fs,N,b=>match b with
  |0=>some 0
  |b+1=>match pickA fs N none with
   |none=>bif refC N then none else some b
   |some (c,i,_,o)=>anyF (fun f b=>match refuteF d fs (comb c (cof i f) N f) b with
    |none=>none
    |some b'=>bif partC c (cof i f) then refuteF d fs (addL N f) b' else some b') (ordF o) b
theorem anyF_none {g:LF→Nat→Option Nat}:∀{l:List LF} {b:Nat},anyF g l b=none→∃f∈l,∃b',g f b'=none
 |[],b,h=>by simp [anyF] at h
 |f::r,b,h=>by
  simp only [anyF] at h
  split at h
  ·rename_i hg
   exact ⟨f,List.mem_cons_self ..,b,hg⟩
  ·obtain ⟨f',hf',b',hb'⟩:=anyF_none h
   exact ⟨f',List.mem_cons_of_mem _ hf',b',hb'⟩
theorem refuteF_ok {v:Nat→Int}(hv:v 0=1){fs:List LF}(hfs:∀f∈fs,0≤f.ev v):∀{d:Nat} {N:LF} {b:Nat},refuteF d fs N b=none→¬0≤N.ev v
 |0,N,b,h=>by simp [refuteF] at h
 |d+1,N,b,h=>by
  intro hN
  simp only [refuteF] at h
  split at h
  ·cases h
  split at h
  ·cases hc:refC N
   ·rw [hc] at h;cases h
   ·unfold refC at hc
    split at hc
    ·rw [isNeg_iff] at hc
     simp only [LF.ev,hv] at hN
     omega
    ·cases hc
  ·rename_i c i n o hp
   obtain ⟨f,hf,b',h⟩:=anyF_none h
   have hm:=pickA_mem (fs:=fs) (N:=N) (b:=none) (by simp) hp f (ordF_mem hf)
   split at h
   ·rename_i h'
    exact refuteF_ok hv hfs h' (comb_ev hN (hfs f hm))
   ·cases hq:partC c (cof i f)
    ·rw [hq] at h;cases h
    ·rw [hq] at h
     exact refuteF_ok hv hfs h (by rw [addL_ev];have:=hfs f hm;omega)
def nonO : Option Nat→Bool
 |none=>true
 |some _=>false
def prv1 (fs:List LF)(f:LF):Bool:=nonO (refuteF 3 fs (addL (scl (-1) f) [(0,-1)]) 60)||(nonO (refuteF 5 fs (addL (scl (-1) f) [(0,-1)]) 300)||nonO (refuteF 8 fs (addL (scl (-1) f) [(0,-1)]) 1500))
theorem nonO_eq {o:Option Nat}(h:nonO o=true):o=none:=by cases o<;>first|rfl|cases h
theorem prv1_ok {v:Nat→Int}(hv:v 0=1){fs:List LF}(hfs:∀f∈fs,0≤f.ev v){f:LF}(h:prv1 fs f=true):0≤f.ev v:=by
 have:¬0≤(addL (scl (-1) f) [(0,-1)]).ev v:=by
  simp only [prv1,Bool.or_eq_true] at h
  rcases h with h|h|h<;>exact refuteF_ok hv hfs (nonO_eq h)
 rw [addL_ev,scl_ev] at this
 simp only [LF.ev,hv] at this
 omega
def vl (ρ:List AV)(az:List Tm):Nat→Int
 |0=>1
 |i+1=>match az[i]? with
  |some t=>(t.den ρ).I
  |none=>0
def Hold (ρ:List AV)(az:List Tm)(f:LF)(x:Int):Prop:=∀bs,az <+: bs→f.ev (vl ρ bs)=x
def Pos (ρ:List AV)(az:List Tm)(f:LF):Prop:=∀bs,az <+: bs→0≤f.ev (vl ρ bs)
theorem Hold.mono {ρ:List AV}{az bs:List Tm}{f:LF}{x:Int}(h:Hold ρ az f x)(hp:az <+: bs):Hold ρ bs f x:=fun cs hc=>h cs (hp.trans hc)
theorem Pos.mono {ρ:List AV}{az bs:List Tm}{f:LF}(h:Pos ρ az f)(hp:az <+: bs):Pos ρ bs f:=fun cs hc=>h cs (hp.trans hc)
def PosL (ρ:List AV)(az:List Tm)(fs:List LF):Prop:=∀f∈fs,Pos ρ az f
theorem PosL.mono {ρ:List AV}{az bs:List Tm}{fs:List LF}(h:PosL ρ az fs)(hp:az <+: bs):PosL ρ bs fs:=fun f hf=>(h f hf).mono hp
theorem PosL.cons {ρ:List AV}{az:List Tm}{f:LF}{fs:List LF}(h:Pos ρ az f)(k:PosL ρ az fs):PosL ρ az (f::fs):=fun g hg=>by
 rcases List.mem_cons.1 hg with rfl|hg
 ·exact h
 ·exact k g hg
theorem PosL.app {ρ:List AV}{az:List Tm}{fs gs:List LF}(h:PosL ρ az fs)(k:PosL ρ az gs):PosL ρ az (fs++gs):=fun g hg=>by
 rcases List.mem_append.1 hg with hg|hg
 ·exact h g hg
 ·exact k g hg
theorem prv1_pos {ρ:List AV}{az:List Tm}{fs:List LF}(hfs:PosL ρ az fs){f:LF}(h:prv1 fs f=true):Pos ρ az f:=fun bs hb=>
 prv1_ok rfl (fun g hg=>hfs g hg bs hb) h
def tmIdx (t:Tm):Nat→List Tm→Option Nat
 |_,[]=>none
 |i,x::r=>bif x.beq t then some i else tmIdx t (i+1) r
theorem tmIdx_ok {t:Tm}:∀{az:List Tm} {i j:Nat},tmIdx t i az=some j→i≤j∧az[j-i]?=some t
 |[],i,j,h=>by simp [tmIdx] at h
 |x::r,i,j,h=>by
  simp only [tmIdx] at h
  cases hb:x.beq t
  ·rw [hb] at h
   obtain ⟨h1,h2⟩:=tmIdx_ok (az:=r) h
   refine ⟨by omega,?_⟩
   have:j-i=(j-(i+1))+1:=by omega
   rw [this];simpa using h2
  ·rw [hb] at h
   simp only [cond_true,Option.some.injEq] at h
   subst h
   simp [Tm.beq_eq hb]
structure LR where
 az:List Tm
 fs:List LF
 f:LF
def LROk (ρ:List AV)(az:List Tm)(r:LR)(x:Int):Prop:=az <+: r.az∧PosL ρ r.az r.fs∧Hold ρ r.az r.f x
def atomL (t:Tm)(ex:Nat→List LF)(az:List Tm)(fs:List LF):LR:=
 match tmIdx t 0 az with
 |some i=>⟨az,fs,[(i+1,1)]⟩
 |none=>fNat az.length fun n=>⟨az++[t],ex (n+1)++fs,[(n+1,1)]⟩
theorem pre_get {az bs:List Tm}{i:Nat}{t:Tm}(h:az[i]?=some t)(hp:az <+: bs):bs[i]?=some t:=by
 obtain ⟨c,rfl⟩:=hp
 have:=(List.getElem?_eq_some_iff.1 h).1
 rw [List.getElem?_append_left this,h]
theorem one_ev {v:Nat→Int}{i:Nat}:LF.ev v [(i,1)]=v i:=by simp [LF.ev]
theorem atomL_ok {ρ:List AV}{t:Tm}{ex:Nat→List LF}{az:List Tm}{fs:List LF}(hfs:PosL ρ az fs)
  (hex:∀v:Nat→Int,v 0=1→∀n,v n=(t.den ρ).I→(∀f∈fs,0≤f.ev v)→(∃bs,az <+: bs∧v=vl ρ bs)→∀f∈ex n,0≤f.ev v):LROk ρ az (atomL t ex az fs) (t.den ρ).I:=by
 unfold atomL
 split
 ·rename_i i h
  obtain ⟨-,h2⟩:=tmIdx_ok h
  refine ⟨List.prefix_refl _,hfs,fun bs hb=>?_⟩
  rw [one_ev]
  simp only [vl,pre_get (by simpa using h2) hb]
 ·rw [fNat_eq]
  have hp:az <+: az++[t]:=List.prefix_append _ _
  have hv:∀bs,az++[t] <+: bs→vl ρ bs (az.length+1)=(t.den ρ).I:=by
   intro bs hb
   have:(az++[t])[az.length]?=some t:=by simp
   simp only [vl,pre_get this hb]
  refine ⟨hp,PosL.app (fun f hf bs hb=>?_) (hfs.mono hp),fun bs hb=>?_⟩
  ·exact hex (vl ρ bs) rfl _ (hv bs hb) (fun g hg=>hfs g hg bs (hp.trans hb)) ⟨bs,hp.trans hb,rfl⟩ f hf
  ·rw [one_ev];exact hv bs hb
def rangeOk (k:IntKind)(fs:List LF)(f:LF):Bool:=prv1 fs (subL f [(0,k.min)])&&prv1 fs (subL [(0,k.max)] f)
theorem wrap_id {k:IntKind}{n:Int}(h0:k.min≤n)(h1:n≤k.max):k.wrap n=n:=by
 cases k<;>simp only [IntKind.min,IntKind.max,IntKind.wrap,IntKind.signed,IntKind.bits] at *<;>simp at *<;>omega
theorem rangeOk_ok {k:IntKind}{v:Nat→Int}(hv:v 0=1){fs:List LF}(hfs:∀f∈fs,0≤f.ev v){f:LF}(h:rangeOk k fs f=true):k.wrap (f.ev v)=f.ev v:=by
 unfold rangeOk at h
 rw [Bool.and_eq_true] at h
 have h1:=prv1_ok hv hfs h.1
 have h2:=prv1_ok hv hfs h.2
 rw [subL_ev] at h1 h2
 simp only [LF.ev,hv] at h1 h2
 exact wrap_id (by omega) (by omega)
def exQuo (n:Nat)(f:LF)(c:Int):List LF:=[[(n,1)],subL f (scl c [(n,1)]),subL (addL (scl c [(n,1)]) [(0,c-1)]) f]
def exRem (n:Nat)(f:LF)(c:Int):List LF:=[[(n,1)],subL [(0,c-1)] [(n,1)],subL f [(n,1)]]
def exShr (n:Nat)(f:LF)(c:Int):List LF:=[subL f (scl c [(n,1)]),subL (addL (scl c [(n,1)]) [(0,c-1)]) f]
def exNN (n:Nat):List LF:=[[(n,1)]]
def exByte (n:Nat):List LF:=[[(n,1)],subL [(0,255)] [(n,1)]]
def noEx (_:Nat):List LF:=[]
def posLit : Int→Bool
 | .ofNat (_+1)=>true
 |_=>false
theorem posLit_iff {c:Int}:posLit c=true↔0<c:=by
 cases c with
 |ofNat n=>cases n<;>simp [posLit]<;>omega
 |negSucc n=>simp [posLit]
def litI : Tm→Option Int
 | .li c=>some c
 |_=>none
theorem litI_ok {t:Tm}{c:Int}(h:litI t=some c):t=.li c:=by
 cases t<;>simp [litI] at h
 subst h;rfl
def linB (o:BinOp)(k:IntKind)(x y:Tm)(rx ry:LR):LR:=
 let t:Tm:=.bin o (.int k) x y
 match o with
 | .add=>let f:=addL rx.f ry.f;bif rangeOk k ry.fs f then ⟨ry.az,ry.fs,f⟩ else atomL t noEx ry.az ry.fs
 | .sub=>let f:=subL rx.f ry.f;bif rangeOk k ry.fs f then ⟨ry.az,ry.fs,f⟩ else atomL t noEx ry.az ry.fs
 | .mul=>match litI y with
  |some c=>let f:=scl c rx.f;bif rangeOk k ry.fs f then ⟨ry.az,ry.fs,f⟩ else atomL t noEx ry.az ry.fs
  |none=>match litI x with
   |some c=>let f:=scl c ry.f;bif rangeOk k ry.fs f then ⟨ry.az,ry.fs,f⟩ else atomL t noEx ry.az ry.fs
   |none=>atomL t noEx ry.az ry.fs
 | .quo=>match litI y with
  |some c=>bif posLit c&&(prv1 ry.fs rx.f&&rangeOk k ry.fs rx.f) then atomL t (fun n=>exQuo n rx.f c) ry.az ry.fs else atomL t noEx ry.az ry.fs
  |none=>atomL t noEx ry.az ry.fs
 | .rem=>match litI y with
  |some c=>bif posLit c&&prv1 ry.fs rx.f then atomL t (fun n=>exRem n rx.f c) ry.az ry.fs else atomL t noEx ry.az ry.fs
  |none=>atomL t noEx ry.az ry.fs
 | .shr=>match litI y with
  |some c=>bif Nat.beq c.toNat 1 then atomL t (fun n=>exShr n rx.f 2) ry.az ry.fs else atomL t noEx ry.az ry.fs
  |none=>atomL t noEx ry.az ry.fs
 |_=>atomL t noEx ry.az ry.fs
def chosen (ks:Pc):Tm→Tm
 | .ite c x y=>match ks.known c with
  |some true=>chosen ks x
  |some false=>chosen ks y
  |none=>.ite c x y
 |t=>t
theorem chosen_den {ρ:List AV}{ks:Pc}(hk:ks.holds ρ):∀{t:Tm},(chosen ks t).den ρ=t.den ρ:=by
 intro t
 induction t with
 |ite c x y _ ihx ihy=>
  simp only [chosen]
  split
  ·rename_i h
   rw [ihx,Tm.den_ite,Pc.known_holds hk h];rfl
  ·rename_i h
   rw [ihy,Tm.den_ite,Pc.known_holds hk h];rfl
  ·rfl
 |_=>rfl
def exUp (l:List UInt8)(n:Nat):List LF:=fNat l.length fun m=>[[(n,1)],subL [(0,(m:Int))] [(n,1)]]
def litS : Tm→Option (List UInt8)
 | .ls l=>some l
 |_=>none
theorem litS_ok {t:Tm}{l:List UInt8}(h:litS t=some l):t=.ls l:=by
 cases t<;>simp [litS] at h;subst h;rfl
def linS (ks:Pc):Tm→List Tm→List LF→LR
 | .ls l,az,fs=>⟨az,fs,fNat l.length fun n=>cns 0 (.ofNat n) []⟩
 | .bin o k x y,az,fs=>match o with
  | .add=>match k with
   | .str=>match linS ks x az fs with
    |⟨as1,fs1,f1⟩=>match linS ks y as1 fs1 with
     |⟨as2,fs2,f2⟩=>⟨as2,fs2,addL f1 f2⟩
   |k=>atomL (.slen (.bin .add k x y)) exNN az fs
  |o=>atomL (.slen (.bin o k x y)) exNN az fs
 | .ite c x y,az,fs=>match ks.known c with
  |some true=>linS ks x az fs
  |some false=>linS ks y az fs
  |none=>atomL (.slen (.ite c x y)) exNN az fs
 | .ssub x lo hi,az,fs=>match litS x with
  |some l=>atomL (.slen (.ssub x lo hi)) (exUp l) az fs
  |none=>atomL (.slen (.ssub x lo hi)) exNN az fs
 |t,az,fs=>atomL (.slen t) exNN az fs
def lin (ks:Pc):Tm→List Tm→List LF→LR
 | .li c,az,fs=>⟨az,fs,cns 0 c []⟩
 | .bin o kd x y,az,fs=>match kd with
  | .int k=>match lin ks x az fs with
   |⟨as1,fs1,f1⟩=>match lin ks y as1 fs1 with
    |⟨as2,fs2,f2⟩=>linB o k x y ⟨as1,fs1,f1⟩ ⟨as2,fs2,f2⟩
  |kd=>atomL (.bin o kd x y) noEx az fs
 | .conv k x,az,fs=>match lin ks x az fs with
  |⟨as1,fs1,f1⟩=>bif rangeOk k fs1 f1 then ⟨as1,fs1,f1⟩ else atomL (.conv k x) noEx as1 fs1
 | .ite c x y,az,fs=>match ks.known c with
  |some true=>lin ks x az fs
  |some false=>lin ks y az fs
  |none=>atomL (.ite c x y) noEx az fs
 | .rlen x,az,fs=>match chosen ks x with
  | .nl=>⟨az,fs,[]⟩
  |x'=>atomL (.rlen x') exNN az fs
 | .slen x,az,fs=>linS ks x az fs
 | .byte x i,az,fs=>atomL (.byte x i) exByte az fs
 |t,az,fs=>atomL t noEx az fs
theorem noEx_ok {ρ:List AV}{t:Tm}{az:List Tm}{fs:List LF}(hfs:PosL ρ az fs):LROk ρ az (atomL t noEx az fs) (t.den ρ).I:=atomL_ok hfs (fun _ _ _ _ _ _ f hf=>by simp [noEx] at hf)
theorem LROk.up {ρ:List AV}{az bs:List Tm}{r:LR}{x:Int}(hp:az <+: bs)(h:LROk ρ bs r x):LROk ρ az r x:=⟨hp.trans h.1,h.2⟩
theorem linW {ρ:List AV}{az:List Tm}{fs:List LF}{k:IntKind}{f:LF}{x:Int}{t:Tm}(hfs:PosL ρ az fs)(hf:Hold ρ az f x)(ht:(t.den ρ).I=k.wrap x):LROk ρ az (bif rangeOk k fs f then ⟨az,fs,f⟩ else atomL t noEx az fs) (t.den ρ).I:=by
 cases h:rangeOk k fs f
 ·exact noEx_ok hfs
 ·refine ⟨List.prefix_refl _,hfs,fun bs hb=>?_⟩
  rw [ht,← hf bs hb]
  exact (rangeOk_ok rfl (fun g hg=>hfs g hg bs hb) h).symm
theorem Hold.add {ρ:List AV}{az:List Tm}{f g:LF}{x y:Int}(h:Hold ρ az f x)(k:Hold ρ az g y):Hold ρ az (addL f g) (x+y):=fun bs hb=>by rw [addL_ev,h bs hb,k bs hb]
theorem Hold.sub {ρ:List AV}{az:List Tm}{f g:LF}{x y:Int}(h:Hold ρ az f x)(k:Hold ρ az g y):Hold ρ az (subL f g) (x-y):=fun bs hb=>by rw [subL_ev,h bs hb,k bs hb]
theorem Hold.scl {ρ:List AV}{az:List Tm}{f:LF}{x c:Int}(h:Hold ρ az f x):Hold ρ az (Go.Fw.scl c f) (c*x):=fun bs hb=>by rw [scl_ev,h bs hb]
theorem linB_ok {ρ:List AV}{o:BinOp}{k:IntKind}{x y:Tm}{rx ry:LR}(h1:Hold ρ rx.az rx.f (x.den ρ).I)(hp:rx.az <+: ry.az)(h2:Hold ρ ry.az ry.f (y.den ρ).I)(hfs:PosL ρ ry.az ry.fs) :
  LROk ρ ry.az (linB o k x y rx ry) ((Tm.bin o (.int k) x y).den ρ).I:=by
 have h1':=h1.mono hp
 unfold linB
 cases o<;>dsimp only
 case add=>exact linW hfs (h1'.add h2) rfl
 case sub=>exact linW hfs (h1'.sub h2) rfl
 case mul=>
  split
  ·rename_i c hc
   have:=litI_ok hc;subst this
   exact linW hfs (h1'.scl (c:=c)) (by show k.wrap ((x.den ρ).I*c)=_;rw [Int.mul_comm])
  ·split
   ·rename_i c hc
    have:=litI_ok hc;subst this
    exact linW hfs (h2.scl (c:=c)) rfl
   ·exact noEx_ok hfs
 case quo=>
  split
  ·rename_i c hc
   have:=litI_ok hc;subst this
   cases hq:posLit c&&(prv1 ry.fs rx.f&&rangeOk k ry.fs rx.f)
   ·exact noEx_ok hfs
   ·simp only [Bool.and_eq_true] at hq
    obtain ⟨q1,q2,q3⟩:=hq
    rw [posLit_iff] at q1
    rw [cond_true]
    refine atomL_ok hfs fun v hv n hn hg hbs f hf=>?_
    obtain ⟨bs,hb,rfl⟩:=hbs
    have a1:=prv1_ok hv hg q2
    have a2:=rangeOk_ok hv hg q3
    have e:=h1' bs hb
    rw [e] at a1 a2
    have hmax:(x.den ρ).I≤k.max∧k.min≤0:=by
     unfold rangeOk at q3
     rw [Bool.and_eq_true] at q3
     have h2:=prv1_ok hv hg q3.2
     rw [subL_ev,e] at h2
     simp only [LF.ev,hv] at h2
     exact ⟨by omega,by cases k<;>decide⟩
    have hn':(vl ρ bs) n=(x.den ρ).I / c:=by
     rw [hn]
     show k.wrap ((x.den ρ).I.tdiv c)=_
     rw [Int.tdiv_eq_ediv_of_nonneg a1]
     have b1:0≤(x.den ρ).I / c:=Int.ediv_nonneg a1 (by omega)
     have b2:(x.den ρ).I / c≤(x.den ρ).I:=Int.ediv_le_self _ a1
     exact wrap_id (by omega) (by omega)
    have b1:0≤(x.den ρ).I / c:=Int.ediv_nonneg a1 (by omega)
    have b3:=Int.mul_ediv_add_emod (x.den ρ).I c
    have b4:=Int.emod_nonneg (x.den ρ).I (show c≠0 by omega)
    have b5:=Int.emod_lt_of_pos (x.den ρ).I q1
    simp only [exQuo,List.mem_cons,List.not_mem_nil,or_false] at hf
    rcases hf with rfl|rfl|rfl
    ·rw [one_ev,hn'];exact b1
    ·rw [subL_ev,scl_ev,one_ev,e,hn'];omega
    ·rw [subL_ev,addL_ev,scl_ev,one_ev,e,hn']
     simp only [LF.ev,hv];omega
  ·exact noEx_ok hfs
 case rem=>
  split
  ·rename_i c hc
   have:=litI_ok hc;subst this
   cases hq:posLit c&&prv1 ry.fs rx.f
   ·exact noEx_ok hfs
   ·simp only [Bool.and_eq_true] at hq
    obtain ⟨q1,q2⟩:=hq
    rw [posLit_iff] at q1
    rw [cond_true]
    refine atomL_ok hfs fun v hv n hn hg hbs f hf=>?_
    obtain ⟨bs,hb,rfl⟩:=hbs
    have a1:=prv1_ok hv hg q2
    have e:=h1' bs hb
    rw [e] at a1
    have hn':(vl ρ bs) n=(x.den ρ).I % c:=by
     rw [hn]
     show (x.den ρ).I.tmod c=_
     exact Int.tmod_eq_emod_of_nonneg a1
    have b4:=Int.emod_nonneg (x.den ρ).I (show c≠0 by omega)
    have b5:=Int.emod_lt_of_pos (x.den ρ).I q1
    have b3:=Int.mul_ediv_add_emod (x.den ρ).I c
    have b6:0≤c*((x.den ρ).I / c):=Int.mul_nonneg (by omega) (Int.ediv_nonneg a1 (by omega))
    simp only [exRem,List.mem_cons,List.not_mem_nil,or_false] at hf
    rcases hf with rfl|rfl|rfl
    ·rw [one_ev,hn'];exact b4
    ·rw [subL_ev,one_ev,hn'];simp only [LF.ev,hv];omega
    ·rw [subL_ev,one_ev,e,hn'];omega
  ·exact noEx_ok hfs
 case shr=>
  split
  ·rename_i c hc
   have:=litI_ok hc;subst this
   cases hq:Nat.beq c.toNat 1
   ·exact noEx_ok hfs
   ·have hc1:c.toNat=1:=Nat.eq_of_beq_eq_true hq
    rw [cond_true]
    refine atomL_ok hfs fun v hv n hn hg hbs f hf=>?_
    obtain ⟨bs,hb,rfl⟩:=hbs
    have e:=h1' bs hb
    have hn':(vl ρ bs) n=(x.den ρ).I / 2:=by
     rw [hn]
     show (x.den ρ).I.fdiv (2 ^ (min c.toNat k.bits))=_
     rw [hc1,Int.fdiv_eq_ediv_of_nonneg _ (Int.pow_nonneg (by omega))]
     cases k<;>rfl
    simp only [exShr,List.mem_cons,List.not_mem_nil,or_false] at hf
    rcases hf with rfl|rfl
    ·rw [subL_ev,scl_ev,one_ev,e,hn'];omega
    ·rw [subL_ev,addL_ev,scl_ev,one_ev,e,hn']
     simp only [LF.ev,hv];omega
  ·exact noEx_ok hfs
 all_goals exact noEx_ok hfs
theorem exNN_ok {ρ:List AV}{x:Tm}{az:List Tm}{fs:List LF}(hfs:PosL ρ az fs):LROk ρ az (atomL (.slen x) exNN az fs) ((Tm.slen x).den ρ).I:=by
 refine atomL_ok hfs fun v hv n hn hg hbs f hf=>?_
 simp only [exNN,List.mem_cons,List.not_mem_nil,or_false] at hf
 subst hf
 rw [one_ev,hn]
 exact Int.natCast_nonneg _
theorem linS_ok {ρ:List AV}{ks:Pc}(hk:ks.holds ρ):∀{t:Tm} {az:List Tm} {fs:List LF},PosL ρ az fs→LROk ρ az (linS ks t az fs) ((Tm.slen t).den ρ).I:=by
 intro t
 induction t with
 |ls l=>exact fun {az fs} hfs=>⟨List.prefix_refl _,hfs,fun bs hb=>by simp only [linS,fNat_eq,cns_ev];simp [LF.ev,vl,Tm.den,D.I,D.S,sLen]⟩
 |bin o k x y ihx ihy=>
  intro az fs hfs
  cases o<;>first|exact exNN_ok hfs|skip
  cases k<;>first|exact exNN_ok hfs|skip
  obtain ⟨a1,a2,a3⟩:=ihx hfs
  obtain ⟨b1,b2,b3⟩:=ihy (az:=(linS ks x az fs).az) (fs:=(linS ks x az fs).fs) a2
  refine ⟨a1.trans b1,b2,fun bs hb=>?_⟩
  have h1:=a3.mono b1 bs hb
  have h2:=b3 bs hb
  show LF.ev _ (addL _ _)=_
  rw [addL_ev,h1,h2]
  simp [Tm.den,binD,D.I,D.S,sLen]
 |ite c x y _ ihx ihy=>
  intro az fs hfs
  simp only [linS]
  split
  ·rename_i h
   have:=Pc.known_holds hk h
   have e:((Tm.slen (.ite c x y)).den ρ).I=((Tm.slen x).den ρ).I:=by show (D.i (sLen ((Tm.ite c x y).den ρ).S)).I=_;rw [Tm.den_ite,this];rfl
   rw [e];exact ihx hfs
  ·rename_i h
   have:=Pc.known_holds hk h
   have e:((Tm.slen (.ite c x y)).den ρ).I=((Tm.slen y).den ρ).I:=by show (D.i (sLen ((Tm.ite c x y).den ρ).S)).I=_;rw [Tm.den_ite,this];rfl
   rw [e];exact ihy hfs
  ·exact exNN_ok hfs
 |ssub x lo hi _ _ _=>
  intro az fs hfs
  simp only [linS]
  split
  ·rename_i l hl
   have:=litS_ok hl;subst this
   refine atomL_ok hfs fun v hv n hn hg hbs f hf=>?_
   simp only [exUp,fNat_eq,List.mem_cons,List.not_mem_nil,or_false] at hf
   have hle:((Tm.slen (.ssub (.ls l) lo hi)).den ρ).I≤(l.length:Int):=by
    simp only [Tm.den,D.I,D.S,sLen]
    rw [List.length_take,List.length_drop]
    omega
   rcases hf with rfl|rfl
   ·rw [one_ev,hn];exact Int.natCast_nonneg _
   ·rw [subL_ev,one_ev,hn]
    simp only [LF.ev,hv];omega
  ·exact exNN_ok hfs
 |_=>intro az fs hfs;exact exNN_ok hfs
theorem lin_ok {ρ:List AV}{ks:Pc}(hk:ks.holds ρ):∀{t:Tm} {az:List Tm} {fs:List LF},PosL ρ az fs→LROk ρ az (lin ks t az fs) (t.den ρ).I:=by
 intro t
 induction t with
 |li c=>exact fun {az fs} hfs=>⟨List.prefix_refl _,hfs,fun bs hb=>by simp only [lin,cns_ev];simp [LF.ev,vl,Tm.den,D.I]⟩
 |bin o kd x y ihx ihy=>
  intro az fs hfs
  cases kd with
  |int k=>
   obtain ⟨a1,a2,a3⟩:=ihx hfs
   obtain ⟨b1,b2,b3⟩:=ihy (az:=(lin ks x az fs).az) (fs:=(lin ks x az fs).fs) a2
   exact LROk.up (a1.trans b1) (linB_ok (rx:=lin ks x az fs) a3 b1 b3 b2)
  |_=>exact noEx_ok hfs
 |conv k x ih=>
  intro az fs hfs
  obtain ⟨a1,a2,a3⟩:=ih hfs
  exact LROk.up a1 (linW a2 a3 rfl)
 |ite c x y _ ihx ihy=>
  intro az fs hfs
  simp only [lin]
  split
  ·rename_i h
   have:=Pc.known_holds hk h
   rw [Tm.den_ite,this];exact ihx hfs
  ·rename_i h
   have:=Pc.known_holds hk h
   rw [Tm.den_ite,this];exact ihy hfs
  ·exact noEx_ok hfs
 |rlen x _=>
  intro az fs hfs
  have e:((Tm.rlen x).den ρ).I=((Tm.rlen (chosen ks x)).den ρ).I:=by simp only [Tm.den,chosen_den hk]
  rw [e]
  simp only [lin]
  split
  ·rename_i hc
   rw [hc]
   exact ⟨List.prefix_refl _,hfs,fun bs hb=>rfl⟩
  refine atomL_ok hfs fun v hv n hn hg hbs f hf=>?_
  simp only [exNN,List.mem_cons,List.not_mem_nil,or_false] at hf
  subst hf
  rw [one_ev,hn]
  exact Int.natCast_nonneg _
 |slen x _=>intro az fs hfs;exact linS_ok hk hfs
 |byte x i _ _=>
  intro az fs hfs
  refine atomL_ok hfs fun v hv n hn hg hbs f hf=>?_
  have h0:((Tm.byte x i).den ρ).I=(((x.den ρ).S.getD (i.den ρ).I.toNat 0).toNat:Int):=rfl
  have h1:=UInt8.toNat_lt ((x.den ρ).S.getD (i.den ρ).I.toNat 0)
  simp only [exByte,List.mem_cons,List.not_mem_nil,or_false] at hf
  rcases hf with rfl|rfl
  ·rw [one_ev,hn,h0];omega
  ·rw [subL_ev,one_ev,hn,h0];simp only [LF.ev,hv];omega
 |_=>exact fun hfs=>noEx_ok hfs
def cmpF (o:BinOp)(b:Bool)(x y:LF):Option (List LF):=
 let one:LF:=[(0,1)]
 match o,b with
 | .lss,true=>some [subL (subL y x) one]
 | .lss,false=>some [subL x y]
 | .leq,true=>some [subL y x]
 | .leq,false=>some [subL (subL x y) one]
 | .gtr,true=>some [subL (subL x y) one]
 | .gtr,false=>some [subL y x]
 | .geq,true=>some [subL x y]
 | .geq,false=>some [subL (subL y x) one]
 | .eql,true=>some [subL x y,subL y x]
 | .neq,false=>some [subL x y,subL y x]
 |_,_=>none
def isDif (o:BinOp)(b:Bool):Bool:=match o,b with
 | .eql,false=>true
 | .neq,true=>true
 |_,_=>false
theorem cmpF_ok {o:BinOp}{k:IntKind}{b:Bool}{x y:LF}{X Y:D}{v:Nat→Int}(hv:v 0=1){l:List LF}(h:cmpF o b x y=some l)(hx:x.ev v=X.I)(hy:y.ev v=Y.I):(∀f∈l,0≤f.ev v)↔(binD o (.int k) X Y).B=b:=by
 have one:LF.ev v [(0,1)]=1:=by simp [LF.ev,hv]
 cases o<;>cases b<;>simp only [cmpF] at h<;>first|(cases h;done)|skip
 all_goals
  simp only [Option.some.injEq] at h
  subst h
  simp only [List.mem_cons,List.not_mem_nil,or_false,forall_eq_or_imp,forall_eq,subL_ev,hx,hy,one,binD,D.B,iEq,iNe,decide_eq_true_eq,decide_eq_false_iff_not,beq_iff_eq,bne_eq_false_iff_eq]
  omega
theorem isDif_ok {o:BinOp}{k:IntKind}{b:Bool}{X Y:D}(h:isDif o b=true):(binD o (.int k) X Y).B=b↔X.I≠Y.I:=by
 cases o<;>cases b<;>simp [isDif] at h<;>simp [binD,D.B,iEq,iNe]
structure AS where
 az:List Tm
 fs:List LF
def ASOk (ρ:List AV)(s:AS):Prop:=PosL ρ s.az s.fs
def addC (ks:Pc)(o:BinOp)(b:Bool)(x y:Tm)(s:AS):AS:=
 match lin ks x s.az s.fs with
 |⟨as1,fs1,f1⟩=>match lin ks y as1 fs1 with
  |⟨as2,fs2,f2⟩=>match cmpF o b f1 f2 with
   |some l=>⟨as2,l++fs2⟩
   |none=>bif isDif o b then
     bif prv1 fs2 (subL f1 f2) then ⟨as2,subL (subL f1 f2) [(0,1)]::fs2⟩ else bif prv1 fs2 (subL f2 f1) then ⟨as2,subL (subL f2 f1) [(0,1)]::fs2⟩ else ⟨as2,fs2⟩
    else ⟨as2,fs2⟩
def addT' (ks:Pc):Tm→Bool→AS→AS
 | .not x,b,s=>addT' ks x (!b) s
 | .and x y,b,s=>match b with
  |true=>addT' ks y true (addT' ks x true s)
  |false=>s
 | .or x y,b,s=>match b with
  |true=>s
  |false=>addT' ks y false (addT' ks x false s)
 | .bin o kd x y,b,s=>match kd with
  | .int _=>addC ks o b x y s
  |_=>s
 |_,_,s=>s
theorem addC_ok {ρ:List AV}{ks:Pc}(hk:ks.holds ρ){o:BinOp}{k:IntKind}{b:Bool}{x y:Tm}{s:AS}(hs:ASOk ρ s)(h:((Tm.bin o (.int k) x y).den ρ).B=b):ASOk ρ (addC ks o b x y s):=by
 obtain ⟨a1,a2,a3⟩:=lin_ok hk (t:=x) hs
 obtain ⟨b1,b2,b3⟩:=lin_ok hk (t:=y) (az:=(lin ks x s.az s.fs).az) (fs:=(lin ks x s.az s.fs).fs) a2
 have a3':=a3.mono b1
 unfold addC
 dsimp only
 split
 ·rename_i l hl
  exact PosL.app (fun f hf bs hb=>(cmpF_ok (k:=k) rfl hl (a3' bs hb) (b3 bs hb)).2 h f hf) b2
 ·cases hd:isDif o b
  ·exact b2
  ·have hne:=(isDif_ok (k:=k) hd).1 h
   simp only [cond_true]
   have one:∀bs,LF.ev (vl ρ bs) [(0,1)]=1:=by simp [LF.ev,vl]
   cases h1:prv1 (lin ks y (lin ks x s.az s.fs).az (lin ks x s.az s.fs).fs).fs (subL (lin ks x s.az s.fs).f (lin ks y (lin ks x s.az s.fs).az (lin ks x s.az s.fs).fs).f)
   ·simp only [cond_false]
    cases h2:prv1 (lin ks y (lin ks x s.az s.fs).az (lin ks x s.az s.fs).fs).fs (subL (lin ks y (lin ks x s.az s.fs).az (lin ks x s.az s.fs).fs).f (lin ks x s.az s.fs).f)
    ·exact b2
    ·refine PosL.cons (fun bs hb=>?_) b2
     have q:=prv1_pos b2 h2 bs hb
     rw [subL_ev,a3' bs hb,b3 bs hb] at q
     rw [subL_ev,subL_ev,a3' bs hb,b3 bs hb,one]
     omega
   ·refine PosL.cons (fun bs hb=>?_) b2
    have q:=prv1_pos b2 h1 bs hb
    rw [subL_ev,a3' bs hb,b3 bs hb] at q
    rw [subL_ev,subL_ev,a3' bs hb,b3 bs hb,one]
    omega
theorem addT'_ok {ρ:List AV}{ks:Pc}(hk:ks.holds ρ):∀{t:Tm} {b:Bool} {s:AS},ASOk ρ s→(t.den ρ).B=b→ASOk ρ (addT' ks t b s):=by
 intro t
 induction t with
 |not x ih=>exact fun hs h=>ih hs (by rw [← h];simp [Tm.den,D.B])
 |and x y ihx ihy=>
  intro b s hs h
  cases b
  ·exact hs
  ·have h':(x.den ρ).B=true∧(y.den ρ).B=true:=by simpa [Tm.den,D.B] using h
   exact ihy (ihx hs h'.1) h'.2
 |or x y ihx ihy=>
  intro b s hs h
  cases b
  ·have h':(x.den ρ).B=false∧(y.den ρ).B=false:=by simpa [Tm.den,D.B] using h
   exact ihy (ihx hs h'.1) h'.2
  ·exact hs
 |bin o kd x y _ _=>
  intro b s hs h
  cases kd with
  |int k=>exact addC_ok hk (k:=k) hs h
  |_=>exact hs
 |_=>exact fun hs _=>hs
def addAll (ks:Pc):Pc→AS→AS
 |[],s=>s
 |x::r,s=>addT' ks x.1 x.2 (addAll ks r s)
theorem addAll_ok {ρ:List AV}{ks:Pc}(hk:ks.holds ρ):∀{pc:Pc} {s:AS},pc.holds ρ→ASOk ρ s→ASOk ρ (addAll ks pc s)
 |[],s,_,hs=>hs
 |x::r,s,hp,hs=>addT'_ok hk (addAll_ok hk (fun y hy=>hp y (List.mem_cons_of_mem _ hy)) hs) (hp x (List.mem_cons_self ..))
def prvC (ks:Pc)(o:BinOp)(b:Bool)(x y:Tm)(s:AS):Bool:=
 match lin ks x s.az s.fs with
 |⟨as1,fs1,f1⟩=>match lin ks y as1 fs1 with
  |⟨as2,fs2,f2⟩=>match cmpF o b f1 f2 with
   |some l=>l.all (prv1 fs2)
   |none=>isDif o b&&(prv1 fs2 (subL (subL f1 f2) [(0,1)])||prv1 fs2 (subL (subL f2 f1) [(0,1)]))
def prvT (ks:Pc):Tm→Bool→AS→Bool
 | .lb v,b,_=>v == b
 | .not x,b,s=>prvT ks x (!b) s
 | .and x y,b,s=>match b with
  |true=>prvT ks x true s&&prvT ks y true s
  |false=>prvT ks x false s||prvT ks y false (addT' ks x true s)
 | .or x y,b,s=>match b with
  |true=>prvT ks x true s||prvT ks y true (addT' ks x false s)
  |false=>prvT ks x false s&&prvT ks y false s
 | .bin o kd x y,b,s=>match ks.known (.bin o kd x y) with
  |some v=>v == b
  |none=>match kd with
   | .int _=>prvC ks o b x y s
   |_=>false
 |t,b,_=>match ks.known t with
  |some v=>v == b
  |none=>false
theorem prvC_ok {ρ:List AV}{ks:Pc}(hk:ks.holds ρ){o:BinOp}{k:IntKind}{b:Bool}{x y:Tm}{s:AS}(hs:ASOk ρ s)(h:prvC ks o b x y s=true):((Tm.bin o (.int k) x y).den ρ).B=b:=by
 obtain ⟨a1,a2,a3⟩:=lin_ok hk (t:=x) hs
 obtain ⟨b1,b2,b3⟩:=lin_ok hk (t:=y) (az:=(lin ks x s.az s.fs).az) (fs:=(lin ks x s.az s.fs).fs) a2
 have a3':=a3.mono b1
 unfold prvC at h
 dsimp only at h
 have rf:=List.prefix_refl (lin ks y (lin ks x s.az s.fs).az (lin ks x s.az s.fs).fs).az
 split at h
 ·rename_i l hl
  rw [List.all_eq_true] at h
  exact (cmpF_ok (k:=k) rfl hl (a3' _ rf) (b3 _ rf)).1 fun f hf=>prv1_pos b2 (h f hf) _ rf
 ·rw [Bool.and_eq_true] at h
  refine (isDif_ok (k:=k) h.1).2 ?_
  have one:∀bs,LF.ev (vl ρ bs) [(0,1)]=1:=by simp [LF.ev,vl]
  have h2:=h.2
  rw [Bool.or_eq_true] at h2
  rcases h2 with h2|h2
  ·have q:=prv1_pos b2 h2 _ rf
   rw [subL_ev,subL_ev,a3' _ rf,b3 _ rf,one] at q
   intro e;omega
  ·have q:=prv1_pos b2 h2 _ rf
   rw [subL_ev,subL_ev,a3' _ rf,b3 _ rf,one] at q
   intro e;omega
theorem prvT_ok {ρ:List AV}{ks:Pc}(hk:ks.holds ρ):∀{t:Tm} {b:Bool} {s:AS},ASOk ρ s→prvT ks t b s=true→(t.den ρ).B=b:=by
 intro t
 have oth:∀{t:Tm} {b:Bool},(match ks.known t with|some v=>v == b|none=>false)=true→(t.den ρ).B=b:=by
  intro t b h
  split at h
  ·rename_i v hv
   rw [Pc.known_holds hk hv];simpa using h
  ·cases h
 induction t with
 |lb v=>exact fun hs h=>by simpa [prvT,Tm.den,D.B] using h
 |not x ih=>intro b s hs h;have:=ih (b:=!b) hs h;show (!(x.den ρ).B)=b;rw [this];simp
 |and x y ihx ihy=>
  intro b s hs h
  cases b
  ·simp only [prvT,Bool.or_eq_true] at h
   show ((x.den ρ).B&&(y.den ρ).B)=false
   cases hx:(x.den ρ).B
   ·rfl
   ·rcases h with h|h
    ·rw [ihx hs h] at hx;cases hx
    ·rw [ihy (addT'_ok hk hs hx) h];rfl
  ·simp only [prvT,Bool.and_eq_true] at h
   show ((x.den ρ).B&&(y.den ρ).B)=true
   rw [ihx hs h.1,ihy hs h.2];rfl
 |or x y ihx ihy=>
  intro b s hs h
  cases b
  ·simp only [prvT,Bool.and_eq_true] at h
   show ((x.den ρ).B||(y.den ρ).B)=false
   rw [ihx hs h.1,ihy hs h.2];rfl
  ·simp only [prvT,Bool.or_eq_true] at h
   show ((x.den ρ).B||(y.den ρ).B)=true
   cases hx:(x.den ρ).B
   ·rcases h with h|h
    ·rw [ihx hs h] at hx;cases hx
    ·rw [ihy (addT'_ok hk hs hx) h];rfl
   ·rfl
 |bin o kd x y _ _=>
  intro b s hs h
  simp only [prvT] at h
  split at h
  ·rename_i v hv
   rw [Pc.known_holds hk hv];simpa using h
  ·split at h
   ·exact prvC_ok hk hs h
   ·cases h
 |_=>exact fun hs h=>oth h
def iteOf : Tm→Option Tm
 | .ite c _ _=>some c
 | .bin _ _ x y=>match iteOf x with|some c=>some c|none=>iteOf y
 | .and x y=>match iteOf x with|some c=>some c|none=>iteOf y
 | .or x y=>match iteOf x with|some c=>some c|none=>iteOf y
 | .not x=>iteOf x
 | .conv _ x=>iteOf x
 | .rlen x=>iteOf x
 | .slen x=>iteOf x
 |_=>none
def iteOpen (ks:Pc):Pc→Option Tm
 |[]=>none
 |x::r=>match iteOf x.1 with
  |some c=>match ks.known c with|none=>some c|some _=>iteOpen ks r
  |none=>iteOpen ks r
def difT : Tm→Bool→Bool
 | .not t,b=>difT t (!b)
 | .bin o (.int _) _ _,b=>isDif o b
 |_,_=>false
def difs (F:Pc):Pc:=F.filter fun x=>difT x.1 x.2
def sumT : Tm→Bool
 | .not t=>sumT t
 | .and x y=>sumT x||sumT y
 | .or x y=>sumT x||sumT y
 | .bin o _ x y=>match o with
  | .lss | .leq | .gtr | .geq | .eql | .neq=>sumT x||sumT y
  |_=>true
 | .conv _ _=>true
 | .ite _ _ _=>true
 |_=>false
def asF (F:Pc):AS:=addAll F (difs F) (addAll F (F.filter fun x=>sumT x.1) (addAll F (F.filter fun x=>!(sumT x.1)) ⟨[],[]⟩))
theorem Pc.holds_filter {ρ:List AV}{F:Pc}{p:Tm×Bool→Bool}(h:F.holds ρ):Pc.holds ρ (F.filter p):=fun x hx=>h x (List.mem_filter.1 hx).1
theorem asF_ok {ρ:List AV}{F:Pc}(h:F.holds ρ):ASOk ρ (asF F):=addAll_ok h (Pc.holds_filter h) (addAll_ok h (Pc.holds_filter h) (addAll_ok h (Pc.holds_filter h) (fun f hf=>by cases hf)))
def hlf (pc:Pc):Tm→Bool→Pc
 | .and x y,b=>match b with
  |true=>[]
  |false=>match pc.known x with
   |some true=>(y,false)::hlf pc y false
   |_=>match pc.known y with
    |some true=>(x,false)::hlf pc x false
    |_=>[]
 | .or x y,b=>match b with
  |false=>[]
  |true=>match pc.known x with
   |some false=>(y,true)::hlf pc y true
   |_=>match pc.known y with
    |some false=>(x,true)::hlf pc x true
    |_=>[]
 | .not x,b=>hlf pc x (!b)
 |_,_=>[]
theorem hlf_ok {ρ:List AV}{pc:Pc}(h:pc.holds ρ):∀{t:Tm} {b:Bool},(t.den ρ).B=b→Pc.holds ρ (hlf pc t b):=by
 intro t
 induction t with
 |and x y ihx ihy=>
  intro b e
  cases b
  ·have e':((x.den ρ).B&&(y.den ρ).B)=false:=e
   simp only [hlf]
   split
   ·rename_i hx
    rw [Pc.known_holds h hx,Bool.true_and] at e'
    exact Pc.holds_cons e' (ihy e')
   ·split
    ·rename_i hy
     rw [Pc.known_holds h hy,Bool.and_true] at e'
     exact Pc.holds_cons e' (ihx e')
    ·exact fun x hx=>by cases hx
  ·exact fun x hx=>by cases hx
 |or x y ihx ihy=>
  intro b e
  cases b
  ·exact fun x hx=>by cases hx
  ·have e':((x.den ρ).B||(y.den ρ).B)=true:=e
   simp only [hlf]
   split
   ·rename_i hx
    rw [Pc.known_holds h hx,Bool.false_or] at e'
    exact Pc.holds_cons e' (ihy e')
   ·split
    ·rename_i hy
     rw [Pc.known_holds h hy,Bool.or_false] at e'
     exact Pc.holds_cons e' (ihx e')
    ·exact fun x hx=>by cases hx
 |not x ih=>
  intro b e
  have e':(!(x.den ρ).B)=b:=e
  exact ih (by rw [← e'];simp)
 |_=>intro b e x hx;cases hx
def cloP (G:Pc):Pc:=G.flatMap (fun x=>hlf G x.1 x.2)++G
theorem cloP_ok {ρ:List AV}{G:Pc}(h:G.holds ρ):Pc.holds ρ (cloP G):=fun x hx=>by
 rcases List.mem_append.1 hx with hx|hx
 ·obtain ⟨y,hy,hx⟩:=List.mem_flatMap.1 hx
  exact hlf_ok h (h y hy) x hx
 ·exact h x hx
def prove : Nat→Pc→Tm→Bool
 |0,F,t=>prvT F t true (asF F)
 |n+1,F,t=>prvT F t true (asF F)||(match iteOpen F ((t,true)::F) with
  |none=>false
  |some c=>prove n (cloP ((c,true)::F)) t&&prove n (cloP ((c,false)::F)) t)
theorem prove_ok {ρ:List AV}{t:Tm}:∀{n:Nat} {F:Pc},prove n F t=true→F.holds ρ→(t.den ρ).B=true
 |0,F,h,hF=>prvT_ok hF (asF_ok hF) h
 |n+1,F,h,hF=>by
  simp only [prove,Bool.or_eq_true] at h
  rcases h with h|h
  ·exact prvT_ok hF (asF_ok hF) h
  ·split at h
   ·cases h
   ·rename_i c _
    rw [Bool.and_eq_true] at h
    cases hc:(c.den ρ).B
    ·exact prove_ok h.2 (cloP_ok (Pc.holds_cons hc hF))
    ·exact prove_ok h.1 (cloP_ok (Pc.holds_cons hc hF))
def contra (F:Pc):Bool:=match asF F with
 |⟨_,fs⟩=>fs.any fun f=>nonO (refuteF 3 fs f 40)
theorem contra_ok {ρ:List AV}{F:Pc}(h:contra F=true)(hF:F.holds ρ):False:=by
 have hs:=asF_ok hF
 unfold contra at h
 rw [List.any_eq_true] at h
 obtain ⟨f,hf,h⟩:=h
 unfold nonO at h
 split at h
 ·rename_i e
  have hp:∀g∈(asF F).fs,0≤g.ev (vl ρ (asF F).az):=fun g hg=>hs g hg _ (List.prefix_refl _)
  exact refuteF_ok rfl hp e (hp f hf)
 ·cases h
end Go.Fw
end
section
set_option linter.unusedVariables false
set_option linter.unusedSimpArgs false
set_option linter.unusedSectionVars false
namespace Go.Fw
set_option linter.unusedSectionVars false
set_option linter.unusedSimpArgs false
set_option linter.unusedVariables false
variable [Glob]
inductive Ek where|B|I|F|S|R
def SimE : Ek→D→D→Prop
 | .B,d,d'=>d.B=d'.B
 | .I,d,d'=>d.I=d'.I
 | .F,d,d'=>d.F=d'.F
 | .S,d,d'=>d.S=d'.S
 | .R,d,d'=>d.R=d'.R
theorem SimE.of_eq {e:Ek}{d d':D}(h:d=d'):SimE e d d':=by subst h;cases e<;>rfl
def pathSV : SV→List Nat→Option SV
 |v,[]=>some v
 | .agg l,j::p=>match nthL l j with|some x=>pathSV x p|none=>none
 | .tup l,j::p=>match nthL l j with|some x=>pathSV x p|none=>none
 |_,_::_=>none
def leafT : Ek→SV→Option Tm
 | .B,.sc .bool t=>some t
 | .I,.sc (.int _) t=>some t
 | .F,.sc .flt t=>some t
 | .S,.sc .str t=>some t
 | .R,.sc .sl t=>some t
 | .R,.sf t=>some t
 | .R,.nil=>some .nl
 | .R,.slc [] _=>some .nl
 |_,_=>none
def varSV (base:Nat)(l:List SV)(i:Nat)(p:List Nat):Option SV:=match nthL l (i-base) with
 |some v=>pathSV v p
 |none=>none
def lenSV : SV→Option Tm
 | .slc rows _=>fNat rows.length fun n=>some (.li (.ofNat n))
 |v=>match leafT .R v with|some t=>some (.rlen t)|none=>none
def ekOf : Kd→Option Ek
 | .bool=>some .B
 | .int _=>some .I
 | .flt=>some .F
 | .str=>some .S
 | .sl=>none
def asVar : Tm→Option (Nat×List Nat)
 | .var i p=>some (i,p)
 |_=>none
theorem asVar_eq {t:Tm}{x:Nat×List Nat}(h:asVar t=some x):t=.var x.1 x.2:=by
 cases t<;>simp [asVar] at h
 subst h;rfl
def substE (base:Nat)(l:List SV):Ek→Tm→Option Tm
 |_,.lb v=>some (.lb v)
 |_,.li v=>some (.li v)
 |_,.lf v=>some (.lf v)
 |_,.ls v=>some (.ls v)
 |_,.nl=>some .nl
 |e,.var i p=>bif Nat.blt i base then some (.var i p) else match varSV base l i p with
  |some v=>leafT e v
  |none=>none
 |_,.bin o k x y=>match ekOf k with
  |none=>none
  |some e=>match substE base l e x with
   |none=>none
   |some x'=>match substE base l e y with
    |none=>none
    |some y'=>some (.bin o k x' y')
 |_,.not x=>match substE base l .B x with|none=>none|some x'=>some (.not x')
 |_,.and x y=>match substE base l .B x with
  |none=>none
  |some x'=>match substE base l .B y with|none=>none|some y'=>some (.and x' y')
 |_,.or x y=>match substE base l .B x with
  |none=>none
  |some x'=>match substE base l .B y with|none=>none|some y'=>some (.or x' y')
 |e,.ite c x y=>match substE base l .B c with
  |none=>none
  |some c'=>match substE base l e x with
   |none=>none
   |some x'=>match substE base l e y with|none=>none|some y'=>some (.ite c' x' y')
 |_,.conv k x=>match substE base l .I x with|none=>none|some x'=>some (.conv k x')
 |_,.slen x=>match substE base l .S x with|none=>none|some x'=>some (.slen x')
 |_,.rlen x=>match asVar x with
  |some q=>bif Nat.blt q.1 base then some (.rlen (.var q.1 q.2)) else match varSV base l q.1 q.2 with
   |some v=>lenSV v
   |none=>none
  |none=>match substE base l .R x with|none=>none|some x'=>some (.rlen x')
 |_,.byte x i=>match substE base l .S x with
  |none=>none
  |some x'=>match substE base l .I i with|none=>none|some i'=>some (.byte x' i')
 |_,_=>none
theorem pathSV_den {ρ:List AV}:∀{p:List Nat} {v w:SV},pathSV v p=some w→cellAt (v.den ρ) p=w.den ρ
 |[],v,w,h=>by
  simp only [pathSV,Option.some.injEq] at h
  subst h
  cases v.den ρ<;>rfl
 |j::p,v,w,h=>by
  cases v<;>simp only [pathSV] at h<;>first|(cases h;done)|skip
  all_goals
   split at h
   ·rename_i l x hx
    have e:=denL_get (ρ:=ρ) hx
    simp only [SV.den,cellAt,List.getD_eq_getElem?_getD,e,Option.getD_some]
    exact pathSV_den h
   ·cases h
theorem leafT_den {ρ:List AV}{e:Ek}{v:SV}{t:Tm}(h:leafT e v=some t):SimE e (t.den ρ) (v.den ρ).D:=by
 unfold leafT at h
 split at h<;>first|(cases h;done)|(simp only [Option.some.injEq] at h;subst h;rfl)
theorem getD_tk {ρ:List AV}{base i:Nat}{m:List AV}(hb:base≤ρ.length)(hi:i<base):(ρ.take base++m).getD i undefA=ρ.getD i undefA:=by
 have:i<(ρ.take base).length:=by rw [List.length_take];omega
 rw [List.getD_eq_getElem?_getD,List.getD_eq_getElem?_getD,List.getElem?_append_left this,List.getElem?_take,if_pos hi]
theorem varSV_den {ρ:List AV}{base:Nat}{l:List SV}(hb:base≤ρ.length){i:Nat}{p:List Nat}{v:SV}(hi:¬i<base)(h:varSV base l i p=some v):cellAt ((ρ.take base++denL ρ l).getD i undefA) p=v.den ρ:=by
 unfold varSV at h
 split at h
 ·rename_i w hw
  have hl:(ρ.take base).length=base:=by rw [List.length_take];omega
  rw [List.getD_eq_getElem?_getD,List.getElem?_append_right (by omega),hl,denL_get hw]
  exact pathSV_den h
 ·cases h
theorem substE_ok {ρ:List AV}{base:Nat}{l:List SV}(hb:base≤ρ.length):∀{t:Tm} {e:Ek} {t':Tm},substE base l e t=some t'→SimE e (t'.den ρ) (t.den (ρ.take base++denL ρ l)):=by
 intro t
 induction t with
 |lb v=>intro e t' h;simp only [substE,Option.some.injEq] at h;subst h;exact .of_eq rfl
 |li v=>intro e t' h;simp only [substE,Option.some.injEq] at h;subst h;exact .of_eq rfl
 |lf v=>intro e t' h;simp only [substE,Option.some.injEq] at h;subst h;exact .of_eq rfl
 |ls v=>intro e t' h;simp only [substE,Option.some.injEq] at h;subst h;exact .of_eq rfl
 |nl=>intro e t' h;simp only [substE,Option.some.injEq] at h;subst h;exact .of_eq rfl
 |var i p=>
  intro e t' h
  simp only [substE] at h
  cases hi:Nat.blt i base
  ·rw [hi] at h
   have hi':¬i<base:=fun q=>by rw [show Nat.blt i base=true by rw [Nat.blt_eq];exact q] at hi;cases hi
   simp only [cond_false] at h
   split at h
   ·rename_i v hv
    have:=leafT_den (ρ:=ρ) h
    simp only [Tm.den,varSV_den hb hi' hv]
    exact this
   ·cases h
  ·rw [hi] at h
   simp only [cond_true,Option.some.injEq] at h;subst h
   rw [Nat.blt_eq] at hi
   exact .of_eq (by simp only [Tm.den,getD_tk hb hi])
 |bin o k x y ihx ihy=>
  intro e t' h
  simp only [substE] at h
  split at h
  ·cases h
  rename_i e' he
  split at h
  ·cases h
  rename_i x' hx
  split at h
  ·cases h
  rename_i y' hy
  simp only [Option.some.injEq] at h;subst h
  have h1:=ihx hx
  have h2:=ihy hy
  refine .of_eq ?_
  cases k<;>simp only [ekOf,Option.some.injEq] at he<;>first|(cases he;done)|skip
  all_goals
   subst he
   simp only [SimE] at h1 h2
   simp only [Tm.den]
   cases o<;>simp only [binD,h1,h2]
 |not x ih=>
  intro e t' h
  simp only [substE] at h
  split at h
  ·cases h
  rename_i x' hx
  simp only [Option.some.injEq] at h;subst h
  have h1:=ih hx
  simp only [SimE] at h1
  exact .of_eq (by simp only [Tm.den,h1])
 |and x y ihx ihy=>
  intro e t' h
  simp only [substE] at h
  split at h
  ·cases h
  rename_i x' hx
  split at h
  ·cases h
  rename_i y' hy
  simp only [Option.some.injEq] at h;subst h
  have h1:=ihx hx
  have h2:=ihy hy
  simp only [SimE] at h1 h2
  exact .of_eq (by simp only [Tm.den,h1,h2])
 |or x y ihx ihy=>
  intro e t' h
  simp only [substE] at h
  split at h
  ·cases h
  rename_i x' hx
  split at h
  ·cases h
  rename_i y' hy
  simp only [Option.some.injEq] at h;subst h
  have h1:=ihx hx
  have h2:=ihy hy
  simp only [SimE] at h1 h2
  exact .of_eq (by simp only [Tm.den,h1,h2])
 |ite c x y ihc ihx ihy=>
  intro e t' h
  simp only [substE] at h
  split at h
  ·cases h
  rename_i c' hc
  split at h
  ·cases h
  rename_i x' hx
  split at h
  ·cases h
  rename_i y' hy
  simp only [Option.some.injEq] at h;subst h
  have h0:=ihc hc
  have h1:=ihx hx
  have h2:=ihy hy
  simp only [SimE] at h0
  rw [Tm.den_ite,Tm.den_ite,h0]
  cases (c.den (ρ.take base++denL ρ l)).B
  ·exact h2
  ·exact h1
 |conv k x ih=>
  intro e t' h
  simp only [substE] at h
  split at h
  ·cases h
  rename_i x' hx
  simp only [Option.some.injEq] at h;subst h
  have h1:=ih hx
  simp only [SimE] at h1
  exact .of_eq (by simp only [Tm.den,h1])
 |slen x ih=>
  intro e t' h
  simp only [substE] at h
  split at h
  ·cases h
  rename_i x' hx
  simp only [Option.some.injEq] at h;subst h
  have h1:=ih hx
  simp only [SimE] at h1
  exact .of_eq (by simp only [Tm.den,h1])
 |rlen x ih=>
  intro e t' h
  simp only [substE] at h
  split at h
  ·rename_i q hq
   have:=asVar_eq hq;subst this
   obtain ⟨i,p⟩:=q
   dsimp only at h ⊢
   cases hi:Nat.blt i base
   ·rw [hi] at h
    have hi':¬i<base:=fun q=>by rw [show Nat.blt i base=true by rw [Nat.blt_eq];exact q] at hi;cases hi
    simp only [cond_false] at h
    split at h
    ·rename_i v hv
     unfold lenSV at h
     split at h
     ·rename_i rows fl
      simp only [fNat_eq,Option.some.injEq] at h;subst h
      refine .of_eq ?_
      simp only [Tm.den,varSV_den hb hi' hv,SV.den,AV.D,D.R,lLen,denLL_length]
      rfl
     ·split at h
      ·rename_i t0 ht0
       simp only [Option.some.injEq] at h;subst h
       have:=leafT_den (ρ:=ρ) ht0
       simp only [SimE] at this
       refine .of_eq ?_
       simp only [Tm.den,varSV_den hb hi' hv,this]
      ·cases h
    ·cases h
   ·rw [hi] at h
    simp only [cond_true,Option.some.injEq] at h;subst h
    rw [Nat.blt_eq] at hi
    exact .of_eq (by simp only [Tm.den,getD_tk hb hi])
  ·split at h
   ·cases h
   rename_i x' hx
   simp only [Option.some.injEq] at h;subst h
   have h1:=ih hx
   simp only [SimE] at h1
   exact .of_eq (by simp only [Tm.den,h1])
 |byte x y ihx ihy=>
  intro e t' h
  simp only [substE] at h
  split at h
  ·cases h
  rename_i x' hx
  split at h
  ·cases h
  rename_i y' hy
  simp only [Option.some.injEq] at h;subst h
  have h1:=ihx hx
  have h2:=ihy hy
  simp only [SimE] at h1 h2
  exact .of_eq (by simp only [Tm.den,h1,h2])
 |_=>intro e t' h;simp [substE] at h
def tLe (a b:Tm):Tm:=.bin .leq (.int .i64) a b
def tLt (a b:Tm):Tm:=.bin .lss (.int .i64) a b
def tEq (a b:Tm):Tm:=.bin .eql (.int .i64) a b
def tAdd (a b:Tm):Tm:=.bin .add (.int .i64) a b
def big : Int:=4294967296
def tTop (n:Nat):Tm:=fNat n fun n=>fInt' (big-(n:Int)) .li
def tNat (n:Nat):Tm:=fNat n fun n=>.li (.ofNat n)
def tRest (x:Tm):Tm:=.bin .sub (.int .i64) (.li big) x
def Side.cnd : Side→List Tm
 | .tm t=>[t]
 | .row t i _=>[tLe (.li 0) i,tLt i (.rlen t)]
 | .rd _ t i _ _=>[tLe (.li 0) i,tLt i (.rlen t)]
 | .st t i _ _ _=>[tLe (.li 0) i,tLt i (.rlen t)]
 | .sub _ t lo hi _=>match lo,hi with
  |none,none=>[]
  |none,some h=>[tLe (.li 0) h,tLe h (.rlen t)]
  |some l,none=>[tLe (.li 0) l,tLe l (.rlen t)]
  |some l,some h=>[tLe (.li 0) l,tLe l h,tLe h (.rlen t)]
 | .mk len cap _ _=>[tLe (.li 0) len,tLe len cap,tLe cap (.li big)]
 | .app _ x y _=>[tLe (.rlen x) (tTop y.length)]
 | .app2 _ x y _=>[tLe (.rlen y) (.li big),tLe (.rlen x) (tRest (.rlen y))]
 | .len2 m y=>[tLe (.rlen y) (tTop m)]
 | .cat x y=>[tLe (.slen y) (.li big),tLe (.slen x) (tRest (.slen y))]
 | .cpy x len _ _=>[tLe len (.rlen x)]
 | .mark _ _ d len _=>[tLe len (.rlen d)]
 | .appc _ x y _=>[tLe (.rlen y) (tTop x.length)]
 |_=>[]
def AllT (ρ:List AV):List Tm→Prop
 |[]=>True
 |t::r=>(t.den ρ).B=true∧AllT ρ r
theorem AllT.of {ρ:List AV}:∀{l:List Tm},(∀t∈l,(t.den ρ).B=true)→AllT ρ l
 |[],_=>trivial
 |t::r,h=>⟨h t (List.mem_cons_self ..),AllT.of fun x hx=>h x (List.mem_cons_of_mem _ hx)⟩
theorem AllT.mem {ρ:List AV}:∀{l:List Tm},AllT ρ l→∀t∈l,(t.den ρ).B=true
 |[],_,t,ht=>by cases ht
 |x::r,h,t,ht=>by
  rcases List.mem_cons.1 ht with rfl|ht
  ·exact h.1
  ·exact AllT.mem h.2 t ht
structure Sp where
 pre:List Tm
 bnd:List Tm
 post:List Tm
structure SpT where
 c:List (Nat×Sp)
 w:List (Nat×Nat×Sp)
def sp0 : Sp:=⟨[],[],[]⟩
def SpT.at (T:SpT)(f:Nat):Sp:=go T.c
 where go:List (Nat×Sp)→Sp
  |[]=>sp0
  |x::r=>bif Nat.beq x.1 f then x.2 else go r
def SpT.atW (T:SpT)(f n0:Nat):Sp:=go T.w
 where go:List (Nat×Nat×Sp)→Sp
  |[]=>sp0
  |x::r=>bif Nat.beq x.1 f&&Nat.beq x.2.1 n0 then x.2.2 else go r
def Blk.av : Blk→AV
 | .rows _ rs=>.sl rs false
 | .rowsE _ _ rs=>.sl rs false
 |_=>.sl [] true
def avB (l:List (Nat×Blk)):List AV:=l.map fun x=>x.2.av
def SB.sv : SB→SV
 | .rows _ rs=>.slc rs false
 | .rowsE _ _ rs=>.slc rs false
 | .rowsT _ t=>.sc .sl t
 |_=>.nil
def blSV (bl:List (Nat×SB)):List SV:=bl.map fun x=>x.2.sv
theorem blSV_den {ρ:List AV}:∀{bl:List (Nat×SB)},denL ρ (blSV bl)=avB (blD ρ bl)
 |[]=>rfl
 |x::r=>by
  have ih:=blSV_den (ρ:=ρ) (bl:=r)
  simp only [blSV,avB,blD,List.map_cons,denL,List.cons.injEq] at ih ⊢
  refine ⟨?_,by simpa using ih⟩
  cases x.2<;>rfl
def CT (P:Program)(T:SpT)(f:FuncId)(az:List AV)(r:AV):Prop:=
 AllT az (T.at f).pre→PC P f az r∧(AllT az (T.at f).bnd→AllT (az++[r]) (T.at f).post)
def CTo (P:Program)(T:SpT)(f:FuncId)(az:List AV)(r:AV)(p:List Nat)(sz:Nat):Prop:=
 AllT az (T.at f).pre→PCo P f az r p sz∧(AllT az (T.at f).bnd→AllT (az++[r]) (T.at f).post)
def CTw (P:Program)(T:SpT)(f:FuncId)(az:List AV)(bin:List (Nat×Blk))(n0:Nat)(r:AV)(bout:List (Nat×Blk)):Prop:=
 AllT (az++avB bin) (T.atW f n0).pre→PWL P f az bin n0 r bout∧(AllT (az++avB bin) (T.atW f n0).bnd→AllT (az++avB bin++(r::avB bout)) (T.atW f n0).post)
def spS (T:SpT):Side→Option (Sp×List SV×List SV)
 | .call f args r=>some (T.at f,args,args++[r])
 | .callo f args r _ _ _=>some (T.at f,args,args++[r])
 | .callw f args bl n0 r bl'=>some (T.atW f n0,args++blSV bl,args++blSV bl++(r::blSV bl'))
 |_=>none
def sbL (l:List SV):List Tm→Option (List Tm)
 |[]=>some []
 |t::r=>match substE 0 l .B t with
  |none=>none
  |some t'=>match sbL l r with|none=>none|some r'=>some (t'::r')
theorem sbL_ok {ρ:List AV}{l:List SV}:∀{ts us:List Tm},sbL l ts=some us→(AllT ρ us↔AllT (denL ρ l) ts)
 |[],us,h=>by simp only [sbL,Option.some.injEq] at h;subst h;exact Iff.rfl
 |t::r,us,h=>by
  simp only [sbL] at h
  split at h
  ·cases h
  rename_i t' ht
  split at h
  ·cases h
  rename_i r' hr
  simp only [Option.some.injEq] at h;subst h
  have h1:=substE_ok (ρ:=ρ) (Nat.zero_le _) ht
  simp only [SimE,List.take_zero,List.nil_append] at h1
  exact and_congr (by rw [h1]) (sbL_ok hr)
 mutual
def osV : SV→Option (Nat×Tm)
  | .os b _ _ t=>some (b,t)
  | .agg l=>osL l
  | .fn _ x y=>match osL x with|some z=>some z|none=>osL y
  |_=>none
def osL : List SV→Option (Nat×Tm)
  |[]=>none
  |x::r=>match osV x with|some z=>some z|none=>osL r
end
def blT (b:Nat):List (Nat×SB)→Option Tm
 |[]=>none
 |x::r=>bif Nat.beq x.1 b then (match x.2 with | .rowsT _ t=>some t|_=>none) else blT b r
def osT (args:List SV)(bl:List (Nat×SB)):Tm×Tm:=match osL args with
 |some (b,t)=>match blT b bl with|some t'=>(t,t')|none=>(.li 0,.nl)
 |none=>(.li 0,.nl)
def Side.osE : Side→List Tm
 | .callw _ args bl _ _ _=>match osL args with
  |some _=>[tEq (osT args bl).1 (.rlen (osT args bl).2)]
  |none=>[]
 |_=>[]
theorem AllT.app {ρ:List AV}:∀{a b:List Tm},AllT ρ (a++b)→AllT ρ a∧AllT ρ b
 |[],b,h=>⟨trivial,h⟩
 |x::r,b,h=>⟨⟨h.1,(AllT.app h.2).1⟩,(AllT.app h.2).2⟩
def Side.wk (P:Program)(T:SpT)(ρ:List AV):Side→Prop
 | .under pc s=>Pc.holds ρ pc→s.wk P T ρ
 | .call f args r=>CT P T f (denL ρ args) (r.den ρ)
 | .callo f args r p sz fl=>CTo P T f (denL ρ args) (r.den ρ) p sz∧(fl=true→∀row∈rowsP p (r.den ρ),flatL row=true)
 | .callw f args bl n0 r bl'=>AllT ρ (Side.osE (.callw f args bl n0 r bl'))→CTw P T f (denL ρ args) (blD ρ bl) n0 (r.den ρ) (blD ρ bl')
 |s=>AllT ρ s.cnd→s.holds P ρ
def condT (T:SpT)(s:Side):Option (List Tm):=match spS T s with
 |some (sp,l,_)=>match sp.pre with
  |[]=>some s.osE
  |p=>match sbL l p with|some q=>some (q++s.osE)|none=>none
 |none=>some s.cnd
def proveL (F:Pc)(l:List Tm):Bool:=l.all (prove 2 F)||contra F
theorem proveL_ok {ρ:List AV}{F:Pc}{l:List Tm}(h:proveL F l=true)(hF:F.holds ρ):AllT ρ l:=by
 unfold proveL at h
 rw [Bool.or_eq_true,List.all_eq_true] at h
 rcases h with h|h
 ·exact AllT.of fun t ht=>prove_ok (h t ht) hF
 ·exact (contra_ok h hF).elim
theorem holds_app {ρ:List AV}{a b:Pc}(h:Pc.holds ρ a)(k:Pc.holds ρ b):Pc.holds ρ (a++b):=fun x hx=>by
 rcases List.mem_append.1 hx with hx|hx
 ·exact h x hx
 ·exact k x hx
theorem holds_l {ρ:List AV}{a b:Pc}(h:Pc.holds ρ (a++b)):Pc.holds ρ a:=fun x hx=>h x (List.mem_append.2 (.inl hx))
theorem holds_r {ρ:List AV}{a b:Pc}(h:Pc.holds ρ (a++b)):Pc.holds ρ b:=fun x hx=>h x (List.mem_append.2 (.inr hx))
def ExL (ρ:List AV):List (Pc×Tm)→Prop
 |[]=>True
 |x::r=>(Pc.holds ρ x.1→(x.2.den ρ).B=true)∧ExL ρ r
theorem ExL.app {ρ:List AV}:∀{a b:List (Pc×Tm)},ExL ρ a→ExL ρ b→ExL ρ (a++b)
 |[],_,_,h=>h
 |_::_,_,h,k=>⟨h.1,ExL.app h.2 k⟩
def knownN (pc:Pc)(t:Tm):Option Bool:=match pc.known t with
 |some b=>some b
 |none=>match t with
  | .bin .eql k x y=>match k with
   | .int k=>(match pc.known (.bin .neq (.int k) x y) with|some b=>some (!b)|none=>none)
   |_=>none
  | .bin .neq k x y=>match k with
   | .int k=>(match pc.known (.bin .eql (.int k) x y) with|some b=>some (!b)|none=>none)
   |_=>none
  |_=>none
theorem knownN_ok {ρ:List AV}{pc:Pc}(hp:pc.holds ρ){t:Tm}{b:Bool}(h:knownN pc t=some b):(t.den ρ).B=b:=by
 unfold knownN at h
 split at h
 ·rename_i v hv
  simp only [Option.some.injEq] at h;subst h
  exact Pc.known_holds hp hv
 ·split at h
  ·split at h
   ·split at h
    ·rename_i v hv
     simp only [Option.some.injEq] at h;subst h
     have:=Pc.known_holds hp hv
     rw [← this]
     simp [Tm.den,binD,D.B,iEq,iNe,bne]
    ·cases h
   ·cases h
  ·split at h
   ·split at h
    ·rename_i v hv
     simp only [Option.some.injEq] at h;subst h
     have:=Pc.known_holds hp hv
     rw [← this]
     simp [Tm.den,binD,D.B,iEq,iNe,bne]
    ·cases h
   ·cases h
  ·cases h
def knowsAll (pc:Pc)(l:Pc):Bool:=l.all fun e=>match knownN pc e.1 with|some b=>b == e.2|none=>false
theorem knowsAll_ok {ρ:List AV}{pc l:Pc}(h:knowsAll pc l=true)(hp:pc.holds ρ):Pc.holds ρ l:=by
 unfold knowsAll at h
 rw [List.all_eq_true] at h
 intro e he
 have:=h e he
 split at this
 ·rename_i b hb
  rw [knownN_ok hp hb];simpa using this
 ·cases this
def xsF (pc:Pc):List (Pc×Tm)→Pc
 |[]=>[]
 |x::r=>bif knowsAll pc x.1 then (x.2,true)::xsF pc r else xsF pc r
theorem xsF_ok {ρ:List AV}{pc:Pc}(hp:pc.holds ρ):∀{xs:List (Pc×Tm)},ExL ρ xs→Pc.holds ρ (xsF pc xs)
 |[],_=>fun x hx=>by cases hx
 |x::r,h=>by
  simp only [xsF]
  cases hk:knowsAll pc x.1
  ·exact xsF_ok hp h.2
  ·exact Pc.holds_cons (h.1 (knowsAll_ok hk hp)) (xsF_ok hp h.2)
def facts (F:Pc)(xs:List (Pc×Tm))(pc:Pc):Pc:=pc++(xsF (pc++F) xs++F)
theorem facts_ok {ρ:List AV}{F:Pc}{xs:List (Pc×Tm)}{pc:Pc}(hF:Pc.holds ρ F)(hx:ExL ρ xs)(hp:Pc.holds ρ pc):Pc.holds ρ (facts F xs pc):=
 holds_app hp (holds_app (xsF_ok (holds_app hp hF) hx) hF)
def chkS (F:Pc)(T:SpT)(xs:List (Pc×Tm)):Pc→Side→Bool
 |pc,.under pc' s=>chkS F T xs (pc'++pc) s
 |pc,s=>match condT T s with
  |none=>false
  |some []=>true
  |some l=>proveL (facts F xs pc) l
def mkX (pc:Pc):Tm→Pc×Tm
 | .or c d=>((c,false)::pc,d)
 |t=>(pc,t)
theorem mkX_ok {ρ:List AV}{pc:Pc}{t:Tm}(h:Pc.holds ρ pc→(t.den ρ).B=true):Pc.holds ρ (mkX pc t).1→((mkX pc t).2.den ρ).B=true:=by
 cases t<;>try exact h
 rename_i c d
 intro hp
 have h1:((c.den ρ).B||(d.den ρ).B)=true:=h fun x hx=>hp x (List.mem_cons_of_mem _ hx)
 have h2:(c.den ρ).B=false:=hp (c,false) (List.mem_cons_self ..)
 rw [Bool.or_eq_true] at h1
 rcases h1 with h1|h1
 ·rw [h1] at h2;cases h2
 ·exact h1
def lenF : Side→List (Pc×Tm)
 | .st t _ _ _ n=>[([],tEq (.rlen n) (.rlen t))]
 | .mk len _ _ n=>[([],tEq (.rlen n) len)]
 | .app _ x y n=>[([],tEq (.rlen n) (tAdd (.rlen x) (tNat y.length)))]
 | .app2 _ x y n=>[([],tEq (.rlen n) (tAdd (.rlen x) (.rlen y)))]
 | .appc _ x y n=>[([],tEq (.rlen n) (tAdd (.rlen y) (tNat x.length)))]
 | .cpy x _ _ n=>[([],tEq (.rlen n) (.rlen x))]
 | .mark _ _ d _ n=>[([],tEq (.rlen n) (.rlen d))]
 | .sub _ t lo hi n=>match lo,hi with
  |none,none=>[([],tEq (.rlen n) (.rlen t))]
  |none,some h=>[([],tEq (.rlen n) h)]
  |some l,none=>[([],tLe (.rlen n) (.rlen t)),([(tLe (.rlen t) (.li big),true)],tEq (.rlen n) (.bin .sub (.int .i64) (.rlen t) l))]
  |some l,some h=>[([],tLe (.rlen n) (.rlen t)),([(tLe (.rlen t) (.li big),true)],tEq (.rlen n) (.bin .sub (.int .i64) h l))]
 |_=>[]
def underX (pc:Pc):List (Pc×Tm)→List (Pc×Tm)
 |[]=>[]
 |x::r=>(x.1++pc,x.2)::underX pc r
theorem underX_ok {ρ:List AV}{pc:Pc}:∀{l xs:List (Pc×Tm)},(Pc.holds ρ pc→ExL ρ l)→ExL ρ xs→ExL ρ (underX pc l++xs)
 |[],xs,_,h=>h
 |x::r,xs,h,k=>⟨fun hp=>(h (holds_r hp)).1 (holds_l hp),underX_ok (fun hp=>(h hp).2) k⟩
def mkXs (pc:Pc):List Tm→List (Pc×Tm)
 |[]=>[]
 |t::r=>mkX pc t::mkXs pc r
theorem mkXs_ok {ρ:List AV}{pc:Pc}:∀{l:List Tm} {xs:List (Pc×Tm)},(Pc.holds ρ pc→AllT ρ l)→ExL ρ xs→ExL ρ (mkXs pc l++xs)
 |[],xs,_,h=>h
 |t::r,xs,h,k=>⟨mkX_ok fun hp=>(h hp).1,mkXs_ok (fun hp=>(h hp).2) k⟩
def sideX (F:Pc)(T:SpT)(xs:List (Pc×Tm)):Pc→Side→List (Pc×Tm)
 |pc,.under pc' s=>sideX F T xs (pc'++pc) s
 |pc,s=>match spS T s with
  |none=>underX pc (lenF s)++xs
  |some (sp,l,l2)=>match sp.post with
   |[]=>xs
   |post=>match sbL l sp.bnd with
    |none=>xs
    |some b=>bif proveL (facts F xs pc) b then (match sbL l2 post with|some q=>mkXs pc q++xs|none=>xs) else xs
def WkL (P:Program)(T:SpT)(ρ:List AV):List (Pc×Side)→Prop
 |[]=>True
 |x::r=>(Pc.holds ρ x.1→x.2.wk P T ρ)∧WkL P T ρ r
def chkSd (F:Pc)(T:SpT)(xs:List (Pc×Tm)):List (Pc×Side)→Bool
 |[]=>true
 |x::r=>chkS F T xs x.1 x.2&&chkSd F T (sideX F T xs x.1 x.2) r
def sdX (F:Pc)(T:SpT)(xs:List (Pc×Tm)):List (Pc×Side)→List (Pc×Tm)
 |[]=>xs
 |x::r=>sdX F T (sideX F T xs x.1 x.2) r
theorem lenF_ok {P:Program}{ρ:List AV}{s:Side}(h:s.holds P ρ):ExL ρ (lenF s):=by
 have eq:∀{a b:Tm},(a.den ρ).I=(b.den ρ).I→((tEq a b).den ρ).B=true:=fun h=>by
  show iEq _ _=true
  exact iEq_t.2 h
 have rl:∀{t:Tm},((Tm.rlen t).den ρ).I=((t.den ρ).R.length:Int):=rfl
 have nat:∀{n:Nat},((tNat n).den ρ).I=(n:Int):=by intro n;unfold tNat;rw [fNat_eq];rfl
 have add:∀{a b:Tm},((tAdd a b).den ρ).I=iAdd .i64 (a.den ρ).I (b.den ρ).I:=rfl
 cases s<;>try exact trivial
 case st t i off cells n=>
  obtain ⟨row,-,-,h3⟩:=h
  exact ⟨fun _=>eq (by rw [rl,rl,h3];simp),trivial⟩
 case mk len cap z n=>
  obtain ⟨h1,-,-,h4⟩:=h
  exact ⟨fun _=>eq (by rw [rl,h4];simp;omega),trivial⟩
 case app sz x y n=>
  obtain ⟨-,h2,h3⟩:=h
  refine ⟨fun _=>eq ?_,trivial⟩
  rw [rl,h3,add,rl,nat,iAddC (by omega) (by omega)]
  simp [denLL_length]
 case app2 sz x y n=>
  obtain ⟨-,-,h2,h3⟩:=h
  refine ⟨fun _=>eq ?_,trivial⟩
  rw [rl,h3,add,rl,rl,iAddC (by omega) (by omega)]
  simp
 case appc sz x y n=>
  obtain ⟨h2,h3⟩:=h
  refine ⟨fun _=>eq ?_,trivial⟩
  rw [rl,h3,add,rl,nat,iAddC (by omega) (by omega)]
  simp [denLL_length];omega
 case cpy x len y n=>
  obtain ⟨h1,h2⟩:=h
  refine ⟨fun _=>eq ?_,trivial⟩
  rw [rl,rl,h2]
  simp only [List.length_append,List.length_take,List.length_drop];omega
 case mark m t d len n=>
  obtain ⟨-,-,h3,-⟩:=h
  exact ⟨fun _=>eq (by rw [rl,rl,h3]),trivial⟩
 case sub sz t lo hi n=>
  obtain ⟨-,h1,h2,h3,h4⟩:=h
  have hl:=congrArg List.length h4
  rw [List.length_take,List.length_drop] at hl
  have bigH:Pc.holds ρ [(tLe (.rlen t) (.li big),true)]→((t.den ρ).R.length:Int)≤4294967296:=fun hp=>by
   have:=hp (_,true) (List.mem_cons_self ..)
   have q:lLen (t.den ρ).R≤big:=of_decide_eq_true this
   unfold lLen big at q;exact q
  have le:((tLe (.rlen n) (.rlen t)).den ρ).B=true:=by
   show decide (lLen (n.den ρ).R≤lLen (t.den ρ).R)=true
   exact decide_eq_true (by unfold lLen;omega)
  cases lo with
  |none=>
   cases hi with
   |none=>
    have e1:oTm ρ 0 none=0:=rfl
    have e2:oTm ρ (t.den ρ).R.length none=(t.den ρ).R.length:=rfl
    rw [e1,e2] at hl
    exact ⟨fun _=>eq (by rw [rl,rl];omega),trivial⟩
   |some b=>
    have e1:oTm ρ 0 none=0:=rfl
    have e2:oTm ρ (t.den ρ).R.length (some b)=(b.den ρ).I:=rfl
    rw [e1,e2] at hl;rw [e2] at h3;rw [e1,e2] at h2
    exact ⟨fun _=>eq (by rw [rl];omega),trivial⟩
  |some a=>
   have e1:oTm ρ 0 (some a)=(a.den ρ).I:=rfl
   rw [e1] at h1
   cases hi with
   |none=>
    have e2:oTm ρ (t.den ρ).R.length none=(t.den ρ).R.length:=rfl
    rw [e1,e2] at h2;rw [e1,e2] at hl
    refine ⟨fun _=>le,fun hp=>eq ?_,trivial⟩
    have hb:=bigH hp
    show _=iSub .i64 (lLen (t.den ρ).R) (a.den ρ).I
    unfold lLen
    rw [rl,iSubC (by omega) (by omega)]
    omega
   |some b=>
    have e2:oTm ρ (t.den ρ).R.length (some b)=(b.den ρ).I:=rfl
    rw [e1,e2] at h2;rw [e1,e2] at hl;rw [e2] at h3
    refine ⟨fun _=>le,fun hp=>eq ?_,trivial⟩
    have hb:=bigH hp
    show _=iSub .i64 (b.den ρ).I (a.den ρ).I
    rw [rl,iSubC (by omega) (by omega)]
    omega
theorem denL_app1 {ρ:List AV}{a:List SV}{b:SV}:denL ρ (a++[b])=denL ρ a++[b.den ρ]:=by rw [denL_append];rfl
theorem chkS_ok {P:Program}{ρ:List AV}{F:Pc}{T:SpT}{xs:List (Pc×Tm)}(hF:Pc.holds ρ F)(hx:ExL ρ xs):∀{s:Side} {pc:Pc},chkS F T xs pc s=true→(Pc.holds ρ pc→s.wk P T ρ)→(Pc.holds ρ pc→s.holds P ρ)∧ExL ρ (sideX F T xs pc s):=by
 intro s
 have plain:∀{s:Side} {pc:Pc},(∀pc' s',s≠.under pc' s')→spS T s=none→(s.wk P T ρ↔(AllT ρ s.cnd→s.holds P ρ))→chkS F T xs pc s=true→(Pc.holds ρ pc→s.wk P T ρ)→(Pc.holds ρ pc→s.holds P ρ)∧ExL ρ (sideX F T xs pc s):=by
  intro s pc hu hs hwk h hw
  have hh:Pc.holds ρ pc→s.holds P ρ:=fun hp=>by
   refine hwk.1 (hw hp) ?_
   have h':(match condT T s with|none=>false|some []=>true|some l=>proveL (facts F xs pc) l)=true:=by
    cases s<;>first|exact h|exact absurd rfl (hu _ _)
   unfold condT at h'
   rw [hs] at h'
   dsimp only at h'
   split at h'
   ·cases h'
   ·rename_i e;simp only [Option.some.injEq] at e;rw [e];trivial
   ·rename_i l _ e;simp only [Option.some.injEq] at e;rw [e];exact proveL_ok h' (facts_ok hF hx hp)
  have e:sideX F T xs pc s=underX pc (lenF s)++xs:=by
   cases s<;>first|exact absurd rfl (hu _ _)|(simp only [sideX,hs])
  rw [e]
  exact ⟨hh,underX_ok (fun hp=>lenF_ok (hh hp)) hx⟩
 have calls:∀{s:Side} {pc:Pc} {sp:Sp} {l l2:List SV} {A:Prop},spS T s=some (sp,l,l2)→(∀pc' s',s≠.under pc' s')→(s.wk P T ρ→AllT ρ s.osE→AllT (denL ρ l) sp.pre→s.holds P ρ∧(AllT (denL ρ l) sp.bnd→AllT (denL ρ l2) sp.post))→chkS F T xs pc s=true→(Pc.holds ρ pc→s.wk P T ρ)→(Pc.holds ρ pc→s.holds P ρ)∧ExL ρ (sideX F T xs pc s):=by
  intro s pc sp l l2 A hs hu hwk h hw
  have hpre:Pc.holds ρ pc→AllT ρ s.osE∧AllT (denL ρ l) sp.pre:=fun hp=>by
   have h':(match condT T s with|none=>false|some []=>true|some l=>proveL (facts F xs pc) l)=true:=by
    cases s<;>first|exact h|exact absurd rfl (hu _ _)
   have h2:∃l',condT T s=some l'∧AllT ρ l':=by
    split at h'
    ·cases h'
    ·rename_i e;exact ⟨_,e,trivial⟩
    ·rename_i l' _ e;exact ⟨_,e,proveL_ok h' (facts_ok hF hx hp)⟩
   obtain ⟨l',e,hl'⟩:=h2
   unfold condT at e
   rw [hs] at e
   dsimp only at e
   split at e
   ·rename_i ep
    simp only [Option.some.injEq] at e;subst e
    rw [ep];exact ⟨hl',trivial⟩
   ·split at e
    ·rename_i q hq
     simp only [Option.some.injEq] at e;subst e
     exact ⟨(AllT.app hl').2,(sbL_ok hq).1 (AllT.app hl').1⟩
    ·cases e
  refine ⟨fun hp=>(hwk (hw hp) (hpre hp).1 (hpre hp).2).1,?_⟩
  have e:sideX F T xs pc s=(match sp.post with
   |[]=>xs
   |post=>match sbL l sp.bnd with
    |none=>xs
    |some b=>bif proveL (facts F xs pc) b then (match sbL l2 post with|some q=>mkXs pc q++xs|none=>xs) else xs):=by
   cases s<;>first|exact absurd rfl (hu _ _)|(simp only [sideX,hs])
  rw [e]
  split
  ·exact hx
  ·split
   ·exact hx
   ·rename_i b hb
    cases hpv:proveL (facts F xs pc) b
    ·exact hx
    ·simp only [cond_true]
     split
     ·rename_i q hq
      refine mkXs_ok (fun hp=>?_) hx
      have h1:=(sbL_ok hb).1 (proveL_ok hpv (facts_ok hF hx hp))
      exact (sbL_ok hq).2 ((hwk (hw hp) (hpre hp).1 (hpre hp).2).2 h1)
     ·exact hx
 induction s with
 |under pc' s ih=>
  intro pc h hw
  obtain ⟨h1,h2⟩:=ih (pc:=pc'++pc) h (fun hp=>hw (holds_r hp) (holds_l hp))
  exact ⟨fun hp hp'=>h1 (holds_app hp' hp),h2⟩
 |call f args r=>
  intro pc h hw
  refine calls (A:=True) rfl (by intro _ _ e;cases e) (fun hk _ hp=>?_) h hw
  have:=hk hp
  exact ⟨this.1,fun hb=>by rw [denL_app1];exact this.2 hb⟩
 |callo f args r p sz fl=>
  intro pc h hw
  refine calls (A:=True) rfl (by intro _ _ e;cases e) (fun hk _ hp=>?_) h hw
  have:=hk.1 hp
  exact ⟨⟨this.1,hk.2⟩,fun hb=>by rw [denL_app1];exact this.2 hb⟩
 |callw f args bl n0 r bl'=>
  intro pc h hw
  refine calls (A:=True) rfl (by intro _ _ e;cases e) (fun hk ho hp=>?_) h hw
  rw [denL_append,blSV_den] at hp
  have:=hk ho hp
  refine ⟨this.1,fun hb=>?_⟩
  rw [denL_append,blSV_den] at hb
  have q:=this.2 hb
  rw [denL_append,denL_append,blSV_den]
  show AllT (_++(r.den ρ::denL ρ (blSV bl'))) _
  rw [blSV_den];exact q
 |_=>intro pc h hw;exact plain (by intro _ _ e;cases e) rfl Iff.rfl h hw
theorem chkSd_ok {P:Program}{ρ:List AV}{F:Pc}{T:SpT}(hF:Pc.holds ρ F):∀{sd:List (Pc×Side)} {xs:List (Pc×Tm)},ExL ρ xs→chkSd F T xs sd=true→WkL P T ρ sd→SidesC P ρ sd∧ExL ρ (sdX F T xs sd)
 |[],xs,hx,_,_=>⟨trivial,hx⟩
 |x::r,xs,hx,h,hw=>by
  simp only [chkSd,Bool.and_eq_true] at h
  obtain ⟨h1,h2⟩:=chkS_ok hF hx h.1 hw.1
  obtain ⟨h3,h4⟩:=chkSd_ok hF h2 h.2 hw.2
  exact ⟨⟨h1,h3⟩,h4⟩
inductive LH where
 |mk (inv:List Tm) (mt:Tm) (ft:List (Tm×Int)) (xs:List (Pc×Tm)) (at':Nat) (sub:List LH) (post:List (List Tm))
def LH.inv : LH→List Tm | .mk a _ _ _ _ _ _=>a
def LH.mt : LH→Tm | .mk _ a _ _ _ _ _=>a
def LH.ft : LH→List (Tm×Int) | .mk _ _ a _ _ _ _=>a
def LH.xs : LH→List (Pc×Tm) | .mk _ _ _ a _ _ _=>a
def LH.at' : LH→Nat | .mk _ _ _ _ a _ _=>a
def LH.sub : LH→List LH | .mk _ _ _ _ _ a _=>a
def LH.post : LH→List (List Tm) | .mk _ _ _ _ _ _ a=>a
def lh0 : LH:=.mk [] (.li 0) [] [] 0 [] []
def hdH : List LH→LH | []=>lh0|x::_=>x
def tlH : List LH→List LH | []=>[]|_::r=>r
def ftV (ρ:List AV):List (Tm×Int)→Int
 |[]=>0
 |x::r=>x.2*(x.1.den ρ).I+ftV ρ r
def ftL (ks:Pc):List (Tm×Int)→List Tm→List LF→LR
 |[],az,fs=>⟨az,fs,[]⟩
 |x::r,az,fs=>match lin ks x.1 az fs with
  |⟨as1,fs1,f1⟩=>match ftL ks r as1 fs1 with
   |⟨as2,fs2,f2⟩=>⟨as2,fs2,addL (scl x.2 f1) f2⟩
theorem ftL_ok {ρ:List AV}{ks:Pc}(hk:ks.holds ρ):∀{l:List (Tm×Int)} {az:List Tm} {fs:List LF},PosL ρ az fs→LROk ρ az (ftL ks l az fs) (ftV ρ l)
 |[],az,fs,h=>⟨List.prefix_refl _,h,fun bs hb=>rfl⟩
 |x::r,az,fs,h=>by
  obtain ⟨a1,a2,a3⟩:=lin_ok hk (t:=x.1) h
  obtain ⟨b1,b2,b3⟩:=ftL_ok hk (l:=r) (az:=(lin ks x.1 az fs).az) (fs:=(lin ks x.1 az fs).fs) a2
  exact ⟨a1.trans b1,b2,(a3.mono b1).scl.add b3⟩
def ftOk0 (F:Pc)(s:AS)(mt:Tm)(ft:List (Tm×Int)):Bool:=
 match s with
 |⟨az,fs⟩=>match lin F mt az fs with
  |⟨as1,fs1,f1⟩=>match ftL F ft as1 fs1 with
   |⟨_,fs2,f2⟩=>prv1 fs2 (Go.Fw.subL f2 f1)
theorem ftOk0_ok {ρ:List AV}{F:Pc}{mt:Tm}{ft:List (Tm×Int)}{s:AS}(h0:ASOk ρ s)(h:ftOk0 F s mt ft=true)(hF:F.holds ρ):(mt.den ρ).I≤ftV ρ ft:=by
 unfold ftOk0 at h
 obtain ⟨a1,a2,a3⟩:=lin_ok hF (t:=mt) h0
 obtain ⟨b1,b2,b3⟩:=ftL_ok hF (l:=ft) a2
 have q:=prv1_pos b2 h _ (List.prefix_refl _)
 rw [subL_ev,(a3.mono b1) _ (List.prefix_refl _),b3 _ (List.prefix_refl _)] at q
 omega
def ftOk1 (F:Pc)(mt:Tm)(ft:List (Tm×Int)):Bool:=ftOk0 F (asF F) mt ft
def ftOk : Nat→Pc→Tm→List (Tm×Int)→Bool
 |0,F,mt,ft=>ftOk1 F mt ft
 |n+1,F,mt,ft=>ftOk1 F mt ft||(match iteOpen F ((mt,true)::F) with
  |none=>false
  |some c=>ftOk n ((c,true)::F) mt ft&&ftOk n ((c,false)::F) mt ft)
theorem ftOk1_ok {ρ:List AV}{F:Pc}{mt:Tm}{ft:List (Tm×Int)}(h:ftOk1 F mt ft=true)(hF:F.holds ρ):(mt.den ρ).I≤ftV ρ ft:=ftOk0_ok (asF_ok hF) h hF
theorem ftOk_ok {ρ:List AV}{mt:Tm}{ft:List (Tm×Int)}:∀{n:Nat} {F:Pc},ftOk n F mt ft=true→F.holds ρ→(mt.den ρ).I≤ftV ρ ft
 |0,F,h,hF=>ftOk1_ok h hF
 |n+1,F,h,hF=>by
  simp only [ftOk,Bool.or_eq_true] at h
  rcases h with h|h
  ·exact ftOk1_ok h hF
  ·split at h
   ·cases h
   ·rename_i c _
    rw [Bool.and_eq_true] at h
    cases hc:(c.den ρ).B
    ·exact ftOk_ok h.2 (Pc.holds_cons hc hF)
    ·exact ftOk_ok h.1 (Pc.holds_cons hc hF)
def Tm.ren (f:Nat→Nat):Tm→Tm
 | .var i p=>fNat (f i) fun j=>.var j p
 | .bin o k x y=>.bin o k (x.ren f) (y.ren f)
 | .and x y=>.and (x.ren f) (y.ren f)
 | .or x y=>.or (x.ren f) (y.ren f)
 | .byte x y=>.byte (x.ren f) (y.ren f)
 | .not x=>.not (x.ren f)
 | .neg k x=>.neg k (x.ren f)
 | .com k x=>.com k (x.ren f)
 | .conv k x=>.conv k (x.ren f)
 | .toF x=>.toF (x.ren f)
 | .toI x=>.toI (x.ren f)
 | .slen x=>.slen (x.ren f)
 | .rlen x=>.rlen (x.ren f)
 | .bts x=>.bts (x.ren f)
 | .sbs x=>.sbs (x.ren f)
 | .ite c x y=>.ite (c.ren f) (x.ren f) (y.ren f)
 | .ssub c x y=>.ssub (c.ren f) (x.ren f) (y.ren f)
 |t=>t
theorem Tm.ren_den {f:Nat→Nat}{n:Nat}{ρ σ:List AV}(h:∀i,i<n→ρ.getD (f i) undefA=σ.getD i undefA):∀{t:Tm},t.lt n=true→(t.ren f).den ρ=t.den σ:=by
 intro t
 induction t with
 |lb|li|lf|ls|nl=>intro _;rfl
 |var i p=>intro hl;simp only [Tm.ren,fNat_eq,Tm.den];rw [h i (Nat.le_of_ble_eq_true hl)]
 |bin o k x y ihx ihy=>intro hl;simp only [Tm.lt,Bool.and_eq_true] at hl;simp only [Tm.ren,Tm.den,ihx hl.1,ihy hl.2]
 |and x y ihx ihy=>intro hl;simp only [Tm.lt,Bool.and_eq_true] at hl;simp only [Tm.ren,Tm.den,ihx hl.1,ihy hl.2]
 |or x y ihx ihy=>intro hl;simp only [Tm.lt,Bool.and_eq_true] at hl;simp only [Tm.ren,Tm.den,ihx hl.1,ihy hl.2]
 |byte x y ihx ihy=>intro hl;simp only [Tm.lt,Bool.and_eq_true] at hl;simp only [Tm.ren,Tm.den,ihx hl.1,ihy hl.2]
 |ite c x y ihc ihx ihy=>intro hl;simp only [Tm.lt,Bool.and_eq_true] at hl;simp only [Tm.ren,Tm.den,ihc hl.1,ihx hl.2.1,ihy hl.2.2]
 |ssub c x y ihc ihx ihy=>intro hl;simp only [Tm.lt,Bool.and_eq_true] at hl;simp only [Tm.ren,Tm.den,ihc hl.1,ihx hl.2.1,ihy hl.2.2]
 |not x ih=>intro hl;simp only [Tm.ren,Tm.den,ih hl]
 |neg k x ih=>intro hl;simp only [Tm.ren,Tm.den,ih hl]
 |com k x ih=>intro hl;simp only [Tm.ren,Tm.den,ih hl]
 |conv k x ih=>intro hl;simp only [Tm.ren,Tm.den,ih hl]
 |toF x ih=>intro hl;simp only [Tm.ren,Tm.den,ih hl]
 |toI x ih=>intro hl;simp only [Tm.ren,Tm.den,ih hl]
 |slen x ih=>intro hl;simp only [Tm.ren,Tm.den,ih hl]
 |rlen x ih=>intro hl;simp only [Tm.ren,Tm.den,ih hl]
 |bts x ih=>intro hl;simp only [Tm.ren,Tm.den,ih hl]
 |sbs x ih=>intro hl;simp only [Tm.ren,Tm.den,ih hl]
def shf (base pos i:Nat):Nat:=bif Nat.blt i base then i else i-base+pos
def postK (base:Nat)(pos n:Nat)(pc:Pc):List Tm→List (Pc×Tm)
 |[]=>[]
 |t::r=>bif t.lt (base+n) then (pc,t.ren (shf base pos))::postK base pos n pc r else postK base pos n pc r
def nthP : List (List Tm)→Nat→List Tm
 |[],_=>[]
 |x::_,0=>x
 |_::r,k+1=>nthP r k
def selP (base:Nat)(ms:List Nat)(k:Nat):Pc:=match ms with
 |[_,_]=>match k with
  |0=>[(.bin .eql (.int .i64) (.var base []) (.li 0),true)]
  |_=>[(.bin .eql (.int .i64) (.var base []) (.li 0),false)]
 |_=>[]
def bnF : List Tm→Pc
 |[]=>[]
 |t::r=>(tLe (.rlen t) (.li big),true)::bnF r
theorem bnF_ok {ρ:List AV}:∀{bn:List Tm},(∀t∈bn,(t.den ρ).R.length≤4294967296)→Pc.holds ρ (bnF bn)
 |[],_=>fun x hx=>by cases hx
 |t::r,h=>Pc.holds_cons (by
  have:=h t (List.mem_cons_self ..)
  show decide (lLen (t.den ρ).R≤big)=true
  exact decide_eq_true (by unfold lLen big;omega)) (bnF_ok fun x hx=>h x (List.mem_cons_of_mem _ hx))
def LenOk (outs:List (Tm×Nat×List SV))(ms:List Nat):Bool:=outs.all fun o=>match o.2.1 with
 |0=>true
 |k+1=>Nat.ble (k+1) ms.length&&Nat.ble (ms.getD k 0) o.2.2.length
def bnC (F:Pc)(xs:List (Pc×Tm))(pc:Pc)(bn:List Tm):Pc:=
 bif (let F':=facts F xs pc;bn.all fun t=>prove 1 F' (tLe (.rlen t) (.li big))) then pc else bnF bn++pc
def postX (F:Pc)(xs:List (Pc×Tm)):Lo→LH→List (Pc×Tm)
 | .mk pc base _ _ outs _ _ ms bn,h=>match h.post with
  |[]=>xs
  |p=>bif LenOk outs ms then match ms with
    |[n]=>let c:=bnC F xs pc bn;postK base (posOf base ms 0) n (selP base ms 0++c) (nthP p 0)++xs
    |[n,n']=>let c:=bnC F xs pc bn;postK base (posOf base ms 0) n (selP base ms 0++c) (nthP p 0)++(postK base (posOf base ms 1) n' (selP base ms 1++c) (nthP p 1)++xs)
    |_=>xs
   else xs
def RunP (S:List AV→Prop)(outs:List (Tm×Nat×List SV))(ρ0:List AV)(m:Nat):Nat→List AV→Nat→List AV→Prop
 |0,_,_,_=>True
 |n+1,vs,k,us=>∃cs,vs.length=m∧fzL (ρ0++vs++cs)=true∧S (ρ0++vs++cs)∧
  match selK (ρ0++vs++cs) outs with
  |none=>False
  |some (0,l)=>RunP S outs ρ0 m n (denL (ρ0++vs++cs) l) k us
  |some (j+1,l)=>k=j∧us=denL (ρ0++vs++cs) l
 mutual
def Lo.wk (P:Program)(T:SpT):Lo→LH→List AV→Prop
  | .mk pc base m entry outs sd aw ms bn,h=>fun ρ=>Pc.holds ρ pc→(∀t∈bn,(t.den ρ).R.length≤4294967296)→base≤ρ.length∧∃(n k:Nat) (us:List AV),(0<n∧ftV ρ h.ft<(n:Int))∧
   RunP (fun σ=>ExL σ h.xs∧WkL P T σ sd∧LoW P T aw h.sub σ) outs (ρ.take base) m n (denL ρ entry) k us∧ResK ρ base ms k us
def LoW (P:Program)(T:SpT):List Lo→List LH→List AV→Prop
  |[],_=>fun _=>True
  |x::r,hs=>fun σ=>x.wk P T (hdH hs) σ∧LoW P T r (tlH hs) σ
end
def subOk (base:Nat)(l:List SV)(F:Pc)(t:Tm):Bool:=match substE base l .B t with
 |some t'=>prove 2 F t'
 |none=>false
theorem subOk_ok {ρ:List AV}{base:Nat}{l:List SV}(hb:base≤ρ.length){F:Pc}{t:Tm}(h:subOk base l F t=true)(hF:Pc.holds ρ F):(t.den (ρ.take base++denL ρ l)).B=true:=by
 unfold subOk at h
 split at h
 ·rename_i t' ht
  have h1:=prove_ok h hF
  have h2:=substE_ok hb ht
  simp only [SimE] at h2
  rw [← h2];exact h1
 ·cases h
def chkQ (F:Pc)(xs:List (Pc×Tm))(q:List Tm)(Q:Pc):Nat→Pc→Bool
 |0,G=>proveL (facts F xs G) q
 |n+1,G=>match iteOpen (facts F xs G) Q with
  |none=>proveL (facts F xs G) q
  |some c=>chkQ F xs q Q n (addPc c true G)&&chkQ F xs q Q n (addPc c false G)
theorem chkQ_ok {ρ:List AV}{F:Pc}{xs:List (Pc×Tm)}{q:List Tm}{Q:Pc}(hF:Pc.holds ρ F)(hx:ExL ρ xs):∀{n:Nat} {G:Pc},chkQ F xs q Q n G=true→Pc.holds ρ G→AllT ρ q
 |0,G,h,hG=>proveL_ok h (facts_ok hF hx hG)
 |n+1,G,h,hG=>by
  simp only [chkQ] at h
  split at h
  ·exact proveL_ok h (facts_ok hF hx hG)
  ·rename_i c _
   rw [Bool.and_eq_true] at h
   cases hc:(c.den ρ).B
   ·exact chkQ_ok hF hx h.2 (addPc_holds hc hG)
   ·exact chkQ_ok hF hx h.1 (addPc_holds hc hG)
def splQ (F:Pc)(xs:List (Pc×Tm))(t:Tm)(G:Pc):Bool:=match iteOpen (facts F xs G) [(t,true)] with
 |none=>false
 |some c=>chkQ F xs [t] [(t,true)] 3 (cloP (addPc c true G))&&chkQ F xs [t] [(t,true)] 3 (cloP (addPc c false G))
theorem splQ_ok {ρ:List AV}{F:Pc}{xs:List (Pc×Tm)}{t:Tm}{G:Pc}(hF:Pc.holds ρ F)(hx:ExL ρ xs)(h:splQ F xs t G=true)(hG:Pc.holds ρ G):(t.den ρ).B=true:=by
 unfold splQ at h
 split at h
 ·cases h
 ·rename_i c _
  rw [Bool.and_eq_true] at h
  cases hc:(c.den ρ).B
  ·exact (chkQ_ok hF hx h.2 (cloP_ok (addPc_holds hc hG))).1
  ·exact (chkQ_ok hF hx h.1 (cloP_ok (addPc_holds hc hG))).1
def subQ (base:Nat)(l:List SV)(F:Pc)(xs:List (Pc×Tm))(G:Pc)(t:Tm):Bool:=match substE base l .B t with
 |some t'=>prove 2 (facts F xs G) t'||splQ F xs t' G
 |none=>false
theorem subQ_ok {ρ:List AV}{base:Nat}{l:List SV}(hb:base≤ρ.length){F:Pc}{xs:List (Pc×Tm)}{G:Pc}{t:Tm}(hF:Pc.holds ρ F)(hx:ExL ρ xs)(h:subQ base l F xs G t=true)(hG:Pc.holds ρ G):(t.den (ρ.take base++denL ρ l)).B=true:=by
 unfold subQ at h
 split at h
 ·rename_i t' ht
  have h2:=substE_ok hb ht
  simp only [SimE] at h2
  rw [← h2]
  rw [Bool.or_eq_true] at h
  rcases h with h|h
  ·exact prove_ok h (facts_ok hF hx hG)
  ·exact splQ_ok hF hx h hG
 ·cases h
def chkO1 (base:Nat)(inv:List Tm)(mt:Tm)(post:List (List Tm))(F:Pc)(xs:List (Pc×Tm))(G:Pc)(k:Nat)(l:List SV):Bool:=
 match k with
 |0=>
  let F':=facts F xs G
  inv.all (subQ base l F xs G)&&(prove 2 F' (tLe (.li 1) mt)&&(match substE base l .I mt with|some mt'=>prove 2 F' (tLt mt' mt)|none=>false))
 |k+1=>match nthP post k with
  |[]=>true
  |p=>p.all (subQ base l F xs G)
def chkO (base:Nat)(inv:List Tm)(mt:Tm)(post:List (List Tm))(F:Pc)(xs:List (Pc×Tm)):Pc→List (Tm×Nat×List SV)→Bool
 |_,[]=>true
 |G,[o]=>chkO1 base inv mt post F xs G o.2.1 o.2.2
 |G,o::o'::r=>chkO1 base inv mt post F xs (addPc o.1 true G) o.2.1 o.2.2&&chkO base inv mt post F xs (addPc o.1 false G) (o'::r)
def OutOk (base:Nat)(inv:List Tm)(mt:Tm)(post:List (List Tm))(ρ:List AV)(k:Nat)(l:List SV):Prop:=match k with
 |0=>(∀t∈inv,(t.den (ρ.take base++denL ρ l)).B=true)∧1≤(mt.den ρ).I∧(mt.den (ρ.take base++denL ρ l)).I<(mt.den ρ).I
 |k+1=>∀t∈nthP post k,(t.den (ρ.take base++denL ρ l)).B=true
theorem chkO1_ok {ρ:List AV}{base:Nat}{inv:List Tm}{mt:Tm}{post:List (List Tm)}{F:Pc}{xs:List (Pc×Tm)}{G:Pc}{k:Nat}{l:List SV}(hb:base≤ρ.length)(h:chkO1 base inv mt post F xs G k l=true)(hF:Pc.holds ρ F)(hx:ExL ρ xs)(hG:Pc.holds ρ G):OutOk base inv mt post ρ k l:=by
 have hF':=facts_ok hF hx hG
 cases k with
 |zero=>
  simp only [chkO1,Bool.and_eq_true] at h
  obtain ⟨h1,h2,h3⟩:=h
  rw [List.all_eq_true] at h1
  refine ⟨fun t ht=>subQ_ok hb hF hx (h1 t ht) hG,?_,?_⟩
  ·exact of_decide_eq_true (p:=(1:Int)≤(mt.den ρ).I) (prove_ok h2 hF')
  ·split at h3
   ·rename_i mt' hm
    have q:=substE_ok hb hm
    simp only [SimE] at q
    rw [← q]
    exact of_decide_eq_true (p:=(mt'.den ρ).I<(mt.den ρ).I) (prove_ok h3 hF')
   ·cases h3
 |succ k=>
  simp only [chkO1] at h
  intro t ht
  split at h
  ·rename_i e;rw [e] at ht;cases ht
  ·rw [List.all_eq_true] at h
   exact subQ_ok hb hF hx (h t ht) hG
theorem chkO_ok {ρ:List AV}{base:Nat}{inv:List Tm}{mt:Tm}{post:List (List Tm)}{F:Pc}{xs:List (Pc×Tm)}(hb:base≤ρ.length)(hF:Pc.holds ρ F)(hx:ExL ρ xs):∀{outs:List (Tm×Nat×List SV)} {G:Pc} {k:Nat} {l:List SV},chkO base inv mt post F xs G outs=true→Pc.holds ρ G→selK ρ outs=some (k,l)→OutOk base inv mt post ρ k l
 |[],G,k,l,_,_,hs=>by simp [selK] at hs
 |[o],G,k,l,h,hG,hs=>by
  simp only [selK,Option.some.injEq] at hs
  simp only [chkO,hs] at h
  exact chkO1_ok hb h hF hx hG
 |o::o'::r,G,k,l,h,hG,hs=>by
  simp only [chkO,Bool.and_eq_true] at h
  simp only [selK] at hs
  cases hg:(o.1.den ρ).B
  ·rw [hg] at hs
   exact chkO_ok hb hF hx h.2 (addPc_holds hg hG) hs
  ·rw [hg] at hs
   simp only [cond_true,Option.some.injEq] at hs
   rw [hs] at h
   exact chkO1_ok hb h.1 hF hx (addPc_holds hg hG)
def ltPc (n:Nat):Pc→Pc
 |[]=>[]
 |x::r=>bif x.1.lt n then x::ltPc n r else ltPc n r
theorem ltPc_ok {n:Nat}{ρ σ:List AV}(h:AgreeV n ρ σ):∀{pc:Pc},pc.holds ρ→(ltPc n pc).holds σ
 |[],_=>fun x hx=>by cases hx
 |x::r,hp=>by
  have ih:=ltPc_ok h (pc:=r) fun y hy=>hp y (List.mem_cons_of_mem _ hy)
  simp only [ltPc]
  cases hl:x.1.lt n
  ·exact ih
  ·exact Pc.holds_cons (by rw [← Tm.lt_den h hl];exact hp x (List.mem_cons_self ..)) ih
def trueAll (l:List Tm):Pc:=l.map fun t=>(t,true)
theorem trueAll_ok {ρ:List AV}{l:List Tm}(h:∀t∈l,(t.den ρ).B=true):Pc.holds ρ (trueAll l):=fun x hx=>by
 unfold trueAll at hx
 obtain ⟨t,ht,rfl⟩:=List.mem_map.1 hx
 exact h t ht
def allX (F:Pc)(T:SpT):List (Pc×Side)→Nat→List Lo→List LH→List (Pc×Tm)→List (Pc×Tm)
 |sd,_,[],_,xs=>sdX F T xs sd
 |sd,k,x::r,hs,xs=>allX F T (sd.drop ((hdH hs).at' - k)) (hdH hs).at' r (tlH hs) (postX F (sdX F T xs (sd.take ((hdH hs).at' - k))) x (hdH hs))
 mutual
def chkLo (F:Pc)(T:SpT)(xs:List (Pc×Tm)):Lo→LH→Bool
  | .mk pc base m entry outs sd aw ms bn,h=>
   let F0:=facts (bnF bn++F) xs pc
   let Fr:=trueAll h.inv++ltPc base F0
   (h.mt.lt (base+m)&&h.inv.all fun t=>t.lt (base+m))&&((match substE base entry .I h.mt with|some mt'=>ftOk 2 F0 mt' h.ft|none=>false)&&h.inv.all (subOk base entry F0)&&(chkA Fr T sd 0 aw h.sub h.xs&&chkO base h.inv h.mt h.post Fr (allX Fr T sd 0 aw h.sub h.xs) [] outs))
def chkA (F:Pc)(T:SpT):List (Pc×Side)→Nat→List Lo→List LH→List (Pc×Tm)→Bool
  |sd,_,[],_,xs=>chkSd F T xs sd
  |sd,k,x::r,hs,xs=>
   let n:=(hdH hs).at' - k
   chkSd F T xs (sd.take n)&&(let xs1:=sdX F T xs (sd.take n);chkLo F T xs1 x (hdH hs)&&chkA F T (sd.drop n) (hdH hs).at' r (tlH hs) (postX F xs1 x (hdH hs)))
end
theorem agree_app {n:Nat}{a b:List AV}(h:n≤a.length):AgreeV n a (a++b):=fun i hi=>by
 rw [List.getD_eq_getElem?_getD,List.getD_eq_getElem?_getD,List.getElem?_append_left (by omega)]
theorem run_up {S' S:List AV→Prop}{outs:List (Tm×Nat×List SV)}{ρ0:List AV}{base m:Nat}{inv:List Tm}{mt:Tm}{post:List (List Tm)}{Fb:Pc}{xs:List (Pc×Tm)}(hl0:ρ0.length=base)
  (hlt:(mt.lt (base+m)&&inv.all fun t=>t.lt (base+m))=true)
  (hFb:∀σ,AgreeV base ρ0 σ→Pc.holds σ Fb)
  (hS:∀σ,Pc.holds σ (trueAll inv++Fb)→S' σ→S σ∧ExL σ xs)
  (ho:chkO base inv mt post (trueAll inv++Fb) xs [] outs=true):∀{n:Nat} {vs:List AV} {k:Nat} {us:List AV},0<n→(∀t∈inv,(t.den (ρ0++vs)).B=true)→(mt.den (ρ0++vs)).I<(n:Int)→RunP S' outs ρ0 m n vs k us→RunN S outs ρ0 m n vs k us∧∀t∈nthP post k,(t.den (ρ0++us)).B=true
 |0,_,_,_,h0,_,_,_=>absurd h0 (Nat.lt_irrefl _)
 |n+1,vs,k,us,_,hi,hm,hr=>by
  obtain ⟨cs,h1,h2,h3,h4⟩:=hr
  rw [Bool.and_eq_true,List.all_eq_true] at hlt
  have hag:AgreeV (base+m) (ρ0++vs) (ρ0++vs++cs):=agree_app (by rw [List.length_append];omega)
  have hF:Pc.holds (ρ0++vs++cs) (trueAll inv++Fb):=holds_app (trueAll_ok fun t ht=>by rw [← Tm.lt_den hag (hlt.2 t ht)];exact hi t ht) (hFb _ (by rw [List.append_assoc];exact agree_app (by omega)))
  have hb:base≤(ρ0++vs++cs).length:=by simp only [List.length_append];omega
  have ht:(ρ0++vs++cs).take base=ρ0:=by rw [List.append_assoc,← hl0,List.take_left]
  have hX:=hS _ hF h3
  split at h4
  ·exact h4.elim
  ·rename_i l hsel
   have q:=chkO_ok hb hF hX.2 ho (fun x hx=>by cases hx) hsel
   simp only [OutOk] at q
   rw [ht] at q
   obtain ⟨q1,q2,q3⟩:=q
   rw [← Tm.lt_den hag hlt.1] at q2 q3
   obtain ⟨z1,z2⟩:=run_up hl0 (by rw [Bool.and_eq_true,List.all_eq_true];exact hlt) hFb hS ho (by omega) q1 (by omega) h4
   exact ⟨⟨cs,h1,h2,hX.1,by rw [hsel];exact z1⟩,z2⟩
  ·rename_i j l hsel
   have q:=chkO_ok hb hF hX.2 ho (fun x hx=>by cases hx) hsel
   simp only [OutOk] at q
   rw [ht] at q
   obtain ⟨rfl,rfl⟩:=h4
   exact ⟨⟨cs,h1,h2,hX.1,by rw [hsel];exact ⟨rfl,rfl⟩⟩,q⟩
theorem postK_ok {ρ:List AV}{base pos n:Nat}{pc:Pc}{l:List Tm}(h:Pc.holds ρ pc→∀t:Tm,t.lt (base+n)=true→(t∈l→((t.ren (shf base pos)).den ρ).B=true)){xs:List (Pc×Tm)}(hx:ExL ρ xs):ExL ρ (postK base pos n pc l++xs):=by
 induction l with
 |nil=>exact hx
 |cons t r ih=>
  simp only [postK]
  have ih':=ih fun hp t' h1 h2=>h hp t' h1 (List.mem_cons_of_mem _ h2)
  cases hl:t.lt (base+n)
  ·exact ih'
  ·exact ⟨fun hp=>h hp t hl (List.mem_cons_self ..),ih'⟩
theorem ren_us {ρ us:List AV}{base pos:Nat}(hb:base≤ρ.length)(h:∀(i:Nat) (u:AV),us[i]?=some u→ρ.getD (pos+i) undefA=u){n:Nat}(hn:n≤us.length){t:Tm}(hl:t.lt (base+n)=true):(t.ren (shf base pos)).den ρ=t.den (ρ.take base++us):=by
 refine Tm.ren_den (n:=base+n) (fun i hi=>?_) hl
 unfold shf
 cases hlt:Nat.blt i base
 ·have hi':¬i<base:=fun q=>by rw [show Nat.blt i base=true by rw [Nat.blt_eq];exact q] at hlt;cases hlt
  have hl':(ρ.take base).length=base:=by rw [List.length_take];omega
  simp only [cond_false]
  have:i-base<us.length:=by omega
  have e:=h (i-base) us[i-base] (by simp [this])
  rw [Nat.add_comm,e,List.getD_eq_getElem?_getD,List.getElem?_append_right (by omega),hl']
  simp [this]
 ·rw [Nat.blt_eq] at hlt
  simp only [cond_true]
  exact (getD_tk hb hlt).symm
theorem selK_mem {ρ:List AV}:∀{outs:List (Tm×Nat×List SV)} {x:Nat×List SV},selK ρ outs=some x→∃o∈outs,o.2=x
 |[],_,h=>by simp [selK] at h
 |[o],x,h=>by simp only [selK,Option.some.injEq] at h;exact ⟨o,by simp,h⟩
 |o::o'::r,x,h=>by
  simp only [selK] at h
  cases hg:(o.1.den ρ).B
  ·rw [hg] at h
   obtain ⟨q,q1,q2⟩:=selK_mem h
   exact ⟨q,List.mem_cons_of_mem _ q1,q2⟩
  ·rw [hg] at h
   simp only [cond_true,Option.some.injEq] at h
   exact ⟨o,List.mem_cons_self ..,h⟩
theorem run_ms {S:List AV→Prop}{outs:List (Tm×Nat×List SV)}{ρ0:List AV}{m:Nat}{ms:List Nat}(hL:LenOk outs ms=true):∀{n:Nat} {vs:List AV} {k:Nat} {us:List AV},RunN S outs ρ0 m n vs k us→k<ms.length∧ms.getD k 0≤us.length
 |0,_,_,_,h=>h.elim
 |n+1,vs,k,us,h=>by
  obtain ⟨cs,h1,h2,h3,h4⟩:=h
  split at h4
  ·exact h4.elim
  ·exact run_ms hL h4
  ·rename_i j l hsel
   obtain ⟨rfl,rfl⟩:=h4
   obtain ⟨o,q1,q2⟩:=selK_mem hsel
   unfold LenOk at hL
   rw [List.all_eq_true] at hL
   have:=hL o q1
   rw [q2,Bool.and_eq_true] at this
   rw [denL_length]
   exact ⟨Nat.le_of_ble_eq_true this.1,Nat.le_of_ble_eq_true this.2⟩
theorem post1 {ρ:List AV}{base pos n:Nat}{pc:Pc}{l:List Tm}{xs:List (Pc×Tm)}(h:Pc.holds ρ pc→base≤ρ.length∧∃us:List AV,n≤us.length∧(∀(i:Nat) (u:AV),us[i]?=some u→ρ.getD (pos+i) undefA=u)∧∀t∈l,(t.den (ρ.take base++us)).B=true)(hx:ExL ρ xs):ExL ρ (postK base pos n pc l++xs):=
 postK_ok (fun hp t hl ht=>by
  obtain ⟨hb,us,h1,h2,h3⟩:=h hp
  rw [ren_us hb h2 h1 hl]
  exact h3 t ht) hx
def Lo.res (L:Lo)(post:List (List Tm))(ρ:List AV):Prop:=match L with
 | .mk pc base _ _ outs _ _ ms bn=>Pc.holds ρ pc→(∀t∈bn,(t.den ρ).R.length≤4294967296)→base≤ρ.length∧∃(k:Nat) (us:List AV),(LenOk outs ms=true→k<ms.length∧ms.getD k 0≤us.length)∧ResK ρ base ms k us∧∀t∈nthP post k,(t.den (ρ.take base++us)).B=true
theorem bnC_ok {ρ:List AV}{F:Pc}{xs:List (Pc×Tm)}{pc:Pc}{bn:List Tm}(hF:Pc.holds ρ F)(hx:ExL ρ xs)(h:Pc.holds ρ (bnC F xs pc bn)):Pc.holds ρ pc∧∀t∈bn,(t.den ρ).R.length≤4294967296:=by
 have key:∀{t:Tm},((tLe (.rlen t) (.li big)).den ρ).B=true→(t.den ρ).R.length≤4294967296:=by
  intro t h
  have h2:lLen (t.den ρ).R≤big:=of_decide_eq_true h
  unfold lLen big at h2;omega
 unfold bnC at h
 dsimp only at h
 cases hq:(bn.all fun t=>prove 1 (facts F xs pc) (tLe (.rlen t) (.li big)))
 ·rw [hq] at h
  simp only [cond_false] at h
  refine ⟨fun x hx=>h x (List.mem_append.2 (.inr hx)),fun t ht=>key (h (_,true) (List.mem_append.2 (.inl ?_)))⟩
  clear hq h
  induction bn with
  |nil=>cases ht
  |cons a r ih=>
   rcases List.mem_cons.1 ht with rfl|ht
   ·exact List.mem_cons_self ..
   ·exact List.mem_cons_of_mem _ (ih ht)
 ·rw [hq] at h
  rw [List.all_eq_true] at hq
  exact ⟨h,fun t ht=>key (prove_ok (hq t ht) (facts_ok hF hx h))⟩
theorem selP_k {ρ:List AV}{base n n' k k0:Nat}{us:List AV}{c:Pc}(hk0:k0=0∨k0=1)(hk:k<2)(hr:ResK ρ base [n,n'] k us)(h:Pc.holds ρ (selP base [n,n'] k0++c)):k=k0:=by
 have h1:=hr.1 (by show 1<2;omega)
 have e:(((Tm.bin .eql (.int .i64) (.var base []) (.li 0)).den ρ).B)=iEq ((cellAt (ρ.getD base undefA) []).D.I) 0:=rfl
 have e2:cellAt (ρ.getD base undefA) []=ρ.getD base undefA:=by cases ρ.getD base undefA<;>rfl
 rw [e2,h1] at e
 rcases hk0 with rfl|rfl
 ·have q:=h (_,true) (List.mem_append.2 (.inl (List.mem_cons_self ..)))
  dsimp only at q
  rw [e,iEq_t] at q
  omega
 ·have q:=h (_,false) (List.mem_append.2 (.inl (List.mem_cons_self ..)))
  dsimp only at q
  rw [e,iEq_f] at q
  omega
theorem postX_ok {L:Lo}{H:LH}{ρ:List AV}{F:Pc}{xs:List (Pc×Tm)}(hF:Pc.holds ρ F)(hx:ExL ρ xs)(h:L.res H.post ρ):ExL ρ (postX F xs L H):=by
 obtain ⟨pc,base,m,entry,outs,sd,aw,ms,bn⟩:=L
 simp only [postX]
 split
 ·exact hx
 ·rename_i p _
  cases hL:LenOk outs ms
  ·exact hx
  ·simp only [cond_true]
   have sub:∀{a b:Pc},Pc.holds ρ (a++b)→Pc.holds ρ b:=fun h x hx=>h x (List.mem_append.2 (.inr hx))
   split
   ·rename_i n
    refine post1 (fun hp=>?_) hx
    obtain ⟨h1,h2⟩:=bnC_ok hF hx (sub hp)
    obtain ⟨hb,k,us,q1,q2,q3⟩:=h h1 h2
    have hk:=q1 hL
    have:k=0:=by have:=hk.1;simp at this;exact this
    subst this
    exact ⟨hb,us,hk.2,q2.2,q3⟩
   ·rename_i n n'
    refine post1 (fun hp=>?_) (post1 (fun hp=>?_) hx)
    ·obtain ⟨h1,h2⟩:=bnC_ok hF hx (sub hp)
     obtain ⟨hb,k,us,q1,q2,q3⟩:=h h1 h2
     have hk:=q1 hL
     have:=selP_k (.inl rfl) hk.1 q2 hp
     subst this
     exact ⟨hb,us,hk.2,q2.2,q3⟩
    ·obtain ⟨h1,h2⟩:=bnC_ok hF hx (sub hp)
     obtain ⟨hb,k,us,q1,q2,q3⟩:=h h1 h2
     have hk:=q1 hL
     have:=selP_k (.inr rfl) hk.1 q2 hp
     subst this
     exact ⟨hb,us,hk.2,q2.2,q3⟩
   ·exact hx
theorem WkL_take {P:Program}{T:SpT}{ρ:List AV}:∀{n:Nat} {sd:List (Pc×Side)},WkL P T ρ sd→WkL P T ρ (sd.take n)∧WkL P T ρ (sd.drop n)
 |0,sd,h=>⟨trivial,h⟩
 |n+1,[],h=>⟨trivial,trivial⟩
 |n+1,x::r,h=>⟨⟨h.1,(WkL_take (n:=n) h.2).1⟩,(WkL_take (n:=n) h.2).2⟩
theorem SidesC_join {P:Program}{ρ:List AV}:∀{n:Nat} {sd:List (Pc×Side)},SidesC P ρ (sd.take n)→SidesC P ρ (sd.drop n)→SidesC P ρ sd
 |0,sd,_,h=>h
 |n+1,[],_,_=>trivial
 |n+1,x::r,h,k=>⟨h.1,SidesC_join (n:=n) h.2 k⟩
 mutual
theorem chkLo_ok {P:Program}{T:SpT}:∀{L:Lo} {H:LH} {ρ:List AV} {F:Pc} {xs:List (Pc×Tm)},chkLo F T xs L H=true→Pc.holds ρ F→ExL ρ xs→L.wk P T H ρ→L.holds P ρ∧L.res H.post ρ
  | .mk pc base m entry outs sd aw ms bn,H,ρ,F,xs,h,hF,hx,hw=>by
   simp only [chkLo,Bool.and_eq_true] at h
   obtain ⟨h0,⟨hft,h1⟩,h4,h3⟩:=h
   have all:Pc.holds ρ pc→(∀t∈bn,(t.den ρ).R.length≤4294967296)→base≤ρ.length∧∃n k us,(RunN (fun σ=>SidesOk P σ sd∧LoL P aw σ) outs (ρ.take base) m n (denL ρ entry) k us∧∀t∈nthP H.post k,(t.den (ρ.take base++us)).B=true)∧ResK ρ base ms k us:=by
    intro hp hbn
    simp only [Lo.wk] at hw
    obtain ⟨hb,n,k,us,⟨hn0,hn⟩,hr,hres⟩:=hw hp hbn
    have hF0:=facts_ok (holds_app (bnF_ok hbn) hF) hx hp
    have hl:(ρ.take base).length=base:=by rw [List.length_take];omega
    rw [List.all_eq_true] at h1
    have hm:(H.mt.den (ρ.take base++denL ρ entry)).I<(n:Int):=by
     split at hft
     ·rename_i mt' hm
      have q:=substE_ok hb hm
      simp only [SimE] at q
      have q2:=ftOk_ok hft hF0
      omega
     ·cases hft
    refine ⟨hb,n,k,us,run_up (xs:=allX (trueAll H.inv++ltPc base (facts (bnF bn++F) xs pc)) T sd 0 aw H.sub H.xs) hl (by rw [Bool.and_eq_true];exact h0) (fun σ hag=>?_) (fun σ hF' hS=>?_) h3 hn0 (fun t ht=>subOk_ok hb (h1 t ht) hF0) hm hr,hres⟩
    ·refine ltPc_ok (fun i hi=>?_) hF0
     rw [← hag i hi]
     have:=getD_tk (ρ:=ρ) (m:=[]) hb hi
     simpa using this.symm
    ·obtain ⟨z1,z2,z3⟩:=chkA_ok h4 hF' hS.1 hS.2.1 hS.2.2
     exact ⟨⟨z1.ok,z2⟩,z3⟩
   refine ⟨?_,?_⟩
   ·unfold Lo.holds
    intro hp hbn
    obtain ⟨hb,n,k,us,⟨z1,_⟩,z2⟩:=all hp hbn
    exact ⟨hb,n,k,us,z1,z2⟩
   ·intro hp hbn
    obtain ⟨hb,n,k,us,⟨z1,z3⟩,z2⟩:=all hp hbn
    exact ⟨hb,k,us,fun hL=>run_ms hL z1,z2,z3⟩
theorem chkA_ok {P:Program}{T:SpT}:∀{l:List Lo} {sd:List (Pc×Side)} {k:Nat} {hs:List LH} {ρ:List AV} {F:Pc} {xs:List (Pc×Tm)},chkA F T sd k l hs xs=true→Pc.holds ρ F→ExL ρ xs→WkL P T ρ sd→LoW P T l hs ρ→SidesC P ρ sd∧LoL P l ρ∧ExL ρ (allX F T sd k l hs xs)
  |[],sd,k,hs,ρ,F,xs,h,hF,hx,hw,_=>by
   simp only [chkA] at h
   obtain ⟨h1,h2⟩:=chkSd_ok hF hx h hw
   exact ⟨h1,trivial,h2⟩
  |x::r,sd,k,hs,ρ,F,xs,h,hF,hx,hw,hl=>by
   simp only [chkA,Bool.and_eq_true] at h
   simp only [LoW] at hl
   obtain ⟨w1,w2⟩:=WkL_take (n:=(hdH hs).at' - k) hw
   obtain ⟨a1,a2⟩:=chkSd_ok hF hx h.1 w1
   obtain ⟨b1,b2⟩:=chkLo_ok h.2.1 hF a2 hl.1
   obtain ⟨c1,c2,c3⟩:=chkA_ok h.2.2 hF (postX_ok hF a2 b2) w2 hl.2
   exact ⟨SidesC_join a1 c1,⟨b1,c2⟩,c3⟩
end
 mutual
def bndT : SV→Pc
  | .sc .sl t=>[(tLe (.rlen t) (.li big),true)]
  | .agg l=>bndTL l
  | .tup l=>bndTL l
  | .os _ _ _ t=>[(tLe t (.li big),true)]
  | .fn _ x y=>bndTL x++bndTL y
  |_=>[]
def bndTL : List SV→Pc
  |[]=>[]
  |x::r=>bndT x++bndTL r
end
 mutual
theorem bndT_ok {ρ:List AV}:∀{v:SV},(v.den ρ).bnd→Pc.holds ρ (bndT v)
  | .sc k t,h=>by
   cases k<;>simp only [bndT]<;>first|(intro x hx;cases hx;done)|skip
   exact Pc.holds_cons (by
    have:(t.den ρ).R.length≤4294967296:=h.1
    show decide (lLen (t.den ρ).R≤big)=true
    exact decide_eq_true (by unfold lLen big;omega)) fun x hx=>by cases hx
  | .agg l,h=>by simp only [bndT];exact bndTL_ok h
  | .tup l,h=>by simp only [bndT];exact bndTL_ok h
  | .os b sz off t,h=>by
   simp only [bndT]
   exact Pc.holds_cons (by
    have:(t.den ρ).I.toNat≤4294967296:=h
    show decide ((t.den ρ).I≤big)=true
    exact decide_eq_true (by unfold big;omega)) fun x hx=>by cases hx
  | .c _,_=>fun x hx=>by cases hx
  | .nil,_=>fun x hx=>by cases hx
  | .sf _,_=>fun x hx=>by cases hx
  | .slc _ _,_=>fun x hx=>by cases hx
  | .vp _ _,_=>fun x hx=>by cases hx
  | .op _ _ _ _,_=>fun x hx=>by cases hx
  | .fn _ _ _,h=>by simp only [bndT];exact holds_app (bndTL_ok h.1) (bndTL_ok h.2)
  | .ifc _ _,_=>fun x hx=>by cases hx
  | .mp _,_=>fun x hx=>by cases hx
theorem bndTL_ok {ρ:List AV}:∀{l:List SV},bndL (denL ρ l)→Pc.holds ρ (bndTL l)
  |[],_=>fun x hx=>by cases hx
  |x::r,h=>by simp only [bndTL];exact holds_app (bndT_ok h.1) (bndTL_ok h.2)
end
def preF' (args:List SV)(sp:Sp):Pc:=match sbL args sp.pre with
 |some l=>trueAll l
 |none=>[]
def chkF (T:SpT)(sp:Sp)(args bd:List SV)(H:LH)(sd:List (Pc×Side))(aw:List Lo):Bool:=
 let F:=preF' args sp++bndTL bd
 chkA F T sd 0 aw H.sub H.xs
theorem preF'_ok {ρ:List AV}{args:List SV}{sp:Sp}(h:AllT (denL ρ args) sp.pre):Pc.holds ρ (preF' args sp):=by
 unfold preF'
 split
 ·rename_i l hl
  exact trueAll_ok ((sbL_ok hl).2 h).mem
 ·exact fun x hx=>by cases hx
theorem chkF_ok {P:Program}{T:SpT}{sp:Sp}{ρ:List AV}{args bd:List SV}{H:LH}{sd:List (Pc×Side)}{aw:List Lo}(h:chkF T sp args bd H sd aw=true)(hp:AllT (denL ρ args) sp.pre)(hb:Pc.holds ρ (bndTL bd))(hx:ExL ρ H.xs)(hw:WkL P T ρ sd)(hl:LoW P T aw H.sub ρ):SidesC P ρ sd∧LoL P aw ρ∧ExL ρ (allX (preF' args sp++bndTL bd) T sd 0 aw H.sub H.xs):=
 chkA_ok h (holds_app (preF'_ok hp) hb) hx hw hl
def chkR (F:Pc)(xs:List (Pc×Tm))(l:SV→Option (List SV))(post:List Tm):Pc→List (Tm×SV)→Bool
  |_,[]=>true
  |G,[o]=>chkR1 F xs l post G o.2
  |G,o::o'::r=>chkR1 F xs l post (addPc o.1 true G) o.2&&chkR F xs l post (addPc o.1 false G) (o'::r)
 where chkR1 (F:Pc) (xs:List (Pc×Tm)) (l:SV→Option (List SV)) (post:List Tm) (G:Pc) (v:SV):Bool:=match l v with
  |none=>false
  |some l=>match sbL l post with
   |none=>false
   |some q=>chkQ F xs q (q.map fun t=>(t,true)) 6 (cloP G)
theorem chkR_ok {ρ:List AV}{F:Pc}{xs:List (Pc×Tm)}{l:SV→Option (List SV)}{post:List Tm}{A:AV→List AV}(hl:∀v m,l v=some m→denL ρ m=A (v.den ρ))(hF:Pc.holds ρ F)(hx:ExL ρ xs):∀{rs:List (Tm×SV)} {G:Pc},rs≠[]→chkR F xs l post G rs=true→Pc.holds ρ G→AllT (A (selR ρ rs)) post:=by
 have one:∀{G:Pc} {v:SV},chkR.chkR1 F xs l post G v=true→Pc.holds ρ G→AllT (A (v.den ρ)) post:=by
  intro G v h hG
  unfold chkR.chkR1 at h
  split at h
  ·cases h
  rename_i m hm
  split at h
  ·cases h
  rename_i q hq
  rw [← hl v m hm]
  exact (sbL_ok hq).1 (chkQ_ok hF hx h (cloP_ok hG))
 intro rs
 induction rs with
 |nil=>intro G hne;exact absurd rfl hne
 |cons o r ih=>
  intro G _ h hG
  cases r with
  |nil=>exact one h hG
  |cons o' r=>
   simp only [chkR,Bool.and_eq_true] at h
   simp only [selR]
   cases hg:(o.1.den ρ).B
   ·exact ih (by simp) h.2 (addPc_holds hg hG)
   ·exact one h.1 (addPc_holds hg hG)
def bndOk (args bd:List SV)(sp:Sp):Bool:=match sbL args sp.bnd with
 |none=>false
 |some l=>(bndTL bd).all fun x=>x.2&&l.any fun t=>t.beq x.1
theorem bndOk_ok {ρ:List AV}{args bd:List SV}{sp:Sp}(h:bndOk args bd sp=true)(hb:AllT (denL ρ args) sp.bnd):Pc.holds ρ (bndTL bd):=by
 unfold bndOk at h
 split at h
 ·cases h
 rename_i l hl
 rw [List.all_eq_true] at h
 have hb':=((sbL_ok hl).2 hb).mem
 intro x hx
 have q:=h x hx
 rw [Bool.and_eq_true,List.any_eq_true] at q
 obtain ⟨q1,t,q2,q3⟩:=q
 rw [q1,← Tm.beq_eq q3]
 exact hb' t q2
def chkP (T:SpT)(sp:Sp)(args bd:List SV)(H:LH)(R:PRes)(l:SV→Option (List SV)):Bool:=match sp.post with
 |[]=>true
 |post=>match R.rs with
  |[]=>false
  |_::_=>bndOk args bd sp&&(let F:=preF' args sp++bndTL bd;chkR F (allX F T R.sd 0 R.aw H.sub H.xs) l post [] R.rs)
theorem chkP_ok {P:Program}{T:SpT}{sp:Sp}{ρ:List AV}{args bd:List SV}{H:LH}{R:PRes}{l:SV→Option (List SV)}{A:AV→List AV}(hl:∀v m,l v=some m→denL ρ m=A (v.den ρ))(hc:chkF T sp args bd H R.sd R.aw=true)(h:chkP T sp args bd H R l=true)(hp:AllT (denL ρ args) sp.pre)(hb:AllT (denL ρ args) sp.bnd)(hx:ExL ρ H.xs)(hw:WkL P T ρ R.sd)(hlw:LoW P T R.aw H.sub ρ):AllT (A (selR ρ R.rs)) sp.post:=by
 unfold chkP at h
 split at h
 ·rename_i e;rw [e];trivial
 ·rename_i e
  split at h
  ·cases h
  ·rename_i er
   rw [Bool.and_eq_true] at h
   have hbd:=bndOk_ok h.1 hb
   obtain ⟨-,-,hX⟩:=chkF_ok hc hp hbd hx hw hlw
   exact chkR_ok hl (holds_app (preF'_ok hp) hbd) hX (by rw [er];simp) h.2 (fun x hx=>by cases hx)
theorem mk_h {P:Program}(hm:P.follows .mixedOrders=true){X:Ext'}(hX:∀σ:List AV,fzL σ=true→ExtOk P σ X){I0:Inl}(h0:∀σ:List AV,fzL σ=true→InlOk P σ I0){md:Md}{FC:FuncId→FCfg}{unr CF f nv:Nat}{args:List SV}{R:PRes}{az:List AV}{r:AV}{T:SpT}
  (h:sFnI P X I0 md FC unr CF f args nv=some R) (H:LH) (hc:(chkF T (T.at f) args args H R.sd R.aw&&chkP T (T.at f) args args H R fun v=>some (args++[v]))=true) (ρ:List AV) (hρ:fzL ρ=true) (hx:ExL ρ H.xs) (hw:WkL P T ρ R.sd) (hl:LoW P T R.aw H.sub ρ) (ha:denL ρ args=az) (hr:selR ρ R.rs=r):CT P T f az r:=fun hpre=>by
 subst ha
 rw [Bool.and_eq_true] at hc
 refine ⟨pc_bnd fun hb=>?_,fun hb=>?_⟩
 ·obtain ⟨h1,h2,-⟩:=chkF_ok hc.1 hpre (bndTL_ok hb) hx hw hl
  exact mk_pcXIL hm hX h0 (rs:=R.rs) (sd:=R.sd) (aw:=R.aw) h hρ h1 h2 rfl hr
 ·subst hr
  exact chkP_ok (A:=fun r=>denL ρ args++[r]) (fun v m hm=>by simp only [Option.some.injEq] at hm;subst hm;exact denL_app1) hc.1 hc.2 hpre hb hx hw hl
def boutS (chs:List (Nat×Nat))(cs:List SV):Nat→List (Nat×SB)→Option (List SV)
 |_,[]=>some []
 |j,(b,k)::r=>match chs.find? (fun x=>Nat.beq x.1 b) with
  |some _=>match nthL cs j with
   |some (.sc .sl t)=>match boutS chs cs (j+1) r with|some l=>some (.sc .sl t::l)|none=>none
   |_=>none
  |none=>match boutS chs cs j r with|some l=>some (k.sv::l)|none=>none
theorem sv_den {ρ:List AV}{k:SB}:k.sv.den ρ=(k.den ρ).av:=by cases k<;>rfl
theorem boutS_den {ρ:List AV}{chs:List (Nat×Nat)}{cs:List SV}:∀{bl:List (Nat×SB)} {j:Nat} {l:List SV},boutS chs cs j bl=some l→denL ρ l=avB (boutOf ρ chs (denL ρ cs) j bl)
 |[],j,l,h=>by simp only [boutS,Option.some.injEq] at h;subst h;rfl
 |(b,k)::r,j,l,h=>by
  simp only [boutS] at h
  simp only [boutOf]
  split at h
  ·rename_i x hx
   rw [hx]
   split at h
   ·rename_i t ht
    split at h
    ·rename_i l' hl
     simp only [Option.some.injEq] at h;subst h
     have e:=denL_get (ρ:=ρ) ht
     have ih:=boutS_den (ρ:=ρ) hl
     show _::denL ρ l'=_::avB (boutOf ρ chs (denL ρ cs) (j+1) r)
     rw [ih]
     simp only [List.getD_eq_getElem?_getD,e,Option.getD_some]
     rfl
    ·cases h
   ·cases h
  ·rename_i hx
   rw [hx]
   split at h
   ·rename_i l' hl
    simp only [Option.some.injEq] at h;subst h
    have ih:=boutS_den (ρ:=ρ) hl
    show _::denL ρ l'=_::avB (boutOf ρ chs (denL ρ cs) j r)
    rw [ih,sv_den]
   ·cases h
def outSV (args:List SV)(bl:List (Nat×SB))(chs:List (Nat×Nat)):SV→Option (List SV)
 | .tup (r::cs)=>match boutS chs cs 0 bl with
  |some l=>some (args++blSV bl++(r::l))
  |none=>none
 |_=>none
def tupL (az:List AV)(ρ:List AV)(chs:List (Nat×Nat))(bl:List (Nat×SB)):AV→List AV
 | .tup (r::cs)=>az++(r::avB (boutOf ρ chs cs 0 bl))
 |_=>[]
theorem mk_hw {P:Program}(hm:P.follows .mixedOrders=true){X:Ext'}(hX:∀σ:List AV,fzL σ=true→ExtOk P σ X){I0:Inl}(h0:∀σ:List AV,fzL σ=true→InlOk P σ I0){md:Md}{FC:FuncId→FCfg}{unr CF f nv:Nat}{args:List SV}{R:PRes}{az:List AV}{r:AV}{cs:List AV}{bl:List (Nat×SB)}{chs:List (Nat×Nat)}{n0:Nat}{bin bout:List (Nat×Blk)}{T:SpT}
  (h:sFnW P X I0 md FC unr CF f args nv bl chs n0=some R) (H:LH) (hc:(chkF T (T.atW f n0) (args++blSV bl) args H R.sd R.aw&&chkP T (T.atW f n0) (args++blSV bl) args H R (outSV args bl chs))=true) (ρ:List AV) (hρ:fzL ρ=true) (hx:ExL ρ H.xs) (hw:WkL P T ρ R.sd) (hl:LoW P T R.aw H.sub ρ) (ha:denL ρ args=az) (hb:blD ρ bl=bin) (hr:selR ρ R.rs=.tup (r::cs)) (hb2:boutOf ρ chs cs 0 bl=bout):CTw P T f az bin n0 r bout:=fun hpre=>by
 subst ha;subst hb;subst hb2
 rw [Bool.and_eq_true] at hc
 have e:denL ρ (args++blSV bl)=denL ρ args++avB (blD ρ bl):=by rw [denL_append,blSV_den]
 rw [← e] at hpre ⊢
 refine ⟨pw_bnd fun hbd=>?_,fun hbd=>?_⟩
 ·obtain ⟨h1,h2,-⟩:=chkF_ok hc.1 hpre (bndTL_ok hbd) hx hw hl
  exact mk_pw hm hX h0 (rs:=R.rs) (sd:=R.sd) (aw:=R.aw) h hρ h1 h2 rfl rfl hr rfl
 ·have q:=chkP_ok (A:=tupL (denL ρ (args++blSV bl)) ρ chs bl) (fun v m hm=>by
   unfold outSV at hm
   split at hm
   ·split at hm
    ·rename_i l hl
     simp only [Option.some.injEq] at hm;subst hm
     rw [denL_append]
     show _=_++(_::avB (boutOf ρ chs (denL ρ _) 0 bl))
     rw [← boutS_den hl];rfl
    ·cases hm
   ·cases hm) hc.1 hc.2 hpre hbd hx hw hl
  rw [hr] at q
  exact q
end Go.Fw
end
section
set_option linter.unusedVariables false
set_option linter.unusedSimpArgs false
set_option linter.unusedSectionVars false
namespace Go.Fw
set_option linter.unusedSectionVars false
set_option linter.unusedSimpArgs false
set_option linter.unusedVariables false
variable [Glob]
abbrev V (n:Nat):Tm:=.var n []
abbrev W (n j:Nat):Tm:=.var n [j]
abbrev kI : Kd:=.int .i64
abbrev kU : Kd:=.int .u8
abbrev zI (t:Tm):SV:=.sc (.int .i64) t
abbrev zB (t:Tm):SV:=.sc .bool t
abbrev zS (t:Tm):SV:=.sc .str t
abbrev zL (t:Tm):SV:=.sc .sl t
abbrev qL (a b:Tm):Tm:=.bin .lss (.int .i64) a b
abbrev qM (a b:Tm):Tm:=.bin .leq (.int .i64) a b
abbrev qG (a b:Tm):Tm:=.bin .gtr (.int .i64) a b
abbrev qH (a b:Tm):Tm:=.bin .geq (.int .i64) a b
abbrev qE (a b:Tm):Tm:=.bin .eql (.int .i64) a b
abbrev qN (a b:Tm):Tm:=.bin .neq (.int .i64) a b
abbrev uE (a b:Tm):Tm:=.bin .eql (.int .u8) a b
abbrev sE (a b:Tm):Tm:=.bin .eql .str a b
abbrev aI (a b:Tm):Tm:=.bin .add (.int .i64) a b
abbrev mI (a b:Tm):Tm:=.bin .sub (.int .i64) a b
abbrev cV (n:Nat)(l:List Kd):List SV:=cellsV n [] 0 l
abbrev eI (n:Int):AV:=.p (.int .i64 n)
abbrev eB (b:Bool):AV:=.p (.bool b)
abbrev eL {α:Type}(f:α→List AV)(l:List α):AV:=.sl (List.map f l) false
class Fz (a:AV):Prop where h:a.fz=true
class FzL (l:List AV):Prop where h:fzL l=true
class FzR {α:Type}(f:α→List AV):Prop where h:∀x,fzL (f x)=true
instance {v : Value}:Fz (.p v):=⟨rfl⟩
instance {s : List UInt8}:Fz (.str s):=⟨rfl⟩
instance {l : List AV} [h:FzL l]:Fz (.agg l):=⟨h.h⟩
instance {l : List AV} [h:FzL l]:Fz (.tup l):=⟨h.h⟩
instance {α : Type} {f:α→List AV} [h:FzR f] {l:List α}:Fz (.sl (List.map f l) false):=⟨fzs h.h l⟩
instance : FzL []:=⟨rfl⟩
instance : Fz undefA:=⟨rfl⟩
instance {a : AV} {l:List AV} [h:Fz a] [k:FzL l]:FzL (a::l):=⟨fzc h.h k.h⟩
theorem fzL_app : ∀{a b:List AV},fzL a=true→fzL b=true→fzL (a++b)=true
 |[],b,_,h=>h
 |x::r,b,h1,h2=>by
  simp only [fzL,Bool.and_eq_true,List.cons_append] at h1 ⊢
  exact ⟨h1.1,fzL_app h1.2 h2⟩
instance {a b:List AV} [h:FzL a] [k:FzL b]:FzL (a++b):=⟨fzL_app h.h k.h⟩
instance (priority :=low) {α:Type} {f:α→List AV} [h:FzR f] {x:α}:FzL (f x):=⟨h.h x⟩
instance {b : Bool} {x y:List AV} [h:FzL x] [k:FzL y]:FzL (bif b then x else y):=⟨fzb h.h k.h⟩
instance : FzR rowB:=⟨rowB_fz⟩
instance : FzR rowI:=⟨rowI_fz⟩
instance : FzR rowU8:=⟨rowU8_fz⟩
instance : FzR rowS:=⟨rowS_fz⟩
instance {K V:Type} {f:K→List AV} {g:V→List AV} [h:FzR f] [k:FzR g]:FzR (rowM f g):=⟨rowM_fz h.h k.h⟩
class Rok {α:Type}(f:α→List AV)(n:outParam Nat):Prop where h:∀x,(f x).length=n
instance : Rok rowB 1:=⟨fun _=>rfl⟩
instance : Rok rowI 1:=⟨fun _=>rfl⟩
instance : Rok rowU8 1:=⟨fun _=>rfl⟩
instance : Rok rowS 1:=⟨fun _=>rfl⟩
theorem Rok.rok {α:Type}{f:α→List AV}{n:Nat}[h:Rok f n](l:List α):rowsOk n (l.map f):=by
 intro row hr
 obtain ⟨x,-,rfl⟩:=List.mem_map.1 hr
 exact h.h x
section
variable {P : Program} {T:SpT} {ρ:List AV} {pc:Pc} {r:List (Pc×Side)}
theorem wn : WkL P T ρ []:=trivial
theorem wT (k:WkL P T ρ r){t:Tm}:WkL P T ρ ((pc,.tm t)::r):=⟨fun _ h=>h.1,k⟩
theorem leH {a b:Tm}(h:((tLe a b).den ρ).B=true):(a.den ρ).I≤(b.den ρ).I:=of_decide_eq_true h
theorem ltH {a b:Tm}(h:((tLt a b).den ρ).B=true):(a.den ρ).I<(b.den ρ).I:=of_decide_eq_true h
theorem wR {t i:Tm}{cells:List SV}{α:Type}{f:α→List AV}{l:List α}(ht:(t.den ρ).R=List.map f l)(k:WkL P T ρ r)[Inhabited α](hc:denL ρ cells=f (l.getD (i.den ρ).I.toNat default):=by rfl):WkL P T ρ ((pc,.row t i cells)::r):=by
 refine ⟨fun _ h=>?_,k⟩
 have h0:0≤(i.den ρ).I:=leH h.1
 have h1:(i.den ρ).I<lLen (t.den ρ).R:=ltH h.2.1
 refine ⟨h0,?_⟩
 rw [ht] at h1 ⊢
 rw [hc]
 exact (row_i h0 (by simpa [lLen] using h1)).2
theorem wRd {t i:Tm}{off:Nat}{ty:Bool×Nat}{v:SV}{α:Type}{f:α→List AV}{l:List α}(ht:(t.den ρ).R=List.map f l)(k:WkL P T ρ r)[Inhabited α]{y:AV}(hv:v.den ρ=y:=by rfl)(hc:apart ty (f (l.getD (i.den ρ).I.toNat default)) off (fun x=>x=y):=by first|exact rfl|exact ⟨Nat.le_of_ble_eq_true rfl,rfl⟩):WkL P T ρ ((pc,.rd ty t i off v)::r):=by
 refine ⟨fun _ h=>?_,k⟩
 have h0:0≤(i.den ρ).I:=leH h.1
 have h1:(i.den ρ).I<lLen (t.den ρ).R:=ltH h.2.1
 refine ⟨f (l.getD (i.den ρ).I.toNat default),?_,?_⟩
 ·rw [ht] at h1 ⊢
  exact (row_i h0 (by simpa [lLen] using h1)).2
 ·rw [hv];exact hc
theorem wSt {t i m:Tm}{off:Nat}{cells:List SV}{α:Type}{f:α→List AV}{l:List α}(y:α)(ht:(t.den ρ).R=List.map f l)(k:WkL P T ρ r)[Inhabited α]{N:Nat}[hn:Rok f N](hm:(m.den ρ).R=List.map f (l.set (i.den ρ).I.toNat y):=by rfl)(hc:Nat.ble (off+cells.length) N=true:=by rfl)(hy:f y=lay (f (l.getD (i.den ρ).I.toNat default)) off (denL ρ cells):=by rfl):WkL P T ρ ((pc,.st t i off cells m)::r):=by
 refine ⟨fun _ h=>?_,k⟩
 have h0:0≤(i.den ρ).I:=leH h.1
 have h1:(i.den ρ).I<lLen (t.den ρ).R:=ltH h.2.1
 rw [ht] at h1
 have h2:(i.den ρ).I<(l.length:Int):=by simpa [lLen] using h1
 obtain ⟨row,q1,q2,q3⟩:=st_side (off:=off) (cells:=denL ρ cells) (f:=f) (l:=l) y h0 h2 hn.h (by rw [denL_length];exact hc) hy
 exact ⟨row,by rw [ht];exact q1,by rw [← denL_length (ρ:=ρ)];exact q2,by rw [hm,ht];exact q3⟩
theorem wSub {t m:Tm}{lo hi:Option Tm}{sz:Nat}{α:Type}{f:α→List AV}{l:List α}(ht:(t.den ρ).R=List.map f l)(k:WkL P T ρ r)[hn:Rok f sz](hm:(m.den ρ).R=List.map f ((l.drop (oTm ρ 0 lo).toNat).take ((oTm ρ l.length hi).toNat-(oTm ρ 0 lo).toNat)):=by rfl):WkL P T ρ ((pc,.sub sz t lo hi m)::r):=by
 refine ⟨fun _ h=>?_,k⟩
 have e:(t.den ρ).R.length=l.length:=by rw [ht];simp
 show rowsOk sz (t.den ρ).R∧_
 rw [e]
 have hl:(((Tm.rlen t).den ρ).I:Int)=l.length:=by show lLen (t.den ρ).R=_;unfold lLen;rw [e]
 refine ⟨by rw [ht];exact Rok.rok l,?_,?_,?_,by rw [hm,ht];simp⟩
 ·cases lo with
  |none=>exact Int.le_refl _
  |some a=>cases hi with
   |none=>exact leH h.1
   |some b=>exact leH h.1
 ·cases lo with
  |none=>cases hi with
   |none=>exact Int.natCast_nonneg _
   |some b=>exact leH h.1
  |some a=>cases hi with
   |none=>have:=leH h.2.1;rw [hl] at this;exact this
   |some b=>exact leH h.2.1
 ·cases lo with
  |none=>cases hi with
   |none=>exact Int.le_refl _
   |some b=>have:=leH h.2.1;rw [hl] at this;exact this
  |some a=>cases hi with
   |none=>exact Int.le_refl _
   |some b=>have:=leH h.2.2.1;rw [hl] at this;exact this
theorem tTop_I {k:Nat}:((tTop k).den ρ).I=big-k:=by
 unfold tTop;rw [fNat_eq,fInt'_eq];rfl
theorem rlen_I {t:Tm}:((Tm.rlen t).den ρ).I=((t.den ρ).R.length:Int):=rfl
theorem wLen2 (k:WkL P T ρ r){m:Nat}{y:Tm}:WkL P T ρ ((pc,.len2 m y)::r):=by
 refine ⟨fun _ h=>?_,k⟩
 have h1:=leH h.1
 rw [tTop_I,rlen_I] at h1
 unfold big at h1
 show m+_≤_
 omega
theorem wRok {m:Nat}{t:Tm}{α:Type}{f:α→List AV}{l:List α}(ht:(t.den ρ).R=List.map f l)(k:WkL P T ρ r)[hn:Rok f m]:WkL P T ρ ((pc,.rok m t)::r):=
 ⟨fun _ _=>by show rowsOk m _;rw [ht];exact Rok.rok l,k⟩
theorem wC {f:FuncId}{args:List SV}{v:SV}{az:List AV}{y:AV}(h:CT P T f az y)(k:WkL P T ρ r)(ha:denL ρ args=az:=by rfl)(hv:v.den ρ=y:=by rfl):WkL P T ρ ((pc,.call f args v)::r):=by
 subst ha;subst hv
 exact ⟨fun _=>h,k⟩
theorem ctP {f:FuncId}{az:List AV}{y:AV}(h:PC P f az y)(hT:T.at f=sp0:=by rfl):CT P T f az y:=fun _=>⟨h,fun _=>by rw [hT];trivial⟩
theorem wWL {f:FuncId}{args:List SV}{bl bl':List (Nat×SB)}{n0:Nat}{v:SV}{az:List AV}{y:AV}{b b':List (Nat×Blk)}(h:((osT args bl).1.den ρ).I.toNat=((osT args bl).2.den ρ).R.length→CTw P T f az b n0 y b')(k:WkL P T ρ r)(he:(osL args).isSome=true:=by rfl)(ha:denL ρ args=az:=by rfl)(hb:blD ρ bl=b:=by rfl)(hv:v.den ρ=y:=by rfl)(hb':blD ρ bl'=b':=by rfl):WkL P T ρ ((pc,.callw f args bl n0 v bl')::r):=by
 subst ha;subst hb;subst hv;subst hb'
 refine ⟨fun _ ho=>h ?_,k⟩
 simp only [Side.osE] at ho
 cases e:osL args with
 |none=>rw [e] at he;cases he
 |some z=>
  rw [e] at ho
  have:=iEq_t.1 ho.1
  rw [this];exact Int.toNat_natCast _
end
def RunL (P:Program)(T:SpT)(L:Lo)(H:LH)(ρ0:List AV)(n:Nat)(vs:List AV)(r:Nat×List AV):Prop:=
 match L with
 | .mk _ _ m _ outs sd aw _ _=>RunP (fun σ=>ExL σ H.xs∧WkL P T σ sd∧LoW P T aw H.sub σ) outs ρ0 m n vs r.1 r.2
def RndP (S:List AV→Prop)(outs:List (Tm×Nat×List SV))(ρ0:List AV)(m n:Nat)(σ:List AV)(o:Option (Nat×List SV))(r:Nat×List AV):Prop:=
 match o with
 |none=>False
 |some (0,l)=>RunP S outs ρ0 m n (denL σ l) r.1 r.2
 |some (j+1,l)=>r.1=j∧r.2=denL σ l
def RndL (P:Program)(T:SpT)(L:Lo)(H:LH)(ρ0:List AV)(n:Nat)(σ:List AV)(o:Option (Nat×List SV))(r:Nat×List AV):Prop:=
 match L with
 | .mk _ _ m _ outs sd aw _ _=>RndP (fun σ=>ExL σ H.xs∧WkL P T σ sd∧LoW P T aw H.sub σ) outs ρ0 m n σ o r
theorem l0 {P:Program}{T:SpT}{L:Lo}{H:LH}{ρ0 vs:List AV}{r:Nat×List AV}:RunL P T L H ρ0 0 vs r:=by cases L;trivial
theorem lmk {P:Program}{T:SpT}{H:LH}{ρ0 vs:List AV}{n:Nat}{r:Nat×List AV}{pc:Pc}{base m:Nat}{entry:List SV}{outs:List (Tm×Nat×List SV)}{sd:List (Pc×Side)}{aw:List Lo}{ms:List Nat}{bn:List Tm}{L:Lo}(hL:L=.mk pc base m entry outs sd aw ms bn)
  (cs:List AV) [hf:FzL (ρ0++vs++cs)] (hx:ExL (ρ0++vs++cs) H.xs) (hw:WkL P T (ρ0++vs++cs) sd) (hl:LoW P T aw H.sub (ρ0++vs++cs)) (h:RndL P T L H ρ0 n (ρ0++vs++cs) (selK (ρ0++vs++cs) outs) r) (hm:vs.length=m:=by rfl):RunL P T L H ρ0 (n+1) vs r:=by
 subst hL
 refine ⟨cs,hm,hf.h,⟨hx,hw,hl⟩,?_⟩
 unfold RndL RndP at h
 dsimp only at h
 split at h
 ·exact h.elim
 ·rename_i l e;first|exact h|(rw [e];exact h)
 ·rename_i j l e;first|exact h|(rw [e];exact h)
theorem rcf {P:Program}{T:SpT}{L:Lo}{H:LH}{ρ0 σ:List AV}{n:Nat}{R:Type}(rk:R→Nat×List AV){g:Tm}{x:Nat×List SV}{y:Tm×Nat×List SV}{l:List (Tm×Nat×List SV)}{c:Bool}{a b:R}(h1:c=true→RndL P T L H ρ0 n σ (some x) (rk a))(h2:c=false→RndL P T L H ρ0 n σ (selK σ (y::l)) (rk b))(hg:(g.den σ).B=c:=by rfl):RndL P T L H ρ0 n σ (selK σ ((g,x)::y::l)) (rk (bif c then a else b)):=by
 simp only [selK,hg]
 cases c
 ·exact h2 rfl
 ·exact h1 rfl
theorem rc {P:Program}{T:SpT}{L:Lo}{H:LH}{ρ0 σ:List AV}{n:Nat}{R:Type}(rk:R→Nat×List AV){g:Tm}{x:Nat×List SV}{y:Tm×Nat×List SV}{l:List (Tm×Nat×List SV)}{c:Bool}{a b:R}(h1:RndL P T L H ρ0 n σ (some x) (rk a))(h2:RndL P T L H ρ0 n σ (selK σ (y::l)) (rk b))(hg:(g.den σ).B=c:=by rfl):RndL P T L H ρ0 n σ (selK σ ((g,x)::y::l)) (rk (bif c then a else b)):=
 rcf rk (fun _=>h1) (fun _=>h2) hg
theorem rl {P:Program}{T:SpT}{L:Lo}{H:LH}{ρ0 σ:List AV}{n:Nat}{r:Nat×List AV}{g:Tm}{x:Nat×List SV}(h:RndL P T L H ρ0 n σ (some x) r):RndL P T L H ρ0 n σ (selK σ [(g,x)]) r:=h
theorem rg {P:Program}{T:SpT}{L:Lo}{H:LH}{ρ0 σ vs:List AV}{n:Nat}{r:Nat×List AV}{l:List SV}(h:RunL P T L H ρ0 n vs r)(hl:denL σ l=vs:=by rfl):RndL P T L H ρ0 n σ (some (0,l)) r:=by
 subst hl
 cases L;exact h
theorem rx {P:Program}{T:SpT}{L:Lo}{H:LH}{ρ0 σ:List AV}{n:Nat}{r:Nat×List AV}{j:Nat}{l:List SV}(h1:r.1=j:=by rfl)(h2:r.2=denL σ l:=by rfl):RndL P T L H ρ0 n σ (some (j+1,l)) r:=by
 cases L;exact ⟨h1,h2⟩
theorem ln {P:Program}{T:SpT}{hs:List LH}{ρ:List AV}:LoW P T [] hs ρ:=trivial
theorem fuR {α:Type}{f:α→List AV}{l:List α}:1*lLen (List.map f l)+0<((l.length+1:Nat):Int):=by simp [lLen];omega
theorem fuN {x:Int}:1*x+0<((x.toNat+1:Nat):Int):=by omega
theorem lc1 {P:Program}{T:SpT}{ρ ρ0 vs:List AV}{hs:List LH}{ls:List Lo}{n m0:Nat}{us:List AV}{pc:Pc}{base m:Nat}{entry:List SV}{outs:List (Tm×Nat×List SV)}{sd:List (Pc×Side)}{aw:List Lo}{bn:List Tm}{L:Lo}
  (h:RunL P T L (hdH hs) ρ0 n vs (0,us)) (k:LoW P T ls (tlH hs) ρ) (hL:L=.mk pc base m entry outs sd aw [m0] bn:=by rfl) (hb:Nat.ble base ρ.length=true:=by rfl) (h0:ρ.take base=ρ0:=by rfl) (hv:denL ρ entry=vs:=by rfl)
  (hn:ftV ρ (hdH hs).ft<(n:Int):=by first|exact fuR|exact fuN) (hu:(ρ.drop base).take us.length=us:=by rfl) (hn0:Nat.blt 0 n=true:=by rfl):LoW P T (L::ls) hs ρ:=by
 subst hL;subst h0;subst hv
 refine ⟨?_,k⟩
 simp only [Lo.wk]
 rw [Nat.blt_eq] at hn0
 exact fun _ _=>⟨Nat.le_of_ble_eq_true hb,n,0,us,⟨hn0,hn⟩,h,fun h=>by simp at h,hu_of hu⟩
theorem lc2 {P:Program}{T:SpT}{ρ ρ0 vs:List AV}{hs:List LH}{ls:List Lo}{n m0 m1:Nat}{b:Bool}{u0 u1:List AV}{pc:Pc}{base m:Nat}{entry:List SV}{outs:List (Tm×Nat×List SV)}{sd:List (Pc×Side)}{aw:List Lo}{bn:List Tm}{L:Lo}
  (h:RunL P T L (hdH hs) ρ0 n vs (rk2 b u0 u1)) (k:LoW P T ls (tlH hs) ρ) (hL:L=.mk pc base m entry outs sd aw [m0,m1] bn:=by rfl) (hb:Nat.ble base ρ.length=true:=by rfl) (h0:ρ.take base=ρ0:=by rfl) (hv:denL ρ entry=vs:=by rfl)
  (hn:ftV ρ (hdH hs).ft<(n:Int):=by first|exact fuR|exact fuN) (hk:(ρ.getD base undefA).D.I=selB b:=by rfl) (hu0:(ρ.drop (base+1)).take u0.length=u0:=by rfl) (hu1:(ρ.drop (base+1+m0)).take u1.length=u1:=by rfl) (hn0:Nat.blt 0 n=true:=by rfl):LoW P T (L::ls) hs ρ:=by
 subst hL;subst h0;subst hv
 refine ⟨?_,k⟩
 simp only [Lo.wk]
 rw [Nat.blt_eq] at hn0
 refine fun _ _=>⟨Nat.le_of_ble_eq_true hb,n,(rk2 b u0 u1).1,(rk2 b u0 u1).2,⟨hn0,hn⟩,h,fun _=>?_,?_⟩
 ·rw [hk];cases b<;>rfl
 ·cases b
  ·intro i u hu
   have:=hu_of hu1 i u hu
   have e:posOf base [m0,m1] (rk2 false u0 u1).1=base+1+m0:=by show (base+1)+(m0+0)=_;omega
   rw [e];exact this
  ·intro i u hu
   have:=hu_of hu0 i u hu
   have e:posOf base [m0,m1] (rk2 true u0 u1).1=base+1:=rfl
   rw [e];exact this
theorem xn {ρ:List AV}:ExL ρ []:=trivial
theorem xc {ρ:List AV}{pc:Pc}{t:Tm}{r:List (Pc×Tm)}(h:(t.den ρ).B=true)(k:ExL ρ r):ExL ρ ((pc,t)::r):=⟨fun _=>h,k⟩
section
variable {P : Program} {T:SpT} {X:Ext'} {I0:Inl} {md:Md} {FC:FuncId→FCfg} {unr CF f nv:Nat} {args:List SV} {az:List AV} {r:AV} {R:PRes}
theorem mkH (hm:P.follows .mixedOrders=true)(hX:∀σ:List AV,fzL σ=true→ExtOk P σ X)(h0:∀σ:List AV,fzL σ=true→InlOk P σ I0)(h:sFnI P X I0 md FC unr CF f args nv=some R)(H:LH)(hc:(chkF T (T.at f) args args H R.sd R.aw&&chkP T (T.at f) args args H R fun v=>some (args++[v]))=true)(ρ:List AV)[hρ:FzL ρ](hx:ExL ρ H.xs)(hw:WkL P T ρ R.sd)(hl:LoW P T R.aw H.sub ρ)(hr:selR ρ R.rs=r)(ha:denL ρ args=az:=by rfl):CT P T f az r:=
 mk_h hm hX h0 h H hc ρ hρ.h hx hw hl ha hr
theorem mkW (hm:P.follows .mixedOrders=true)(hX:∀σ:List AV,fzL σ=true→ExtOk P σ X)(h0:∀σ:List AV,fzL σ=true→InlOk P σ I0){cs:List AV}{bl:List (Nat×SB)}{chs:List (Nat×Nat)}{n0:Nat}{bin bout:List (Nat×Blk)}(h:sFnW P X I0 md FC unr CF f args nv bl chs n0=some R)(H:LH)(hc:(chkF T (T.atW f n0) (args++blSV bl) args H R.sd R.aw&&chkP T (T.atW f n0) (args++blSV bl) args H R (outSV args bl chs))=true)(ρ:List AV)[hρ:FzL ρ](hx:ExL ρ H.xs)(hw:WkL P T ρ R.sd)(hl:LoW P T R.aw H.sub ρ)(hr:selR ρ R.rs=.tup (r::cs))(ha:denL ρ args=az:=by rfl)(hb:blD ρ bl=bin:=by rfl)(hb2:boutOf ρ chs cs 0 bl=bout:=by rfl):CTw P T f az bin n0 r bout:=
 mk_hw hm hX h0 h H hc ρ hρ.h hx hw hl ha hb hr hb2
end
end Go.Fw
end
section
set_option linter.unusedVariables false
set_option linter.unusedSimpArgs false
set_option linter.unusedSectionVars false
namespace Go.Fw
set_option linter.unusedVariables false
set_option linter.unusedSimpArgs false
set_option maxRecDepth 100000
set_option maxHeartbeats 4000000
open Go.Proofs
instance : FzR GVal.enc:=⟨GVal.fzL⟩
instance {x : GVal}:Fz (GVal.av x):=⟨GVal.fz x⟩
instance : Rok GVal.enc 4:=⟨GVal.len⟩
instance : FzR GKey.enc:=⟨GKey.fzL⟩
instance {x : GKey}:Fz (GKey.av x):=⟨GKey.fz x⟩
instance : Rok GKey.enc 2:=⟨GKey.len⟩
instance : FzR GDesc.enc:=⟨GDesc.fzL⟩
instance {x : GDesc}:Fz (GDesc.av x):=⟨GDesc.fz x⟩
instance : Rok GDesc.enc 16:=⟨GDesc.len⟩
instance : FzR GProp.enc:=⟨GProp.fzL⟩
instance {x : GProp}:Fz (GProp.av x):=⟨GProp.fz x⟩
instance : Rok GProp.enc 18:=⟨GProp.len⟩
instance : FzR GObj.enc:=⟨GObj.fzL⟩
instance {x : GObj}:Fz (GObj.av x):=⟨GObj.fz x⟩
instance : Rok GObj.enc 18:=⟨GObj.len⟩
instance : FzR GHeap.enc:=⟨GHeap.fzL⟩
instance {x : GHeap}:Fz (GHeap.av x):=⟨GHeap.fz x⟩
instance : Rok GHeap.enc 1:=⟨GHeap.len⟩
instance : FzR GOut.enc:=⟨GOut.fzL⟩
instance {x : GOut}:Fz (GOut.av x):=⟨GOut.fz x⟩
instance : Rok GOut.enc 26:=⟨GOut.len⟩
instance : FzR GSeen.enc:=⟨GSeen.fzL⟩
instance {x : GSeen}:Fz (GSeen.av x):=⟨GSeen.fz x⟩
instance : Rok GSeen.enc 32:=⟨GSeen.len⟩
instance : FzR GAsk.enc:=⟨GAsk.fzL⟩
instance {x : GAsk}:Fz (GAsk.av x):=⟨GAsk.fz x⟩
instance : Rok GAsk.enc 29:=⟨GAsk.len⟩
instance : FzR GWant.enc:=⟨GWant.fzL⟩
instance {x : GWant}:Fz (GWant.av x):=⟨GWant.fz x⟩
instance : Rok GWant.enc 87:=⟨GWant.len⟩
instance : FzR GFacts.enc:=⟨GFacts.fzL⟩
instance {x : GFacts}:Fz (GFacts.av x):=⟨GFacts.fz x⟩
instance : Rok GFacts.enc 24:=⟨GFacts.len⟩
instance {r : Int×Bool}:Fz (eR_ii64_bool r):=⟨(inferInstance:FzL [(.p (.int .i64 r.1)),(.p (.bool r.2))]).h⟩
instance {r : Int×Int}:Fz (eR_ii64_ii64 r):=⟨(inferInstance:FzL [(.p (.int .i64 r.1)),(.p (.int .i64 r.2))]).h⟩
noncomputable def xBase : Ext':=xClone Tryd.prog
theorem xBase_ok : ∀σ:List AV,fzL σ=true→ExtOk Tryd.prog σ xBase:=xClone_ok
noncomputable def iBase : Inl:=inOr (inlRefT Tryd.prog refCfg) (inOr (inlO Tryd.prog (ocT [(5,[],2,true)])) (notF [26,27] (inlW Tryd.prog (wcT [(100000,[(0,18)]),(19,[(1,2)]),(35,[(1,2)]),(36,[(1,2)]),(39,[(1,2)]),(45,[(1,2)]),(100000,[]),(100000,[]),(100000,[]),(100000,[])]))))
theorem iBase_ok : ∀σ:List AV,fzL σ=true→InlOk Tryd.prog σ iBase:=inOr_ok (inlRefT_ok refOk) (inOr_ok inlO_ok (notF_ok inlW_ok))
def mdI : Md:=mdT 2961817721679850862482347037942148681957376
def kA : List (List Nat):=[[],[],[],[],[],[],[],[],[],[],[],[],[0,1,2,5,6,7,8,9,30,31,32,33,34,35,36,37],[],[0,1,4,5],[],[],[],[],[1,2,4,5,6,7,11,26,31,49],[],[],[],[],[],[],[],[],[],[],[],[],[],[],[],[1,2,3,6,7,12,20,21,22,23,24,25,26],[1,2,3,4,8,9,10,11,12,13,14,15,16,17,18,19,20,21,22,26,31,42,50,62,67,79,86,106,117,131,142,143,144,145,155,156,157,158,168,169,170,171],[],[],[1,2,3,4,8,9,18,21],[],[],[],[],[],[1,2,3,4,8,11],[],[],[],[],[],[],[],[],[],[],[],[],[],[],[],[],[],[],[],[],[],[],[],[],[],[],[],[],[],[],[],[],[]]
def sT : SpT:=⟨[],[(35,4,⟨[(qM (.li 0) (V 1)),(qM (.li 0) (V 2)),(qM (V 2) (.rlen (V 4))),(qM (V 1) (.rlen (V 4)))],[(qM (.rlen (V 4)) (.li 4294967296))],[(qE (.rlen (V 7)) (.rlen (V 4)))]⟩),
 (45,4,⟨[(qM (V 1) (mI (.rlen (V 5)) (V 3))),(qM (V 2) (mI (.rlen (V 5)) (V 3))),(qM (.li 0) (V 1)),(qM (.li 0) (V 2)),(qM (.li 0) (V 3)),(qM (V 1) (.rlen (V 5))),(qM (V 2) (.rlen (V 5))),(qM (V 3) (.rlen (V 5)))],[(qM (.rlen (V 5)) (.li 4294967296))],[(qE (.rlen (V 8)) (.rlen (V 5)))]⟩),
 (39,4,⟨[(qM (.li 0) (V 1)),(qL (V 1) (V 2)),(qL (V 2) (V 3)),(qM (V 3) (.rlen (V 5)))],[(qM (.rlen (V 5)) (.li 4294967296))],[(qE (.rlen (V 8)) (.rlen (V 5)))]⟩),
 (36,4,⟨[(qM (.li 0) (V 1)),(qL (V 1) (V 2)),(qL (V 2) (V 3)),(qM (V 3) (.li 4294967296)),(qM (V 3) (.rlen (V 5)))],[(qM (.rlen (V 5)) (.li 4294967296))],[(qE (.rlen (V 8)) (.rlen (V 5)))]⟩),
 (19,4,⟨[(qM (.li 0) (V 1)),(qM (V 1) (.rlen (V 3)))],[(qM (.rlen (V 3)) (.li 4294967296))],[(qE (.rlen (V 6)) (.rlen (V 3)))]⟩)]⟩
def L8_1 : Lo:=
 let p0:Pc:=((.and (qG (.slen (W 0 0)) (.li 1)) (uE (.byte (W 0 0) (.li 0)) (.li 48))),false)::[]
 let p1:Pc:=((qG (.slen (W 0 0)) (.li 4)),false)::p0
 let p2:Pc:=((sE (W 0 0) (.ls [])),false)::p1
 let p3:Pc:=((qG (W 0 1) (.li 0)),false)::p2
 let p4:Pc:=((qL (V 4) (.slen (W 0 0))),true)::p3
 let p5:Pc:=((.bin .lss kU (.byte (W 0 0) (V 4)) (.li 48)),false)::p4
 let p6:Pc:=((.bin .gtr kU (.byte (W 0 0) (V 4)) (.li 57)),false)::p4
 let p7:Pc:=((.bin .lss kU (.byte (W 0 0) (V 4)) (.li 48)),false)::p6
 .mk [((qG (W 0 1) (.li 0)),false),((sE (W 0 0) (.ls [])),false),((qG (.slen (W 0 0)) (.li 4)),false),((.and (qG (.slen (W 0 0)) (.li 1)) (uE (.byte (W 0 0) (.li 0)) (.li 48))),false)] 1 4 [(zI (.li 0)),(zB (.lb false)),(zI (.li 0)),(zI (.li 0))] [((.not (qL (V 4) (.slen (W 0 0)))),1,[(zI (V 1)),(zB (V 2)),(zI (V 3))]),((.or (.bin .lss kU (.byte (W 0 0) (V 4)) (.li 48)) (.bin .gtr kU (.byte (W 0 0) (V 4)) (.li 57))),2,[(zI (.li 0)),(zB (.lb false))]),((.lb true),0,[(zI (V 1)),(zB (V 2)),(zI (aI (.bin .mul kI (V 3) (.li 10)) (.conv .i64 (.bin .sub kU (.byte (W 0 0) (V 4)) (.li 48))))),(zI (aI (V 4) (.li 1)))])] [(p4,(.tm (qM (.li 0) (V 4)))),
 (p5,(.tm (qM (.li 0) (V 4)))),
 (p7,(.tm (qM (.li 0) (V 4))))] [] [3,2] []
def H8_1 : LH:=.mk [(qM (.li 0) (V 4))] (mI (.slen (W 0 0)) (V 4)) [((.slen (W 0 0)),1)] [] 1 [] []
def rk_key_Index_l1 (r:Bool×Int×Bool×Int×Int×Bool):Nat×List AV:=rk2 r.1 [eI r.2.1,eB r.2.2.1,eI r.2.2.2.1] [eI r.2.2.2.2.1,eB r.2.2.2.2.2]
theorem lp_key_Index_l1 (x0:GKey):∀(n:Nat) (u1:Int) (u2:Bool) (u3:Int) (u4:Int),RunL Tryd.prog sT L8_1 H8_1 [GKey.av x0] n [eI u1,eB u2,eI u3,eI u4] (rk_key_Index_l1 (key_Index_l1 x0 n u1 u2 u3 u4))
 |0,u1,u2,u3,u4=>l0
 |n+1,u1,u2,u3,u4=>
  lmk rfl [] xn (wT <|
  wT <|
  wT <|
  wn) ln <|
   rc rk_key_Index_l1 rx<|rc rk_key_Index_l1 rx<|rl (rg (lp_key_Index_l1 x0 n _ _ _ _))
def R8 : PRes:=
 let p0:Pc:=((.or (.or (qG (W 0 1) (.li 0)) (sE (W 0 0) (.ls []))) (qG (.slen (W 0 0)) (.li 4))),false)::[]
 let p1:Pc:=((qG (.slen (W 0 0)) (.li 1)),true)::p0
 ⟨[((.or (.or (.or (qG (W 0 1) (.li 0)) (sE (W 0 0) (.ls []))) (qG (.slen (W 0 0)) (.li 4))) (.and (qG (.slen (W 0 0)) (.li 1)) (uE (.byte (W 0 0) (.li 0)) (.li 48)))),(.tup [(zI (.li 0)),(zB (.lb false))])),((.not (qE (V 1) (.li 0))),(.tup [(zI (V 5)),(zB (V 6))])),((qH (V 4) (.li 1024)),(.tup [(zI (.li 0)),(zB (.lb false))])),((.lb true),(.tup [(zI (V 4)),(zB (.lb true))]))],
 [(p1,(.tm (qL (.li 0) (.slen (W 0 0)))))],[L8_1]⟩
def H8 : LH:=.mk [] (.li 0) [] [] 0 [H8_1] []
theorem e8 : sFnI Tryd.prog xBase iBase mdI (fcI kA 8 [44,46,45,47,48,35,5,4,2,3] [(0,(.mk [1,34] (.mk [(2,(.sc kI)),(3,(.sc .bool)),(4,(.sc kI)),(35,(.sc kI))] [] [] 34) [(.normal,(.mk [(2,(.sc kI)),(3,(.sc .bool)),(4,(.sc kI))] [] [] 34)),(.ret,(.mk [(2,(.sc kI)),(3,(.sc .bool))] [] [] 34))]))]) 3 200 8 [.agg (cV 0 GKey.kds)] 1=some R8:=by kernel_rfl
theorem ct_key_Index (x0:GKey):CT Tryd.prog sT 8 [GKey.av x0] (eR_ii64_bool (key_Index x0)):=
 let r1:Bool×Int×Bool×Int×Int×Bool:=key_Index_l1 x0 (((sLen x0.Str):Int).toNat+1) 0 false 0 0
 mkH hmix xBase_ok iBase_ok e8 H8 (by kernel_rfl) [GKey.av x0,eI (selB r1.1),eI r1.2.1,eB r1.2.2.1,eI r1.2.2.2.1,eI r1.2.2.2.2.1,eB r1.2.2.2.2.2] xn
  (wT<|wn)
  (lc2 (lp_key_Index_l1 x0 (((sLen x0.Str):Int).toNat+1) 0 false 0 0) <|
  ln)
  (selE eR_ii64_bool rfl rfl (selE eR_ii64_bool rfl rfl (selE eR_ii64_bool rfl rfl (selL rfl))))
def R13 : PRes:=
 ⟨[((W 1 1),(.tup [(zI (.li 0)),(zI (W 1 0))])),((qG (W 0 1) (.li 0)),(.tup [(zI (.li 2)),(zI (.li 0))])),((.lb true),(.tup [(zI (.li 1)),(zI (.li 0))]))],
 [([],(.call 8 [(.agg [(zS (W 0 0)),(zI (W 0 1))])] (.tup [(zI (W 1 0)),(zB (W 1 1))])))],[]⟩
theorem e13 : sFnI Tryd.prog xBase iBase mdI (fcI kA 13 [] []) 3 200 13 [.agg (cV 0 GKey.kds)] 1=some R13:=by kernel_rfl
theorem ct_key_place (x0:GKey):CT Tryd.prog sT 13 [GKey.av x0] (eR_ii64_ii64 (key_place x0)):=
 let v1:Int×Bool:=key_Index x0
 mkH hmix xBase_ok iBase_ok e13 lh0 (by kernel_rfl) [GKey.av x0,eR_ii64_bool v1] xn
  (wC (ct_key_Index x0)<|wn)
  ln
  (selE eR_ii64_ii64 rfl rfl (selE eR_ii64_ii64 rfl rfl (selL rfl)))
def L35w4_5 : Lo:=
 let p0:Pc:=((qL (V 3) (V 2)),true)::[]
 let p1:Pc:=((qG (V 5) (V 1)),true)::p0
 let p2:Pc:=((.and (qG (V 5) (V 1)) (.not (.or (qL (W 8 0) (W 10 0)) (.and (qE (W 8 0) (W 10 0)) (qL (W 8 1) (W 10 1)))))),false)::p0
 let p3:Pc:=((qG (V 5) (V 1)),true)::p2
 .mk [((qL (V 3) (V 2)),true)] 5 2 [(zI (V 3)),(zL (V 4))] [((.and (qG (V 5) (V 1)) (.not (.or (qL (W 8 0) (W 10 0)) (.and (qE (W 8 0) (W 10 0)) (qL (W 8 1) (W 10 1)))))),1,[(zI (V 5)),(zL (V 6))]),((.not (qG (V 5) (V 1))),1,[(zI (V 5)),(zL (V 6))]),((.lb true),0,[(zI (mI (V 5) (.li 1))),(zL (V 14))])] [(p1,(.tm (qM (.li 0) (V 5)))),
 (p1,(.tm (qL (V 5) (.rlen (V 0))))),
 (p1,(.rd (true,2) (V 6) (V 5) 0 (.agg [(zS (W 7 0)),(zI (W 7 1))]))),
 (p1,(.call 13 [(.agg [(zS (W 7 0)),(zI (W 7 1))])] (.tup [(zI (W 8 0)),(zI (W 8 1))]))),
 (p1,(.tm (qM (.li 0) (mI (V 5) (.li 1))))),
 (p1,(.tm (qL (mI (V 5) (.li 1)) (.rlen (V 0))))),
 (p1,(.rd (true,2) (V 6) (mI (V 5) (.li 1)) 0 (.agg [(zS (W 9 0)),(zI (W 9 1))]))),
 (p1,(.call 13 [(.agg [(zS (W 9 0)),(zI (W 9 1))])] (.tup [(zI (W 10 0)),(zI (W 10 1))]))),
 (p3,(.tm (qM (.li 0) (V 5)))),
 (p3,(.tm (qL (V 5) (.rlen (V 6))))),
 (p3,(.tm (qM (.li 0) (mI (V 5) (.li 1))))),
 (p3,(.tm (qL (mI (V 5) (.li 1)) (.rlen (V 6))))),
 (p3,(.row (V 6) (V 5) [(zS (W 11 0)),(zI (W 11 1))])),
 (p3,(.row (V 6) (mI (V 5) (.li 1)) [(zS (W 12 0)),(zI (W 12 1))])),
 (p3,(.st (V 6) (V 5) 0 [(zS (W 12 0)),(zI (W 12 1))] (V 13))),
 (p3,(.st (V 13) (mI (V 5) (.li 1)) 0 [(zS (W 11 0)),(zI (W 11 1))] (V 14))),
 (p3,(.tm (qE (.rlen (V 0)) (.rlen (V 6)))))] [] [2] []
def H35w4_5 : LH:=.mk [(qM (V 5) (V 3)),(qE (.rlen (V 6)) (.rlen (V 4)))] (mI (V 5) (V 1)) [((V 3),1),((V 1),(-1))] [] 0 [] [[(qE (.rlen (V 6)) (.rlen (V 4)))]]
def rk_sort_insertionSort_func_w3_2_l5 (r:Int×List GKey):Nat×List AV:=(0,[eI r.1,eL GKey.enc r.2])
theorem lp_sort_insertionSort_func_w3_2_l5 (x0:List GKey)(x1:Int)(x2:Int)(u3:Int)(u4:List GKey):∀(n:Nat) (u5:Int) (u6:List GKey),RunL Tryd.prog sT L35w4_5 H35w4_5 [eL GKey.enc x0,eI x1,eI x2,eI u3,eL GKey.enc u4] n [eI u5,eL GKey.enc u6] (rk_sort_insertionSort_func_w3_2_l5 (sort_insertionSort_func_w3_2_l5 x1 n u5 u6))
 |0,u5,u6=>l0
 |n+1,u5,u6=>
  let v7:GKey:=u6.getD (u5:Int).toNat default
  let v8:Int×Int:=key_place v7
  let v9:GKey:=u6.getD ((iSub .i64 u5 1):Int).toNat default
  let v10:Int×Int:=key_place v9
  let v11:GKey:=u6.getD (u5:Int).toNat default
  let v12:GKey:=u6.getD ((iSub .i64 u5 1):Int).toNat default
  let v13:List GKey:=u6.set (u5:Int).toNat v12
  let v14:List GKey:=v13.set ((iSub .i64 u5 1):Int).toNat v11
  lmk rfl [GKey.av v7,eR_ii64_ii64 v8,GKey.av v9,eR_ii64_ii64 v10,GKey.av v11,GKey.av v12,eL GKey.enc v13,eL GKey.enc v14] xn (wT <|
  wT <|
  wRd rfl <|
  wC (ct_key_place v7) <|
  wT <|
  wT <|
  wRd rfl <|
  wC (ct_key_place v9) <|
  wT <|
  wT <|
  wT <|
  wT <|
  wR rfl <|
  wR rfl <|
  wSt (f:=GKey.enc) v12 rfl <|
  wSt (f:=GKey.enc) v11 rfl <|
  wT <|
  wn) ln <|
   rc rk_sort_insertionSort_func_w3_2_l5 rx<|rc rk_sort_insertionSort_func_w3_2_l5 rx<|rl (rg (lp_sort_insertionSort_func_w3_2_l5 x0 x1 x2 u3 u4 n _ _))
def L35w4_3 : Lo:=
 .mk [] 3 2 [(zI (aI (V 1) (.li 1))),(zL (V 0))] [((.not (qL (V 3) (V 2))),1,[(zL (V 4))]),((.lb true),0,[(zI (aI (V 3) (.li 1))),(zL (V 6))])] [] [L35w4_5] [1] []
def H35w4_3 : LH:=.mk [(qM (aI (V 1) (.li 1)) (V 3)),(qE (.rlen (V 4)) (.rlen (V 0)))] (mI (V 2) (V 3)) [((V 2),1)] [] 0 [H35w4_5] [[(qE (.rlen (V 3)) (.rlen (V 0)))]]
def rk_sort_insertionSort_func_w3_2_l3 (r:List GKey):Nat×List AV:=(0,[eL GKey.enc r])
theorem lp_sort_insertionSort_func_w3_2_l3 (x0:List GKey)(x1:Int)(x2:Int):∀(n:Nat) (u3:Int) (u4:List GKey),RunL Tryd.prog sT L35w4_3 H35w4_3 [eL GKey.enc x0,eI x1,eI x2] n [eI u3,eL GKey.enc u4] (rk_sort_insertionSort_func_w3_2_l3 (sort_insertionSort_func_w3_2_l3 x1 x2 n u3 u4))
 |0,u3,u4=>l0
 |n+1,u3,u4=>
  let r5:Int×List GKey:=sort_insertionSort_func_w3_2_l5 x1 ((u3-x1).toNat+1) u3 u4
  lmk rfl [eI r5.1,eL GKey.enc r5.2] xn wn (lc1 (lp_sort_insertionSort_func_w3_2_l5 x0 x1 x2 u3 u4 ((u3-x1).toNat+1) u3 u4) (hn:=(show ((1)*(u3)+((-1)*(x1)+(0)):Int)<_ by first|omega|(simp only [lens];omega))) <|
  ln) <|
   rc rk_sort_insertionSort_func_w3_2_l3 rx<|rl (rg (lp_sort_insertionSort_func_w3_2_l3 x0 x1 x2 n _ _))
def R35w4 : PRes:=
 ⟨[((.lb true),(.tup [(.tup []),(zL (V 3))]))],
 [],[L35w4_3]⟩
def H35w4 : LH:=.mk [] (.li 0) [] [] 0 [H35w4_3] []
theorem e35w4 : sFnW Tryd.prog xBase iBase mdI (fcI kA 35 [7,6,25,21,22,24,23,20] [(0,(.mk [1,2,3] (.mk [(6,(.sc kI))] [] [(2,2)] 8) [(.normal,(.mk [] [] [(2,2)] 8))])),(2,(.mk [1,2,3,6] (.mk [(7,(.sc kI))] [] [(2,2)] 13) [(.normal,(.mk [(7,(.sc kI))] [] [(2,2)] 13))]))]) 3 200 35 [(.agg [(.fn 12 [] [(.op 3 1 (.li 0) 0)]),(.fn 34 [] [(.os 2 2 0 (.rlen (V 0))),(.c (.at 3 26))])]),(zI (V 1)),(zI (V 2))] 3 [(3,(.rows 1 [[(.os 2 2 0 (.rlen (V 0)))]])),(2,(.rowsT 2 (V 0)))] [(2,2)] 4=some R35w4:=by kernel_rfl
theorem ctw_sort_insertionSort_func_w3_2 (x0:List GKey)(x1:Int)(x2:Int){L:Nat}(hL:L=(List.map GKey.enc x0).length):CTw Tryd.prog sT 35 [(.agg [(.fn (.func 12) [] [(.op 3 1 0 0)]),(.fn (.func 34) [] [(.os 2 2 0 L),(.p (Cv.val (.at 3 26)))])]),(.p (.int .i64 x1)),(.p (.int .i64 x2))] [(3,.rows 1 [[(.os 2 2 0 L)]]),(2,.rows 2 (List.map GKey.enc x0))] 4 (.tup []) [(3,.rows 1 [[(.os 2 2 0 L)]]),(2,.rows 2 (List.map GKey.enc (sort_insertionSort_func_w3_2 x0 x1 x2)))]:=by subst hL;exact (
 let r3:List GKey:=sort_insertionSort_func_w3_2_l3 x1 x2 ((x2:Int).toNat+1) (iAdd .i64 x1 1) x0
 mkW (cs:=[eL GKey.enc (sort_insertionSort_func_w3_2 x0 x1 x2)]) hmix xBase_ok iBase_ok e35w4 H35w4 (by kernel_rfl) [eL GKey.enc x0,eI x1,eI x2,eL GKey.enc r3] xn
  wn
  (lc1 (lp_sort_insertionSort_func_w3_2_l3 x0 x1 x2 ((x2:Int).toNat+1) (iAdd .i64 x1 1) x0) <|
  ln)
  (selL rfl))
def L45w4_4 : Lo:=
 let p0:Pc:=((qL (V 4) (V 3)),true)::[]
 .mk [] 4 2 [(zI (.li 0)),(zL (V 0))] [((.not (qL (V 4) (V 3))),1,[(zL (V 5))]),((.lb true),0,[(zI (aI (V 4) (.li 1))),(zL (V 9))])] [(p0,(.tm (qM (.li 0) (aI (V 1) (V 4))))),
 (p0,(.tm (qL (aI (V 1) (V 4)) (.rlen (V 5))))),
 (p0,(.tm (qM (.li 0) (aI (V 2) (V 4))))),
 (p0,(.tm (qL (aI (V 2) (V 4)) (.rlen (V 5))))),
 (p0,(.row (V 5) (aI (V 1) (V 4)) [(zS (W 6 0)),(zI (W 6 1))])),
 (p0,(.row (V 5) (aI (V 2) (V 4)) [(zS (W 7 0)),(zI (W 7 1))])),
 (p0,(.st (V 5) (aI (V 1) (V 4)) 0 [(zS (W 7 0)),(zI (W 7 1))] (V 8))),
 (p0,(.st (V 8) (aI (V 2) (V 4)) 0 [(zS (W 6 0)),(zI (W 6 1))] (V 9))),
 (p0,(.tm (qE (.rlen (V 0)) (.rlen (V 5)))))] [] [1] []
def H45w4_4 : LH:=.mk [(qE (.rlen (V 5)) (.rlen (V 0))),(qM (.li 0) (V 4))] (mI (V 3) (V 4)) [((V 3),1)] [] 0 [] [[(qE (.rlen (V 4)) (.rlen (V 0)))]]
def rk_sort_swapRange_func_w3_2_l4 (r:List GKey):Nat×List AV:=(0,[eL GKey.enc r])
theorem lp_sort_swapRange_func_w3_2_l4 (x0:List GKey)(x1:Int)(x2:Int)(x3:Int):∀(n:Nat) (u4:Int) (u5:List GKey),RunL Tryd.prog sT L45w4_4 H45w4_4 [eL GKey.enc x0,eI x1,eI x2,eI x3] n [eI u4,eL GKey.enc u5] (rk_sort_swapRange_func_w3_2_l4 (sort_swapRange_func_w3_2_l4 x1 x2 x3 n u4 u5))
 |0,u4,u5=>l0
 |n+1,u4,u5=>
  let v6:GKey:=u5.getD ((iAdd .i64 x1 u4):Int).toNat default
  let v7:GKey:=u5.getD ((iAdd .i64 x2 u4):Int).toNat default
  let v8:List GKey:=u5.set ((iAdd .i64 x1 u4):Int).toNat v7
  let v9:List GKey:=v8.set ((iAdd .i64 x2 u4):Int).toNat v6
  lmk rfl [GKey.av v6,GKey.av v7,eL GKey.enc v8,eL GKey.enc v9] xn (wT <|
  wT <|
  wT <|
  wT <|
  wR rfl <|
  wR rfl <|
  wSt (f:=GKey.enc) v7 rfl <|
  wSt (f:=GKey.enc) v6 rfl <|
  wT <|
  wn) ln <|
   rc rk_sort_swapRange_func_w3_2_l4 rx<|rl (rg (lp_sort_swapRange_func_w3_2_l4 x0 x1 x2 x3 n _ _))
def R45w4 : PRes:=
 ⟨[((.lb true),(.tup [(.tup []),(zL (V 4))]))],
 [],[L45w4_4]⟩
def H45w4 : LH:=.mk [] (.li 0) [] [] 0 [H45w4_4] []
theorem e45w4 : sFnW Tryd.prog xBase iBase mdI (fcI kA 45 [8] [(0,(.mk [1,2,3,4] (.mk [(8,(.sc kI))] [] [(2,2)] 6) [(.normal,(.mk [] [] [(2,2)] 6))]))]) 3 200 45 [(.agg [(.fn 12 [] [(.op 3 1 (.li 0) 0)]),(.fn 34 [] [(.os 2 2 0 (.rlen (V 0))),(.c (.at 3 26))])]),(zI (V 1)),(zI (V 2)),(zI (V 3))] 4 [(3,(.rows 1 [[(.os 2 2 0 (.rlen (V 0)))]])),(2,(.rowsT 2 (V 0)))] [(2,2)] 4=some R45w4:=by kernel_rfl
theorem ctw_sort_swapRange_func_w3_2 (x0:List GKey)(x1:Int)(x2:Int)(x3:Int){L:Nat}(hL:L=(List.map GKey.enc x0).length):CTw Tryd.prog sT 45 [(.agg [(.fn (.func 12) [] [(.op 3 1 0 0)]),(.fn (.func 34) [] [(.os 2 2 0 L),(.p (Cv.val (.at 3 26)))])]),(.p (.int .i64 x1)),(.p (.int .i64 x2)),(.p (.int .i64 x3))] [(3,.rows 1 [[(.os 2 2 0 L)]]),(2,.rows 2 (List.map GKey.enc x0))] 4 (.tup []) [(3,.rows 1 [[(.os 2 2 0 L)]]),(2,.rows 2 (List.map GKey.enc (sort_swapRange_func_w3_2 x0 x1 x2 x3)))]:=by subst hL;exact (
 let r4:List GKey:=sort_swapRange_func_w3_2_l4 x1 x2 x3 ((x3:Int).toNat+1) 0 x0
 mkW (cs:=[eL GKey.enc (sort_swapRange_func_w3_2 x0 x1 x2 x3)]) hmix xBase_ok iBase_ok e45w4 H45w4 (by kernel_rfl) [eL GKey.enc x0,eI x1,eI x2,eI x3,eL GKey.enc r4] xn
  wn
  (lc1 (lp_sort_swapRange_func_w3_2_l4 x0 x1 x2 x3 ((x3:Int).toNat+1) 0 x0) <|
  ln)
  (selL rfl))
def L39w4_4 : Lo:=
 let p0:Pc:=((qN (V 4) (V 5)),true)::[]
 let p1:Pc:=((qG (V 4) (V 5)),true)::p0
 let p2:Pc:=((qG (V 4) (V 5)),false)::p0
 .mk [] 4 3 [(zI (mI (V 2) (V 1))),(zI (mI (V 3) (V 2))),(zL (V 0))] [((.not (qN (V 4) (V 5))),1,[(zI (V 4)),(zL (V 6))]),((qG (V 4) (V 5)),0,[(zI (mI (V 4) (V 5))),(zI (V 5)),(zL (V 7))]),((.lb true),0,[(zI (V 4)),(zI (mI (V 5) (V 4))),(zL (V 9))])] [(p1,(.callw 45 [(.agg [(.fn 12 [] [(.op 3 1 (.li 0) 0)]),(.fn 34 [] [(.os 2 2 0 (.rlen (V 0))),(.c (.at 3 26))])]),(zI (mI (V 2) (V 4))),(zI (V 2)),(zI (V 5))] [(3,(.rows 1 [[(.os 2 2 0 (.rlen (V 0)))]])),(2,(.rowsT 2 (V 6)))] 4 (.tup []) [(3,(.rows 1 [[(.os 2 2 0 (.rlen (V 0)))]])),(2,(.rowsT 2 (V 7)))])),
 (p2,(.callw 45 [(.agg [(.fn 12 [] [(.op 3 1 (.li 0) 0)]),(.fn 34 [] [(.os 2 2 0 (.rlen (V 0))),(.c (.at 3 26))])]),(zI (mI (V 2) (V 4))),(zI (mI (aI (V 2) (V 5)) (V 4))),(zI (V 4))] [(3,(.rows 1 [[(.os 2 2 0 (.rlen (V 0)))]])),(2,(.rowsT 2 (V 6)))] 4 (.tup []) [(3,(.rows 1 [[(.os 2 2 0 (.rlen (V 0)))]])),(2,(.rowsT 2 (V 9)))]))] [] [2] []
def H39w4_4 : LH:=.mk [(qL (.li 0) (V 4)),(qL (.li 0) (V 5)),(qM (V 4) (mI (V 2) (V 1))),(qM (V 5) (mI (V 3) (V 2))),(qE (.rlen (V 6)) (.rlen (V 0)))] (aI (V 4) (V 5)) [((V 3),1),((V 1),(-1))] [] 0 [] [[(qM (.li 0) (V 4)),(qM (V 4) (mI (V 2) (V 1))),(qM (V 4) (mI (V 3) (V 2))),(qE (.rlen (V 5)) (.rlen (V 0)))]]
def rk_sort_rotate_func_w3_2_l4 (r:Int×List GKey):Nat×List AV:=(0,[eI r.1,eL GKey.enc r.2])
theorem lp_sort_rotate_func_w3_2_l4 (x0:List GKey)(x1:Int)(x2:Int)(x3:Int):∀(n:Nat) (u4:Int) (u5:Int) (u6:List GKey),RunL Tryd.prog sT L39w4_4 H39w4_4 [eL GKey.enc x0,eI x1,eI x2,eI x3] n [eI u4,eI u5,eL GKey.enc u6] (rk_sort_rotate_func_w3_2_l4 (sort_rotate_func_w3_2_l4 x2 n u4 u5 u6))
 |0,u4,u5,u6=>l0
 |n+1,u4,u5,u6=>
  let w7:List GKey:=sort_swapRange_func_w3_2 u6 (iSub .i64 x2 u4) x2 u5
  let v7:List GKey:=w7
  let w9:List GKey:=sort_swapRange_func_w3_2 u6 (iSub .i64 x2 u4) (iSub .i64 (iAdd .i64 x2 u5) u4) u4
  let v9:List GKey:=w9
  lmk rfl [eL GKey.enc v7,undefA,eL GKey.enc v9,undefA] xn (wWL (fun hL=>ctw_sort_swapRange_func_w3_2 u6 (iSub .i64 x2 u4) x2 u5 hL) <|
  wWL (fun hL=>ctw_sort_swapRange_func_w3_2 u6 (iSub .i64 x2 u4) (iSub .i64 (iAdd .i64 x2 u5) u4) u4 hL) <|
  wn) ln <|
   rc rk_sort_rotate_func_w3_2_l4 rx<|rc rk_sort_rotate_func_w3_2_l4 (rg (lp_sort_rotate_func_w3_2_l4 x0 x1 x2 x3 n _ _ _))<|rl (rg (lp_sort_rotate_func_w3_2_l4 x0 x1 x2 x3 n _ _ _))
def R39w4 : PRes:=
 ⟨[((.lb true),(.tup [(.tup []),(zL (V 6))]))],
 [([],(.callw 45 [(.agg [(.fn 12 [] [(.op 3 1 (.li 0) 0)]),(.fn 34 [] [(.os 2 2 0 (.rlen (V 0))),(.c (.at 3 26))])]),(zI (mI (V 2) (V 4))),(zI (V 2)),(zI (V 4))] [(3,(.rows 1 [[(.os 2 2 0 (.rlen (V 0)))]])),(2,(.rowsT 2 (V 5)))] 4 (.tup []) [(3,(.rows 1 [[(.os 2 2 0 (.rlen (V 0)))]])),(2,(.rowsT 2 (V 6)))]))],[L39w4_4]⟩
def H39w4 : LH:=.mk [] (.li 0) [] [] 0 [H39w4_4] []
theorem e39w4 : sFnW Tryd.prog xBase iBase mdI (fcI kA 39 [1,2,3,4,8,9,18,21] [(0,(.mk [2,4] (.mk [(8,(.sc kI)),(9,(.sc kI))] [] [(2,2)] 13) [(.normal,(.mk [(8,(.sc kI))] [] [(2,2)] 13))]))]) 3 200 39 [(.agg [(.fn 12 [] [(.op 3 1 (.li 0) 0)]),(.fn 34 [] [(.os 2 2 0 (.rlen (V 0))),(.c (.at 3 26))])]),(zI (V 1)),(zI (V 2)),(zI (V 3))] 4 [(3,(.rows 1 [[(.os 2 2 0 (.rlen (V 0)))]])),(2,(.rowsT 2 (V 0)))] [(2,2)] 4=some R39w4:=by kernel_rfl
theorem ctw_sort_rotate_func_w3_2 (x0:List GKey)(x1:Int)(x2:Int)(x3:Int){L:Nat}(hL:L=(List.map GKey.enc x0).length):CTw Tryd.prog sT 39 [(.agg [(.fn (.func 12) [] [(.op 3 1 0 0)]),(.fn (.func 34) [] [(.os 2 2 0 L),(.p (Cv.val (.at 3 26)))])]),(.p (.int .i64 x1)),(.p (.int .i64 x2)),(.p (.int .i64 x3))] [(3,.rows 1 [[(.os 2 2 0 L)]]),(2,.rows 2 (List.map GKey.enc x0))] 4 (.tup []) [(3,.rows 1 [[(.os 2 2 0 L)]]),(2,.rows 2 (List.map GKey.enc (sort_rotate_func_w3_2 x0 x1 x2 x3)))]:=by subst hL;exact (
 let r4:Int×List GKey:=sort_rotate_func_w3_2_l4 x2 ((x3-x1).toNat+1) (iSub .i64 x2 x1) (iSub .i64 x3 x2) x0
 let w6:List GKey:=sort_swapRange_func_w3_2 r4.2 (iSub .i64 x2 r4.1) x2 r4.1
 let v6:List GKey:=w6
 mkW (cs:=[eL GKey.enc (sort_rotate_func_w3_2 x0 x1 x2 x3)]) hmix xBase_ok iBase_ok e39w4 H39w4 (by kernel_rfl) [eL GKey.enc x0,eI x1,eI x2,eI x3,eI r4.1,eL GKey.enc r4.2,eL GKey.enc v6,undefA] xn
  (wWL (fun hL=>ctw_sort_swapRange_func_w3_2 r4.2 (iSub .i64 x2 r4.1) x2 r4.1 hL)<|wn)
  (lc1 (lp_sort_rotate_func_w3_2_l4 x0 x1 x2 x3 ((x3-x1).toNat+1) (iSub .i64 x2 x1) (iSub .i64 x3 x2) x0) (hn:=(show ((1)*(x3)+((-1)*(x1)+(0)):Int)<_ by first|omega|(simp only [lens];omega))) <|
  ln)
  (selL rfl))
def L36w4_4 : Lo:=
 let p0:Pc:=((qE (mI (V 2) (V 1)) (.li 1)),true)::[]
 let p1:Pc:=((qL (V 4) (V 5)),true)::p0
 .mk [((qE (mI (V 2) (V 1)) (.li 1)),true)] 4 2 [(zI (V 2)),(zI (V 3))] [((.not (qL (V 4) (V 5))),1,[(zI (V 4))]),((.lb true),0,[(zI (.ite (.or (qL (W 7 0) (W 9 0)) (.and (qE (W 7 0) (W 9 0)) (qL (W 7 1) (W 9 1)))) (aI (.conv .i64 (.bin .shr (.int .u64) (.conv .u64 (aI (V 4) (V 5))) (.li 1))) (.li 1)) (V 4))),(zI (.ite (.or (qL (W 7 0) (W 9 0)) (.and (qE (W 7 0) (W 9 0)) (qL (W 7 1) (W 9 1)))) (V 5) (.conv .i64 (.bin .shr (.int .u64) (.conv .u64 (aI (V 4) (V 5))) (.li 1)))))])] [(p1,(.tm (qM (.li 0) (.conv .i64 (.bin .shr (.int .u64) (.conv .u64 (aI (V 4) (V 5))) (.li 1)))))),
 (p1,(.tm (qL (.conv .i64 (.bin .shr (.int .u64) (.conv .u64 (aI (V 4) (V 5))) (.li 1))) (.rlen (V 0))))),
 (p1,(.rd (true,2) (V 0) (.conv .i64 (.bin .shr (.int .u64) (.conv .u64 (aI (V 4) (V 5))) (.li 1))) 0 (.agg [(zS (W 6 0)),(zI (W 6 1))]))),
 (p1,(.call 13 [(.agg [(zS (W 6 0)),(zI (W 6 1))])] (.tup [(zI (W 7 0)),(zI (W 7 1))]))),
 (p1,(.tm (qM (.li 0) (V 1)))),
 (p1,(.tm (qL (V 1) (.rlen (V 0))))),
 (p1,(.rd (true,2) (V 0) (V 1) 0 (.agg [(zS (W 8 0)),(zI (W 8 1))]))),
 (p1,(.call 13 [(.agg [(zS (W 8 0)),(zI (W 8 1))])] (.tup [(zI (W 9 0)),(zI (W 9 1))])))] [] [1] []
def H36w4_4 : LH:=.mk [(qM (V 2) (V 4)),(qM (V 4) (V 5)),(qM (V 5) (V 3)),(qM (.li 0) (V 4))] (mI (V 5) (V 4)) [((V 3),1),((V 2),(-1))] [] 0 [] [[(qM (V 2) (V 4)),(qM (V 4) (V 3))]]
def rk_sort_symMerge_func_w3_2_l4 (r:Int):Nat×List AV:=(0,[eI r])
theorem lp_sort_symMerge_func_w3_2_l4 (x0:List GKey)(x1:Int)(x2:Int)(x3:Int):∀(n:Nat) (u4:Int) (u5:Int),RunL Tryd.prog sT L36w4_4 H36w4_4 [eL GKey.enc x0,eI x1,eI x2,eI x3] n [eI u4,eI u5] (rk_sort_symMerge_func_w3_2_l4 (sort_symMerge_func_w3_2_l4 x0 x1 n u4 u5))
 |0,u4,u5=>l0
 |n+1,u4,u5=>
  let v6:GKey:=x0.getD ((IntKind.wrap .i64 (iShr .u64 (IntKind.wrap .u64 (iAdd .i64 u4 u5)) 1)):Int).toNat default
  let v7:Int×Int:=key_place v6
  let v8:GKey:=x0.getD (x1:Int).toNat default
  let v9:Int×Int:=key_place v8
  lmk rfl [GKey.av v6,eR_ii64_ii64 v7,GKey.av v8,eR_ii64_ii64 v9] xn (wT <|
  wT <|
  wRd rfl <|
  wC (ct_key_place v6) <|
  wT <|
  wT <|
  wRd rfl <|
  wC (ct_key_place v8) <|
  wn) ln <|
   rc rk_sort_symMerge_func_w3_2_l4 rx<|rl (rg (lp_sort_symMerge_func_w3_2_l4 x0 x1 x2 x3 n _ _))
def L36w4_5 : Lo:=
 let p0:Pc:=((qE (mI (V 2) (V 1)) (.li 1)),true)::[]
 let p1:Pc:=((qL (V 5) (mI (V 4) (.li 1))),true)::p0
 .mk [((qE (mI (V 2) (V 1)) (.li 1)),true)] 5 2 [(zI (V 1)),(zL (V 0))] [((.not (qL (V 5) (mI (V 4) (.li 1)))),1,[(zL (V 6))]),((.lb true),0,[(zI (aI (V 5) (.li 1))),(zL (V 10))])] [(p1,(.tm (qM (.li 0) (V 5)))),
 (p1,(.tm (qL (V 5) (.rlen (V 6))))),
 (p1,(.tm (qM (.li 0) (aI (V 5) (.li 1))))),
 (p1,(.tm (qL (aI (V 5) (.li 1)) (.rlen (V 6))))),
 (p1,(.row (V 6) (V 5) [(zS (W 7 0)),(zI (W 7 1))])),
 (p1,(.row (V 6) (aI (V 5) (.li 1)) [(zS (W 8 0)),(zI (W 8 1))])),
 (p1,(.st (V 6) (V 5) 0 [(zS (W 8 0)),(zI (W 8 1))] (V 9))),
 (p1,(.st (V 9) (aI (V 5) (.li 1)) 0 [(zS (W 7 0)),(zI (W 7 1))] (V 10))),
 (p1,(.tm (qE (.rlen (V 0)) (.rlen (V 6)))))] [] [1] []
def H36w4_5 : LH:=.mk [(qM (V 1) (V 5)),(qE (.rlen (V 6)) (.rlen (V 0)))] (mI (mI (V 4) (.li 1)) (V 5)) [((mI (V 4) (.li 1)),1)] [] 0 [] [[(qE (.rlen (V 5)) (.rlen (V 0)))]]
def rk_sort_symMerge_func_w3_2_l5 (r:List GKey):Nat×List AV:=(0,[eL GKey.enc r])
theorem lp_sort_symMerge_func_w3_2_l5 (x0:List GKey)(x1:Int)(x2:Int)(x3:Int)(r4:Int):∀(n:Nat) (u5:Int) (u6:List GKey),RunL Tryd.prog sT L36w4_5 H36w4_5 [eL GKey.enc x0,eI x1,eI x2,eI x3,eI r4] n [eI u5,eL GKey.enc u6] (rk_sort_symMerge_func_w3_2_l5 (sort_symMerge_func_w3_2_l5 r4 n u5 u6))
 |0,u5,u6=>l0
 |n+1,u5,u6=>
  let v7:GKey:=u6.getD (u5:Int).toNat default
  let v8:GKey:=u6.getD ((iAdd .i64 u5 1):Int).toNat default
  let v9:List GKey:=u6.set (u5:Int).toNat v8
  let v10:List GKey:=v9.set ((iAdd .i64 u5 1):Int).toNat v7
  lmk rfl [GKey.av v7,GKey.av v8,eL GKey.enc v9,eL GKey.enc v10] xn (wT <|
  wT <|
  wT <|
  wT <|
  wR rfl <|
  wR rfl <|
  wSt (f:=GKey.enc) v8 rfl <|
  wSt (f:=GKey.enc) v7 rfl <|
  wT <|
  wn) ln <|
   rc rk_sort_symMerge_func_w3_2_l5 rx<|rl (rg (lp_sort_symMerge_func_w3_2_l5 x0 x1 x2 x3 r4 n _ _))
def L36w4_6 : Lo:=
 let p0:Pc:=((qE (mI (V 2) (V 1)) (.li 1)),false)::[]
 let p1:Pc:=((qE (mI (V 3) (V 2)) (.li 1)),true)::p0
 let p2:Pc:=((qL (V 6) (V 7)),true)::p1
 .mk [((qE (mI (V 3) (V 2)) (.li 1)),true),((qE (mI (V 2) (V 1)) (.li 1)),false)] 6 2 [(zI (V 1)),(zI (V 2))] [((.not (qL (V 6) (V 7))),1,[(zI (V 6))]),((.lb true),0,[(zI (.ite (.or (qL (W 9 0) (W 11 0)) (.and (qE (W 9 0) (W 11 0)) (qL (W 9 1) (W 11 1)))) (V 6) (aI (.conv .i64 (.bin .shr (.int .u64) (.conv .u64 (aI (V 6) (V 7))) (.li 1))) (.li 1)))),(zI (.ite (.or (qL (W 9 0) (W 11 0)) (.and (qE (W 9 0) (W 11 0)) (qL (W 9 1) (W 11 1)))) (.conv .i64 (.bin .shr (.int .u64) (.conv .u64 (aI (V 6) (V 7))) (.li 1))) (V 7)))])] [(p2,(.tm (qM (.li 0) (V 2)))),
 (p2,(.tm (qL (V 2) (.rlen (V 0))))),
 (p2,(.rd (true,2) (V 0) (V 2) 0 (.agg [(zS (W 8 0)),(zI (W 8 1))]))),
 (p2,(.call 13 [(.agg [(zS (W 8 0)),(zI (W 8 1))])] (.tup [(zI (W 9 0)),(zI (W 9 1))]))),
 (p2,(.tm (qM (.li 0) (.conv .i64 (.bin .shr (.int .u64) (.conv .u64 (aI (V 6) (V 7))) (.li 1)))))),
 (p2,(.tm (qL (.conv .i64 (.bin .shr (.int .u64) (.conv .u64 (aI (V 6) (V 7))) (.li 1))) (.rlen (V 0))))),
 (p2,(.rd (true,2) (V 0) (.conv .i64 (.bin .shr (.int .u64) (.conv .u64 (aI (V 6) (V 7))) (.li 1))) 0 (.agg [(zS (W 10 0)),(zI (W 10 1))]))),
 (p2,(.call 13 [(.agg [(zS (W 10 0)),(zI (W 10 1))])] (.tup [(zI (W 11 0)),(zI (W 11 1))])))] [] [1] []
def H36w4_6 : LH:=.mk [(qM (V 1) (V 6)),(qM (V 7) (V 2)),(qM (V 6) (V 2))] (mI (V 7) (V 6)) [((V 2),1),((V 1),(-1))] [] 0 [] [[(qM (V 6) (V 2)),(qM (V 1) (V 6))]]
def rk_sort_symMerge_func_w3_2_l6 (r:Int):Nat×List AV:=(0,[eI r])
theorem lp_sort_symMerge_func_w3_2_l6 (x0:List GKey)(x1:Int)(x2:Int)(x3:Int)(r4:Int)(r5:List GKey):∀(n:Nat) (u6:Int) (u7:Int),RunL Tryd.prog sT L36w4_6 H36w4_6 [eL GKey.enc x0,eI x1,eI x2,eI x3,eI r4,eL GKey.enc r5] n [eI u6,eI u7] (rk_sort_symMerge_func_w3_2_l6 (sort_symMerge_func_w3_2_l6 x0 x2 n u6 u7))
 |0,u6,u7=>l0
 |n+1,u6,u7=>
  let v8:GKey:=x0.getD (x2:Int).toNat default
  let v9:Int×Int:=key_place v8
  let v10:GKey:=x0.getD ((IntKind.wrap .i64 (iShr .u64 (IntKind.wrap .u64 (iAdd .i64 u6 u7)) 1)):Int).toNat default
  let v11:Int×Int:=key_place v10
  lmk rfl [GKey.av v8,eR_ii64_ii64 v9,GKey.av v10,eR_ii64_ii64 v11] xn (wT <|
  wT <|
  wRd rfl <|
  wC (ct_key_place v8) <|
  wT <|
  wT <|
  wRd rfl <|
  wC (ct_key_place v10) <|
  wn) ln <|
   rc rk_sort_symMerge_func_w3_2_l6 rx<|rl (rg (lp_sort_symMerge_func_w3_2_l6 x0 x1 x2 x3 r4 r5 n _ _))
def L36w4_7 : Lo:=
 let p0:Pc:=((qE (mI (V 2) (V 1)) (.li 1)),false)::[]
 let p1:Pc:=((qE (mI (V 3) (V 2)) (.li 1)),true)::p0
 let p2:Pc:=((qG (V 7) (V 6)),true)::p1
 .mk [((qE (mI (V 3) (V 2)) (.li 1)),true),((qE (mI (V 2) (V 1)) (.li 1)),false)] 7 2 [(zI (V 2)),(zL (V 0))] [((.not (qG (V 7) (V 6))),1,[(zL (V 8))]),((.lb true),0,[(zI (mI (V 7) (.li 1))),(zL (V 12))])] [(p2,(.tm (qM (.li 0) (V 7)))),
 (p2,(.tm (qL (V 7) (.rlen (V 8))))),
 (p2,(.tm (qM (.li 0) (mI (V 7) (.li 1))))),
 (p2,(.tm (qL (mI (V 7) (.li 1)) (.rlen (V 8))))),
 (p2,(.row (V 8) (V 7) [(zS (W 9 0)),(zI (W 9 1))])),
 (p2,(.row (V 8) (mI (V 7) (.li 1)) [(zS (W 10 0)),(zI (W 10 1))])),
 (p2,(.st (V 8) (V 7) 0 [(zS (W 10 0)),(zI (W 10 1))] (V 11))),
 (p2,(.st (V 11) (mI (V 7) (.li 1)) 0 [(zS (W 9 0)),(zI (W 9 1))] (V 12))),
 (p2,(.tm (qE (.rlen (V 0)) (.rlen (V 8)))))] [] [1] []
def H36w4_7 : LH:=.mk [(qM (V 7) (V 2)),(qE (.rlen (V 8)) (.rlen (V 0)))] (mI (V 7) (V 6)) [((V 2),1),((V 1),(-1))] [] 0 [] [[(qE (.rlen (V 7)) (.rlen (V 0)))]]
def rk_sort_symMerge_func_w3_2_l7 (r:List GKey):Nat×List AV:=(0,[eL GKey.enc r])
theorem lp_sort_symMerge_func_w3_2_l7 (x0:List GKey)(x1:Int)(x2:Int)(x3:Int)(r4:Int)(r5:List GKey)(r6:Int):∀(n:Nat) (u7:Int) (u8:List GKey),RunL Tryd.prog sT L36w4_7 H36w4_7 [eL GKey.enc x0,eI x1,eI x2,eI x3,eI r4,eL GKey.enc r5,eI r6] n [eI u7,eL GKey.enc u8] (rk_sort_symMerge_func_w3_2_l7 (sort_symMerge_func_w3_2_l7 r6 n u7 u8))
 |0,u7,u8=>l0
 |n+1,u7,u8=>
  let v9:GKey:=u8.getD (u7:Int).toNat default
  let v10:GKey:=u8.getD ((iSub .i64 u7 1):Int).toNat default
  let v11:List GKey:=u8.set (u7:Int).toNat v10
  let v12:List GKey:=v11.set ((iSub .i64 u7 1):Int).toNat v9
  lmk rfl [GKey.av v9,GKey.av v10,eL GKey.enc v11,eL GKey.enc v12] xn (wT <|
  wT <|
  wT <|
  wT <|
  wR rfl <|
  wR rfl <|
  wSt (f:=GKey.enc) v10 rfl <|
  wSt (f:=GKey.enc) v9 rfl <|
  wT <|
  wn) ln <|
   rc rk_sort_symMerge_func_w3_2_l7 rx<|rl (rg (lp_sort_symMerge_func_w3_2_l7 x0 x1 x2 x3 r4 r5 r6 n _ _))
def L36w4_8 : Lo:=
 let p0:Pc:=((qE (mI (V 2) (V 1)) (.li 1)),false)::[]
 let p1:Pc:=((qE (mI (V 3) (V 2)) (.li 1)),false)::p0
 let p2:Pc:=((qL (V 8) (V 9)),true)::p1
 .mk [((qE (mI (V 3) (V 2)) (.li 1)),false),((qE (mI (V 2) (V 1)) (.li 1)),false)] 8 2 [(zI (.ite (qG (V 2) (.conv .i64 (.bin .shr (.int .u64) (.conv .u64 (aI (V 1) (V 3))) (.li 1)))) (mI (aI (.conv .i64 (.bin .shr (.int .u64) (.conv .u64 (aI (V 1) (V 3))) (.li 1))) (V 2)) (V 3)) (V 1))),(zI (.ite (qG (V 2) (.conv .i64 (.bin .shr (.int .u64) (.conv .u64 (aI (V 1) (V 3))) (.li 1)))) (.conv .i64 (.bin .shr (.int .u64) (.conv .u64 (aI (V 1) (V 3))) (.li 1))) (V 2)))] [((.not (qL (V 8) (V 9))),1,[(zI (V 8))]),((.lb true),0,[(zI (.ite (.or (qL (W 11 0) (W 13 0)) (.and (qE (W 11 0) (W 13 0)) (qL (W 11 1) (W 13 1)))) (V 8) (aI (.conv .i64 (.bin .shr (.int .u64) (.conv .u64 (aI (V 8) (V 9))) (.li 1))) (.li 1)))),(zI (.ite (.or (qL (W 11 0) (W 13 0)) (.and (qE (W 11 0) (W 13 0)) (qL (W 11 1) (W 13 1)))) (.conv .i64 (.bin .shr (.int .u64) (.conv .u64 (aI (V 8) (V 9))) (.li 1))) (V 9)))])] [(p2,(.tm (qM (.li 0) (mI (mI (aI (.conv .i64 (.bin .shr (.int .u64) (.conv .u64 (aI (V 1) (V 3))) (.li 1))) (V 2)) (.li 1)) (.conv .i64 (.bin .shr (.int .u64) (.conv .u64 (aI (V 8) (V 9))) (.li 1))))))),
 (p2,(.tm (qL (mI (mI (aI (.conv .i64 (.bin .shr (.int .u64) (.conv .u64 (aI (V 1) (V 3))) (.li 1))) (V 2)) (.li 1)) (.conv .i64 (.bin .shr (.int .u64) (.conv .u64 (aI (V 8) (V 9))) (.li 1)))) (.rlen (V 0))))),
 (p2,(.rd (true,2) (V 0) (mI (mI (aI (.conv .i64 (.bin .shr (.int .u64) (.conv .u64 (aI (V 1) (V 3))) (.li 1))) (V 2)) (.li 1)) (.conv .i64 (.bin .shr (.int .u64) (.conv .u64 (aI (V 8) (V 9))) (.li 1)))) 0 (.agg [(zS (W 10 0)),(zI (W 10 1))]))),
 (p2,(.call 13 [(.agg [(zS (W 10 0)),(zI (W 10 1))])] (.tup [(zI (W 11 0)),(zI (W 11 1))]))),
 (p2,(.tm (qM (.li 0) (.conv .i64 (.bin .shr (.int .u64) (.conv .u64 (aI (V 8) (V 9))) (.li 1)))))),
 (p2,(.tm (qL (.conv .i64 (.bin .shr (.int .u64) (.conv .u64 (aI (V 8) (V 9))) (.li 1))) (.rlen (V 0))))),
 (p2,(.rd (true,2) (V 0) (.conv .i64 (.bin .shr (.int .u64) (.conv .u64 (aI (V 8) (V 9))) (.li 1))) 0 (.agg [(zS (W 12 0)),(zI (W 12 1))]))),
 (p2,(.call 13 [(.agg [(zS (W 12 0)),(zI (W 12 1))])] (.tup [(zI (W 13 0)),(zI (W 13 1))])))] [] [1] []
def H36w4_8 : LH:=.mk [(qM (V 1) (V 8)),(qM (V 9) (V 2)),(qM (V 9) (.conv .i64 (.bin .shr (.int .u64) (.conv .u64 (aI (V 1) (V 3))) (.li 1)))),(qM (mI (aI (.conv .i64 (.bin .shr (.int .u64) (.conv .u64 (aI (V 1) (V 3))) (.li 1))) (V 2)) (V 3)) (V 8))] (mI (V 9) (V 8)) [((V 3),1),((V 1),(-1))] [] 0 [] [[(qM (.ite (qG (V 2) (.conv .i64 (.bin .shr (.int .u64) (.conv .u64 (aI (V 1) (V 3))) (.li 1)))) (mI (aI (.conv .i64 (.bin .shr (.int .u64) (.conv .u64 (aI (V 1) (V 3))) (.li 1))) (V 2)) (V 3)) (V 1)) (V 8))]]
def rk_sort_symMerge_func_w3_2_l8 (r:Int):Nat×List AV:=(0,[eI r])
theorem lp_sort_symMerge_func_w3_2_l8 (x0:List GKey)(x1:Int)(x2:Int)(x3:Int)(r4:Int)(r5:List GKey)(r6:Int)(r7:List GKey):∀(n:Nat) (u8:Int) (u9:Int),RunL Tryd.prog sT L36w4_8 H36w4_8 [eL GKey.enc x0,eI x1,eI x2,eI x3,eI r4,eL GKey.enc r5,eI r6,eL GKey.enc r7] n [eI u8,eI u9] (rk_sort_symMerge_func_w3_2_l8 (sort_symMerge_func_w3_2_l8 x0 x1 x2 x3 n u8 u9))
 |0,u8,u9=>l0
 |n+1,u8,u9=>
  let v10:GKey:=x0.getD ((iSub .i64 (iSub .i64 (iAdd .i64 (IntKind.wrap .i64 (iShr .u64 (IntKind.wrap .u64 (iAdd .i64 x1 x3)) 1)) x2) 1) (IntKind.wrap .i64 (iShr .u64 (IntKind.wrap .u64 (iAdd .i64 u8 u9)) 1))):Int).toNat default
  let v11:Int×Int:=key_place v10
  let v12:GKey:=x0.getD ((IntKind.wrap .i64 (iShr .u64 (IntKind.wrap .u64 (iAdd .i64 u8 u9)) 1)):Int).toNat default
  let v13:Int×Int:=key_place v12
  lmk rfl [GKey.av v10,eR_ii64_ii64 v11,GKey.av v12,eR_ii64_ii64 v13] xn (wT <|
  wT <|
  wRd rfl <|
  wC (ct_key_place v10) <|
  wT <|
  wT <|
  wRd rfl <|
  wC (ct_key_place v12) <|
  wn) ln <|
   rc rk_sort_symMerge_func_w3_2_l8 rx<|rl (rg (lp_sort_symMerge_func_w3_2_l8 x0 x1 x2 x3 r4 r5 r6 r7 n _ _))
def R36w4 : PRes:=
 let p0:Pc:=((qE (mI (V 2) (V 1)) (.li 1)),false)::[]
 let p1:Pc:=((qE (mI (V 3) (V 2)) (.li 1)),false)::p0
 let p2:Pc:=((qL (V 2) (mI (aI (.conv .i64 (.bin .shr (.int .u64) (.conv .u64 (aI (V 1) (V 3))) (.li 1))) (V 2)) (V 8))),true)::p1
 let p3:Pc:=((qL (V 8) (V 2)),true)::p2
 let p4:Pc:=((qL (V 8) (.conv .i64 (.bin .shr (.int .u64) (.conv .u64 (aI (V 1) (V 3))) (.li 1)))),true)::p3
 let p5:Pc:=((qL (V 1) (V 8)),true)::p4
 let p6:Pc:=((qL (mI (aI (.conv .i64 (.bin .shr (.int .u64) (.conv .u64 (aI (V 1) (V 3))) (.li 1))) (V 2)) (V 8)) (V 3)),true)::p5
 let p7:Pc:=((qL (.conv .i64 (.bin .shr (.int .u64) (.conv .u64 (aI (V 1) (V 3))) (.li 1))) (mI (aI (.conv .i64 (.bin .shr (.int .u64) (.conv .u64 (aI (V 1) (V 3))) (.li 1))) (V 2)) (V 8))),true)::p6
 let p8:Pc:=((.and (qL (V 1) (V 8)) (qL (V 8) (.conv .i64 (.bin .shr (.int .u64) (.conv .u64 (aI (V 1) (V 3))) (.li 1))))),false)::p3
 let p9:Pc:=((qL (mI (aI (.conv .i64 (.bin .shr (.int .u64) (.conv .u64 (aI (V 1) (V 3))) (.li 1))) (V 2)) (V 8)) (V 3)),true)::p8
 let p10:Pc:=((qL (.conv .i64 (.bin .shr (.int .u64) (.conv .u64 (aI (V 1) (V 3))) (.li 1))) (mI (aI (.conv .i64 (.bin .shr (.int .u64) (.conv .u64 (aI (V 1) (V 3))) (.li 1))) (V 2)) (V 8))),true)::p9
 let p11:Pc:=((.and (qL (V 8) (V 2)) (qL (V 2) (mI (aI (.conv .i64 (.bin .shr (.int .u64) (.conv .u64 (aI (V 1) (V 3))) (.li 1))) (V 2)) (V 8)))),false)::p1
 let p12:Pc:=((qL (V 8) (.conv .i64 (.bin .shr (.int .u64) (.conv .u64 (aI (V 1) (V 3))) (.li 1)))),true)::p11
 let p13:Pc:=((qL (V 1) (V 8)),true)::p12
 let p14:Pc:=((qL (mI (aI (.conv .i64 (.bin .shr (.int .u64) (.conv .u64 (aI (V 1) (V 3))) (.li 1))) (V 2)) (V 8)) (V 3)),true)::p13
 let p15:Pc:=((qL (.conv .i64 (.bin .shr (.int .u64) (.conv .u64 (aI (V 1) (V 3))) (.li 1))) (mI (aI (.conv .i64 (.bin .shr (.int .u64) (.conv .u64 (aI (V 1) (V 3))) (.li 1))) (V 2)) (V 8))),true)::p14
 let p16:Pc:=((.and (qL (V 1) (V 8)) (qL (V 8) (.conv .i64 (.bin .shr (.int .u64) (.conv .u64 (aI (V 1) (V 3))) (.li 1))))),false)::p11
 let p17:Pc:=((qL (mI (aI (.conv .i64 (.bin .shr (.int .u64) (.conv .u64 (aI (V 1) (V 3))) (.li 1))) (V 2)) (V 8)) (V 3)),true)::p16
 let p18:Pc:=((qL (.conv .i64 (.bin .shr (.int .u64) (.conv .u64 (aI (V 1) (V 3))) (.li 1))) (mI (aI (.conv .i64 (.bin .shr (.int .u64) (.conv .u64 (aI (V 1) (V 3))) (.li 1))) (V 2)) (V 8))),true)::p17
 ⟨[((qE (mI (V 2) (V 1)) (.li 1)),(.tup [(.tup []),(zL (V 5))])),((qE (mI (V 3) (V 2)) (.li 1)),(.tup [(.tup []),(zL (V 7))])),((.and (.and (qL (V 8) (V 2)) (qL (V 2) (mI (aI (.conv .i64 (.bin .shr (.int .u64) (.conv .u64 (aI (V 1) (V 3))) (.li 1))) (V 2)) (V 8)))) (.and (.and (qL (V 1) (V 8)) (qL (V 8) (.conv .i64 (.bin .shr (.int .u64) (.conv .u64 (aI (V 1) (V 3))) (.li 1))))) (.and (qL (.conv .i64 (.bin .shr (.int .u64) (.conv .u64 (aI (V 1) (V 3))) (.li 1))) (mI (aI (.conv .i64 (.bin .shr (.int .u64) (.conv .u64 (aI (V 1) (V 3))) (.li 1))) (V 2)) (V 8))) (qL (mI (aI (.conv .i64 (.bin .shr (.int .u64) (.conv .u64 (aI (V 1) (V 3))) (.li 1))) (V 2)) (V 8)) (V 3))))),(.tup [(.tup []),(zL (V 13))])),((.and (.and (qL (V 8) (V 2)) (qL (V 2) (mI (aI (.conv .i64 (.bin .shr (.int .u64) (.conv .u64 (aI (V 1) (V 3))) (.li 1))) (V 2)) (V 8)))) (.and (qL (V 1) (V 8)) (qL (V 8) (.conv .i64 (.bin .shr (.int .u64) (.conv .u64 (aI (V 1) (V 3))) (.li 1)))))),(.tup [(.tup []),(zL (V 11))])),((.and (.and (qL (V 8) (V 2)) (qL (V 2) (mI (aI (.conv .i64 (.bin .shr (.int .u64) (.conv .u64 (aI (V 1) (V 3))) (.li 1))) (V 2)) (V 8)))) (.and (qL (.conv .i64 (.bin .shr (.int .u64) (.conv .u64 (aI (V 1) (V 3))) (.li 1))) (mI (aI (.conv .i64 (.bin .shr (.int .u64) (.conv .u64 (aI (V 1) (V 3))) (.li 1))) (V 2)) (V 8))) (qL (mI (aI (.conv .i64 (.bin .shr (.int .u64) (.conv .u64 (aI (V 1) (V 3))) (.li 1))) (V 2)) (V 8)) (V 3)))),(.tup [(.tup []),(zL (V 15))])),((.and (qL (V 8) (V 2)) (qL (V 2) (mI (aI (.conv .i64 (.bin .shr (.int .u64) (.conv .u64 (aI (V 1) (V 3))) (.li 1))) (V 2)) (V 8)))),(.tup [(.tup []),(zL (V 9))])),((.and (.and (qL (V 1) (V 8)) (qL (V 8) (.conv .i64 (.bin .shr (.int .u64) (.conv .u64 (aI (V 1) (V 3))) (.li 1))))) (.and (qL (.conv .i64 (.bin .shr (.int .u64) (.conv .u64 (aI (V 1) (V 3))) (.li 1))) (mI (aI (.conv .i64 (.bin .shr (.int .u64) (.conv .u64 (aI (V 1) (V 3))) (.li 1))) (V 2)) (V 8))) (qL (mI (aI (.conv .i64 (.bin .shr (.int .u64) (.conv .u64 (aI (V 1) (V 3))) (.li 1))) (V 2)) (V 8)) (V 3)))),(.tup [(.tup []),(zL (V 19))])),((.and (qL (V 1) (V 8)) (qL (V 8) (.conv .i64 (.bin .shr (.int .u64) (.conv .u64 (aI (V 1) (V 3))) (.li 1))))),(.tup [(.tup []),(zL (V 17))])),((.and (qL (.conv .i64 (.bin .shr (.int .u64) (.conv .u64 (aI (V 1) (V 3))) (.li 1))) (mI (aI (.conv .i64 (.bin .shr (.int .u64) (.conv .u64 (aI (V 1) (V 3))) (.li 1))) (V 2)) (V 8))) (qL (mI (aI (.conv .i64 (.bin .shr (.int .u64) (.conv .u64 (aI (V 1) (V 3))) (.li 1))) (V 2)) (V 8)) (V 3))),(.tup [(.tup []),(zL (V 21))])),((.lb true),(.tup [(.tup []),(zL (V 0))]))],
 [(p3,(.callw 39 [(.agg [(.fn 12 [] [(.op 3 1 (.li 0) 0)]),(.fn 34 [] [(.os 2 2 0 (.rlen (V 0))),(.c (.at 3 26))])]),(zI (V 8)),(zI (V 2)),(zI (mI (aI (.conv .i64 (.bin .shr (.int .u64) (.conv .u64 (aI (V 1) (V 3))) (.li 1))) (V 2)) (V 8)))] [(3,(.rows 1 [[(.os 2 2 0 (.rlen (V 0)))]])),(2,(.rowsT 2 (V 0)))] 4 (.tup []) [(3,(.rows 1 [[(.os 2 2 0 (.rlen (V 0)))]])),(2,(.rowsT 2 (V 9)))])),
 (p5,(.callw 36 [(.agg [(.fn 12 [] [(.op 3 1 (.li 0) 0)]),(.fn 34 [] [(.os 2 2 0 (.rlen (V 0))),(.c (.at 3 26))])]),(zI (V 1)),(zI (V 8)),(zI (.conv .i64 (.bin .shr (.int .u64) (.conv .u64 (aI (V 1) (V 3))) (.li 1))))] [(3,(.rows 1 [[(.os 2 2 0 (.rlen (V 0)))]])),(2,(.rowsT 2 (V 9)))] 4 (.tup []) [(3,(.rows 1 [[(.os 2 2 0 (.rlen (V 0)))]])),(2,(.rowsT 2 (V 11)))])),
 (p7,(.callw 36 [(.agg [(.fn 12 [] [(.op 3 1 (.li 0) 0)]),(.fn 34 [] [(.os 2 2 0 (.rlen (V 0))),(.c (.at 3 26))])]),(zI (.conv .i64 (.bin .shr (.int .u64) (.conv .u64 (aI (V 1) (V 3))) (.li 1)))),(zI (mI (aI (.conv .i64 (.bin .shr (.int .u64) (.conv .u64 (aI (V 1) (V 3))) (.li 1))) (V 2)) (V 8))),(zI (V 3))] [(3,(.rows 1 [[(.os 2 2 0 (.rlen (V 0)))]])),(2,(.rowsT 2 (V 11)))] 4 (.tup []) [(3,(.rows 1 [[(.os 2 2 0 (.rlen (V 0)))]])),(2,(.rowsT 2 (V 13)))])),
 (p10,(.callw 36 [(.agg [(.fn 12 [] [(.op 3 1 (.li 0) 0)]),(.fn 34 [] [(.os 2 2 0 (.rlen (V 0))),(.c (.at 3 26))])]),(zI (.conv .i64 (.bin .shr (.int .u64) (.conv .u64 (aI (V 1) (V 3))) (.li 1)))),(zI (mI (aI (.conv .i64 (.bin .shr (.int .u64) (.conv .u64 (aI (V 1) (V 3))) (.li 1))) (V 2)) (V 8))),(zI (V 3))] [(3,(.rows 1 [[(.os 2 2 0 (.rlen (V 0)))]])),(2,(.rowsT 2 (V 9)))] 4 (.tup []) [(3,(.rows 1 [[(.os 2 2 0 (.rlen (V 0)))]])),(2,(.rowsT 2 (V 15)))])),
 (p13,(.callw 36 [(.agg [(.fn 12 [] [(.op 3 1 (.li 0) 0)]),(.fn 34 [] [(.os 2 2 0 (.rlen (V 0))),(.c (.at 3 26))])]),(zI (V 1)),(zI (V 8)),(zI (.conv .i64 (.bin .shr (.int .u64) (.conv .u64 (aI (V 1) (V 3))) (.li 1))))] [(3,(.rows 1 [[(.os 2 2 0 (.rlen (V 0)))]])),(2,(.rowsT 2 (V 0)))] 4 (.tup []) [(3,(.rows 1 [[(.os 2 2 0 (.rlen (V 0)))]])),(2,(.rowsT 2 (V 17)))])),
 (p15,(.callw 36 [(.agg [(.fn 12 [] [(.op 3 1 (.li 0) 0)]),(.fn 34 [] [(.os 2 2 0 (.rlen (V 0))),(.c (.at 3 26))])]),(zI (.conv .i64 (.bin .shr (.int .u64) (.conv .u64 (aI (V 1) (V 3))) (.li 1)))),(zI (mI (aI (.conv .i64 (.bin .shr (.int .u64) (.conv .u64 (aI (V 1) (V 3))) (.li 1))) (V 2)) (V 8))),(zI (V 3))] [(3,(.rows 1 [[(.os 2 2 0 (.rlen (V 0)))]])),(2,(.rowsT 2 (V 17)))] 4 (.tup []) [(3,(.rows 1 [[(.os 2 2 0 (.rlen (V 0)))]])),(2,(.rowsT 2 (V 19)))])),
 (p18,(.callw 36 [(.agg [(.fn 12 [] [(.op 3 1 (.li 0) 0)]),(.fn 34 [] [(.os 2 2 0 (.rlen (V 0))),(.c (.at 3 26))])]),(zI (.conv .i64 (.bin .shr (.int .u64) (.conv .u64 (aI (V 1) (V 3))) (.li 1)))),(zI (mI (aI (.conv .i64 (.bin .shr (.int .u64) (.conv .u64 (aI (V 1) (V 3))) (.li 1))) (V 2)) (V 8))),(zI (V 3))] [(3,(.rows 1 [[(.os 2 2 0 (.rlen (V 0)))]])),(2,(.rowsT 2 (V 0)))] 4 (.tup []) [(3,(.rows 1 [[(.os 2 2 0 (.rlen (V 0)))]])),(2,(.rowsT 2 (V 21)))]))],[L36w4_4,L36w4_5,L36w4_6,L36w4_7,L36w4_8]⟩
def H36w4 : LH:=.mk [] (.li 0) [] [] 0 [H36w4_4,H36w4_5,H36w4_6,H36w4_7,H36w4_8] []
theorem e36w4 : sFnW Tryd.prog xBase iBase mdI (fcI kA 36 [1,2,3,4,8,9,10,11,12,13,14,15,16,17,18,19,20,21,22,26,31,42,50,62,67,79,86,106,117,131,142,143,144,145,155,156,157,158,168,169,170,171] [(8,(.mk [1,2,3,4,16,17,20] (.mk [(18,(.sc kI)),(19,(.sc kI))] [] [] 38) [(.normal,(.mk [(18,(.sc kI))] [] [] 38))])),(6,(.mk [4,12] (.mk [(15,(.sc kI))] [] [(2,2)] 19) [(.normal,(.mk [] [] [(2,2)] 19))])),(4,(.mk [2,4] (.mk [(12,(.sc kI)),(13,(.sc kI))] [] [] 17) [(.normal,(.mk [(12,(.sc kI))] [] [] 17))])),(2,(.mk [4,8] (.mk [(11,(.sc kI))] [] [(2,2)] 15) [(.normal,(.mk [] [] [(2,2)] 15))])),(0,(.mk [1,4] (.mk [(8,(.sc kI)),(9,(.sc kI))] [] [] 13) [(.normal,(.mk [(8,(.sc kI))] [] [] 13))]))]) 3 200 36 [(.agg [(.fn 12 [] [(.op 3 1 (.li 0) 0)]),(.fn 34 [] [(.os 2 2 0 (.rlen (V 0))),(.c (.at 3 26))])]),(zI (V 1)),(zI (V 2)),(zI (V 3))] 4 [(3,(.rows 1 [[(.os 2 2 0 (.rlen (V 0)))]])),(2,(.rowsT 2 (V 0)))] [(2,2)] 4=some R36w4:=by kernel_rfl
theorem ctw_sort_symMerge_func_w3_2 : ∀(n:Nat) (x0:List GKey) (x1:Int) (x2:Int) (x3:Int) {L:Nat},(x3-x1).toNat<n→L=(List.map GKey.enc x0).length→CTw Tryd.prog sT 36 [(.agg [(.fn (.func 12) [] [(.op 3 1 0 0)]),(.fn (.func 34) [] [(.os 2 2 0 L),(.p (Cv.val (.at 3 26)))])]),(.p (.int .i64 x1)),(.p (.int .i64 x2)),(.p (.int .i64 x3))] [(3,.rows 1 [[(.os 2 2 0 L)]]),(2,.rows 2 (List.map GKey.enc x0))] 4 (.tup []) [(3,.rows 1 [[(.os 2 2 0 L)]]),(2,.rows 2 (List.map GKey.enc (sort_symMerge_func_w3_2 n x0 x1 x2 x3)))]
 |0,x0,x1,x2,x3,L,hm,_=>absurd hm (Nat.not_lt_zero _)
 |n+1,x0,x1,x2,x3,L,hm,hL=>by subst hL;exact (fun hp=>(fun hd=>
 let r4:Int:=sort_symMerge_func_w3_2_l4 x0 x1 ((x3-x2).toNat+1) x2 x3
 let r5:List GKey:=sort_symMerge_func_w3_2_l5 r4 (((iSub .i64 r4 1):Int).toNat+1) x1 x0
 let r6:Int:=sort_symMerge_func_w3_2_l6 x0 x2 ((x2-x1).toNat+1) x1 x2
 let r7:List GKey:=sort_symMerge_func_w3_2_l7 r6 ((x2-x1).toNat+1) x2 x0
 let r8:Int:=sort_symMerge_func_w3_2_l8 x0 x1 x2 x3 ((x3-x1).toNat+1) (bif (decide ((x2:Int) > (IntKind.wrap .i64 (iShr .u64 (IntKind.wrap .u64 (iAdd .i64 x1 x3)) 1)))) then (iSub .i64 (iAdd .i64 (IntKind.wrap .i64 (iShr .u64 (IntKind.wrap .u64 (iAdd .i64 x1 x3)) 1)) x2) x3) else x1) (bif (decide ((x2:Int) > (IntKind.wrap .i64 (iShr .u64 (IntKind.wrap .u64 (iAdd .i64 x1 x3)) 1)))) then (IntKind.wrap .i64 (iShr .u64 (IntKind.wrap .u64 (iAdd .i64 x1 x3)) 1)) else x2)
 let w9:List GKey:=sort_rotate_func_w3_2 x0 r8 x2 (iSub .i64 (iAdd .i64 (IntKind.wrap .i64 (iShr .u64 (IntKind.wrap .u64 (iAdd .i64 x1 x3)) 1)) x2) r8)
 let v9:List GKey:=w9
 let w11:List GKey:=sort_symMerge_func_w3_2 n v9 x1 r8 (IntKind.wrap .i64 (iShr .u64 (IntKind.wrap .u64 (iAdd .i64 x1 x3)) 1))
 let v11:List GKey:=w11
 let w13:List GKey:=sort_symMerge_func_w3_2 n v11 (IntKind.wrap .i64 (iShr .u64 (IntKind.wrap .u64 (iAdd .i64 x1 x3)) 1)) (iSub .i64 (iAdd .i64 (IntKind.wrap .i64 (iShr .u64 (IntKind.wrap .u64 (iAdd .i64 x1 x3)) 1)) x2) r8) x3
 let v13:List GKey:=w13
 let w15:List GKey:=sort_symMerge_func_w3_2 n v9 (IntKind.wrap .i64 (iShr .u64 (IntKind.wrap .u64 (iAdd .i64 x1 x3)) 1)) (iSub .i64 (iAdd .i64 (IntKind.wrap .i64 (iShr .u64 (IntKind.wrap .u64 (iAdd .i64 x1 x3)) 1)) x2) r8) x3
 let v15:List GKey:=w15
 let w17:List GKey:=sort_symMerge_func_w3_2 n x0 x1 r8 (IntKind.wrap .i64 (iShr .u64 (IntKind.wrap .u64 (iAdd .i64 x1 x3)) 1))
 let v17:List GKey:=w17
 let w19:List GKey:=sort_symMerge_func_w3_2 n v17 (IntKind.wrap .i64 (iShr .u64 (IntKind.wrap .u64 (iAdd .i64 x1 x3)) 1)) (iSub .i64 (iAdd .i64 (IntKind.wrap .i64 (iShr .u64 (IntKind.wrap .u64 (iAdd .i64 x1 x3)) 1)) x2) r8) x3
 let v19:List GKey:=w19
 let w21:List GKey:=sort_symMerge_func_w3_2 n x0 (IntKind.wrap .i64 (iShr .u64 (IntKind.wrap .u64 (iAdd .i64 x1 x3)) 1)) (iSub .i64 (iAdd .i64 (IntKind.wrap .i64 (iShr .u64 (IntKind.wrap .u64 (iAdd .i64 x1 x3)) 1)) x2) r8) x3
 let v21:List GKey:=w21
 (mkW (cs:=[eL GKey.enc (sort_symMerge_func_w3_2 (n+1) x0 x1 x2 x3)]) hmix xBase_ok iBase_ok e36w4 H36w4 (by kernel_rfl) [eL GKey.enc x0,eI x1,eI x2,eI x3,eI r4,eL GKey.enc r5,eI r6,eL GKey.enc r7,eI r8,eL GKey.enc v9,undefA,eL GKey.enc v11,undefA,eL GKey.enc v13,undefA,eL GKey.enc v15,undefA,eL GKey.enc v17,undefA,eL GKey.enc v19,undefA,eL GKey.enc v21,undefA] xn
  (wWL (fun hL=>ctw_sort_rotate_func_w3_2 x0 r8 x2 (iSub .i64 (iAdd .i64 (IntKind.wrap .i64 (iShr .u64 (IntKind.wrap .u64 (iAdd .i64 x1 x3)) 1)) x2) r8) hL) <|
  wWL (fun hL=>ctw_sort_symMerge_func_w3_2 n v9 x1 r8 (IntKind.wrap .i64 (iShr .u64 (IntKind.wrap .u64 (iAdd .i64 x1 x3)) 1)) hd.1 hL) <|
  wWL (fun hL=>ctw_sort_symMerge_func_w3_2 n v11 (IntKind.wrap .i64 (iShr .u64 (IntKind.wrap .u64 (iAdd .i64 x1 x3)) 1)) (iSub .i64 (iAdd .i64 (IntKind.wrap .i64 (iShr .u64 (IntKind.wrap .u64 (iAdd .i64 x1 x3)) 1)) x2) r8) x3 hd.2 hL) <|
  wWL (fun hL=>ctw_sort_symMerge_func_w3_2 n v9 (IntKind.wrap .i64 (iShr .u64 (IntKind.wrap .u64 (iAdd .i64 x1 x3)) 1)) (iSub .i64 (iAdd .i64 (IntKind.wrap .i64 (iShr .u64 (IntKind.wrap .u64 (iAdd .i64 x1 x3)) 1)) x2) r8) x3 hd.2 hL) <|
  wWL (fun hL=>ctw_sort_symMerge_func_w3_2 n x0 x1 r8 (IntKind.wrap .i64 (iShr .u64 (IntKind.wrap .u64 (iAdd .i64 x1 x3)) 1)) hd.1 hL) <|
  wWL (fun hL=>ctw_sort_symMerge_func_w3_2 n v17 (IntKind.wrap .i64 (iShr .u64 (IntKind.wrap .u64 (iAdd .i64 x1 x3)) 1)) (iSub .i64 (iAdd .i64 (IntKind.wrap .i64 (iShr .u64 (IntKind.wrap .u64 (iAdd .i64 x1 x3)) 1)) x2) r8) x3 hd.2 hL) <|
  wWL (fun hL=>ctw_sort_symMerge_func_w3_2 n x0 (IntKind.wrap .i64 (iShr .u64 (IntKind.wrap .u64 (iAdd .i64 x1 x3)) 1)) (iSub .i64 (iAdd .i64 (IntKind.wrap .i64 (iShr .u64 (IntKind.wrap .u64 (iAdd .i64 x1 x3)) 1)) x2) r8) x3 hd.2 hL) <|
  wn)
  (lc1 (lp_sort_symMerge_func_w3_2_l4 x0 x1 x2 x3 ((x3-x2).toNat+1) x2 x3) (hn:=(show ((1)*(x3)+((-1)*(x2)+(0)):Int)<_ by first|omega|(simp only [lens];omega))) <|
  lc1 (lp_sort_symMerge_func_w3_2_l5 x0 x1 x2 x3 r4 (((iSub .i64 r4 1):Int).toNat+1) x1 x0) <|
  lc1 (lp_sort_symMerge_func_w3_2_l6 x0 x1 x2 x3 r4 r5 ((x2-x1).toNat+1) x1 x2) (hn:=(show ((1)*(x2)+((-1)*(x1)+(0)):Int)<_ by first|omega|(simp only [lens];omega))) <|
  lc1 (lp_sort_symMerge_func_w3_2_l7 x0 x1 x2 x3 r4 r5 r6 ((x2-x1).toNat+1) x2 x0) (hn:=(show ((1)*(x2)+((-1)*(x1)+(0)):Int)<_ by first|omega|(simp only [lens];omega))) <|
  lc1 (lp_sort_symMerge_func_w3_2_l8 x0 x1 x2 x3 r4 r5 r6 r7 ((x3-x1).toNat+1) (bif (decide ((x2:Int) > (IntKind.wrap .i64 (iShr .u64 (IntKind.wrap .u64 (iAdd .i64 x1 x3)) 1)))) then (iSub .i64 (iAdd .i64 (IntKind.wrap .i64 (iShr .u64 (IntKind.wrap .u64 (iAdd .i64 x1 x3)) 1)) x2) x3) else x1) (bif (decide ((x2:Int) > (IntKind.wrap .i64 (iShr .u64 (IntKind.wrap .u64 (iAdd .i64 x1 x3)) 1)))) then (IntKind.wrap .i64 (iShr .u64 (IntKind.wrap .u64 (iAdd .i64 x1 x3)) 1)) else x2)) (hn:=(show ((1)*(x3)+((-1)*(x1)+(0)):Int)<_ by first|omega|(simp only [lens];omega))) <|
  ln)
  (selE (fun r=>.tup [.tup [],.sl (List.map GKey.enc r) false]) rfl rfl (selE (fun r=>.tup [.tup [],.sl (List.map GKey.enc r) false]) rfl rfl (selE (fun r=>.tup [.tup [],.sl (List.map GKey.enc r) false]) rfl rfl (selE (fun r=>.tup [.tup [],.sl (List.map GKey.enc r) false]) rfl rfl (selE (fun r=>.tup [.tup [],.sl (List.map GKey.enc r) false]) rfl rfl (selE (fun r=>.tup [.tup [],.sl (List.map GKey.enc r) false]) rfl rfl (selE (fun r=>.tup [.tup [],.sl (List.map GKey.enc r) false]) rfl rfl (selE (fun r=>.tup [.tup [],.sl (List.map GKey.enc r) false]) rfl rfl (selE (fun r=>.tup [.tup [],.sl (List.map GKey.enc r) false]) rfl rfl (selL rfl))))))))))) hp) (sm_dec (of_decide_eq_true hp.1) (of_decide_eq_true hp.2.1) (of_decide_eq_true hp.2.2.1) (of_decide_eq_true hp.2.2.2.1) hm))
def L19w4_2 : Lo:=
 let p0:Pc:=((qM (V 3) (V 1)),true)::[]
 .mk [] 2 3 [(zI (.li 0)),(zI (.li 20)),(zL (V 0))] [((.not (qM (V 3) (V 1))),1,[(zI (V 2)),(zI (V 3)),(zL (V 4))]),((.lb true),0,[(zI (V 3)),(zI (aI (V 3) (.li 20))),(zL (V 5))])] [(p0,(.callw 35 [(.agg [(.fn 12 [] [(.op 3 1 (.li 0) 0)]),(.fn 34 [] [(.os 2 2 0 (.rlen (V 0))),(.c (.at 3 26))])]),(zI (V 2)),(zI (V 3))] [(3,(.rows 1 [[(.os 2 2 0 (.rlen (V 0)))]])),(2,(.rowsT 2 (V 4)))] 4 (.tup []) [(3,(.rows 1 [[(.os 2 2 0 (.rlen (V 0)))]])),(2,(.rowsT 2 (V 5)))]))] [] [3] []
def H19w4_2 : LH:=.mk [(qM (.li 0) (V 2)),(qE (V 3) (aI (V 2) (.li 20))),(qE (.rlen (V 4)) (.rlen (V 0))),(qM (V 2) (V 1))] (mI (V 1) (V 2)) [((V 1),1),((.li 20),1)] [] 0 [] [[(qM (.li 0) (V 2)),(qM (V 2) (.rlen (V 4))),(qE (.rlen (V 4)) (.rlen (V 0)))]]
def rk_sort_stable_func_w3_2_l2 (r:Int×Int×List GKey):Nat×List AV:=(0,[eI r.1,eI r.2.1,eL GKey.enc r.2.2])
theorem lp_sort_stable_func_w3_2_l2 (x0:List GKey)(x1:Int):∀(n:Nat) (u2:Int) (u3:Int) (u4:List GKey),RunL Tryd.prog sT L19w4_2 H19w4_2 [eL GKey.enc x0,eI x1] n [eI u2,eI u3,eL GKey.enc u4] (rk_sort_stable_func_w3_2_l2 (sort_stable_func_w3_2_l2 x1 n u2 u3 u4))
 |0,u2,u3,u4=>l0
 |n+1,u2,u3,u4=>
  let w5:List GKey:=sort_insertionSort_func_w3_2 u4 u2 u3
  let v5:List GKey:=w5
  lmk rfl [eL GKey.enc v5,undefA] xn (wWL (fun hL=>ctw_sort_insertionSort_func_w3_2 u4 u2 u3 hL)<|wn) ln <|
   rc rk_sort_stable_func_w3_2_l2 rx<|rl (rg (lp_sort_stable_func_w3_2_l2 x0 x1 n _ _ _))
def L19w4_11 : Lo:=
 let p0:Pc:=((qL (V 7) (V 1)),true)::[]
 let p1:Pc:=((qM (V 12) (V 1)),true)::p0
 .mk [((qL (V 7) (V 1)),true)] 11 3 [(zI (.li 0)),(zI (.bin .mul kI (.li 2) (V 7))),(zL (V 10))] [((.not (qM (V 12) (V 1))),1,[(zI (V 11)),(zI (V 12)),(zL (V 13))]),((.lb true),0,[(zI (V 12)),(zI (aI (V 12) (.bin .mul kI (.li 2) (V 7)))),(zL (V 14))])] [(p1,(.callw 36 [(.agg [(.fn 12 [] [(.op 3 1 (.li 0) 0)]),(.fn 34 [] [(.os 2 2 0 (.rlen (V 0))),(.c (.at 3 26))])]),(zI (V 11)),(zI (aI (V 11) (V 7))),(zI (V 12))] [(3,(.rows 1 [[(.os 2 2 0 (.rlen (V 0)))]])),(2,(.rowsT 2 (V 13)))] 4 (.tup []) [(3,(.rows 1 [[(.os 2 2 0 (.rlen (V 0)))]])),(2,(.rowsT 2 (V 14)))]))] [] [3] []
def H19w4_11 : LH:=.mk [(qM (.li 0) (V 11)),(qE (V 12) (aI (V 11) (.bin .mul kI (.li 2) (V 7)))),(qM (V 11) (.rlen (V 13))),(qE (.rlen (V 13)) (.rlen (V 10)))] (mI (V 1) (V 11)) [((V 1),1),((V 7),2)] [] 0 [] [[(qM (.li 0) (V 11)),(qM (V 11) (.rlen (V 13))),(qE (.rlen (V 13)) (.rlen (V 10)))]]
def rk_sort_stable_func_w3_2_l11 (r:Int×Int×List GKey):Nat×List AV:=(0,[eI r.1,eI r.2.1,eL GKey.enc r.2.2])
theorem lp_sort_stable_func_w3_2_l11 (x0:List GKey)(x1:Int)(r2:Int×Int×List GKey)(v5:List GKey)(u7:Int)(u8:Int)(u9:Int)(u10:List GKey):∀(n:Nat) (u11:Int) (u12:Int) (u13:List GKey),RunL Tryd.prog sT L19w4_11 H19w4_11 [eL GKey.enc x0,eI x1,eI r2.1,eI r2.2.1,eL GKey.enc r2.2.2,eL GKey.enc v5,undefA,eI u7,eI u8,eI u9,eL GKey.enc u10] n [eI u11,eI u12,eL GKey.enc u13] (rk_sort_stable_func_w3_2_l11 (sort_stable_func_w3_2_l11 x1 u7 n u11 u12 u13))
 |0,u11,u12,u13=>l0
 |n+1,u11,u12,u13=>
  let w14:List GKey:=sort_symMerge_func_w3_2 ((u12-u11).toNat+1) u13 u11 (iAdd .i64 u11 u7) u12
  let v14:List GKey:=w14
  lmk rfl [eL GKey.enc v14,undefA] xn (wWL (fun hL=>ctw_sort_symMerge_func_w3_2 ((u12-u11).toNat+1) u13 u11 (iAdd .i64 u11 u7) u12 (Nat.lt_succ_self _) hL)<|wn) ln <|
   rc rk_sort_stable_func_w3_2_l11 rx<|rl (rg (lp_sort_stable_func_w3_2_l11 x0 x1 r2 v5 u7 u8 u9 u10 n _ _ _))
def L19w4_7 : Lo:=
 let p0:Pc:=((qL (V 7) (V 1)),true)::[]
 let p1:Pc:=((qL (aI (V 11) (V 7)) (V 1)),true)::p0
 .mk [] 7 4 [(zI (.li 20)),(zI (V 2)),(zI (V 3)),(zL (V 5))] [((.not (qL (V 7) (V 1))),1,[(zL (V 10))]),((qL (aI (V 11) (V 7)) (V 1)),0,[(zI (.bin .mul kI (V 7) (.li 2))),(zI (V 11)),(zI (V 12)),(zL (V 14))]),((.lb true),0,[(zI (.bin .mul kI (V 7) (.li 2))),(zI (V 11)),(zI (V 12)),(zL (V 13))])] [(p1,(.callw 36 [(.agg [(.fn 12 [] [(.op 3 1 (.li 0) 0)]),(.fn 34 [] [(.os 2 2 0 (.rlen (V 0))),(.c (.at 3 26))])]),(zI (V 11)),(zI (aI (V 11) (V 7))),(zI (V 1))] [(3,(.rows 1 [[(.os 2 2 0 (.rlen (V 0)))]])),(2,(.rowsT 2 (V 13)))] 4 (.tup []) [(3,(.rows 1 [[(.os 2 2 0 (.rlen (V 0)))]])),(2,(.rowsT 2 (V 14)))]))] [L19w4_11] [1] []
def H19w4_7 : LH:=.mk [(qM (.li 20) (V 7)),(qE (.rlen (V 10)) (.rlen (V 0)))] (mI (V 1) (V 7)) [((V 1),1)] [] 1 [H19w4_11] [[(qE (.rlen (V 7)) (.rlen (V 5)))]]
def rk_sort_stable_func_w3_2_l7 (r:List GKey):Nat×List AV:=(0,[eL GKey.enc r])
theorem lp_sort_stable_func_w3_2_l7 (x0:List GKey)(x1:Int)(r2:Int×Int×List GKey)(v5:List GKey):∀(n:Nat) (u7:Int) (u8:Int) (u9:Int) (u10:List GKey),RunL Tryd.prog sT L19w4_7 H19w4_7 [eL GKey.enc x0,eI x1,eI r2.1,eI r2.2.1,eL GKey.enc r2.2.2,eL GKey.enc v5,undefA] n [eI u7,eI u8,eI u9,eL GKey.enc u10] (rk_sort_stable_func_w3_2_l7 (sort_stable_func_w3_2_l7 x1 n u7 u8 u9 u10))
 |0,u7,u8,u9,u10=>l0
 |n+1,u7,u8,u9,u10=>
  let r11:Int×Int×List GKey:=sort_stable_func_w3_2_l11 x1 u7 ((x1+2*u7).toNat+1) 0 (iMul .i64 2 u7) u10
  let w14:List GKey:=sort_symMerge_func_w3_2 ((x1-r11.1).toNat+1) r11.2.2 r11.1 (iAdd .i64 r11.1 u7) x1
  let v14:List GKey:=w14
  lmk rfl [eI r11.1,eI r11.2.1,eL GKey.enc r11.2.2,eL GKey.enc v14,undefA] xn (wWL (fun hL=>ctw_sort_symMerge_func_w3_2 ((x1-r11.1).toNat+1) r11.2.2 r11.1 (iAdd .i64 r11.1 u7) x1 (Nat.lt_succ_self _) hL)<|wn) (lc1 (lp_sort_stable_func_w3_2_l11 x0 x1 r2 v5 u7 u8 u9 u10 ((x1+2*u7).toNat+1) 0 (iMul .i64 2 u7) u10) (hn:=(show ((1)*(x1)+((2)*(u7)+(0)):Int)<_ by first|omega|(simp only [lens];omega))) <|
  ln) <|
   rc rk_sort_stable_func_w3_2_l7 rx<|rc rk_sort_stable_func_w3_2_l7 (rg (lp_sort_stable_func_w3_2_l7 x0 x1 r2 v5 n _ _ _ _))<|rl (rg (lp_sort_stable_func_w3_2_l7 x0 x1 r2 v5 n _ _ _ _))
def R19w4 : PRes:=
 ⟨[((.lb true),(.tup [(.tup []),(zL (V 7))]))],
 [([],(.callw 35 [(.agg [(.fn 12 [] [(.op 3 1 (.li 0) 0)]),(.fn 34 [] [(.os 2 2 0 (.rlen (V 0))),(.c (.at 3 26))])]),(zI (V 2)),(zI (V 1))] [(3,(.rows 1 [[(.os 2 2 0 (.rlen (V 0)))]])),(2,(.rowsT 2 (V 4)))] 4 (.tup []) [(3,(.rows 1 [[(.os 2 2 0 (.rlen (V 0)))]])),(2,(.rowsT 2 (V 5)))]))],[L19w4_2,L19w4_7]⟩
def H19w4 : LH:=.mk [] (.li 0) [] [] 0 [H19w4_2,H19w4_7] []
theorem e19w4 : sFnW Tryd.prog xBase iBase mdI (fcI kA 19 [1,2,4,5,6,7,11,26,31,49] [(2,(.mk [1,2] (.mk [(4,(.sc kI)),(5,(.sc kI)),(6,(.sc kI))] [] [(2,2)] 12) [(.normal,(.mk [] [] [(2,2)] 12))])),(4,(.mk [1,2,4] (.mk [(5,(.sc kI)),(6,(.sc kI))] [] [(2,2)] 19) [(.normal,(.mk [(5,(.sc kI)),(6,(.sc kI))] [] [(2,2)] 19))])),(0,(.mk [1,2,4] (.mk [(5,(.sc kI)),(6,(.sc kI))] [] [(2,2)] 9) [(.normal,(.mk [(5,(.sc kI)),(6,(.sc kI))] [] [(2,2)] 9))]))]) 3 200 19 [(.agg [(.fn 12 [] [(.op 3 1 (.li 0) 0)]),(.fn 34 [] [(.os 2 2 0 (.rlen (V 0))),(.c (.at 3 26))])]),(zI (V 1))] 2 [(3,(.rows 1 [[(.os 2 2 0 (.rlen (V 0)))]])),(2,(.rowsT 2 (V 0)))] [(2,2)] 4=some R19w4:=by kernel_rfl
theorem ctw_sort_stable_func_w3_2 (x0:List GKey)(x1:Int){L:Nat}(hL:L=(List.map GKey.enc x0).length):CTw Tryd.prog sT 19 [(.agg [(.fn (.func 12) [] [(.op 3 1 0 0)]),(.fn (.func 34) [] [(.os 2 2 0 L),(.p (Cv.val (.at 3 26)))])]),(.p (.int .i64 x1))] [(3,.rows 1 [[(.os 2 2 0 L)]]),(2,.rows 2 (List.map GKey.enc x0))] 4 (.tup []) [(3,.rows 1 [[(.os 2 2 0 L)]]),(2,.rows 2 (List.map GKey.enc (sort_stable_func_w3_2 x0 x1)))]:=by subst hL;exact (
 let r2:Int×Int×List GKey:=sort_stable_func_w3_2_l2 x1 (x1.toNat+21) 0 20 x0
 let w5:List GKey:=sort_insertionSort_func_w3_2 r2.2.2 r2.1 x1
 let v5:List GKey:=w5
 let r7:List GKey:=sort_stable_func_w3_2_l7 x1 (x1.toNat+1) 20 r2.1 r2.2.1 v5
 mkW (cs:=[eL GKey.enc (sort_stable_func_w3_2 x0 x1)]) hmix xBase_ok iBase_ok e19w4 H19w4 (by kernel_rfl) [eL GKey.enc x0,eI x1,eI r2.1,eI r2.2.1,eL GKey.enc r2.2.2,eL GKey.enc v5,undefA,eL GKey.enc r7] xn
  (wWL (fun hL=>ctw_sort_insertionSort_func_w3_2 r2.2.2 r2.1 x1 hL)<|wn)
  (lc1 (lp_sort_stable_func_w3_2_l2 x0 x1 (x1.toNat+21) 0 20 x0) (hn:=(show ((1)*(x1)+((1)*(20)+(0)):Int)<_ by first|omega|(simp only [lens];omega))) <|
  lc1 (lp_sort_stable_func_w3_2_l7 x0 x1 r2 v5 (x1.toNat+1) 20 r2.1 r2.2.1 v5) <|
  ln)
  (selL rfl))
def R5 : PRes:=
 let p0:Pc:=((qE (.rlen (V 0)) (.li 0)),true)::[]
 let p1:Pc:=((qE (.rlen (V 0)) (.li 0)),false)::[]
 let p2:Pc:=((qE (.rlen (V 0)) (.li 1)),true)::p1
 let p3:Pc:=((qE (.rlen (V 0)) (.li 1)),false)::p1
 let p4:Pc:=((qE (.rlen (V 0)) (.li 1)),false)::[]
 let p5:Pc:=((qE (.rlen (V 0)) (.li 0)),false)::p4
 ⟨[((.or (qE (.rlen (V 0)) (.li 0)) (qE (.rlen (V 0)) (.li 1))),(zL (V 0))),((.lb true),(zL (V 3)))],
 [([],(.rok 2 (V 0))),
 ([],(.len2 0 (V 0))),
 ([],(.tm (qM (.li 0) (.rlen (V 0))))),
 (p0,(.tm (qM (.li 0) (.rlen (V 0))))),
 (p2,(.tm (qM (.li 0) (.rlen (V 0))))),
 (p3,(.tm (qM (.li 0) (.rlen (V 0))))),
 (p3,(.callw 19 [(.agg [(.fn 12 [] [(.op 3 1 (.li 0) 0)]),(.fn 34 [] [(.os 2 2 0 (.rlen (V 0))),(.c (.at 3 26))])]),(zI (.rlen (V 0)))] [(3,(.rows 1 [[(.os 2 2 0 (.rlen (V 0)))]])),(2,(.rowsT 2 (V 0)))] 4 (.tup []) [(3,(.rows 1 [[(.os 2 2 0 (.rlen (V 0)))]])),(2,(.rowsT 2 (V 1)))])),
 (p5,(.sub 2 (V 1) none (some (.rlen (V 0))) (V 3)))],[]⟩
theorem e5 : sFnI Tryd.prog xBase iBase mdI (fcI kA 5 [] []) 3 200 5 [zL (V 0)] 1=some R5:=by kernel_rfl
theorem ct_key_Order (x0:List GKey):CT Tryd.prog sT 5 [eL GKey.enc x0] (eL GKey.enc (key_Order x0)):=
 let w1:List GKey:=sort_stable_func_w3_2 x0 (mLen GKey.enc x0)
 let v1:List GKey:=w1
 let v3:List GKey:=(v1.drop (0)).take (((mLen GKey.enc x0):Int).toNat-0)
 mkH hmix xBase_ok iBase_ok e5 lh0 (by kernel_rfl) [eL GKey.enc x0,eL GKey.enc v1,undefA,eL GKey.enc v3] xn
  (wRok (f:=GKey.enc) rfl <|
  wLen2 <|
  wT <|
  wT <|
  wT <|
  wT <|
  wWL (fun hL=>ctw_sort_stable_func_w3_2 x0 (mLen GKey.enc x0) hL) <|
  wSub rfl <|
  wn)
  ln
  (selE (fun r=>.sl (List.map GKey.enc r) false) rfl rfl (selL rfl))
def L6_2 : Lo:=
 let p0:Pc:=((qL (V 3) (.rlen (V 0))),true)::[]
 .mk [] 2 2 [(zI (.li 0)),(zI (.li 0))] [((.not (qL (V 3) (.rlen (V 0)))),1,[(zI (V 2))]),((.lb true),0,[(zI (.ite (.and (sE (W 4 0) (W 1 0)) (qE (W 4 1) (W 1 1))) (aI (V 2) (.li 1)) (V 2))),(zI (aI (V 3) (.li 1)))])] [(p0,(.row (V 0) (V 3) [(zS (W 4 0)),(zI (W 4 1))]))] [] [1] [(V 0)]
def H6_2 : LH:=.mk [(qM (.li 0) (V 3))] (mI (.rlen (V 0)) (V 3)) [((.rlen (V 0)),1)] [] 0 [] []
def rk_law08_times_l2 (r:Int):Nat×List AV:=(0,[eI r])
theorem lp_law08_times_l2 (x0:List GKey)(x1:GKey):∀(n:Nat) (u2:Int) (u3:Int),RunL Tryd.prog sT L6_2 H6_2 [eL GKey.enc x0,GKey.av x1] n [eI u2,eI u3] (rk_law08_times_l2 (law08_times_l2 x0 x1 n u2 u3))
 |0,u2,u3=>l0
 |n+1,u2,u3=>
  let v4:GKey:=x0.getD (u3:Int).toNat default
  lmk rfl [GKey.av v4] xn (wR rfl<|wn) ln <|
   rc rk_law08_times_l2 rx<|rl (rg (lp_law08_times_l2 x0 x1 n _ _))
def R6 : PRes:=
 ⟨[((.lb true),(zI (V 2)))],
 [],[L6_2]⟩
def H6 : LH:=.mk [] (.li 0) [] [] 0 [H6_2] []
theorem e6 : sFnI Tryd.prog xBase iBase mdI (fcI kA 6 [5,6] [(0,(.mk [0,3,4] (.mk [(5,(.sc kI)),(6,(.sc kI))] [] [] 4) [(.normal,(.mk [(5,(.sc kI))] [] [] 4))]))]) 3 200 6 [zL (V 0),.agg (cV 1 GKey.kds)] 2=some R6:=by kernel_rfl
theorem ct_law08_times (x0:List GKey)(x1:GKey):CT Tryd.prog sT 6 [eL GKey.enc x0,GKey.av x1] (eI (law08_times x0 x1)):=
 let r2:Int:=law08_times_l2 x0 x1 (x0.length+1) 0 0
 mkH hmix xBase_ok iBase_ok e6 H6 (by kernel_rfl) [eL GKey.enc x0,GKey.av x1,eI r2] xn
  wn
  (lc1 (lp_law08_times_l2 x0 x1 (x0.length+1) 0 0) <|
  ln)
  (selL rfl)
def R7 : PRes:=
 ⟨[((W 1 1),(zI (.li 0))),((qG (W 0 1) (.li 0)),(zI (.li 2))),((.lb true),(zI (.li 1)))],
 [([],(.call 8 [(.agg [(zS (W 0 0)),(zI (W 0 1))])] (.tup [(zI (W 1 0)),(zB (W 1 1))])))],[]⟩
theorem e7 : sFnI Tryd.prog xBase iBase mdI (fcI kA 7 [] []) 3 200 7 [.agg (cV 0 GKey.kds)] 1=some R7:=by kernel_rfl
theorem ct_law08_third (x0:GKey):CT Tryd.prog sT 7 [GKey.av x0] (eI (law08_third x0)):=
 let v1:Int×Bool:=key_Index x0
 mkH hmix xBase_ok iBase_ok e7 lh0 (by kernel_rfl) [GKey.av x0,eR_ii64_bool v1] xn
  (wC (ct_key_Index x0)<|wn)
  ln
  (selE (fun r=>.p (.int .i64 r)) rfl rfl (selE (fun r=>.p (.int .i64 r)) rfl rfl (selL rfl)))
def L3_4 : Lo:=
 let p0:Pc:=((V 1),true)::[]
 let p1:Pc:=((qG (.rlen (V 0)) (.li 200)),false)::p0
 let p2:Pc:=((qN (.rlen (V 3)) (.rlen (V 2))),false)::p1
 let p3:Pc:=((qN (.rlen (V 2)) (.rlen (V 0))),false)::p2
 let p4:Pc:=((qL (V 5) (.rlen (V 2))),true)::p3
 let p5:Pc:=((.not (.and (sE (W 6 0) (W 7 0)) (qE (W 6 1) (W 7 1)))),false)::p4
 let p6:Pc:=((qN (V 9) (V 11)),false)::p4
 let p7:Pc:=((qE (W 6 1) (W 7 1)),true)::p6
 let p8:Pc:=((sE (W 6 0) (W 7 0)),true)::p7
 let p9:Pc:=((qE (V 5) (.li 0)),false)::p8
 .mk [((qN (.rlen (V 2)) (.rlen (V 0))),false),((qN (.rlen (V 3)) (.rlen (V 2))),false),((qG (.rlen (V 0)) (.li 200)),false),((V 1),true)] 4 2 [(zB (.lb false)),(zI (.li 0))] [((.not (qL (V 5) (.rlen (V 2)))),1,[(zB (V 4))]),((.or (.not (.and (sE (W 6 0) (W 7 0)) (qE (W 6 1) (W 7 1)))) (qN (V 9) (V 11))),2,[(zB (.lb false))]),((qE (V 5) (.li 0)),0,[(zB (V 4)),(zI (aI (V 5) (.li 1)))]),((.or (qG (V 13) (V 15)) (.and (.and (qE (V 13) (.li 0)) (qE (V 15) (.li 0))) (qG (W 17 0) (W 19 0)))),2,[(zB (.lb false))]),((.lb true),0,[(zB (V 4)),(zI (aI (V 5) (.li 1)))])] [(p4,(.row (V 3) (V 5) [(zS (W 6 0)),(zI (W 6 1))])),
 (p4,(.row (V 2) (V 5) [(zS (W 7 0)),(zI (W 7 1))])),
 (p5,(.row (V 2) (V 5) [(zS (W 8 0)),(zI (W 8 1))])),
 (p5,(.call 6 [(zL (V 0)),(.agg [(zS (W 8 0)),(zI (W 8 1))])] (zI (V 9)))),
 (p5,(.row (V 2) (V 5) [(zS (W 10 0)),(zI (W 10 1))])),
 (p5,(.call 6 [(zL (V 2)),(.agg [(zS (W 10 0)),(zI (W 10 1))])] (zI (V 11)))),
 (p9,(.row (V 2) (mI (V 5) (.li 1)) [(zS (W 12 0)),(zI (W 12 1))])),
 (p9,(.call 7 [(.agg [(zS (W 12 0)),(zI (W 12 1))])] (zI (V 13)))),
 (p9,(.row (V 2) (V 5) [(zS (W 14 0)),(zI (W 14 1))])),
 (p9,(.call 7 [(.agg [(zS (W 14 0)),(zI (W 14 1))])] (zI (V 15)))),
 (p9,(.row (V 2) (mI (V 5) (.li 1)) [(zS (W 16 0)),(zI (W 16 1))])),
 (p9,(.call 8 [(.agg [(zS (W 16 0)),(zI (W 16 1))])] (.tup [(zI (W 17 0)),(zB (W 17 1))]))),
 (p9,(.row (V 2) (V 5) [(zS (W 18 0)),(zI (W 18 1))])),
 (p9,(.call 8 [(.agg [(zS (W 18 0)),(zI (W 18 1))])] (.tup [(zI (W 19 0)),(zB (W 19 1))])))] [] [1,1] [(V 0),(V 2),(V 3)]
def H3_4 : LH:=.mk [(qM (.li 0) (V 5))] (mI (.rlen (V 2)) (V 5)) [((.rlen (V 2)),1)] [] 3 [] []
def rk_law08_KeyRow_l4 (r:Bool×Bool×Bool):Nat×List AV:=rk2 r.1 [eB r.2.1] [eB r.2.2]
theorem lp_law08_KeyRow_l4 (x0:List GKey)(v1:Bool)(v2:List GKey)(v3:List GKey):∀(n:Nat) (u4:Bool) (u5:Int),RunL Tryd.prog sT L3_4 H3_4 [eL GKey.enc x0,eB v1,eL GKey.enc v2,eL GKey.enc v3] n [eB u4,eI u5] (rk_law08_KeyRow_l4 (law08_KeyRow_l4 x0 v2 v3 n u4 u5))
 |0,u4,u5=>l0
 |n+1,u4,u5=>
  let v6:GKey:=v3.getD (u5:Int).toNat default
  let v7:GKey:=v2.getD (u5:Int).toNat default
  let v8:GKey:=v2.getD (u5:Int).toNat default
  let v9:Int:=law08_times x0 v8
  let v10:GKey:=v2.getD (u5:Int).toNat default
  let v11:Int:=law08_times v2 v10
  let v12:GKey:=v2.getD ((iSub .i64 u5 1):Int).toNat default
  let v13:Int:=law08_third v12
  let v14:GKey:=v2.getD (u5:Int).toNat default
  let v15:Int:=law08_third v14
  let v16:GKey:=v2.getD ((iSub .i64 u5 1):Int).toNat default
  let v17:Int×Bool:=key_Index v16
  let v18:GKey:=v2.getD (u5:Int).toNat default
  let v19:Int×Bool:=key_Index v18
  lmk rfl [GKey.av v6,GKey.av v7,GKey.av v8,eI v9,GKey.av v10,eI v11,GKey.av v12,eI v13,GKey.av v14,eI v15,GKey.av v16,eR_ii64_bool v17,GKey.av v18,eR_ii64_bool v19] xn (wR rfl <|
  wR rfl <|
  wR rfl <|
  wC (ct_law08_times x0 v8) <|
  wR rfl <|
  wC (ct_law08_times v2 v10) <|
  wR rfl <|
  wC (ct_law08_third v12) <|
  wR rfl <|
  wC (ct_law08_third v14) <|
  wR rfl <|
  wC (ct_key_Index v16) <|
  wR rfl <|
  wC (ct_key_Index v18) <|
  wn) ln <|
   rc rk_law08_KeyRow_l4 rx<|rc rk_law08_KeyRow_l4 rx<|rc rk_law08_KeyRow_l4 (rg (lp_law08_KeyRow_l4 x0 v1 v2 v3 n _ _))<|rc rk_law08_KeyRow_l4 rx<|rl (rg (lp_law08_KeyRow_l4 x0 v1 v2 v3 n _ _))
def L3_12 : Lo:=
 let p0:Pc:=((V 1),true)::[]
 let p1:Pc:=((qG (.rlen (V 0)) (.li 200)),false)::p0
 let p2:Pc:=((qN (.rlen (V 3)) (.rlen (V 2))),false)::p1
 let p3:Pc:=((qN (.rlen (V 2)) (.rlen (V 0))),false)::p2
 let p4:Pc:=((qE (V 4) (.li 0)),true)::p3
 let p5:Pc:=((qL (V 9) (.rlen (V 0))),true)::p4
 let p6:Pc:=((qN (V 11) (.li 1)),false)::p5
 let p7:Pc:=((qL (V 12) (.rlen (V 2))),true)::p6
 .mk [((qN (V 11) (.li 1)),false),((qL (V 9) (.rlen (V 0))),true),((qE (V 4) (.li 0)),true),((qN (.rlen (V 2)) (.rlen (V 0))),false),((qN (.rlen (V 3)) (.rlen (V 2))),false),((qG (.rlen (V 0)) (.li 200)),false),((V 1),true)] 12 1 [(zI (V 8))] [((.not (.and (qL (V 12) (.rlen (V 2))) (qN (V 14) (.li 1)))),1,[(zI (V 12))]),((.lb true),0,[(zI (aI (V 12) (.li 1)))])] [(p7,(.row (V 2) (V 12) [(zS (W 13 0)),(zI (W 13 1))])),
 (p7,(.call 7 [(.agg [(zS (W 13 0)),(zI (W 13 1))])] (zI (V 14))))] [] [1] [(V 0),(V 2)]
def H3_12 : LH:=.mk [(qM (V 8) (V 12))] (mI (.rlen (V 2)) (V 12)) [((.rlen (V 2)),1)] [] 2 [] [[(qM (V 8) (V 12))]]
def rk_law08_KeyRow_l12 (r:Int):Nat×List AV:=(0,[eI r])
theorem lp_law08_KeyRow_l12 (x0:List GKey)(v1:Bool)(v2:List GKey)(v3:List GKey)(r4:Bool×Bool×Bool)(u7:Bool)(u8:Int)(u9:Int)(v10:GKey)(v11:Int):∀(n:Nat) (u12:Int),RunL Tryd.prog sT L3_12 H3_12 [eL GKey.enc x0,eB v1,eL GKey.enc v2,eL GKey.enc v3,eI (selB r4.1),eB r4.2.1,eB r4.2.2,eB u7,eI u8,eI u9,GKey.av v10,eI v11] n [eI u12] (rk_law08_KeyRow_l12 (law08_KeyRow_l12 v2 n u12))
 |0,u12=>l0
 |n+1,u12=>
  let v13:GKey:=v2.getD (u12:Int).toNat default
  let v14:Int:=law08_third v13
  lmk rfl [GKey.av v13,eI v14] xn (wR rfl <|
  wC (ct_law08_third v13) <|
  wn) ln <|
   rc rk_law08_KeyRow_l12 rx<|rl (rg (lp_law08_KeyRow_l12 x0 v1 v2 v3 r4 u7 u8 u9 v10 v11 n _))
def L3_7 : Lo:=
 let p0:Pc:=((V 1),true)::[]
 let p1:Pc:=((qG (.rlen (V 0)) (.li 200)),false)::p0
 let p2:Pc:=((qN (.rlen (V 3)) (.rlen (V 2))),false)::p1
 let p3:Pc:=((qN (.rlen (V 2)) (.rlen (V 0))),false)::p2
 let p4:Pc:=((qE (V 4) (.li 0)),true)::p3
 let p5:Pc:=((qL (V 9) (.rlen (V 0))),true)::p4
 let p6:Pc:=((qN (V 11) (.li 1)),false)::p5
 let p7:Pc:=((qH (V 12) (.rlen (V 2))),false)::p6
 .mk [((qE (V 4) (.li 0)),true),((qN (.rlen (V 2)) (.rlen (V 0))),false),((qN (.rlen (V 3)) (.rlen (V 2))),false),((qG (.rlen (V 0)) (.li 200)),false),((V 1),true)] 7 3 [(zB (V 5)),(zI (.li 0)),(zI (.li 0))] [((.not (qL (V 9) (.rlen (V 0)))),1,[(zB (V 7))]),((.and (.not (qN (V 11) (.li 1))) (.or (qH (V 12) (.rlen (V 2))) (.not (.and (sE (W 13 0) (W 14 0)) (qE (W 13 1) (W 14 1)))))),2,[(zB (.lb false))]),((.lb true),0,[(zB (V 7)),(zI (.ite (qN (V 11) (.li 1)) (V 8) (aI (V 12) (.li 1)))),(zI (aI (V 9) (.li 1)))])] [(p5,(.row (V 0) (V 9) [(zS (W 10 0)),(zI (W 10 1))])),
 (p5,(.call 7 [(.agg [(zS (W 10 0)),(zI (W 10 1))])] (zI (V 11)))),
 (p7,(.row (V 2) (V 12) [(zS (W 13 0)),(zI (W 13 1))])),
 (p7,(.row (V 0) (V 9) [(zS (W 14 0)),(zI (W 14 1))]))] [L3_12] [1,1] [(V 0),(V 2)]
def H3_7 : LH:=.mk [(qM (V 4) (V 8)),(qM (V 8) (.rlen (V 3))),(qM (.li 0) (V 9))] (mI (.rlen (V 0)) (V 9)) [((.rlen (V 0)),1)] [] 3 [H3_12] []
def rk_law08_KeyRow_l7 (r:Bool×Bool×Bool):Nat×List AV:=rk2 r.1 [eB r.2.1] [eB r.2.2]
theorem lp_law08_KeyRow_l7 (x0:List GKey)(v1:Bool)(v2:List GKey)(v3:List GKey)(r4:Bool×Bool×Bool):∀(n:Nat) (u7:Bool) (u8:Int) (u9:Int),RunL Tryd.prog sT L3_7 H3_7 [eL GKey.enc x0,eB v1,eL GKey.enc v2,eL GKey.enc v3,eI (selB r4.1),eB r4.2.1,eB r4.2.2] n [eB u7,eI u8,eI u9] (rk_law08_KeyRow_l7 (law08_KeyRow_l7 x0 v2 n u7 u8 u9))
 |0,u7,u8,u9=>l0
 |n+1,u7,u8,u9=>
  let v10:GKey:=x0.getD (u9:Int).toNat default
  let v11:Int:=law08_third v10
  let r12:Int:=law08_KeyRow_l12 v2 (v2.length+1) u8
  let v13:GKey:=v2.getD (r12:Int).toNat default
  let v14:GKey:=x0.getD (u9:Int).toNat default
  lmk rfl [GKey.av v10,eI v11,eI r12,GKey.av v13,GKey.av v14] xn (wR rfl <|
  wC (ct_law08_third v10) <|
  wR rfl <|
  wR rfl <|
  wn) (lc1 (lp_law08_KeyRow_l12 x0 v1 v2 v3 r4 u7 u8 u9 v10 v11 (v2.length+1) u8) <|
  ln) <|
   rc rk_law08_KeyRow_l7 rx<|rc rk_law08_KeyRow_l7 rx<|rl (rg (lp_law08_KeyRow_l7 x0 v1 v2 v3 r4 n _ _ _))
def R3 : PRes:=
 let p0:Pc:=((V 1),true)::[]
 let p1:Pc:=((qG (.rlen (V 0)) (.li 200)),false)::p0
 ⟨[((.or (qG (.rlen (V 0)) (.li 200)) (.not (V 1))),(zB (V 1))),((.or (qN (.rlen (V 2)) (.rlen (V 0))) (qN (.rlen (V 3)) (.rlen (V 2)))),(zB (.lb false))),((.not (qE (V 4) (.li 0))),(zB (V 6))),((.not (qE (V 7) (.li 0))),(zB (V 9))),((.lb true),(zB (.lb true)))],
 [([],(.call 4 [] (zB (V 1)))),
 (p1,(.call 5 [(zL (V 0))] (zL (V 2)))),
 (p1,(.call 5 [(zL (V 2))] (zL (V 3))))],[L3_4,L3_7]⟩
def H3 : LH:=.mk [] (.li 0) [] [] 0 [H3_4,H3_7] []
theorem e3 : sFnI Tryd.prog xBase iBase mdI (fcI kA 3 [134,133,135,136,137,138,155,150,154,153,151,152,149,147,148,13,14,58,57,59,60,56,64,63,65,66,62,67,61,68,6,7,104,105,8,107,108,106,109,9,11,112,111,113,110,114,2] [(2,(.mk [0,4] (.mk [(2,(.sc .bool)),(13,(.sc kI)),(14,(.sc kI))] [] [] 31) [(.normal,(.mk [(2,(.sc .bool))] [] [] 31)),(.ret,(.mk [(2,(.sc .bool))] [] [] 31))])),(4,(.mk [0,2,4,14] (.mk [(13,(.sc kI))] [] [] 41) [(.normal,(.mk [(13,(.sc kI))] [] [] 41))])),(0,(.mk [0,4,5] (.mk [(2,(.sc .bool)),(6,(.sc kI))] [] [] 29) [(.normal,(.mk [(2,(.sc .bool))] [] [] 29)),(.ret,(.mk [(2,(.sc .bool))] [] [] 29))]))]) 3 200 3 [zL (V 0)] 1=some R3:=by kernel_rfl
theorem ct_law08_KeyRow (x0:List GKey):CT Tryd.prog sT 3 [eL GKey.enc x0] (eB (law08_KeyRow x0)):=
 let v1:Bool:=law08_alive
 let v2:List GKey:=key_Order x0
 let v3:List GKey:=key_Order v2
 let r4:Bool×Bool×Bool:=law08_KeyRow_l4 x0 v2 v3 (v2.length+1) false 0
 let r7:Bool×Bool×Bool:=law08_KeyRow_l7 x0 v2 (x0.length+1) r4.2.1 0 0
 mkH hmix xBase_ok iBase_ok e3 H3 (by kernel_rfl) [eL GKey.enc x0,eB v1,eL GKey.enc v2,eL GKey.enc v3,eI (selB r4.1),eB r4.2.1,eB r4.2.2,eI (selB r7.1),eB r7.2.1,eB r7.2.2] xn
  (wC (ctP (pc_law08_alive)) <|
  wC (ct_key_Order x0) <|
  wC (ct_key_Order v2) <|
  wn)
  (lc2 (lp_law08_KeyRow_l4 x0 v1 v2 v3 (v2.length+1) false 0) <|
  lc2 (lp_law08_KeyRow_l7 x0 v1 v2 v3 r4 (x0.length+1) r4.2.1 0 0) <|
  ln)
  (selE (fun r=>.p (.bool r)) rfl rfl (selE (fun r=>.p (.bool r)) rfl rfl (selE (fun r=>.p (.bool r)) rfl rfl (selE (fun r=>.p (.bool r)) rfl rfl (selL rfl)))))
theorem pc_law08_KeyRow (x0:List GKey):PC Tryd.prog 3 [eL GKey.enc x0] (eB (law08_KeyRow x0)):=(ct_law08_KeyRow x0 trivial).1
end Go.Fw
end
section
set_option linter.unusedVariables false
set_option linter.unusedSimpArgs false
set_option linter.unusedSectionVars false
namespace Go.Fw
open Go.Proofs
set_option maxRecDepth 100000
theorem rd_GKey : Rd Tryd.prog 26 GKey.enc GKey.wf:=
 (rd_struct Tryd.underlying26 (by kernel_rfl) (rdF_cons (m:=1) rfl (by kernel_rfl) (rd_str Tryd.underlying9) (rdF_cons (m:=1) rfl (by kernel_rfl) (rd_int Tryd.underlying3) (rdF_nil)))).to (fun x=>GKey.mk x.1 x.2.1) (fun _=>rfl) (fun _ h=>⟨h.1,h.2.1⟩)
end Go.Fw
end
section
set_option linter.unusedVariables false
set_option linter.unusedSimpArgs false
set_option linter.unusedSectionVars false
namespace Go.Fw
set_option linter.unusedVariables false
set_option linter.unusedSimpArgs false
theorem Srt.filter {l:List GKey}(h:Srt l)(p:GKey→Bool):Srt (l.filter p):=List.Pairwise.filter p h
theorem Eqp.filter {a b:List GKey}(h:Eqp a b)(p:GKey→Bool):Eqp (a.filter p) (b.filter p):=by
 intro q
 have:=h q
 rw [List.filter_filter,List.filter_filter]
 have e:∀l:List GKey,l.filter (fun k=>decide (key_place k=q)&&p k)=(l.filter (fun k=>decide (key_place k=q))).filter p:=by
  intro l;rw [List.filter_filter];congr 1;funext k;rw [Bool.and_comm]
 rw [e a,e b,this]
end Go.Fw
end
