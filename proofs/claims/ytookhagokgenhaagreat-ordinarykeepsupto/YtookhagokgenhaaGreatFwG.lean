
import Derived.Test.YtookhagokgenhaaGreatFwF
import Derived.Test.YtookhagokgenhaaGreatFwE
import Derived.Test.YtookhagokgenhaaGreatProg
set_option linter.unusedVariables false
set_option linter.unusedSimpArgs false
set_option linter.unusedSectionVars false
set_option linter.unnecessarySimpa false
section
namespace Go.Fw
theorem Jy {P A T:List dI}{x:dI}(hx:x∈A):∃c:Int,(P.length:Int)<=c/\c<P.length+A.length/\gt (P++A++T) c=x:=by
 obtain ⟨A1,A2,rfl⟩:=List.append_of_mem hx
 refine ⟨P.length+A1.length,by omega,by simp;omega,?_⟩
 show (P++(A1++x::A2)++T).getD _ default=x
 rw [show P++(A1++x::A2)++T=(P++A1)++x::(A2++T) by simp]
 exact BZ (by simp)
theorem akU {P A T:List dI}{c:Int}(h0:(P.length:Int)<=c)(h1:c<P.length+A.length):∃A1 A2,A=A1++gt (P++A++T) c::A2/\(A1.length:Int)=c-P.length:=by
 refine ⟨A.take (c-P.length).toNat,A.drop ((c-P.length).toNat+1),?_,by simp;omega⟩
 have hk:(c-P.length).toNat<A.length:=by omega
 have e:gt (P++A++T) c=A.getD (c-P.length).toNat default:=by
  show (P++A++T).getD c.toNat default=_
  simp only [List.getD_eq_getElem?_getD,List.append_assoc]
  rw [List.getElem?_append_right (by omega),List.getElem?_append_left (by omega),show c.toNat-P.length=(c-P.length).toNat by omega]
 rw [e,<- PI A _ hk,List.take_append_drop]
theorem Ry {P A T:List dI}(hs:Jw A){c d:Int}(h0:(P.length:Int)<=c)(h1:c<=d)(h2:d<P.length+A.length):ltK (gt (P++A++T) d) (gt (P++A++T) c)=false:=by
 by_cases hcd:c=d
 .subst hcd;rw [abl];omega
 obtain ⟨A1,A2,q1,q2⟩:=akU (T:=T) h0 (by omega:c<P.length+A.length)
 generalize gt (P++A++T) c=x at *
 have e:P++A++T=(P++(A1++[x]))++A2++T:=by rw [q1];simp
 rw [e]
 obtain ⟨B1,B2,r1,r2⟩:=akU (P:=P++(A1++[x])) (A:=A2) (T:=T) (c:=d) (by simp;omega) (by rw [q1] at h2;simp at h2 ⊢;omega)
 generalize gt ((P++(A1++[x]))++A2++T) d=y at *
 rw [q1] at hs
 have:=(List.pairwise_append.1 hs).2.1
 have:=(List.pairwise_cons.1 this).1 y (by rw [r1];simp)
 exact this
theorem anq {A B:List dI}(ha:Jw A)(hb:Jw B)(h:∀x∈A,∀y∈B,ltK y x=false):Jw (A++B):=List.pairwise_append.2 ⟨ha,hb,h⟩
theorem Jz {A:List dI}{k:Int}(h0:0<=k)(h1:k<=A.length):∃A1 A2,A=A1++A2/\(A1.length:Int)=k:=
 ⟨A.take k.toNat,A.drop k.toNat,(List.take_append_drop _ _).symm,by simp;omega⟩
theorem aqg {P A B T:List dI}{a m b mid lo hi r:Int}{k:Nat}(ha:a=P.length)(hm:m=a+A.length)(hb:b=m+B.length)(hA:Jw A)(hB:Jw B)(hmid:mid=(a+b) / 2)
  (hlo:lo=if m > mid then mid+m-b else a) (hhi:hi=if m > mid then mid else m) (hA0:0<A.length) (hB0:0<B.length)
  (hr:r=bs (fun c=>!ltK (gt (P++A++B++T) (mid+m-1-c)) (gt (P++A++B++T) c)) k lo hi) (hk:b-a<k) :
  ∃A1 A2 B1 B2,A=A1++A2/\B=B1++B2/\r=a+A1.length/\mid-r=B1.length/\(∀x∈A1,∀y∈B2,ltK y x=false)/\(∀x∈A2,∀y∈B1,ltK y x=true):=by
 have hlh:lo<=hi:=by split at hlo<;>split at hhi<;>omega
 have bd:=abm (q:=fun c=>!ltK (gt (P++A++B++T) (mid+m-1-c)) (gt (P++A++B++T) c)) k hlh
 rw [<- hr] at bd
 have eA:∀c d:Int,a<=c->c<=d->d<m->ltK (gt (P++A++B++T) d) (gt (P++A++B++T) c)=false:=by
  intro c d h1 h2 h3
  have:=Ry (P:=P) (T:=B++T) hA (c:=c) (d:=d) (by omega) h2 (by omega)
  rw [show P++A++B++T=P++A++(B++T) by simp];exact this
 have eB:∀c d:Int,m<=c->c<=d->d<b->ltK (gt (P++A++B++T) d) (gt (P++A++B++T) c)=false:=by
  intro c d h1 h2 h3
  exact Ry (P:=P++A) (T:=T) hB (c:=c) (d:=d) (by simp;omega) h2 (by simp;omega)
 obtain ⟨h1,h2⟩:=abn (q:=fun c=>!ltK (gt (P++A++B++T) (mid+m-1-c)) (gt (P++A++B++T) c)) k hlh (by split at hlo<;>split at hhi<;>omega) (by
  intro c d h1 h2 h3 h4
  simp only [Bool.not_eq_true'] at h4 ⊢
  have q1:=eA c d (by split at hlo<;>omega) h2 (by split at hhi<;>omega)
  have q2:=eB (mid+m-1-d) (mid+m-1-c) (by split at hhi<;>omega) (by omega) (by split at hlo<;>omega)
  exact ayh q1 (ayh h4 q2))
 rw [<- hr] at h1 h2
 have b1:a<=r:=by split at hlo<;>omega
 have b2:r<=m:=by split at hhi<;>omega
 have b3:r<=mid:=by split at hhi<;>omega
 have b4:mid+m-r<=b:=by split at hlo<;>omega
 obtain ⟨A1,A2,rfl,l1⟩:=Jz (A:=A) (k:=r-a) (by omega) (by omega)
 obtain ⟨B1,B2,rfl,l2⟩:=Jz (A:=B) (k:=mid-r) (by omega) (by omega)
 simp only [List.length_append] at *
 refine ⟨A1,A2,B1,B2,rfl,rfl,by omega,by omega,fun x hx y hy=>?_,fun x hx y hy=>?_⟩
 .obtain ⟨c,c0,c1,c2⟩:=Jy (P:=P) (T:=A2++(B1++B2)++T) hx
  obtain ⟨d,d0,d1,d2⟩:=Jy (P:=P++(A1++A2)++B1) (T:=T) hy
  rw [show P++A1++(A2++(B1++B2)++T)=P++(A1++A2)++(B1++B2)++T by simp] at c2
  rw [show P++(A1++A2)++B1++B2++T=P++(A1++A2)++(B1++B2)++T by simp] at d2
  simp only [List.length_append] at d0 d1
  have q:=h1 (r-1) (by split at hlo<;>omega) (by omega)
  simp only [Bool.not_eq_true'] at q
  have q1:=eA c (r-1) (by omega) (by omega) (by omega)
  have q2:=eB (mid+m-1-(r-1)) d (by omega) (by omega) (by omega)
  rw [<- c2,<- d2]
  exact ayh q1 (ayh q q2)
 .obtain ⟨c,c0,c1,c2⟩:=Jy (P:=P++A1) (T:=(B1++B2)++T) hx
  obtain ⟨d,d0,d1,d2⟩:=Jy (P:=P++(A1++A2)) (T:=B2++T) hy
  rw [show P++A1++A2++(B1++B2++T)=P++(A1++A2)++(B1++B2)++T by simp] at c2
  rw [show P++(A1++A2)++B1++(B2++T)=P++(A1++A2)++(B1++B2)++T by simp] at d2
  simp only [List.length_append] at c0 c1 d0 d1
  have q:=h2 r (by omega) (by split at hhi<;>omega)
  simp only [Bool.not_eq_false'] at q
  have q1:=eA r c (by omega) (by omega) (by omega)
  have q2:=eB d (mid+m-1-r) (by omega) (by omega) (by omega)
  rw [<- c2,<- d2]
  exact QW (aym q2 q) q1
theorem one1 {A:List dI}(h:A.length=1):∃x,A=[x]:=by
 match A,h with
 |[x],_=>exact ⟨x,rfl⟩
theorem aqh {P B T:List dI}{x:dI}{a m b:Int}(ha:a=P.length)(hm:m=a+1)(hb:b=m+B.length)(hB:Jw B)(hlim:b<4294967296) :
  ∃C,g_ (gZ (P++[x]++B++T) a ((b-m).toNat+1) m b) ((iU .i64 (gZ (P++[x]++B++T) a ((b-m).toNat+1) m b) 1).toNat+1) a (P++[x]++B++T)=P++C++T/\Jw C/\uZ C ([x]++B):=by
 rw [akR _ (by omega) (by omega) (by omega)]
 have gx:gt (P++[x]++B++T) a=x:=by
  show (P++[x]++B++T).getD _ default=x
  rw [show P++[x]++B++T=P++x::(B++T) by simp];exact BZ ha
 rw [gx]
 have eB:∀c d:Int,m<=c->c<=d->d<b->ltK (gt (P++[x]++B++T) d) (gt (P++[x]++B++T) c)=false:=by
  intro c d h1 h2 h3
  exact Ry (P:=P++[x]) (T:=T) hB (c:=c) (d:=d) (by simp;omega) h2 (by simp;omega)
 generalize hr:bs (fun c=>ltK (gt (P++[x]++B++T) c) x) ((b-m).toNat+1) m b=r
 have bd:=abm (q:=fun c=>ltK (gt (P++[x]++B++T) c) x) ((b-m).toNat+1) (i:=m) (j:=b) (by omega)
 obtain ⟨h1,h2⟩:=abn (q:=fun c=>ltK (gt (P++[x]++B++T) c) x) ((b-m).toNat+1) (i:=m) (j:=b) (by omega) (by omega) (fun c d h1 h2 h3 h4=>aym (eB c d h1 h2 h3) h4)
 rw [hr] at bd h1 h2
 obtain ⟨B1,B2,rfl,l1⟩:=Jz (A:=B) (k:=r-m) (by omega) (by omega)
 have m1:∀y∈B1,ltK y x=true:=by
  intro y hy
  obtain ⟨c,c0,c1,c2⟩:=Jy (P:=P++[x]) (T:=B2++T) hy
  rw [<- c2,show P++[x]++B1++(B2++T)=P++[x]++(B1++B2)++T by simp]
  exact h1 c (by simp at c0;omega) (by simp at c1;omega)
 have m2:∀y∈B2,ltK y x=false:=by
  intro y hy
  obtain ⟨c,c0,c1,c2⟩:=Jy (P:=P++[x]++B1) (T:=T) hy
  rw [<- c2,show P++[x]++B1++B2++T=P++[x]++(B1++B2)++T by simp]
  simp at c0 c1 hb
  exact h2 c (by omega) (by omega)
 have e1:iU .i64 r 1=r-1:=wM (by omega) (by omega)
 rw [e1,show P++[x]++(B1++B2)++T=P++x::(B1++(B2++T)) by simp,aor _ P B1 (B2++T) x a ha (by omega) (by omega) (by simp at hb;omega)]
 obtain ⟨s1,s2,s3⟩:=List.pairwise_append.1 hB
 refine ⟨B1++x::B2,by simp,List.pairwise_append.2 ⟨s1,List.pairwise_cons.2 ⟨m2,s2⟩,fun y hy z hz=>?_⟩,?_⟩
 .cases hz with
  |head=>exact PX (m1 y hy)
  |tail _ hz=>exact s3 y hy z hz
 .rw [show B1++x::B2=(B1++[x])++B2 by simp,<- List.append_assoc]
  exact uZ.app (uZ.symm (uZ.swap fun z hz y hy=>by simp at hz;subst hz;exact m1 y hy)) (uZ.refl _)
theorem akV {P A T:List dI}{y:dI}{a m:Int}(ha:a=P.length)(hm:m=a+A.length)(hA:Jw A)(hlim:m+1<4294967296) :
  ∃C,h_ (iK (P++A++[y]++T) m ((m-a).toNat+1) a m) ((m-a).toNat+1) m (P++A++[y]++T)=P++C++T/\Jw C/\uZ C (A++[y]):=by
 rw [akS _ (by omega) (by omega) (by omega)]
 have gx:gt (P++A++[y]++T) m=y:=by
  show (P++A++[y]++T).getD _ default=y
  rw [show P++A++[y]++T=(P++A)++y::T by simp];exact BZ (by simp;omega)
 rw [gx]
 have eA:∀c d:Int,a<=c->c<=d->d<m->ltK (gt (P++A++[y]++T) d) (gt (P++A++[y]++T) c)=false:=by
  intro c d h1 h2 h3
  rw [show P++A++[y]++T=P++A++([y]++T) by simp]
  exact Ry (P:=P) (T:=[y]++T) hA (c:=c) (d:=d) (by omega) h2 (by omega)
 generalize hr:bs (fun c=>!ltK y (gt (P++A++[y]++T) c)) ((m-a).toNat+1) a m=r
 have bd:=abm (q:=fun c=>!ltK y (gt (P++A++[y]++T) c)) ((m-a).toNat+1) (i:=a) (j:=m) (by omega)
 obtain ⟨h1,h2⟩:=abn (q:=fun c=>!ltK y (gt (P++A++[y]++T) c)) ((m-a).toNat+1) (i:=a) (j:=m) (by omega) (by omega) (fun c d h1 h2 h3 h4=>by
  simp only [Bool.not_eq_true'] at h4 ⊢
  exact ayh (eA c d h1 h2 h3) h4)
 rw [hr] at bd h1 h2
 obtain ⟨A1,A2,rfl,l1⟩:=Jz (A:=A) (k:=r-a) (by omega) (by omega)
 simp only [List.length_append] at hm
 have m1:∀z∈A1,ltK y z=false:=by
  intro z hz
  obtain ⟨c,c0,c1,c2⟩:=Jy (P:=P) (T:=A2++[y]++T) hz
  rw [<- c2,show P++A1++(A2++[y]++T)=P++(A1++A2)++[y]++T by simp]
  have:=h1 c (by omega) (by omega)
  simpa using this
 have m2:∀z∈A2,ltK y z=true:=by
  intro z hz
  obtain ⟨c,c0,c1,c2⟩:=Jy (P:=P++A1) (T:=[y]++T) hz
  rw [<- c2,show P++A1++A2++([y]++T)=P++(A1++A2)++[y]++T by simp]
  simp only [List.length_append] at c0 c1
  have:=h2 c (by omega) (by omega)
  simpa using this
 rw [show P++(A1++A2)++[y]++T=(P++A1)++A2++y::T by simp,aos _ (P++A1) A2 T y m (by simp;omega) (by simp;omega) (by omega) (by simp;omega)]
 refine ⟨A1++y::A2,by simp,afG hA m1 m2,afH m2⟩
theorem nine {α:Type}{c1 c2 c3:Bool}{x v9:α}{M1 M2:α->α} :
  (bif c1&&(c2&&c3) then M2 (M1 v9) else bif c1&&c2 then M1 v9 else bif c1&&c3 then M2 v9 else bif c1 then v9 else bif c2&&c3 then M2 (M1 x) else bif c2 then M1 x else bif c3 then M2 x else x)
   = (bif c3 then M2 (bif c2 then M1 (bif c1 then v9 else x) else (bif c1 then v9 else x)) else (bif c2 then M1 (bif c1 then v9 else x) else (bif c1 then v9 else x))):=by
 cases c1<;>cases c2<;>cases c3<;>rfl
theorem DC : ∀(k:Nat) (P A B T:List dI) (a m b:Int),a=P.length->m=a+A.length->b=m+B.length->0<A.length->0<B.length->b-a<=k->4*b<4294967296->Jw A->Jw B->
  ∃C,dP k (P++A++B++T) a m b=P++C++T/\Jw C/\uZ C (A++B)
 |0,P,A,B,T,a,m,b,ha,hm,hb,hA,hB,hk,hlim,sA,sB=>by omega
 |k+1,P,A,B,T,a,m,b,ha,hm,hb,hA,hB,hk,hlim,sA,sB=>by
  unfold dP
  simp only [show IntKind.wrap .i64 (jf .u64 (IntKind.wrap .u64 (dZ .i64 a b)) 1)=(a+b) / 2 from Kw (by omega) (by omega) (by omega)]
  have e1:iU .i64 m a=m-a:=wM (by omega) (by omega)
  have e2:iU .i64 b m=b-m:=wM (by omega) (by omega)
  simp only [e1,e2]
  by_cases hA1:A.length=1
  .obtain ⟨x,rfl⟩:=one1 hA1
   simp only [show dW (m-a) 1=true from by rw [YR];exact decide_eq_true (by omega),cond_true]
   exact aqh ha (by simp at hm;omega) hb sB (by omega)
  simp only [show dW (m-a) 1=false from by rw [YR];exact decide_eq_false (by omega),cond_false]
  by_cases hB1:B.length=1
  .obtain ⟨y,rfl⟩:=one1 hB1
   simp only [show dW (b-m) 1=true from by rw [YR];exact decide_eq_true (by omega),cond_true]
   exact akV ha hm sA (by simp at hb;omega)
  simp only [show dW (b-m) 1=false from by rw [YR];exact decide_eq_false (by omega),cond_false]
  have e3:dZ .i64 ((a+b) / 2) m=(a+b) / 2+m:=oM (by omega) (by omega)
  have e4:iU .i64 ((a+b) / 2+m) b=(a+b) / 2+m-b:=wM (by omega) (by omega)
  simp only [e3,e4]
  generalize hlo:(bif decide (m > (a+b) / 2) then (a+b) / 2+m-b else a)=lo
  generalize hhi:(bif decide (m > (a+b) / 2) then (a+b) / 2 else m)=hi
  have agK:lo=if m > (a+b) / 2 then (a+b) / 2+m-b else a:=by rw [<- hlo];simp only [Bool.cond_eq_ite,decide_eq_true_eq]
  have aqi:hi=if m > (a+b) / 2 then (a+b) / 2 else m:=by rw [<- hhi];simp only [Bool.cond_eq_ite,decide_eq_true_eq]
  rw [akT (by omega) (by omega) (by omega) (by omega) (by omega) _ (by split at agK<;>omega) (by split at agK<;>split at aqi<;>omega) (by split at aqi<;>omega)]
  obtain ⟨A1,A2,B1,B2,rfl,rfl,q1,q2,q3,q4⟩:=aqg (P:=P) (A:=A) (B:=B) (T:=T) ha hm hb sA sB rfl agK aqi hA hB rfl (by omega:b-a<(((b-a).toNat+1:Nat):Int))
  generalize hr:bs (fun c=>!ltK (gt (P++(A1++A2)++(B1++B2)++T) ((a+b) / 2+m-1-c)) (gt (P++(A1++A2)++(B1++B2)++T) c)) ((b-a).toNat+1) lo hi=r at *
  simp only [List.length_append] at *
  have e5:iU .i64 ((a+b) / 2+m) r=(a+b) / 2+m-r:=wM (by omega) (by omega)
  simp only [e5]
  generalize hmid:(a+b) / 2=mid at *
  rw [nine (M1:=fun l=>dP k l a r mid) (M2:=fun l=>dP k l mid (mid+m-r) b)]
  obtain ⟨sA1,sA2,sA3⟩:=List.pairwise_append.1 sA
  obtain ⟨sB1,sB2,sB3⟩:=List.pairwise_append.1 sB
  have w:(bif (decide (r<m)&&decide (m<mid+m-r)) then jd (P++(A1++A2)++(B1++B2)++T) r m (mid+m-r) else P++(A1++A2)++(B1++B2)++T)=P++A1++B1++(A2++B2++T):=by
   by_cases h1:r<m
   .by_cases h2:m<mid+m-r
    .simp only [h1,h2,decide_true,Bool.true_and,cond_true]
     have:=ahB (P:=P++A1) (A:=A2) (B:=B1) (T:=B2++T) (a:=r) (m:=m) (b:=mid+m-r) (by simp;omega) (by omega) (by omega) (by omega) (by omega) (by simp;omega)
     rw [show P++(A1++A2)++(B1++B2)++T=P++A1++A2++B1++(B2++T) by simp,this]
     simp
    .have:B1=[]:=List.length_eq_zero_iff.1 (by omega)
     subst this
     simp [h2]
   .have:A2=[]:=List.length_eq_zero_iff.1 (by omega)
    subst this
    simp [h1]
  rw [w]
  have w2:∃D,(bif (decide (a<r)&&decide (r<mid)) then dP k (P++A1++B1++(A2++B2++T)) a r mid else P++A1++B1++(A2++B2++T))=P++D++(A2++B2++T)/\Jw D/\uZ D (A1++B1)/\D.length=A1.length+B1.length:=by
   by_cases h1:a<r
   .by_cases h2:r<mid
    .simp only [h1,h2,decide_true,Bool.true_and,cond_true]
     obtain ⟨C,c1,c2,c3⟩:=DC k P A1 B1 (A2++B2++T) a r mid ha (by omega) (by omega) (by omega) (by omega) (by omega) (by omega) sA1 sB1
     refine ⟨C,c1,c2,c3,?_⟩
     have:=congrArg List.length c1
     rw [uQ] at this
     simp at this
     omega
    .have:B1=[]:=List.length_eq_zero_iff.1 (by omega)
     subst this
     exact ⟨A1,by simp [h2],sA1,by simpa using uZ.refl _,by simp⟩
   .have:A1=[]:=List.length_eq_zero_iff.1 (by omega)
    subst this
    exact ⟨B1,by simp [h1],sB1,by simpa using uZ.refl _,by simp⟩
  obtain ⟨D,d1,d2,d3,d4⟩:=w2
  rw [d1]
  have w3:∃E,(bif (decide (mid<mid+m-r)&&decide (mid+m-r<b)) then dP k (P++D++(A2++B2++T)) mid (mid+m-r) b else P++D++(A2++B2++T))=P++D++(E++T)/\Jw E/\uZ E (A2++B2):=by
   by_cases h1:mid<mid+m-r
   .by_cases h2:mid+m-r<b
    .simp only [h1,h2,decide_true,Bool.true_and,cond_true]
     obtain ⟨C,c1,c2,c3⟩:=DC k (P++D) A2 B2 T mid (mid+m-r) b (by simp;omega) (by omega) (by omega) (by omega) (by omega) (by omega) (by omega) sA2 sB2
     exact ⟨C,by rw [show P++D++(A2++B2++T)=P++D++A2++B2++T by simp,c1];simp,c2,c3⟩
    .have:B2=[]:=List.length_eq_zero_iff.1 (by omega)
     subst this
     exact ⟨A2,by simp [h2],sA2,by simpa using uZ.refl _⟩
   .have:A2=[]:=List.length_eq_zero_iff.1 (by omega)
    subst this
    exact ⟨B2,by simp [h1],sB2,by simpa using uZ.refl _⟩
  obtain ⟨E,f1,f2,f3⟩:=w3
  rw [f1]
  refine ⟨D++E,by simp,anq d2 f2 fun x hx y hy=>?_,?_⟩
  .have hx:=d3.afF x hx
   have hy:=f3.afF y hy
   rcases List.mem_append.1 hx with hx|hx<;>rcases List.mem_append.1 hy with hy|hy
   .exact sA3 x hx y hy
   .exact q3 x hx y hy
   .exact PX (q4 y hy x hx)
   .exact sB3 x hx y hy
  .refine (uZ.app d3 f3).trans ?_
   rw [show A1++B1++(A2++B2)=A1++(B1++A2)++B2 by simp,show A1++A2++(B1++B2)=A1++(A2++B1)++B2 by simp]
   exact uZ.app (uZ.app (uZ.refl _) (uZ.symm (uZ.swap q4))) (uZ.refl _)
end Go.Fw
end
section
namespace Go.Fw
inductive Full (s:Int):List dI->Prop
 |nil:Full s []
 |cons {b r:List dI}:(b.length:Int)=s->Jw b->Full s r->Full s (b++r)
theorem Ol {x1:Int}(hlim:x1+64<4294967296):∀(k:Nat) (P R:List dI) (a b:Int),a=P.length->b=a+20->x1=a+R.length->R.length<k->
  ∃Q R',(gY x1 k a b (P++R)).2.2=P++Q++R'/\(gY x1 k a b (P++R)).1=a+Q.length/\Full 20 Q/\R'.length<20/\uZ (Q++R') R/\x1=a+Q.length+R'.length
 |0,P,R,a,b,ha,hb,hx,hk=>by omega
 |k+1,P,R,a,b,ha,hb,hx,hk=>by
  simp only [gY]
  by_cases hd:b<=x1
  .simp only [decide_eq_true hd,Bool.not_true,cond_false]
   have e:dZ .i64 b 20=b+20:=oM (by omega) (by omega)
   rw [e]
   obtain ⟨M,R,rfl,l1⟩:=Jz (A:=R) (k:=20) (by omega) (by omega)
   simp only [List.length_append] at *
   obtain ⟨M',q1,q2,q3⟩:=Oj (P:=P) (M:=M) (T:=R) (a:=a) (b:=b) ha (by omega) (by omega)
   have lM:M'.length=M.length:=by
    have:=congrArg List.length q1
    rw [tu] at this
    simp at this;omega
   rw [show P++(M++R)=P++M++R by simp,q1]
   obtain ⟨Q,R',r1,r2,r3,r4,r5,r6⟩:=Ol hlim k (P++M') R b (b+20) (by simp;omega) rfl (by omega) (by omega)
   refine ⟨M'++Q,R',by rw [r1];simp,by rw [r2];simp;omega,Full.cons (by omega) q2 r3,r4,?_,by simp;omega⟩
   rw [List.append_assoc]
   exact uZ.app q3 r5
  .simp only [decide_eq_false hd,Bool.not_false,cond_true]
   exact ⟨[],R,by simp,by simp,Full.nil,by omega,uZ.refl _,by simp;omega⟩
def Rest (s:Int)(R:List dI):Prop:=(∃b R0,R=b++R0/\(b.length:Int)=s/\Jw b/\Jw R0/\(R0.length:Int)<s)\/(Jw R/\(R.length:Int)<s)
theorem K_ {x1 s:Int}(h0:20<=s)(h8:s<=2*x1+20)(hlim:64*x1+640<4294967296):∀(k:Nat) (P Q R:List dI) (a b:Int),a=P.length->b=a+2*s->x1=a+Q.length+R.length->Q.length<k->Full s Q->Jw R->(R.length:Int)<s->
  ∃Q' R',(fJ x1 s k a b (P++Q++R)).2.2=P++Q'++R'/\(fJ x1 s k a b (P++Q++R)).1=a+Q'.length/\Full (2*s) Q'/\Rest s R'/\uZ (Q'++R') (Q++R)/\x1=a+Q'.length+R'.length
 |0,P,Q,R,a,b,ha,hb,hx,hk,hf,hr,hl=>by omega
 |k+1,P,Q,R,a,b,ha,hb,hx,hk,hf,hr,hl=>by
  simp only [fJ]
  have e0:OV .i64 2 s=2*s:=akc (by omega) (by omega)
  have e1:dZ .i64 a s=a+s:=oM (by omega) (by omega)
  rw [e0,e1]
  cases hf with
  |nil=>
   have hd:¬b<=x1:=by simp at hx;omega
   simp only [decide_eq_false hd,Bool.not_false,cond_true]
   exact ⟨[],R,by simp,by simp,Full.nil,Or.inr ⟨hr,hl⟩,uZ.refl _,by simp at hx ⊢;omega⟩
  |@cons b0 Q1 l0 s0 f1=>
   cases f1 with
   |nil=>
    have hd:¬b<=x1:=by simp at hx;omega
    simp only [decide_eq_false hd,Bool.not_false,cond_true]
    exact ⟨[],b0++R,by simp,by simp,Full.nil,Or.inl ⟨b0,R,rfl,l0,s0,hr,hl⟩,by simpa using uZ.refl _,by simp at hx ⊢;omega⟩
   |@cons b1 Q2 l1 s1 f2=>
    simp only [List.length_append] at *
    have hd:b<=x1:=by omega
    simp only [decide_eq_true hd,Bool.not_true,cond_false]
    have e:dZ .i64 b (2*s)=b+2*s:=oM (by omega) (by omega)
    rw [e]
    obtain ⟨C,c1,c2,c3⟩:=DC ((b-a).toNat+1) P b0 b1 (Q2++R) a (a+s) b ha (by omega) (by omega) (by omega) (by omega) (by omega) (by omega) s0 s1
    have lC:C.length=b0.length+b1.length:=by
     have:=congrArg List.length c1
     rw [uQ] at this
     simp at this;omega
    rw [show P++(b0++(b1++Q2))++R=P++b0++b1++(Q2++R) by simp,c1,<- List.append_assoc]
    obtain ⟨Q',R',r1,r2,r3,r4,r5,r6⟩:=K_ h0 h8 hlim k (P++C) Q2 R b (b+2*s) (by simp;omega) rfl (by omega) (by omega) f2 hr hl
    refine ⟨C++Q',R',by rw [r1];simp,by rw [r2];simp;omega,Full.cons (by omega) c2 r3,r4,?_,by simp;omega⟩
    rw [show C++Q'++R'=C++(Q'++R') by simp,show b0++(b1++Q2)++R=(b0++b1)++(Q2++R) by simp]
    exact uZ.app c3 r5
theorem AL {x1:Int}(hlim:64*x1+640<4294967296):∀(k:Nat) (Q R:List dI) (s u v:Int),20<=s->s<=2*x1+20->x1=Q.length+R.length->x1-s<k->0<k->Full s Q->Jw R->(R.length:Int)<s->
  ∃L,iJ x1 k s u v (Q++R)=L/\Jw L/\uZ L (Q++R)
 |0,Q,R,s,u,v,h0,h8,hx,hk,hk0,hf,hr,hl=>by omega
 |k+1,Q,R,s,u,v,h0,h8,hx,hk,hk0,hf,hr,hl=>by
  simp only [iJ]
  by_cases hd:s<x1
  .simp only [decide_eq_true hd,Bool.not_true,cond_false]
   have e0:OV .i64 2 s=2*s:=akc (by omega) (by omega)
   have e2:OV .i64 s 2=s*2:=akc (by omega) (by omega)
   rw [e0,e2]
   obtain ⟨Q',R',r1,r2,r3,r4,r5,r6⟩:=K_ h0 h8 hlim ((x1+2*s).toNat+1) [] Q R 0 (2*s) rfl (by omega) (by omega) (by omega) hf hr hl
   simp only [List.nil_append] at r1 r2
   rw [r1,r2]
   have e1:dZ .i64 (0+(Q'.length:Int)) s=Q'.length+s:=by rw [oM (by omega) (by omega)];omega
   rw [e1,show s*2=2*s by omega]
   rcases r4 with ⟨b,R0,rfl,l1,s1,s0,l0⟩|⟨s1,l1⟩
   .simp only [List.length_append] at r6
    by_cases h1:(Q'.length:Int)+s<x1
    .simp only [decide_eq_true h1,cond_true]
     obtain ⟨C,c1,c2,c3⟩:=DC ((x1-(0+(Q'.length:Int))).toNat+1) Q' b R0 [] (0+Q'.length) (Q'.length+s) x1 (by omega) (by omega) (by omega) (by omega) (by omega) (by omega) (by omega) s1 s0
     have lC:C.length=b.length+R0.length:=by
      have:=congrArg List.length c1
      rw [uQ] at this
      simp at this;omega
     simp only [List.append_nil] at c1
     rw [<- List.append_assoc,c1]
     obtain ⟨L,d1,d2,d3⟩:=AL hlim k Q' C (2*s) (0+Q'.length) ((fJ x1 s ((x1+2*s).toNat+1) 0 (2*s) (Q++R)).2.1) (by omega) (by omega) (by omega) (by omega) (by omega) r3 c2 (by omega)
     exact ⟨L,d1,d2,d3.trans ((uZ.app (uZ.refl _) c3).trans r5)⟩
    .simp only [decide_eq_false h1,cond_false]
     have:R0=[]:=List.length_eq_zero_iff.1 (by omega)
     subst this
     simp only [List.append_nil] at *
     obtain ⟨L,d1,d2,d3⟩:=AL hlim k Q' b (2*s) (0+Q'.length) ((fJ x1 s ((x1+2*s).toNat+1) 0 (2*s) (Q++R)).2.1) (by omega) (by omega) (by simp at r6;omega) (by omega) (by omega) r3 s1 (by omega)
     exact ⟨L,d1,d2,d3.trans r5⟩
   .have h1:¬(Q'.length:Int)+s<x1:=by omega
    simp only [decide_eq_false h1,cond_false]
    obtain ⟨L,d1,d2,d3⟩:=AL hlim k Q' R' (2*s) (0+Q'.length) ((fJ x1 s ((x1+2*s).toNat+1) 0 (2*s) (Q++R)).2.1) (by omega) (by omega) (by omega) (by omega) (by omega) r3 s1 (by omega)
    exact ⟨L,d1,d2,d3.trans r5⟩
  .simp only [decide_eq_false hd,Bool.not_false,cond_true]
   refine ⟨_,rfl,?_,uZ.refl _⟩
   cases hf with
   |nil=>simpa using hr
   |@cons b0 Q1 l0 s0 f1=>
    simp only [List.length_append] at hx
    have h1:Q1=[]:=List.length_eq_zero_iff.1 (by omega)
    have h2:R=[]:=List.length_eq_zero_iff.1 (by omega)
    subst h1;subst h2
    simpa using s0
theorem ahC {l:List dI}{n:Int}(hn:n=l.length)(hlim:64*n+640<4294967296):Jw (eY l n)/\uZ (eY l n) l:=by
 unfold eY
 dsimp only
 obtain ⟨Q,R,r1,r2,r3,r4,r5,r6⟩:=Ol (x1:=n) (by omega) (n.toNat+21) [] l 0 20 rfl rfl (by omega) (by omega)
 simp only [List.nil_append] at r1 r2
 rw [r1,r2]
 obtain ⟨M,q1,q2,q3⟩:=Oj (P:=Q) (M:=R) (T:=[]) (a:=0+Q.length) (b:=n) (by omega) (by omega) (by omega)
 simp only [List.append_nil] at q1
 have lM:M.length=R.length:=by
  have:=congrArg List.length q1
  rw [tu] at this
  simp at this;omega
 rw [q1]
 obtain ⟨L,d1,d2,d3⟩:=AL (x1:=n) hlim (n.toNat+1) Q M 20 (0+Q.length) ((gY n (n.toNat+21) 0 20 l).2.1) (by omega) (by omega) (by omega) (by omega) (by omega) r3 q2 (by omega)
 rw [d1]
 exact ⟨d2,d3.trans ((uZ.app (uZ.refl _) q3).trans r5)⟩
theorem anr {l:List dI}(h:l.length<=1):Jw l:=by
 match l,h with
 |[],_=>exact List.Pairwise.nil
 |[x],_=>exact List.pairwise_singleton _ _
theorem akW {l:List dI}(hlim:l.length<=1048576):Jw (qI l)/\uZ (qI l) l:=by
 unfold qI
 dsimp only
 rw [iZ,YR,YR]
 by_cases h:l.length<=1
 .have:(decide ((l.length:Int)=0)||decide ((l.length:Int)=1))=true:=by
   rw [<- Bool.decide_or];exact decide_eq_true (by omega)
  rw [this]
  exact ⟨anr h,uZ.refl _⟩
 .have:(decide ((l.length:Int)=0)||decide ((l.length:Int)=1))=false:=by
   rw [<- Bool.decide_or];exact decide_eq_false (by omega)
  rw [this]
  have hs:(eY l (l.length:Int)).length=l.length:=ML
  have:((eY l (l.length:Int)).drop 0).take ((l.length:Int).toNat-0)=eY l l.length:=by
   rw [List.drop_zero];exact List.take_of_length_le (by omega)
  simp only [cond_false]
  rw [this]
  exact ahC rfl (by omega)
end Go.Fw
end
section
namespace Go.Fw
def pv : List UInt8->Int->Option Int
 |[],a=>some a
 |c::r,a=>if c.toNat<48\/c.toNat > 57 then none else pv r (10*a+(c.toNat-48))
def tD (n:Nat):List UInt8:=
 if n<10 then [UInt8.ofNat (48+n)] else if n<100 then [UInt8.ofNat (48+n / 10),UInt8.ofNat (48+n % 10)]
 else if n<1000 then [UInt8.ofNat (48+n / 100),UInt8.ofNat (48+n / 10 % 10),UInt8.ofNat (48+n % 10)]
 else [UInt8.ofNat (48+n / 1000),UInt8.ofNat (48+n / 100 % 10),UInt8.ofNat (48+n / 10 % 10),UInt8.ofNat (48+n % 10)]
end Go.Fw
end
section
namespace Go.Fw
def Ia (k:dI):Bool:=(uO k).2
def num (k:dI):Int:=(uO k).1
end Go.Fw
end
section
namespace Go.Fw
end Go.Fw
end
section
namespace Go.Fw
theorem U1 {x:Nat}(h:x<2 ^ 64):vS x=Ko x:=by
 unfold vS Ko Jo
 dsimp only
 have ht:Gt x=jC x:=rfl
 have ha:N7 x=x % 9223372036854775808:=azj h
 have hs:Au x=(kE x).neg:=amW h
 rw [ht,ha,hs,BP,NZ x 0,EL]
 by_cases hn:wP x=true
 .simp [hn]
 .have hn:wP x=false:=by simpa using hn
  rw [akk x hn,hn]
  cases hx:kE x with
  |nan s t=>unfold wP at hn;rw [hx] at hn;cases hn
  |infinity s=>
   have:(ZK x 14069245235905429503&&Yd x 4845873199050653695)=false:=by
    unfold ZK Yd Ieee.Format.order
    show (((Ieee.Datum.order (kE x) _ == _)||(Ieee.Datum.order (kE x) _ == _))&&((Ieee.Datum.order (kE x) _ == _)||(Ieee.Datum.order (kE x) _ == _)))=false
    rw [hx]
    have e1:FloatKind.f64.format.read 4845873199050653695=.number false 9007199254740991 0:=Px
    have e2:FloatKind.f64.format.read 14069245235905429503=.number true 9007199254740991 0:=MC
    rw [e1,e2]
    cases s<;>rfl
   simp [this]
  |number s m i=>
   rw [UG hx]
   simp only [NZ,Ieee.Datum.neg]
   cases m with
   |zero=>
    rw [akj hx]
    simp only [Ieee.Datum.isZero]
    generalize (ZK x 14069245235905429503&&Yd x 4845873199050653695)=A
    generalize fEq (FloatKind.f64.nearest (((FloatKind.f64.decode x).toInt .zero).getD 0)) x=B
    cases A<;>cases B<;>cases s<;>rfl
   |succ m=>
    simp only [Ieee.Datum.isZero]
    generalize (ZK x 14069245235905429503&&Yd x 4845873199050653695)=A
    generalize fEq (FloatKind.f64.nearest (((FloatKind.f64.decode x).toInt .zero).getD 0)) x=B
    cases A<;>cases B<;>cases s<;>rfl
theorem Om : vS 0=true:=by decide +kernel
theorem U2 {x:Nat}(h:x<2 ^ 64):(fEq x 0&&vS x)=jL x:=by
 unfold jL
 by_cases hz:fEq x 0=true
 .rw [U1 h]
  rw [EL] at hz
  cases hx:kE x with
  |nan s t=>rw [hx] at hz;cases hz
  |infinity s=>rw [hx] at hz;cases hz
  |number s m i=>
   cases m with
   |succ m=>rw [hx] at hz;cases hz
   |zero=>
    have hn:wP x=false:=by unfold wP;rw [hx]
    rw [adG hx]
    unfold Ko Jo
    dsimp only
    rw [akj hx,BP,hn]
    have hz':fEq x 0=true:=by rw [EL,hx];rfl
    have e1:ZK x 14069245235905429503=true:=by
     unfold ZK Ieee.Format.order
     show ((Ieee.Datum.order (kE x) (kE _) == _)||(Ieee.Datum.order (kE x) (kE _) == _))=true
     have e:kE 14069245235905429503=.number true 9007199254740991 0:=MC
     rw [hx,e]
     simp only [Ieee.Datum.order,akh,sg0,Ieee.signed,if_true,decide_eq_true_eq]
     have:=Int.natCast_nonneg (9007199254740991 <<< (0-min i 0).toNat)
     generalize ((9007199254740991 <<< (0-min i 0).toNat:Nat):Int)=q at this ⊢
     omega
    have e2:Yd x 4845873199050653695=true:=by
     unfold Yd Ieee.Format.order
     show ((Ieee.Datum.order (kE x) (kE _) == _)||(Ieee.Datum.order (kE x) (kE _) == _))=true
     have e:kE 4845873199050653695=.number false 9007199254740991 0:=Px
     rw [hx,e]
     simp only [Ieee.Datum.order,akg,sg0,Ieee.signed,if_true,decide_eq_true_eq,Bool.false_eq_true,if_false]
     have:=Int.natCast_nonneg (9007199254740991 <<< (0-min i 0).toNat)
     generalize ((9007199254740991 <<< (0-min i 0).toNat:Nat):Int)=q at this ⊢
     omega
    have e3:fEq (FloatKind.f64.nearest (((FloatKind.f64.decode x).toInt .zero).getD 0)) x=true:=by
     rw [<- UG hx]
     have:jC x=FloatKind.f64.format.word s 0:=by
      unfold jC FloatKind.decode FloatKind.encode
      show FloatKind.f64.format.write ((kE x).integral .zero)=_
      rw [hx]
      simp only [Ieee.Datum.integral,NQ,Nat.shiftLeft_eq,Ieee.Format.write,Nat.zero_mul,Nat.zero_div,Xo]
     rw [this,aki]
     unfold fEq Ieee.Format.order
     show (Ieee.Datum.order (kE x) (kE _) == _)=true
     rw [adF,hx]
     simp only [Ieee.Datum.order,ayH,sg0]
     rfl
    rw [e1,e2,NZ,e3,hz']
    cases s<;>rfl
 .have hz:fEq x 0=false:=by simpa using hz
  simp [hz]
def u8 (n:Int):Prop:=0<=n/\n<=255
def dL.ok (v:dL):Prop:=u8 v.Kind/\v.Num<2 ^ 64
theorem abo {n:Int}(h:u8 n):n=0\/n=1\/n=2\/n=3\/n=4\/n=5\/n=6\/n=7\/n=8\/n > 8:=by unfold u8 at h;omega
theorem Hq {x:Nat}:MH x 0=jL x:=by
 unfold MH jL
 rw [BP,BP]
 have h0:wP 0=false:=by rfl
 rw [h0,NZ,EL]
 cases hx:kE x with
 |nan s t=>simp [wP,hx,Ieee.Datum.isZero]
 |infinity s=>simp [wP,hx,Ieee.Datum.isZero]
 |number s m i=>
  cases m with
  |succ m=>simp [wP,hx,Ieee.Datum.isZero]
  |zero=>
   rw [adG hx,ayr hx,ayr afj]
   have:wP x=false:=by simp [wP,hx]
   rw [this]
   cases s<;>rfl
theorem AO {v:dL}(h:v.ok):jh v=mX v:=by
 obtain ⟨k,n,s,r⟩:=v
 obtain ⟨hk,hn⟩:=h
 dsimp only at hk hn
 have hN:=U2 hn
 have hM:=U1 hn
 unfold jh mX
 dsimp only
 have hlen:(sLen s > 4096)=¬(sLen s<=4096):=by simp
 have hr0:∀r:Int,(decide (r<0)=!(dW r 0||decide (r > 0))):=by
  intro r
  unfold dW
  by_cases h1:r<0
  .have h2:¬r=0:=by omega
   have h3:¬r > 0:=by omega
   simp [h1,h2,h3]
  .by_cases h2:r=0
   . simp [h2]
   . have h3:r > 0:=by omega
     simp [h1,h2,h3]
 rw [<- hN,<- hM]
 have hse:BF s []=true->sLen s<=4096:=by
  intro e
  have:s=[]:=of_decide_eq_true e
  subst this
  simp [sLen]
 simp only [hlen,decide_not,hr0,Om,NZ]
 have hz:fEq 0 0=true:=by rfl
 generalize hA:decide (sLen s<=4096)=A
 have hAs:BF s []=true->A=true:=fun e=>by rw [<- hA];exact decide_eq_true (hse e)
 have hr1:dW r 0=true->decide (r > 0)=false:=fun e=>by
  have:r=0:=by simpa [dW] using e
  subst this;rfl
 have auL:BF ([]:List UInt8) []=true:=by rfl
 have hi0:dW 0 0=true:=by rfl
 have hkk:dW k k=true:=by simp [dW]
 rw [hkk]
 rcases abo hk with rfl|rfl|rfl|rfl|rfl|rfl|rfl|rfl|rfl|h8
 all_goals first
  |(have hgt:decide (k > 8)=true:=decide_eq_true h8
    simp only [hgt,Bool.true_or,cond_true]
    done)
  |(simp only [dW] at hr1
    simp only [dW,Int.reduceBEq,Int.reduceGT,Int.reduceGE,decide_true,decide_false,cond_true,cond_false,Bool.or_true,Bool.true_or,Bool.or_false,Bool.false_or,Bool.and_true,Bool.true_and,Bool.and_false,Bool.false_and,Bool.not_true,Bool.not_false,hz,auL,hi0,Om]
    generalize BF s []=S at *
    generalize (r == 0)=R at *
    generalize decide (r > 0)=Q at *
    generalize vS n=M at *
    generalize fEq n 0=Z at *
    generalize fEq n 4607182418800017408=O at *
    clear hN hM hn hk
    revert hAs hr1
    clear hA hse hr0
    revert A S R Q M Z O
    decide)
theorem zH (v w:dL)(hv:v.ok)(hw:w.ok):eH v w=zk v w:=by
 obtain ⟨k,n,s,r⟩:=v
 obtain ⟨k',n',s',r'⟩:=w
 obtain ⟨hk,-⟩:=hv
 obtain ⟨hk',-⟩:=hw
 dsimp only at hk hk'
 unfold eH zk Aw dR x9
 dsimp only
 have ho:∀k:Int,(decide (k>=6)&&decide (k<=8))=(dW k 6||dW k 7||dW k 8):=by
  intro k
  unfold dW
  by_cases h1:k=6
  .subst h1;rfl
  .by_cases h2:k=7
   .subst h2;rfl
   .by_cases h3:k=8
    .subst h3;rfl
    .have h4:(decide (k>=6)&&decide (k<=8))=false:=by
      by_cases h5:k>=6
      .have:¬k<=8:=by omega
       simp [this]
      .simp [h5]
     rw [h4]
     simp [h1,h2,h3]
 rw [ho,ho]
 by_cases h3:k=3
 .subst h3
  by_cases h3':k'=3
  .subst h3'
   have e:LP n n=true->fEq n n'=false:=by
    rw [BP]
    intro h
    unfold wP at h
    unfold fEq Ieee.Format.order
    show (Ieee.Datum.order (kE n) _ == _)=false
    cases hx:kE n with
    |nan=>rfl
    |infinity=>rw [hx] at h;cases h
    |number=>rw [hx] at h;cases h
   cases hnn:LP n n
   .simp [dW,je,hnn]
   .rw [e hnn]
    simp [dW,je]
  .have e1:(k' == 3)=false:=by simp [h3']
   have e2:((3:Int) != k')=true:=by simp [Ne.symm h3']
   simp only [dW,je,e1,e2,Bool.and_false,Bool.false_and,cond_false,cond_true,Int.reduceBEq,Bool.or_self]
 .have:dW k 3=false:=by simp [dW,h3]
  simp only [this,Bool.false_and,cond_false]
  simp [Bool.or_false]
end Go.Fw
end
section
namespace Go.Fw
set_option maxRecDepth 20000
def hb (n:Int)(i:Nat):Bool:=n.toNat.testBit i
structure Bits (n:Int):Prop where
 a1:je (jK .u8 n 1) 0=hb n 0
 a2:je (jK .u8 n 2) 0=hb n 1
 a4:je (jK .u8 n 4) 0=hb n 2
 a8:je (jK .u8 n 8) 0=hb n 3
 a16:je (jK .u8 n 16) 0=hb n 4
 a32:je (jK .u8 n 32) 0=hb n 5
 z1:dW (jK .u8 n 1) 0=!hb n 0
 z4:dW (jK .u8 n 4) 0=!hb n 2
 z8:dW (jK .u8 n 8) 0=!hb n 3
 c1:je (jK .u8 (FU .u8 n) 1) 0=!hb n 0
 c2:je (jK .u8 (FU .u8 n) 2) 0=!hb n 1
 c4:je (jK .u8 (FU .u8 n) 4) 0=!hb n 2
 c8:je (jK .u8 (FU .u8 n) 8) 0=!hb n 3
 c16:je (jK .u8 (FU .u8 n) 16) 0=!hb n 4
 c32:je (jK .u8 (FU .u8 n) 32) 0=!hb n 5
 a12:je (jK .u8 n 12) 0=(hb n 2||hb n 3)
 a3:je (jK .u8 n 3) 0=(hb n 0||hb n 1)
 z15:dW (jK .u8 n 15) 0=!((hb n 0||hb n 1)||(hb n 2||hb n 3))
 n63:je (nI .u8 n 63) 0=decide (n > 63)
 r1:dW (Nk .u8 (Nj .u8 n 1) 2) 1=hb n 0
 r2:dW (Nk .u8 (Nj .u8 n 2) 2) 1=hb n 1
 r4:dW (Nk .u8 (Nj .u8 n 4) 2) 1=hb n 2
 r8:dW (Nk .u8 (Nj .u8 n 8) 2) 1=hb n 3
 r16:dW (Nk .u8 (Nj .u8 n 16) 2) 1=hb n 4
 r32:dW (Nk .u8 (Nj .u8 n 32) 2) 1=hb n 5
 o60:decide (n > 63)=false->(hb n 0||hb n 1)=false->Wu .u8 n 60=60
 o51:decide (n > 63)=false->(hb n 2||hb n 3)=false->Wu .u8 n 51=51
 p60:decide (n > 63)=false->(hb n 0||hb n 1)=false->Wu .u8 (nI .u8 n 48) 60=60
 p51:decide (n > 63)=false->(hb n 2||hb n 3)=false->Wu .u8 (nI .u8 n 48) 51=51
 p12:je (jK .u8 (nI .u8 n 48) 12) 0=(hb n 2||hb n 3)
 e51:n=51->(hb n 0=true/\hb n 1=true/\hb n 2=false/\hb n 3=false/\hb n 4=true/\hb n 5=true)
 e60:n=60->(hb n 0=false/\hb n 1=false/\hb n 2=true/\hb n 3=true/\hb n 4=true/\hb n 5=true)
 w60:(hb n 2||hb n 3)=true->decide (n > 63)=false->(hb n 0||hb n 1)=false->je n (Wu .u8 n 60)=!(dW n 51||dW n 60)
 w51:(hb n 2||hb n 3)=false->decide (n > 63)=false->je n (Wu .u8 n 51)=!(dW n 51||dW n 60)
def adW (n:Int):Prop:=(je (jK .u8 n 1) 0=hb n 0/\je (jK .u8 n 2) 0=hb n 1/\je (jK .u8 n 4) 0=hb n 2/\je (jK .u8 n 8) 0=hb n 3/\je (jK .u8 n 16) 0=hb n 4/\je (jK .u8 n 32) 0=hb n 5/\
 dW (jK .u8 n 1) 0=(!hb n 0)/\dW (jK .u8 n 4) 0=(!hb n 2)/\dW (jK .u8 n 8) 0=(!hb n 3))
instance (n : Int):Decidable (adW n):=by unfold adW;infer_instance
theorem ahD : ∀k:Fin 256,adW ((k:Nat):Int):=by decide +kernel
def adX (n:Int):Prop:=(je (jK .u8 (FU .u8 n) 1) 0=(!hb n 0)/\je (jK .u8 (FU .u8 n) 2) 0=(!hb n 1)/\je (jK .u8 (FU .u8 n) 4) 0=(!hb n 2)/\je (jK .u8 (FU .u8 n) 8) 0=(!hb n 3)/\
 je (jK .u8 (FU .u8 n) 16) 0=(!hb n 4)/\je (jK .u8 (FU .u8 n) 32) 0=(!hb n 5))
instance (n : Int):Decidable (adX n):=by unfold adX;infer_instance
theorem ahF : ∀k:Fin 256,adX ((k:Nat):Int):=by decide +kernel
def adY (n:Int):Prop:=(je (jK .u8 n 12) 0=(hb n 2||hb n 3)/\je (jK .u8 n 3) 0=(hb n 0||hb n 1)/\dW (jK .u8 n 15) 0=(!((hb n 0||hb n 1)||(hb n 2||hb n 3)))/\je (nI .u8 n 63) 0=decide (n > 63))
instance (n : Int):Decidable (adY n):=by unfold adY;infer_instance
theorem ahG : ∀k:Fin 256,adY ((k:Nat):Int):=by decide +kernel
def adZ (n:Int):Prop:=(dW (Nk .u8 (Nj .u8 n 1) 2) 1=hb n 0/\dW (Nk .u8 (Nj .u8 n 2) 2) 1=hb n 1/\dW (Nk .u8 (Nj .u8 n 4) 2) 1=hb n 2/\dW (Nk .u8 (Nj .u8 n 8) 2) 1=hb n 3/\
 dW (Nk .u8 (Nj .u8 n 16) 2) 1=hb n 4/\dW (Nk .u8 (Nj .u8 n 32) 2) 1=hb n 5)
instance (n : Int):Decidable (adZ n):=by unfold adZ;infer_instance
theorem ahH : ∀k:Fin 256,adZ ((k:Nat):Int):=by decide +kernel
def ad1 (n:Int):Prop:=(decide (n > 63)=false->(hb n 0||hb n 1)=false->Wu .u8 n 60=60)
instance (n : Int):Decidable (ad1 n):=by unfold ad1;infer_instance
theorem ahI : ∀k:Fin 256,ad1 ((k:Nat):Int):=by decide +kernel
def ad2 (n:Int):Prop:=(decide (n > 63)=false->(hb n 2||hb n 3)=false->Wu .u8 n 51=51)
instance (n : Int):Decidable (ad2 n):=by unfold ad2;infer_instance
theorem ahJ : ∀k:Fin 256,ad2 ((k:Nat):Int):=by decide +kernel
def ad3 (n:Int):Prop:=(decide (n > 63)=false->(hb n 0||hb n 1)=false->Wu .u8 (nI .u8 n 48) 60=60)
instance (n : Int):Decidable (ad3 n):=by unfold ad3;infer_instance
theorem ahK : ∀k:Fin 256,ad3 ((k:Nat):Int):=by decide +kernel
def ad4 (n:Int):Prop:=(decide (n > 63)=false->(hb n 2||hb n 3)=false->Wu .u8 (nI .u8 n 48) 51=51)
instance (n : Int):Decidable (ad4 n):=by unfold ad4;infer_instance
theorem ahM : ∀k:Fin 256,ad4 ((k:Nat):Int):=by decide +kernel
def ad5 (n:Int):Prop:=je (jK .u8 (nI .u8 n 48) 12) 0=(hb n 2||hb n 3)
instance (n : Int):Decidable (ad5 n):=by unfold ad5;infer_instance
theorem ahO : ∀k:Fin 256,ad5 ((k:Nat):Int):=by decide +kernel
def ad6 (n:Int):Prop:=(n=51->(hb n 0=true/\hb n 1=true/\hb n 2=false/\hb n 3=false/\hb n 4=true/\hb n 5=true))
instance (n : Int):Decidable (ad6 n):=by unfold ad6;infer_instance
theorem ahP : ∀k:Fin 256,ad6 ((k:Nat):Int):=by decide +kernel
def Y8 (n:Int):Prop:=(n=60->(hb n 0=false/\hb n 1=false/\hb n 2=true/\hb n 3=true/\hb n 4=true/\hb n 5=true))
instance (n : Int):Decidable (Y8 n):=by unfold Y8;infer_instance
theorem ad7 : ∀k:Fin 256,Y8 ((k:Nat):Int):=by decide +kernel
def Y9 (n:Int):Prop:=((hb n 2||hb n 3)=true->decide (n > 63)=false->(hb n 0||hb n 1)=false->je n (Wu .u8 n 60)=!(dW n 51||dW n 60))
instance (n : Int):Decidable (Y9 n):=by unfold Y9;infer_instance
theorem ad8 : ∀k:Fin 256,Y9 ((k:Nat):Int):=by decide +kernel
def Y_ (n:Int):Prop:=((hb n 2||hb n 3)=false->decide (n > 63)=false->je n (Wu .u8 n 51)=!(dW n 51||dW n 60))
instance (n : Int):Decidable (Y_ n):=by unfold Y_;infer_instance
theorem ad9 : ∀k:Fin 256,Y_ ((k:Nat):Int):=by decide +kernel
theorem bits {n:Int}(h:u8 n):Bits n:=by
 obtain ⟨h0,h1⟩:=h
 have e':((n.toNat:Nat):Int)=n:=by omega
 have q0:=ahD ⟨n.toNat,by omega⟩
 rw [show ((((⟨n.toNat,by omega⟩:Fin 256):Nat)):Int)=n from e'] at q0
 have q1:=ahF ⟨n.toNat,by omega⟩
 rw [show ((((⟨n.toNat,by omega⟩:Fin 256):Nat)):Int)=n from e'] at q1
 have q2:=ahG ⟨n.toNat,by omega⟩
 rw [show ((((⟨n.toNat,by omega⟩:Fin 256):Nat)):Int)=n from e'] at q2
 have q3:=ahH ⟨n.toNat,by omega⟩
 rw [show ((((⟨n.toNat,by omega⟩:Fin 256):Nat)):Int)=n from e'] at q3
 have q4:=ahI ⟨n.toNat,by omega⟩
 rw [show ((((⟨n.toNat,by omega⟩:Fin 256):Nat)):Int)=n from e'] at q4
 have q5:=ahJ ⟨n.toNat,by omega⟩
 rw [show ((((⟨n.toNat,by omega⟩:Fin 256):Nat)):Int)=n from e'] at q5
 have q6:=ahK ⟨n.toNat,by omega⟩
 rw [show ((((⟨n.toNat,by omega⟩:Fin 256):Nat)):Int)=n from e'] at q6
 have q7:=ahM ⟨n.toNat,by omega⟩
 rw [show ((((⟨n.toNat,by omega⟩:Fin 256):Nat)):Int)=n from e'] at q7
 have q8:=ahO ⟨n.toNat,by omega⟩
 rw [show ((((⟨n.toNat,by omega⟩:Fin 256):Nat)):Int)=n from e'] at q8
 have q9:=ahP ⟨n.toNat,by omega⟩
 rw [show ((((⟨n.toNat,by omega⟩:Fin 256):Nat)):Int)=n from e'] at q9
 have q10:=ad7 ⟨n.toNat,by omega⟩
 rw [show ((((⟨n.toNat,by omega⟩:Fin 256):Nat)):Int)=n from e'] at q10
 have q11:=ad8 ⟨n.toNat,by omega⟩
 rw [show ((((⟨n.toNat,by omega⟩:Fin 256):Nat)):Int)=n from e'] at q11
 have q12:=ad9 ⟨n.toNat,by omega⟩
 rw [show ((((⟨n.toNat,by omega⟩:Fin 256):Nat)):Int)=n from e'] at q12
 obtain ⟨a,b,c,d,e,f,g,h,i⟩:=q0
 obtain ⟨j,k,l,m,o,p⟩:=q1
 obtain ⟨q,r,s,t⟩:=q2
 obtain ⟨u,v,w,x,y,z⟩:=q3
 exact ⟨a,b,c,d,e,f,g,h,i,j,k,l,m,o,p,q,r,s,t,u,v,w,x,y,z,q4,q5,q6,q7,q8,q9,q10,q11,q12⟩
def dJ.ok (v:dJ):Prop:=u8 v.Has/\v.Value.ok/\v.Get.ok/\v.Set.ok
def U3 (v:dL):Bool:=(dW v.Kind 0)&&((fEq v.Num 0)&&((BF v.Str [])&&(dW v.Ref 0)))
theorem ayK {v:dL}(h:v.ok):jq v=(jh v&&U3 v):=by
 rw [AO h]
 unfold jq Jm U3 mX
 dsimp only
 rw [Hq]
 have hn:jL v.Num=(fEq v.Num 0&&jL v.Num):=by
  unfold jL;cases fEq v.Num 0<;>rfl
 rw [hn]
 by_cases hk:v.Kind=0
 .rw [hk]
  have e1:decide ((0:Int) > 8)=false:=rfl
  have e2:dW 0 3=false:=rfl
  have e3:dW 0 2=false:=rfl
  have e4:dW 0 4=false:=rfl
  have e5:dW 0 0=true:=rfl
  have e6:decide ((0:Int)>=5)=false:=rfl
  simp only [e1,e2,e3,e4,e5,e6,cond_false,Bool.false_and,Bool.or_false,Bool.true_and]
  cases BF v.Str []<;>cases dW v.Ref 0<;>cases fEq v.Num 0<;>cases jL v.Num<;>rfl
 .have e5:dW v.Kind 0=false:=by simp [dW,hk]
  simp [e5]
theorem Xz {v:dL}(h:v.ok):ni v=jk v:=by
 unfold ni jk
 dsimp only
 rw [AO h]
 rfl
theorem U4 {v:dL}:(ni v&&U3 v)=(jh v&&U3 v):=by
 unfold ni U3
 dsimp only
 cases jh v<;>cases dW v.Kind 0<;>simp
theorem Oo {x:dJ}(h:x.ok):lq x=kG x:=by
 obtain ⟨h1,h2,h3,h4⟩:=h
 have B:=bits h1
 unfold lq kG fD gW kT jE iI
 dsimp only
 rw [<- AO h2,ayK h2,ayK h3,ayK h4,<- Xz h3,<- Xz h4,<- U4 (v:=x.Get),<- U4 (v:=x.Set)]
 have n2:((dW x.Value.Kind 0)&&((fEq x.Value.Num 0)&&((BF x.Value.Str [])&&(dW x.Value.Ref 0))))=U3 x.Value:=rfl
 have n3:((dW x.Get.Kind 0)&&((fEq x.Get.Num 0)&&((BF x.Get.Str [])&&(dW x.Get.Ref 0))))=U3 x.Get:=rfl
 have n4:((dW x.Set.Kind 0)&&((fEq x.Set.Num 0)&&((BF x.Set.Str [])&&(dW x.Set.Ref 0))))=U3 x.Set:=rfl
 rw [n2,n3,n4,B.a12,B.a3,B.n63,B.c1,B.c2,B.c4,B.c8,B.c16,B.c32,B.r1,B.r2,B.r4,B.r8,B.r16,B.r32]
 generalize jh x.Value=M
 generalize ni x.Get=G
 generalize ni x.Set=S
 generalize U3 x.Value=N2
 generalize U3 x.Get=N3
 generalize U3 x.Set=N4
 generalize hb x.Has 0=b0
 generalize hb x.Has 1=b1
 generalize hb x.Has 2=b2
 generalize hb x.Has 3=b3
 generalize hb x.Has 4=b4
 generalize hb x.Has 5=b5
 generalize decide (x.Has > 63)=big
 generalize x.eG=w
 generalize x.dV=e
 generalize x.Configurable=c
 have key:((((((big||((b0||b1)&&(b2||b3)))||(!M))||(!G))||(!S))||((((!b0)&&(!N2))||((!b2)&&(!N3)))||((!b3)&&(!N4))))||((((!b1)&&w)||((!b4)&&e))||((!b5)&&c))) =
   ((big||((b0||b1)&&(b2||b3)))||((((!(bif b0 then M else (M&&N2)))||(!(bif b2 then G else (G&&N3))))||(!(bif b3 then S else (S&&N4))))||(!((((!w)||b1)&&((!e)||b4))&&((!c)||b5))))):=by
  cases big
  .cases M
   .cases b0<;>simp
   .cases G
    .cases b2<;>simp
    .cases S
     .cases b3<;>simp
     .clear B h1 h2 h3 h4 n2 n3 n4
      revert N2 N3 N4 b0 b1 b2 b3 b4 b5 w e c
      decide +kernel
  .simp
 have two:∀p q:Bool,(bif p then (90:Int) else bif q then 90 else 0)=bif (p||q) then 90 else 0:=by intro p q;cases p<;>rfl
 have three:∀p q r:Bool,(bif p then (90:Int) else bif q then 90 else bif r then 90 else 0)=bif ((p||q)||r) then 90 else 0:=by intro p q r;cases p<;>cases q<;>rfl
 rw [three,two]
 rw [<- key]
end Go.Fw
end
section
namespace Go.Fw
theorem abp {n:Nat}(h:n<2 ^ 64)(hz:jL n=true):n=0:=by
 unfold jL at hz
 rw [Bool.and_eq_true,EL] at hz
 obtain ⟨h1,h2⟩:=hz
 have hs:=aog n
 cases hx:kE n with
 |nan s t=>rw [hx] at h1;cases h1
 |infinity s=>rw [hx] at h1;cases h1
 |number s m i=>
  cases m with
  |succ m=>rw [hx] at h1;cases h1
  |zero=>
   rw [adG hx] at h2
   have hs2:s=false:=by simpa using h2
   rw [hx,hs2] at hs
   have e:(2:Nat) ^ 64=18446744073709551616:=by decide
   rw [e] at h
   have hd:n / 9223372036854775808=0:=by
    simp only [Ieee.Datum.neg] at hs
    have:n / 9223372036854775808 % 2≠1:=by
     intro k
     rw [k] at hs
     cases hs
    omega
   have hr:n % 9223372036854775808=0:=by
    unfold kE Ieee.Format.read at hx
    have e:FloatKind.f64.format.signWeight=9223372036854775808:=by rfl
    have e3:FloatKind.f64.format.binade=4503599627370496:=by rfl
    simp only [e,e3] at hx
    split at hx
    .simp only [Ieee.Datum.number.injEq] at hx;exact hx.2.1
    .split at hx
     .simp only [Ieee.Datum.number.injEq] at hx;omega
     .split at hx<;>cases hx
   omega
theorem E5 {v:dL}(h:v.ok)(hb:jq v=true):v=dL.mk 0 0 [] 0:=by
 obtain ⟨k,n,s,r⟩:=v
 unfold jq Jm at hb
 dsimp only at hb
 rw [Hq] at hb
 simp only [Bool.and_eq_true,dW,BF,beq_iff_eq,decide_eq_true_eq] at hb
 obtain ⟨⟨⟨rfl,rfl⟩,rfl⟩,hn⟩:=hb
 obtain rfl:=abp h.2 hn
 rfl
structure Chk (x:dJ):Prop where
 big:decide (x.Has > 63)=false
 da:((hb x.Has 0||hb x.Has 1)&&(hb x.Has 2||hb x.Has 3))=false
 w:(hb x.Has 1||!x.eG)=true
 e:(hb x.Has 4||!x.dV)=true
 c:(hb x.Has 5||!x.Configurable)=true
 v:hb x.Has 0=false->x.Value=dL.mk 0 0 [] 0
 g:hb x.Has 2=false->x.Get=dL.mk 0 0 [] 0
 s:hb x.Has 3=false->x.Set=dL.mk 0 0 [] 0
theorem wZ {x:dJ}(h:x.ok):kG x=90\/(kG x=0/\Chk x):=by
 obtain ⟨h1,h2,h3,h4⟩:=h
 have B:=bits h1
 have z2:=E5 h2
 have z3:=E5 h3
 have z4:=E5 h4
 by_cases hc:kG x=90
 .exact .inl hc
 .refine .inr ?_
  unfold kG kT jE iI at hc ⊢
  dsimp only at hc ⊢
  rw [B.r1,B.r2,B.r4,B.r8,B.r16,B.r32] at hc ⊢
  generalize hA:(decide (x.Has > 63)||((hb x.Has 0||hb x.Has 1)&&(hb x.Has 2||hb x.Has 3)))=A at hc ⊢
  cases A
  .simp only [cond_false] at hc ⊢
   generalize hQ:((((!(bif hb x.Has 0 then mX x.Value else jq x.Value))||(!(bif hb x.Has 2 then jk x.Get else jq x.Get)))||(!(bif hb x.Has 3 then jk x.Set else jq x.Set)))||(!((((!x.eG)||hb x.Has 1)&&((!x.dV)||hb x.Has 4))&&((!x.Configurable)||hb x.Has 5))))=Q at hc ⊢
   cases Q
   .refine ⟨rfl,?_⟩
    simp only [Bool.or_eq_false_iff,Bool.not_eq_false',Bool.and_eq_true] at hQ hA
    obtain ⟨⟨⟨q1,q2⟩,q3⟩,⟨q4,q5⟩,q6⟩:=hQ
    refine ⟨hA.1,hA.2,by rw [Bool.or_comm];exact q4,by rw [Bool.or_comm];exact q5,by rw [Bool.or_comm];exact q6,fun e=>?_,fun e=>?_,fun e=>?_⟩
    .rw [e] at q1;exact z2 q1
    .rw [e] at q2;exact z3 q2
    .rw [e] at q3;exact z4 q3
   .exact absurd rfl hc
  .exact absurd rfl hc
theorem uS {x:dJ}(h:u8 x.Has):fD x=(hb x.Has 0||hb x.Has 1):=(bits h).a3
theorem z_ {x:dJ}(h:u8 x.Has):gW x=(hb x.Has 2||hb x.Has 3):=(bits h).a12
theorem zo {x:dJ}(h:u8 x.Has):kT x=(hb x.Has 0||hb x.Has 1):=by
 unfold kT iI;dsimp only;rw [(bits h).r1,(bits h).r2]
theorem pW {x:dJ}(h:u8 x.Has):jE x=(hb x.Has 2||hb x.Has 3):=by
 unfold jE iI;dsimp only;rw [(bits h).r4,(bits h).r8]
theorem akX {x:dJ}(h:u8 x.Has)(c:Chk x):jD x=ny x:=by
 have B:=bits h
 unfold jD ny
 dsimp only
 rw [z_ h,pW h]
 have hda:=c.da
 cases ha:(hb x.Has 2||hb x.Has 3)
 .simp only [cond_false];rw [B.o51 c.big ha]
 .rw [ha,Bool.and_true] at hda
  simp only [cond_true];rw [B.o60 c.big hda]
theorem PY {x:dJ}(h:u8 x.Has)(c:Chk x):je x.Has (jD x).Has=!(dW x.Has 51||dW x.Has 60):=by
 have B:=bits h
 unfold jD
 dsimp only
 rw [z_ h]
 have hda:=c.da
 cases ha:(hb x.Has 2||hb x.Has 3)
 .simp only [cond_false];exact B.w51 ha c.big
 .rw [ha,Bool.and_true] at hda
  simp only [cond_true];exact B.w60 ha c.big hda
theorem ant : ∀(k b c e w w' a0 a1 a2 a3 a4 a5 S1 S2 S3:Bool),((a0||a1)&&(a2||a3))=false->(a5||!c)=true->
  (bif b then true else bif c then false else bif (a4&&!e) then false else bif (!((a0||a1)||(a2||a3))) then true else bif (!(JL (a0||a1) k)) then false else bif (a0||a1) then (w'||((!w)&&((!a0)||S1))) else (((!a2)||S2)&&((!a3)||S3))) =
  ((((((!(((!b)&&a5)&&c))&&(!(((!b)&&a4)&&(!e))))&&(!((!b)&&(((a0||a1)&&(!k))||((a2||a3)&&k)))))&&(!(((((!b)&&k)&&(!w'))&&(a0||a1))&&(w||(a0&&(!S1))))))&&(!((((!b)&&(!k))&&(a2||a3))&&((a2&&(!S2))||(a3&&(!S3))))))):=by
 decide +kernel
theorem PZ {x0:Bool}{x1:dJ}{x2:Bool}{x3:dJ}(h1:x1.ok)(h3:x3.ok):iP x0 x1 x2 x3=kK x0 x1 x2 x3:=by
 have B1:=bits h1.1
 have B3:=bits h3.1
 unfold iP kK zi iW
 dsimp only
 rw [Oo h1,Oo h3]
 rcases wZ h1 with c1|⟨c1,k1⟩
 .rw [c1]
  have e1:je 90 0=true:=rfl
  simp only [e1,cond_true,Bool.true_or]
 .rw [c1]
  have e0:je 0 0=false:=rfl
  simp only [e0,cond_false,Bool.false_or]
  cases x2
  .simp only [Bool.false_and,cond_false,e0,Bool.not_false,cond_true]
  .simp only [Bool.true_and,Bool.not_true,cond_false]
   rcases wZ h3 with c3|⟨c3,k3⟩
   .rw [c3]
    have e1:je 90 0=true:=rfl
    have e2:dW 90 0=false:=rfl
    simp only [e1,e2,cond_true,Bool.true_or,Bool.false_and,Bool.not_false]
   .rw [c3]
    have e2:dW 0 0=true:=rfl
    simp only [e0,e2,Bool.false_or,Bool.true_and]
    rw [PY h3.1 k3]
    cases hw:(dW x3.Has 51||dW x3.Has 60)
    .have e1:je 90 0=true:=rfl
     simp only [Bool.not_false,cond_true,e1]
    .simp only [Bool.not_true,cond_false,e0]
     congr 1
     unfold BQ uK iI
     dsimp only
     rw [uS h1.1,uS h3.1,zH _ _ h1.2.1 h3.2.1,zH _ _ h1.2.2.1 h3.2.2.1,zH _ _ h1.2.2.2 h3.2.2.2,zo h1.1,pW h1.1,zo h3.1,pW h3.1,
      B1.a16,B1.z15,B1.z1,B1.z4,B1.z8,B1.r32,B1.r16,B1.r1,B1.r4,B1.r8]
     have hk:(hb x3.Has 0||hb x3.Has 1)=!(hb x3.Has 2||hb x3.Has 3):=by
      simp only [dW,Bool.or_eq_true,beq_iff_eq] at hw
      rcases hw with hw|hw
      .obtain ⟨p0,p1,p2,p3,-,-⟩:=B3.e51 hw
       rw [p0,p1,p2,p3];rfl
      .obtain ⟨p0,p1,p2,p3,-,-⟩:=B3.e60 hw
       rw [p0,p1,p2,p3];rfl
     have ha:(hb x3.Has 2||hb x3.Has 3)=!(hb x3.Has 0||hb x3.Has 1):=by rw [hk,Bool.not_not]
     rw [ha]
     exact ant _ _ _ _ _ _ _ _ _ _ _ _ _ _ _ k1.da k1.c
theorem ad_ (x0:Bool)(x1:dJ)(x2:Bool)(x3:dJ):(kK x0 x1 x2 x3).2=0->je (kG x1) 0=false:=by
 unfold kK
 dsimp only
 cases h:je (kG x1) 0
 .intro;rfl
 .simp
theorem akY {x0:Bool}{x1:dJ}{x2:Bool}{x3:dJ}(h1:x1.ok)(h3:x3.ok):gG x0 x1 x2 x3=Jp x0 x1 x2 x3:=by
 unfold gG Jp
 dsimp only
 rw [PZ h1 h3]
 cases he:(je (kK x0 x1 x2 x3).2 0||!(kK x0 x1 x2 x3).1)
 .simp only [cond_false]
  have h0:(kK x0 x1 x2 x3).2=0:=by
   simp only [Bool.or_eq_false_iff,je,bne_eq_false_iff_eq] at he
   exact he.1
  have hc:=ad_ x0 x1 x2 x3 h0
  rcases wZ h1 with c1|⟨c1,k1⟩
  .rw [c1] at hc;exact absurd hc (by decide)
  .rw [akX h1.1 k1]
   cases x2
   .rfl
   .have B1:=bits h1.1
    have hda:=k1.da
    simp only [Bool.not_true,cond_false]
    unfold jD ny iI gW
    dsimp only
    have ea:je (jK .u8 x3.Has 12) 0=gW x3:=rfl
    rw [uS h1.1,uS h3.1,zo h1.1,pW h1.1,zo h3.1,pW h3.1,B1.a12,ea,z_ h3.1,B1.p12,B1.a1,B1.a2,B1.a4,B1.a8,B1.a16,B1.a32,B1.r1,B1.r2,B1.r4,B1.r8,B1.r16,B1.r32]
    generalize (((hb x1.Has 0||hb x1.Has 1)&&(hb x3.Has 2||hb x3.Has 3))||((hb x1.Has 2||hb x1.Has 3)&&(hb x3.Has 0||hb x3.Has 1)))=K
    have hh:(bif (hb x1.Has 2||hb x1.Has 3) then Wu .u8 (nI .u8 x1.Has 48) 60 else Wu .u8 (nI .u8 x1.Has 48) 51)=(bif (hb x1.Has 2||hb x1.Has 3) then 60 else 51):=by
     cases ha:(hb x1.Has 2||hb x1.Has 3)
     .simp only [cond_false];rw [B1.p51 k1.big ha]
     .rw [ha,Bool.and_true] at hda
      simp only [cond_true];rw [B1.p60 k1.big hda]
    rw [hh]
    cases K
    .simp only [cond_false]
    .simp only [cond_true]
     have ev:=k1.v
     have eg:=k1.g
     have es:=k1.s
     have ew:=k1.w
     congr 1
     congr 1
     .cases hq:hb x1.Has 0
      .rw [ev hq];rfl
      .rfl
     .cases hq:hb x1.Has 2
      .rw [eg hq];rfl
      .rfl
     .cases hq:hb x1.Has 3
      .rw [es hq];rfl
      .rfl
     .cases hq:hb x1.Has 1
      .rw [hq] at ew;simp at ew;simp [ew]
      .rfl
     .cases hb x1.Has 4<;>rfl
     .cases hb x1.Has 5<;>rfl
 .rfl
theorem vok {v:dL}(h:v.wf):v.ok:=⟨h.Kind,h.Num⟩
theorem dok {v:dJ}(h:v.wf):v.ok:=⟨h.Has,vok h.Value,vok h.Get,vok h.Set⟩
end Go.Fw
end
section
namespace Go.Fw
def pl (l:List dM)(k:dI):Option Nat:=l.findIdx? (fun p=>decide (p.Key=k))
theorem abq (x0:List dM)(x1:dI)(hl:x0.length<=4294967296):∀(n j:Nat) (u2:Int),j<=x0.length->x0.length-j<n->
  qF x0 x1 n u2 j=match (x0.drop j).findIdx? (fun p=>decide (p.Key=x1)) with|some i=>(false,default,((j+i:Nat):Int))|none=>(true,u2,default)
 |0,j,u2,hj,hn=>by omega
 |n+1,j,u2,hj,hn=>by
  simp only [qF,azo,ay6,ahm (show j<=4294967296 by omega),Int.toNat_natCast]
  by_cases hlt:j<x0.length
  .rw [PI x0 j hlt]
   simp only [hlt,decide_true,Bool.not_true,cond_false,List.findIdx?_cons]
   by_cases hk:(x0.getD j default).Key=x1
   .simp only [hk,decide_true,cond_true,if_true,Nat.add_zero]
   .simp only [hk,decide_false,cond_false,Bool.false_eq_true,if_false]
    rw [abq x0 x1 hl n (j+1) u2 (by omega) (by omega)]
    cases (x0.drop (j+1)).findIdx? (fun p=>decide (p.Key=x1)) with
    |none=>rfl
    |some i=>simp only [Option.map_some];congr 3;omega
  .simp only [hlt,decide_false,Bool.not_false,cond_true]
   rw [List.drop_eq_nil_iff.2 (by omega)];rfl
theorem Oq (x0:List dM)(x1:dI)(hl:x0.length<=4294967296):wS x0 x1=match pl x0 x1 with|some i=>(i:Int)|none => -1:=by
 unfold wS pl
 dsimp only
 rw [show (0:Int)=((0:Nat):Int) from rfl,abq x0 x1 hl _ 0 _ (by omega) (by omega),List.drop_zero]
 cases List.findIdx? (fun p:dM=>decide (p.Key=x1)) x0 with
 |none=>rfl
 |some i=>simp [aho,lW,dW]
theorem aot (x0:List dM)(x1:dI):∀(n:Nat) (u2 u3:Int),wQ x0 x1 n u2 u3=qF x0 x1 n u2 u3
 |0,_,_=>rfl
 |n+1,u2,u3=>by simp only [wQ,qF,aot]
theorem ay9 (x0:List dM)(x1:dI):um x0 x1=wS x0 x1:=by
 unfold um wS;simp only [aot]
theorem aou {l:List dM}{k:dI}{i:Nat}(h:pl l k=some i):i<l.length:=by
 unfold pl at h
 exact (List.findIdx?_eq_some_iff_findIdx_eq.1 h).1
theorem XA {l:List dM}{n:Nat}(h:l.length=n):(l.drop 0).take (n-0)=l:=by subst h;simp
end Go.Fw
end
section
namespace Go.Fw
theorem uz (k:dI):lG k=iY k:=by
 have:sNe k.Str []=decide ((sLen k.Str:Int) > 0):=by
  unfold sNe sLen
  cases k.Str with
  |nil=>simp
  |cons a r=>simp<;>omega
 unfold lG iY
 rw [this]
theorem U5 (k:dI):iY k=9\/iY k=0:=by
 unfold iY
 generalize (_||_)=b
 cases b<;>simp
theorem akZ {x:dJ}(h:x.ok):og x=iW x:=by
 unfold og vJ iW
 dsimp only
 rw [Oo h]
 rcases wZ h with h9|⟨h0,hc⟩
 .simp [h9,je,dW]
 .have:=PY h.1 hc
  have e:dW (jD x).Has x.Has=(dW x.Has 51||dW x.Has 60):=by
   rw [auu] at this
   rw [YR,decide_eq_decide.2 (eq_comm (a:=(jD x).Has) (b:=x.Has))]
   exact Bool.not_inj this
  simp [h0,je,dW] at e ⊢
  exact e
def P5 (pre:List dI):List dM->Int
 |[]=>0
 |p::r=>bif je (iY p.Key) 0 then 9 else bif !iW p.dS then 90 else bif decide (p.Key∈pre) then 100 else P5 (pre++[p.Key]) r
theorem aea {m:List (dI×Int)}{k k':dI}{v:Int}:(nS (0:Int) k' (nT k v m)).2=if k'=k then v else (nS (0:Int) k' m).2:=by
 induction m with
 |nil=>
  simp only [nT,nS]
  by_cases h:k'=k<;>simp [h]
 |cons e r ih=>
  simp only [nT]
  by_cases h:k=e.1
  .simp only [h,if_true,nS]
   by_cases h2:k'=e.1<;>simp [h2]
  .simp only [h,if_false,nS]
   by_cases h2:k'=e.1
   .have:¬k'=k:=fun e2=>h (e2▸h2)
    simp only [h2,if_true]
    have h3:¬e.1=k:=fun e2=>h e2.symm
    simp [h3]
   .simp only [h2,if_false];exact ih
theorem XB (x0:List dM)(hl:x0.length<=4294967296)(hok:∀p∈x0,p.dS.ok):∀(n j:Nat) (u1:Int) (m:List (dI×Int)),j<=x0.length->x0.length-j<n->
  (∀k,decide ((nS (0:Int) k m).2 > 0)=decide (k∈(x0.take j).map (·.Key)))->
  (bif !(dW (lW (oN x0 n u1 j m).1) 0) then (oN x0 n u1 j m).2.2.2.1 else 0)=P5 ((x0.take j).map (·.Key)) (x0.drop j)
 |0,j,u1,m,hj,hn,hm=>by omega
 |n+1,j,u1,m,hj,hn,hm=>by
  simp only [oN,azo,ahm (show j<=4294967296 by omega),Int.toNat_natCast]
  by_cases hlt:j<x0.length
  .rw [PI x0 j hlt]
   have hp:=apX x0 j hlt
   simp only [hlt,decide_true,Bool.not_true,cond_false,P5,uz,akZ (hok _ hp),hm]
   cases h1:je (iY (x0.getD j default).Key) 0 with
   |true=>
    rcases U5 (x0.getD j default).Key with h9|h9
    .rw [h9];rfl
    .rw [h9] at h1;cases h1
   |false=>
    simp only [cond_false]
    cases h2:iW (x0.getD j default).dS with
    |false=>rfl
    |true=>
     simp only [Bool.not_true,cond_false]
     by_cases h3:(x0.getD j default).Key∈(x0.take j).map (·.Key)
     .simp only [h3,decide_true,cond_true,aho,Bool.not_false]
     .simp only [h3,decide_false,cond_false]
      have hk:(x0.take (j+1)).map (·.Key)=(x0.take j).map (·.Key)++[(x0.getD j default).Key]:=by rw [akl x0 j hlt,List.map_append];rfl
      rw [XB x0 hl hok n (j+1) u1 _ (by omega) (by omega) ?_,hk]
      intro k
      rw [aea,hk]
      by_cases he:k=(x0.getD j default).Key
      .subst he
       simp<;>omega
      .simp only [he,if_false,hm k]
       simp only [List.mem_append,List.mem_singleton,he,or_false]
  .simp only [hlt,decide_false,Bool.not_false,cond_true]
   rw [List.drop_eq_nil_iff.2 (by omega)];rfl
theorem ak0 {l:List dM}{k:dI}:(pl l k).isSome=decide (k∈l.map (·.Key)):=by
 unfold pl
 rw [List.findIdx?_isSome,Bool.eq_iff_iff,List.any_eq_true,decide_eq_true_iff,List.mem_map]
 constructor
 .rintro ⟨x,hx,h⟩;exact ⟨x,hx,of_decide_eq_true h⟩
 .rintro ⟨x,hx,h⟩;exact ⟨x,hx,decide_eq_true h⟩
theorem ahQ {l:List dM}{k:dI}(hl:l.length<=4294967296):decide (wS l k>=0)=decide (k∈l.map (·.Key)):=by
 rw [Oq l k hl,<- ak0]
 cases pl l k<;>simp
theorem XC (x0:List dM)(hl:x0.length<=4294967296):∀(n j:Nat) (u1:Int),j<=x0.length->x0.length-j<n->
  (bif !(dW (lW (uo x0 n u1 j).1) 0) then (uo x0 n u1 j).2.2 else 0)=P5 ((x0.take j).map (·.Key)) (x0.drop j)
 |0,j,u1,hj,hn=>by omega
 |n+1,j,u1,hj,hn=>by
  simp only [uo,azo,ahm (show j<=4294967296 by omega),Int.toNat_natCast,List.drop_zero,Int.toNat_zero,Nat.sub_zero]
  by_cases hlt:j<x0.length
  .rw [PI x0 j hlt]
   generalize hx:x0.getD j default=p
   have hlk:(x0.take j).length<=4294967296:=by simp;omega
   simp only [hlt,decide_true,Bool.not_true,cond_false,P5,ahQ hlk]
   cases h1:je (iY p.Key) 0 with
   |true=>simp [aho]
   |false=>
    simp only [cond_false]
    cases h2:iW p.dS with
    |false=>simp [aho]
    |true=>
     simp only [Bool.not_true,cond_false]
     by_cases h3:p.Key∈(x0.take j).map (·.Key)
     .simp only [h3,decide_true,cond_true,aho,Bool.not_false]
     .simp only [h3,decide_false,cond_false]
      have hk:(x0.take (j+1)).map (·.Key)=(x0.take j).map (·.Key)++[p.Key]:=by rw [akl x0 j hlt,hx];simp
      rw [XC x0 hl n (j+1) u1 (by omega) (by omega),hk]
  .simp only [hlt,decide_false,Bool.not_false,cond_true]
   rw [List.drop_eq_nil_iff.2 (by omega)];simp [aho,P5]
theorem Ky (x0:List dM)(hl:x0.length<=4294967296):lH x0=bif decide ((x0.length:Int) > 1024) then 4 else P5 [] x0:=by
 unfold lH
 simp only [iZ]
 have:=XC x0 hl (x0.length+1) 0 0 (by omega) (by omega)
 simp only [List.take_zero,List.map_nil,List.drop_zero] at this
 rw [<- this]
 rfl
theorem P6 (x0:List dM)(hl:x0.length<=4294967296)(hok:∀p∈x0,p.dS.ok):jA x0=lH x0:=by
 rw [Ky x0 hl]
 unfold jA
 simp only [iZ]
 have:=XB x0 hl hok (x0.length+1) 0 0 [] (by omega) (by omega) (by intro k;simp [nS])
 simp only [List.take_zero,List.map_nil,List.drop_zero] at this
 rw [<- this]
 rfl
theorem U6 (x0:List dM)(k:dI)(hl:x0.length<=4294967296)(hok:∀p∈x0,p.dS.ok):nC x0 k=pR x0 k:=by
 unfold nC pR
 rw [P6 x0 hl hok,uz]
theorem U7 : ∀{l:List dM} {pre:List dI},P5 pre l=0->(∀p∈l,p.Key∉pre)/\l.Pairwise (fun p q=>p.Key≠q.Key)
 |[],pre,h=>by simp
 |p::r,pre,h=>by
  simp only [P5] at h
  cases h1:je (iY p.Key) 0 with
  |true=>simp [h1] at h
  |false=>
   simp only [h1,cond_false] at h
   cases h2:iW p.dS with
   |false=>simp [h2] at h
   |true=>
    simp only [h2,Bool.not_true,cond_false] at h
    by_cases h3:p.Key∈pre
    .simp [h3] at h
    .simp only [h3,decide_false,cond_false] at h
     obtain ⟨i1,i2⟩:=U7 h
     refine ⟨fun q hq=>?_,List.pairwise_cons.2 ⟨fun q hq e=>?_,i2⟩⟩
     .cases hq with
      |head=>exact h3
      |tail _ hq=>exact fun hm=>i1 q hq (by simp [hm])
     .exact i1 q hq (by simp [e])
theorem abr {x0:List dM}{k:dI}(hl:x0.length<=4294967296)(h:pR x0 k=0):x0.Pairwise (fun p q=>p.Key≠q.Key):=by
 unfold pR at h
 simp only at h
 have hc:lH x0=0:=by
  by_cases hc:lH x0=0
  .exact hc
  .have:je (lH x0) 0=true:=EI.2 hc
   simp [this] at h
   exact absurd h hc
 rw [Ky x0 hl] at hc
 by_cases hg:(x0.length:Int) > 1024
 .simp [hg] at hc
 .simp only [hg,decide_false,cond_false] at hc
  exact (U7 hc).2
theorem Za (x0:List dM)(k:dI)(hl:x0.length<=4294967296):∀(n j:Nat) (u3:List dM),j<=x0.length->x0.length-j<n->
  vK x0 k n u3 j=u3++(x0.drop j).filter (fun p=>!decide (p.Key=k))
 |0,j,u3,hj,hn=>by omega
 |n+1,j,u3,hj,hn=>by
  simp only [vK,azo,ay6,ahm (show j<=4294967296 by omega),Int.toNat_natCast]
  by_cases hlt:j<x0.length
  .rw [PI x0 j hlt]
   generalize hx:x0.getD j default=p
   simp only [hlt,decide_true,Bool.not_true,cond_false,List.filter_cons]
   by_cases hk:p.Key=k
   .simp only [hk,decide_true,Bool.not_true,cond_false,Bool.false_eq_true,if_false]
    exact Za x0 k hl n (j+1) u3 (by omega) (by omega)
   .simp only [hk,decide_false,Bool.not_false,cond_true,if_true]
    rw [Za x0 k hl n (j+1) _ (by omega) (by omega)]
    simp
  .simp only [hlt,decide_false,Bool.not_false,cond_true]
   rw [List.drop_eq_nil_iff.2 (by omega)];simp
theorem abt (x0:List dM)(k:dI)(hl:x0.length<=4294967296):MI x0 k=bif je (pR x0 k) 0 then ([],pR x0 k) else (x0.filter (fun p=>!decide (p.Key=k)),0):=by
 unfold MI
 have:=Za x0 k hl (x0.length+1) 0 [] (by omega) (by omega)
 simp only [List.drop_zero,List.nil_append] at this
 simp only [<- this]
 rfl
theorem XD : ∀{l:List dM} {k:dI},l.Pairwise (fun p q=>p.Key≠q.Key)->l.filter (fun p=>!decide (p.Key=k))=match pl l k with|some i=>l.take i++l.drop (i+1)|none=>l
 |[],k,h=>rfl
 |p::r,k,h=>by
  obtain ⟨h1,h2⟩:=List.pairwise_cons.1 h
  have ih:=XD (l:=r) (k:=k) h2
  simp only [pl,List.findIdx?_cons,List.filter_cons]
  by_cases hk:p.Key=k
  .simp only [hk,decide_true,Bool.not_true,Bool.false_eq_true,if_false,if_true]
   simp only [List.take_zero,List.nil_append,Nat.zero_add,List.drop_succ_cons,List.drop_zero]
   rw [List.filter_eq_self]
   intro q hq
   have:=h1 q hq
   rw [hk] at this
   simp [this.symm]
  .simp only [hk,decide_false,Bool.not_false,if_true,Bool.false_eq_true,if_false]
   rw [ih]
   unfold pl
   cases r.findIdx? (fun p=>decide (p.Key=k))<;>simp
theorem anu (x0:List dM)(k:dI)(hl:x0.length<=4294967296)(hok:∀p∈x0,p.dS.ok):rV x0 k=MI x0 k:=by
 rw [abt x0 k hl]
 unfold rV
 simp only [iZ,Int.toNat_natCast,U6 x0 k hl hok,ay9,Int.toNat_zero,Nat.sub_zero,List.drop_zero]
 cases h:je (pR x0 k) 0 with
 |true=>rfl
 |false=>
  simp only [cond_false]
  rw [XD (abr hl (qC.1 h)),Oq x0 k hl]
  cases hp:pl x0 k with
  |none=>simp
  |some i=>
   have hi:=aou hp
   have:decide ((i:Int)<0)=false:=by simp
   simp only [this,cond_false,ahm (show i<=4294967296 by omega),Int.toNat_natCast]
   rw [List.take_of_length_le (l:=x0.drop (i+1)) (by simp)]
end Go.Fw
end
section
namespace Go.Fw
theorem Hr (x0:List dM):lH x0=0->x0.length<=1024:=by
 intro h
 unfold lH at h
 simp only [iZ] at h
 by_cases hl:(x0.length:Int) > 1024
 .simp [hl] at h
 .omega
theorem aqj {x1 x2 x3:Int}{n:Nat}(h0:0<=x1)(h1:x1<x2)(h2:x2<x3)(h3:x3<=4294967296)(hm:(x3-x1).toNat<n+1):(aqf x1 x3-x1).toNat<n/\(x3-aqf x1 x3).toNat<n:=by
 rw [Kw h0 (by omega) (by omega)];omega
end Go.Fw
end
section
namespace Go.Fw
theorem JA {x0:List dM}(hl:x0.length<=4294967296):∀(n j:Nat) (u:List dI),j<=x0.length->x0.length-j<n->sO x0 n u j=u++(x0.drop j).map (·.Key)
 |0,j,u,hj,hn=>by omega
 |n+1,j,u,hj,hn=>by
  simp only [sO,azo,Int.toNat_natCast]
  by_cases hlt:j<x0.length
  .rw [PI x0 j hlt]
   simp only [decide_eq_true hlt,Bool.not_true,cond_false,ahm (show j<=4294967296 by omega)]
   rw [JA hl n (j+1) _ (by omega) (by omega)];simp
  .simp only [decide_eq_false hlt,Bool.not_false,cond_true]
   rw [List.drop_eq_nil_iff.2 (by omega)];simp
theorem Jw.filter {l:List dI}(h:Jw l)(p:dI->Bool):Jw (l.filter p):=List.Pairwise.filter p h
theorem uZ.filter {a b:List dI}(h:uZ a b)(p:dI->Bool):uZ (a.filter p) (b.filter p):=by
 intro q
 have:=h q
 rw [List.filter_filter,List.filter_filter]
 have e:∀l:List dI,l.filter (fun k=>decide (eP k=q)&&p k)=(l.filter (fun k=>decide (eP k=q))).filter p:=by
  intro l;rw [List.filter_filter];congr 1;funext k;rw [Bool.and_comm]
 rw [e a,e b,this]
theorem aeb {x0:List dM}(hl:x0.length<=4294967296)(hc:lH x0=0):P5 [] x0=0:=by
 have:=Hr x0 hc
 rw [Ky x0 hl,decide_eq_false (by omega)] at hc
 exact hc
end Go.Fw
end
section
namespace Go.Fw
set_option maxRecDepth 20000
def anv (n:Int):Prop:=(decide (n > 63)=false->(hb n 2||hb n 3)=false->jK .u8 51 n=n)/\(decide (n > 63)=false->(hb n 0||hb n 1)=false->jK .u8 60 n=n)
instance (n : Int):Decidable (anv n):=by unfold anv;infer_instance
theorem anw : ∀k:Fin 256,anv ((k:Nat):Int):=by decide +kernel
theorem abu {n:Int}(h:u8 n):anv n:=by
 obtain ⟨h0,h1⟩:=h
 have e':((n.toNat:Nat):Int)=n:=by omega
 have q:=anw ⟨n.toNat,by omega⟩
 rw [show ((((⟨n.toNat,by omega⟩:Fin 256):Nat)):Int)=n from e'] at q
 exact q
def okV (b:Bool)(v:dL):Bool:=bif b then mX v else jq v
def okG (b:Bool)(v:dL):Bool:=bif b then jk v else jq v
structure Rc (x:dJ):Prop where
 big:decide (x.Has > 63)=false
 da:((hb x.Has 0||hb x.Has 1)&&(hb x.Has 2||hb x.Has 3))=false
 w:(hb x.Has 1||!x.eG)=true
 e:(hb x.Has 4||!x.dV)=true
 c:(hb x.Has 5||!x.Configurable)=true
 v:okV (hb x.Has 0) x.Value=true
 g:okG (hb x.Has 2) x.Get=true
 s:okG (hb x.Has 3) x.Set=true
theorem U8 {x:dJ}(h:x.ok):kG x=0↔Rc x:=by
 obtain ⟨h1,h2,h3,h4⟩:=h
 have B:=bits h1
 unfold kG kT jE iI
 dsimp only
 rw [B.r1,B.r2,B.r4,B.r8,B.r16,B.r32]
 have two:∀p q:Bool,(bif p then (90:Int) else bif q then 90 else 0)=bif (p||q) then 90 else 0:=by intro p q;cases p<;>rfl
 rw [two]
 have three:∀p:Bool,((bif p then (90:Int) else 0)=0)↔p=false:=by intro p;cases p<;>simp
 rw [three]
 constructor
 .intro h
  simp only [Bool.or_eq_false_iff,Bool.not_eq_false',Bool.and_eq_true] at h
  obtain ⟨⟨q0,q00⟩,⟨⟨q1,q2⟩,q3⟩,⟨q4,q5⟩,q6⟩:=h
  exact ⟨q0,q00,by rw [Bool.or_comm];exact q4,by rw [Bool.or_comm];exact q5,by rw [Bool.or_comm];exact q6,q1,q2,q3⟩
 .intro h
  have hw:=h.w
  have he:=h.e
  have hc:=h.c
  rw [Bool.or_comm] at hw he hc
  have e1:(bif hb x.Has 0 then mX x.Value else jq x.Value)=true:=h.v
  have e2:(bif hb x.Has 2 then jk x.Get else jq x.Get)=true:=h.g
  have e3:(bif hb x.Has 3 then jk x.Set else jq x.Set)=true:=h.s
  rw [h.big,h.da,e1,e2,e3,hw,he,hc]
  rfl
theorem anx {x:dJ}(h:x.ok):kG x=90\/kG x=0:=by
 rcases wZ h with h|⟨h,-⟩
 .exact .inl h
 .exact .inr h
theorem Rc.chk {x:dJ}(h:x.ok)(r:Rc x):Chk x:=by
 rcases wZ h with k|⟨-,k⟩
 .have:=(U8 h).2 r
  rw [k] at this;exact absurd this (by decide)
 .exact k
theorem ak1 : mX (dL.mk 0 0 [] 0)=true:=by decide +kernel
theorem abv : jk (dL.mk 0 0 [] 0)=true:=by decide +kernel
theorem E8 {b:Bool}{v:dL}(hv:v.ok)(h:okV b v=true):mX v=true:=by
 cases b
 .rw [E5 hv h];exact ak1
 .exact h
theorem sD {b:Bool}{v:dL}(hv:v.ok)(h:okG b v=true):jk v=true:=by
 cases b
 .rw [E5 hv h];exact abv
 .exact h
theorem zq {v:dL}(h:jk v=true):mX v=true:=by
 unfold jk at h
 dsimp only at h
 rw [Bool.and_eq_true] at h
 exact h.1
theorem sS {v:dL}(hv:v.ok)(h:mX v=true):eH v v=true:=by
 rw [zH v v hv hv]
 obtain ⟨k,n,s,r⟩:=v
 obtain ⟨hk,hn⟩:=hv
 dsimp only at hk hn
 unfold zk x9
 unfold mX at h
 dsimp only at h ⊢
 have hno:∀n,(jL n||fEq n 4607182418800017408)=true->fEq n n=true:=by
  intro n h
  rw [aa2]
  cases hn:wP n
  .rfl
  .exfalso
   unfold wP at hn
   have:(jL n||fEq n 4607182418800017408)=false:=by
     unfold jL
     rw [EL]
     unfold fEq Ieee.Format.order
     show (((kE n).isZero&&_)||(Ieee.Datum.order (kE n) (kE _) == some .eq))=false
     cases hx:kE n with
     |nan s t=>rfl
     |infinity=>rw [hx] at hn;cases hn
     |number=>rw [hx] at hn;cases hn
   rw [this] at h;cases h
 have e1:dW r r=true:=by simp [dW]
 have e2:BF s s=true:=by simp [BF]
 have e3:(fEq n n||(LP n n&&LP n n))=true:=by rw [aa2,BP];cases wP n<;>rfl
 have e4:je k k=false:=by simp [je]
 rw [e1,e2,e3,e4]
 have hno:=hno n
 generalize fEq n n=F at *
 generalize (jL n||fEq n 4607182418800017408)=O at *
 rcases abo hk with rfl|rfl|rfl|rfl|rfl|rfl|rfl|rfl|rfl|h8
 all_goals first
  |rfl
  |(have hgt:decide (k > 8)=true:=decide_eq_true h8
    rw [hgt] at h
    cases h
    done)
  |(simp only [dW,Int.reduceBEq,Int.reduceGT,Int.reduceGE,decide_true,decide_false,cond_true,cond_false,Bool.or_true,Bool.true_or,Bool.or_false,Bool.false_or,Bool.and_true,Bool.true_and,Bool.and_false,Bool.false_and,Bool.and_eq_true] at h ⊢
    exact hno h.1.1)
structure Zb (x1 d:dJ):Prop where
 ok:d.ok
 rc:Rc d
 has:d.Has=51\/d.Has=60
 cut:jK .u8 d.Has x1.Has=x1.Has
 v:hb x1.Has 0=true->d.Value=x1.Value
 g:hb x1.Has 2=true->d.Get=x1.Get
 s:hb x1.Has 3=true->d.Set=x1.Set
 w:hb x1.Has 1=true->d.eG=x1.eG
 e:hb x1.Has 4=true->d.dV=x1.dV
 c:hb x1.Has 5=true->d.Configurable=x1.Configurable
theorem aqk : hb 51 0=true/\hb 51 1=true/\hb 51 2=false/\hb 51 3=false/\hb 51 4=true/\hb 51 5=true:=by decide
theorem aql : hb 60 0=false/\hb 60 1=false/\hb 60 2=true/\hb 60 3=true/\hb 60 4=true/\hb 60 5=true:=by decide
theorem Ot {x1 d:dJ}(h1:x1.ok)(r1:Rc x1)(hd:d.ok)(hh:(d.Has=51/\(hb x1.Has 2||hb x1.Has 3)=false/\jq d.Get=true/\jq d.Set=true/\mX d.Value=true)\/(d.Has=60/\(hb x1.Has 0||hb x1.Has 1)=false/\jq d.Value=true/\d.eG=false/\jk d.Get=true/\jk d.Set=true))
  (v:hb x1.Has 0=true->d.Value=x1.Value) (g:hb x1.Has 2=true->d.Get=x1.Get) (s:hb x1.Has 3=true->d.Set=x1.Set) (w:hb x1.Has 1=true->d.eG=x1.eG)
  (e:hb x1.Has 4=true->d.dV=x1.dV) (c:hb x1.Has 5=true->d.Configurable=x1.Configurable):Zb x1 d:=by
 obtain ⟨p0,p1,p2,p3,p4,p5⟩:=aqk
 obtain ⟨q0,q1,q2,q3,q4,q5⟩:=aql
 rcases hh with ⟨hh,ha,hg,hs,hv⟩|⟨hh,ha,hv,hw,hg,hs⟩
 .refine ⟨hd,⟨?_,?_,?_,?_,?_,?_,?_,?_⟩,.inl hh,?_,v,g,s,w,e,c⟩
  .rw [hh];rfl
  .rw [hh,p2,p3];simp
  .rw [hh,p1];rfl
  .rw [hh,p4];rfl
  .rw [hh,p5];rfl
  .rw [hh,p0];exact hv
  .rw [hh,p2];exact hg
  .rw [hh,p3];exact hs
  .rw [hh];exact (abu h1.1).1 r1.big ha
 .refine ⟨hd,⟨?_,?_,?_,?_,?_,?_,?_,?_⟩,.inr hh,?_,v,g,s,w,e,c⟩
  .rw [hh];rfl
  .rw [hh,q0,q1];rfl
  .rw [hh,q1,hw];rfl
  .rw [hh,q4];rfl
  .rw [hh,q5];rfl
  .rw [hh,q0];exact hv
  .rw [hh,q2];exact hg
  .rw [hh,q3];exact hs
  .rw [hh];exact (abu h1.1).2 r1.big ha
theorem Ou {x1:dJ}(h1:x1.ok)(r1:Rc x1)(e c:Bool)(he:hb x1.Has 4=true->e=x1.dV)(hc:hb x1.Has 5=true->c=x1.Configurable) :
  Zb x1 (dJ.mk (ny x1).Has x1.Value x1.Get x1.Set x1.eG e c):=by
 have B1:=bits h1.1
 have hda:=r1.da
 have hwh:(ny x1).Has=bif (hb x1.Has 2||hb x1.Has 3) then 60 else 51:=by unfold ny;dsimp only;rw [pW h1.1]
 rw [hwh]
 cases ha:(hb x1.Has 2||hb x1.Has 3)
 .simp only [Bool.or_eq_false_iff] at ha
  have rg:=r1.g
  have rs:=r1.s
  rw [ha.1] at rg
  rw [ha.2] at rs
  exact Ot h1 r1 ⟨by unfold u8;exact ⟨by simp,by simp⟩,h1.2⟩ (.inl ⟨rfl,by rw [ha.1,ha.2];rfl,rg,rs,E8 h1.2.1 r1.v⟩) (fun _=>rfl) (fun _=>rfl) (fun _=>rfl) (fun _=>rfl) he hc
 .rw [ha,Bool.and_true] at hda
  have rv:=r1.v
  have rw':=r1.w
  have aqm:=hda
  simp only [Bool.or_eq_false_iff] at aqm
  rw [aqm.1] at rv
  rw [aqm.2] at rw'
  exact Ot h1 r1 ⟨by unfold u8;exact ⟨by simp,by simp⟩,h1.2⟩ (.inr ⟨rfl,hda,rv,by simpa using rw',sD h1.2.2.1 r1.g,sD h1.2.2.2 r1.s⟩) (fun _=>rfl) (fun _=>rfl) (fun _=>rfl) (fun _=>rfl) he hc
def mix (x1 x3:dJ):dJ:=dJ.mk x3.Has (bif hb x1.Has 0 then x1.Value else x3.Value) (bif hb x1.Has 2 then x1.Get else x3.Get) (bif hb x1.Has 3 then x1.Set else x3.Set) (bif hb x1.Has 1 then x1.eG else x3.eG) (bif hb x1.Has 4 then x1.dV else x3.dV) (bif hb x1.Has 5 then x1.Configurable else x3.Configurable)
def ayE (x1 x3:dJ):Bool:=(((hb x1.Has 0||hb x1.Has 1)&&(hb x3.Has 2||hb x3.Has 3))||((hb x1.Has 2||hb x1.Has 3)&&(hb x3.Has 0||hb x3.Has 1)))
theorem aec {x1 x3:dJ}(h1:x1.ok)(h3:x3.ok)(r1:Rc x1)(r3:Rc x3)(hh:x3.Has=51\/x3.Has=60)(ht:ayE x1 x3=false):Zb x1 (mix x1 x3):=by
 obtain ⟨p0,p1,p2,p3,p4,p5⟩:=aqk
 obtain ⟨q0,q1,q2,q3,q4,q5⟩:=aql
 have hok:(mix x1 x3).ok:=by
  unfold mix
  refine ⟨h3.1,?_,?_,?_⟩
  .cases hb x1.Has 0;exact h3.2.1;exact h1.2.1
  .cases hb x1.Has 2;exact h3.2.2.1;exact h1.2.2.1
  .cases hb x1.Has 3;exact h3.2.2.2;exact h1.2.2.2
 unfold ayE at ht
 rcases hh with hh|hh
 .rw [hh,p0,p1,p2,p3] at ht
  have ha:(hb x1.Has 2||hb x1.Has 3)=false:=by
   revert ht
   cases (hb x1.Has 2||hb x1.Has 3)<;>simp
  have ha2:=ha
  simp only [Bool.or_eq_false_iff] at ha2
  have rg:=r3.g
  have rs:=r3.s
  have rv:=r3.v
  rw [hh,p2] at rg
  rw [hh,p3] at rs
  refine Ot h1 r1 hok (.inl ⟨hh,ha,?_,?_,?_⟩) ?_ ?_ ?_ ?_ ?_ ?_
  .show jq (bif hb x1.Has 2 then _ else _)=true;rw [ha2.1];exact rg
  .show jq (bif hb x1.Has 3 then _ else _)=true;rw [ha2.2];exact rs
  .show mX (bif hb x1.Has 0 then _ else _)=true
   cases hb x1.Has 0
   .exact E8 h3.2.1 rv
   .exact E8 h1.2.1 r1.v
  all_goals (intro h;simp only [mix,h,cond_true])
 .rw [hh,q0,q1,q2,q3] at ht
  have ha:(hb x1.Has 0||hb x1.Has 1)=false:=by
   revert ht
   cases (hb x1.Has 0||hb x1.Has 1)<;>simp
  have ha2:=ha
  simp only [Bool.or_eq_false_iff] at ha2
  have rg:=r3.g
  have rs:=r3.s
  have rv:=r3.v
  have rw':=r3.w
  rw [hh,q0] at rv
  rw [hh,q1] at rw'
  refine Ot h1 r1 hok (.inr ⟨hh,ha,?_,?_,?_,?_⟩) ?_ ?_ ?_ ?_ ?_ ?_
  .show jq (bif hb x1.Has 0 then _ else _)=true;rw [ha2.1];exact rv
  .show (bif hb x1.Has 1 then _ else _)=false;rw [ha2.2];simpa using rw'
  .show jk (bif hb x1.Has 2 then _ else _)=true
   cases hb x1.Has 2
   .exact sD h3.2.2.1 rg
   .exact sD h1.2.2.1 r1.g
  .show jk (bif hb x1.Has 3 then _ else _)=true
   cases hb x1.Has 3
   .exact sD h3.2.2.2 rs
   .exact sD h1.2.2.2 r1.s
  all_goals (intro h;simp only [mix,h,cond_true])
end Go.Fw
end
section
namespace Go.Fw
set_option maxRecDepth 20000
structure Passed (x0:Bool)(x1:dJ)(x2:Bool)(x3:dJ):Prop where
 r1:Rc x1
 no:x2=false->x0=true
 r3:x2=true->Rc x3
 has:x2=true->x3.Has=51\/x3.Has=60
 may:x2=true->BQ x1 x3=true
theorem ayV {x0:Bool}{x1:dJ}{x2:Bool}{x3:dJ}(h1:x1.ok)(h3:x3.ok)(h:iP x0 x1 x2 x3=(true,0)):Passed x0 x1 x2 x3:=by
 have hr:=h
 rw [PZ h1 h3] at hr
 unfold iP at h
 unfold kK iW at hr
 dsimp only at h hr
 rcases anx h1 with c1|c1
 .rw [c1] at hr
  simp only [show je 90 0=true from rfl,Bool.true_or,cond_true] at hr
  cases hr
 .rw [c1] at hr
  simp only [show je 0 0=false from rfl,Bool.false_or] at hr
  have r1:=(U8 h1).1 c1
  cases x2
  .simp only [Bool.false_and,cond_false,Bool.not_false,cond_true] at hr
   exact ⟨r1,(fun _=>by cases hr;rfl),(fun h=>by cases h),(fun h=>by cases h),(fun h=>by cases h)⟩
  .simp only [Bool.true_and,Bool.not_true,cond_false] at hr
   generalize hw:(dW (kG x3) 0&&(dW x3.Has 51||dW x3.Has 60))=q at hr
   cases q
   .simp only [Bool.not_false,cond_true] at hr;cases hr
   .simp only [Bool.and_eq_true,dW,beq_iff_eq,Bool.or_eq_true] at hw
    refine ⟨r1,(fun h=>by cases h),fun _=>(U8 h3).1 hw.1,fun _=>hw.2,fun _=>?_⟩
    simp only [Bool.not_true,cond_false] at h
    cases ha:je (zi x1 true x3) 0
    .rw [ha] at h;simp only [cond_false,Prod.mk.injEq] at h;exact h.1
    .rw [ha] at h;simp only [cond_true,Prod.mk.injEq] at h;exact absurd h.1 (by decide)
theorem ayS {x0:Bool}{x1:dJ}{x2:Bool}{x3:dJ}(h1:x1.ok)(h3:x3.ok)(h:iP x0 x1 x2 x3=(true,0)) :
  gG x0 x1 x2 x3=(bif !x2 then ny x1 else bif ayE x1 x3 then dJ.mk (ny x1).Has x1.Value x1.Get x1.Set x1.eG (bif (!hb x1.Has 4) then x3.dV else x1.dV) (bif (!hb x1.Has 5) then x3.Configurable else x1.Configurable) else mix x1 x3,true,0):=by
 have B1:=bits h1.1
 rw [akY h1 h3]
 have hr:=h
 rw [PZ h1 h3] at hr
 unfold Jp
 dsimp only
 rw [hr]
 simp only [show je 0 0=false from rfl,Bool.not_true,Bool.or_self,cond_false]
 cases x2
 .rfl
 .simp only [Bool.not_true,cond_false]
  unfold iI
  rw [zo h1.1,pW h1.1,zo h3.1,pW h3.1,B1.r1,B1.r2,B1.r4,B1.r8,B1.r16,B1.r32]
  unfold mix ayE
  generalize (((hb x1.Has 0||hb x1.Has 1)&&(hb x3.Has 2||hb x3.Has 3))||((hb x1.Has 2||hb x1.Has 3)&&(hb x3.Has 0||hb x3.Has 1)))=K
  cases K
  .simp only [cond_false]
   congr 1
   congr 1
   .cases hb x1.Has 0<;>rfl
   .cases hb x1.Has 2<;>rfl
   .cases hb x1.Has 3<;>rfl
  .rfl
theorem ay_ {x0:Bool}{x1:dJ}{x2:Bool}{x3:dJ}(h1:x1.ok)(h3:x3.ok)(h:iP x0 x1 x2 x3=(true,0)):Zb x1 (gG x0 x1 x2 x3).1:=by
 have p:=ayV h1 h3 h
 rw [ayS h1 h3 h]
 dsimp only
 cases x2
 .exact Ou h1 p.r1 _ _ (fun _=>rfl) (fun _=>rfl)
 .simp only [Bool.not_true,cond_false]
  cases ht:ayE x1 x3
  .exact aec h1 h3 p.r1 (p.r3 rfl) (p.has rfl) ht
  .exact Ou h1 p.r1 _ _ (fun h=>by rw [h];rfl) (fun h=>by rw [h];rfl)
theorem Aa (b:Bool):JL b b=true:=by simp [JL]
theorem ay5 {d:dJ}(hd:d.ok)(r:Rc d)(hh:d.Has=51\/d.Has=60):iP false d true d=(true,0):=by
 have B:=bits hd.1
 unfold iP zi
 dsimp only
 rw [Oo hd,(U8 hd).2 r,PY hd.1 (r.chk hd)]
 have e:(dW d.Has 51||dW d.Has 60)=true:=by rcases hh with hh|hh<;>rw [hh]<;>rfl
 rw [e]
 simp only [show je 0 0=false from rfl,cond_false,Bool.not_true,Bool.false_or,Bool.and_false]
 congr 1
 unfold BQ uK
 dsimp only
 rw [uS hd.1,sS hd.2.1 (E8 hd.2.1 r.v),sS hd.2.2.1 (zq (sD hd.2.2.1 r.g)),sS hd.2.2.2 (zq (sD hd.2.2.2 r.s)),Aa,Aa]
 simp only [Bool.or_true,Bool.and_true,Bool.not_true,Bool.and_false,cond_false]
 cases d.Configurable
 .simp only [cond_false]
  cases dW (jK .u8 d.Has 15) 0
  .simp only [cond_false]
   cases (hb d.Has 0||hb d.Has 1)
   .rfl
   .simp only [cond_true];cases d.eG<;>rfl
  .rfl
 .rfl
theorem azq {x0:Bool}{x1:dJ}{x3:dJ}(h1:x1.ok)(h3:x3.ok)(h:iP x0 x1 true x3=(true,0))(hc:x3.Configurable=false) :
  let d:=(gG x0 x1 true x3).1
  d.Configurable=false/\JL d.dV x3.dV=true/\d.Has=x3.Has/\
   (bif gW x3 then (eH d.Get x3.Get&&eH d.Set x3.Set) else (x3.eG||((!d.eG)&&eH d.Value x3.Value)))=true:=by
 have p:=ayV h1 h3 h
 have hm:=p.may rfl
 have r3:=p.r3 rfl
 have r1:=p.r1
 have hh:=p.has rfl
 have B1:=bits h1.1
 have s0:=sS h3.2.1 (E8 h3.2.1 r3.v)
 have s1:=sS h3.2.2.1 (zq (sD h3.2.2.1 r3.g))
 have s2:=sS h3.2.2.2 (zq (sD h3.2.2.2 r3.s))
 have hk:(hb x3.Has 2||hb x3.Has 3)=!(hb x3.Has 0||hb x3.Has 1):=by
  obtain ⟨p0,p1,p2,p3,-,-⟩:=aqk
  obtain ⟨q0,q1,q2,q3,-,-⟩:=aql
  rcases hh with hh|hh
  .rw [hh,p0,p1,p2,p3];rfl
  .rw [hh,q0,q1,q2,q3];rfl
 unfold BQ uK at hm
 dsimp only at hm
 rw [uS h1.1,uS h3.1,hc,B1.a16,B1.z15,B1.z1,B1.z4,B1.z8] at hm
 simp only [cond_false] at hm
 cases hc1:x1.Configurable
 .rw [hc1] at hm
  simp only [cond_false] at hm
  cases he:(hb x1.Has 4&&!JL x1.dV x3.dV)
  .rw [he] at hm
   simp only [cond_false] at hm
   have ht:ayE x1 x3=false:=by
    unfold ayE
    rw [hk]
    have hda:=r1.da
    cases ha:(hb x1.Has 0||hb x1.Has 1)
    .cases hb':(hb x1.Has 2||hb x1.Has 3)
     .rfl
     .rw [ha,hb'] at hm
      simp only [Bool.or_true,Bool.not_true,cond_false] at hm
      cases hd:(hb x3.Has 0||hb x3.Has 1)
      .rfl
      .rw [hd] at hm;cases hm
    .rw [ha,Bool.true_and] at hda
     rw [hda]
     rw [ha,hda] at hm
     simp only [Bool.or_false,Bool.not_true,cond_false] at hm
     cases hd:(hb x3.Has 0||hb x3.Has 1)
     .rw [hd] at hm;cases hm
     .rfl
   have hd:=ayS h1 h3 h
   rw [ht] at hd
   simp only [Bool.not_true,cond_false] at hd
   dsimp only
   rw [hd]
   dsimp only
   unfold mix
   dsimp only
   rw [z_ h3.1,hk,hc,hc1]
   refine ⟨by cases hb x1.Has 5<;>rfl,?_,rfl,?_⟩
   .cases h4:hb x1.Has 4
    .exact Aa _
    .rw [h4] at he;simpa using he
   .cases hd3:(hb x3.Has 0||hb x3.Has 1)
    .simp only [Bool.not_false,cond_true]
     rw [hd3] at hm
     cases ha:(hb x1.Has 0||hb x1.Has 1)
     .rw [ha] at hm
      cases hb':(hb x1.Has 2||hb x1.Has 3)
      .simp only [Bool.or_eq_false_iff] at hb'
       rw [hb'.1,hb'.2]
       simp only [cond_false,s1,s2,Bool.and_self]
      .rw [hb'] at hm
       simp only [Bool.or_true,Bool.not_true,cond_false,Aa] at hm
       revert hm
       cases hb x1.Has 2<;>cases hb x1.Has 3<;>simp [s1,s2]
     .rw [ha] at hm
      simp only [Bool.true_or,Bool.not_true,cond_false] at hm
      cases hm
    .simp only [Bool.not_true,cond_false]
     rw [hd3] at hm
     cases ha:(hb x1.Has 0||hb x1.Has 1)
     .simp only [Bool.or_eq_false_iff] at ha
      rw [ha.1,ha.2]
      simp only [cond_false,s0]
      cases x3.eG<;>rfl
     .rw [ha] at hm
      simp only [Bool.true_or,Bool.not_true,cond_false,Aa,cond_true] at hm
      revert hm
      cases x3.eG<;>cases x1.eG<;>cases hb x1.Has 0<;>cases hb x1.Has 1<;>simp [s0]
  .rw [he] at hm;cases hm
 .rw [hc1] at hm;cases hm
end Go.Fw
end
section
namespace Go.Fw
theorem U9 : ∀{l:List dM} {pre:List dI},P5 pre l=0↔(∀p∈l,iY p.Key=0/\iW p.dS=true/\p.Key∉pre)/\l.Pairwise (fun p q=>p.Key≠q.Key)
 |[],pre=>by simp [P5]
 |a::r,pre=>by
  simp only [P5]
  by_cases h1:iY a.Key=0
  .rw [qC.2 h1]
   simp only [cond_false]
   cases h2:iW a.dS with
   |false=>
    simp only [Bool.not_false,cond_true]
    exact ⟨fun h=>by omega,fun h=>by have:=(h.1 a (by simp)).2.1;rw [h2] at this;cases this⟩
   |true=>
    simp only [Bool.not_true,cond_false]
    by_cases h3:a.Key∈pre
    .simp only [h3,decide_true,cond_true]
     exact ⟨fun h=>by omega,fun h=>absurd h3 (h.1 a (by simp)).2.2⟩
    .simp only [h3,decide_false,cond_false]
     rw [U9 (l:=r)]
     constructor
     .rintro ⟨i1,i2⟩
      refine ⟨fun p hp=>?_,List.pairwise_cons.2 ⟨fun q hq e=>(i1 q hq).2.2 (by simp [e]),i2⟩⟩
      cases hp with
      |head=>exact ⟨h1,h2,h3⟩
      |tail _ hp=>
       obtain ⟨j1,j2,j3⟩:=i1 p hp
       exact ⟨j1,j2,fun hm=>j3 (by simp [hm])⟩
     .rintro ⟨i1,i2⟩
      obtain ⟨k1,k2⟩:=List.pairwise_cons.1 i2
      refine ⟨fun p hp=>?_,k2⟩
      obtain ⟨j1,j2,j3⟩:=i1 p (List.mem_cons_of_mem _ hp)
      refine ⟨j1,j2,fun hm=>?_⟩
      rcases List.mem_append.1 hm with hm|hm
      .exact j3 hm
      .exact k1 p hp (List.mem_singleton.1 hm).symm
  .rw [EI.2 h1]
   simp only [cond_true]
   exact ⟨fun h=>by omega,fun h=>absurd (h.1 a (by simp)).1 h1⟩
structure La (l:List dM):Prop where
 len:l.length<=1024
 all:∀p∈l,iY p.Key=0/\iW p.dS=true
 one:l.Pairwise (fun p q=>p.Key≠q.Key)
theorem La.big {l:List dM}(h:La l):l.length<=4294967296:=by have:=h.len;omega
theorem La.of {l:List dM}(hl:l.length<=4294967296)(h:lH l=0):La l:=by
 obtain ⟨h1,h2⟩:=U9.1 (aeb hl h)
 exact ⟨Hr l h,fun p hp=>⟨(h1 p hp).1,(h1 p hp).2.1⟩,h2⟩
theorem La.chk {l:List dM}(h:La l):lH l=0:=by
 have:=h.len
 rw [Ky l h.big,decide_eq_false (by omega)]
 exact U9.2 ⟨fun p hp=>⟨(h.all p hp).1,(h.all p hp).2,by simp⟩,h.one⟩
theorem La.asked {l:List dM}(h:La l)(hok:∀p∈l,p.dS.ok){k:dI}(hk:iY k=0):nC l k=0:=by
 rw [U6 l k h.big hok]
 unfold pR
 dsimp only
 rw [h.chk,hk];rfl
def d00 : dJ:=dJ.mk 0 (dL.mk 0 0 [] 0) (dL.mk 0 0 [] 0) (dL.mk 0 0 [] 0) false false false
def isK (k:dI)(p:dM):Bool:=decide (p.Key=k)
def kZ (l:List dM)(k:dI):dJ×Bool×Int:=match l.find? (isK k) with
 |some p=>(p.dS,true,0)
 |none=>(d00,false,0)
theorem Rz : ∀(l:List dM) (k:dI),l.find? (isK k)=match pl l k with|some i=>some (l.getD i default)|none=>none
 |[],k=>rfl
 |a::r,k=>by
  have ih:=Rz r k
  unfold pl at ih ⊢
  rw [List.findIdx?_cons,List.find?_cons]
  unfold isK at ih ⊢
  by_cases h:a.Key=k
  .simp [h]
  .simp only [h,decide_false,Bool.false_eq_true,if_false]
   rw [ih]
   cases r.findIdx? (fun p=>decide (p.Key=k))<;>simp
theorem La.find {l:List dM}(h:La l)(hok:∀p∈l,p.dS.ok){k:dI}(hk:iY k=0):fK l k=kZ l k:=by
 unfold fK kZ
 dsimp only
 rw [h.asked hok hk,ay9,Oq l k h.big,Rz]
 cases pl l k with
 |none=>rfl
 |some i=>simp [je]
theorem abw : ∀{l:List dM} {i:Nat} {k:dI} {d:dJ},pl l k=some i->(l.set i (dM.mk k d)).find? (isK k)=some (dM.mk k d)/\∀k',k'≠k->(l.set i (dM.mk k d)).find? (isK k')=l.find? (isK k')
 |[],i,k,d,h=>by cases h
 |a::r,i,k,d,h=>by
  unfold pl at h
  rw [List.findIdx?_cons] at h
  by_cases hk:a.Key=k
  .simp only [hk,decide_true,if_true,Option.some.injEq] at h
   subst h
   refine ⟨by simp [isK],fun k' hk'=>?_⟩
   have h1:¬k=k':=fun e=>hk' e.symm
   simp [isK,hk,h1]
  .simp only [hk,decide_false,Bool.false_eq_true,if_false] at h
   cases hp:r.findIdx? (fun p=>decide (p.Key=k)) with
   |none=>rw [hp] at h;cases h
   |some j=>
    rw [hp] at h
    simp only [Option.map_some,Option.some.injEq] at h
    subst h
    obtain ⟨h1,h2⟩:=abw (d:=d) (show pl r k=some j from hp)
    refine ⟨?_,fun k' hk'=>?_⟩
    .rw [List.set_cons_succ,List.find?_cons]
     simp only [isK,hk,decide_false]
     exact h1
    .rw [List.set_cons_succ,List.find?_cons,List.find?_cons,h2 k' hk']
theorem anz {l:List dM}{k:dI}(h:pl l k=none):∀p∈l,p.Key≠k:=by
 intro p hp e
 have:=ak0 (l:=l) (k:=k)
 rw [h] at this
 simp only [Option.isSome_none] at this
 have:=of_decide_eq_false this.symm
 exact this (List.mem_map.2 ⟨p,hp,e⟩)
theorem ak2 : ∀{l:List dM} {k:dI} {i:Nat},pl l k=some i->(l.getD i default).Key=k
 |[],k,i,h=>by cases h
 |a::r,k,i,h=>by
  unfold pl at h
  rw [List.findIdx?_cons] at h
  by_cases hk:a.Key=k
  .simp only [hk,decide_true,if_true,Option.some.injEq] at h
   subst h;simpa using hk
  .simp only [hk,decide_false,Bool.false_eq_true,if_false] at h
   cases hp:r.findIdx? (fun p=>decide (p.Key=k)) with
   |none=>rw [hp] at h;cases h
   |some j=>
    rw [hp] at h
    simp only [Option.map_some,Option.some.injEq] at h
    subst h
    simpa using ak2 (show pl r k=some j from hp)
structure aqn (x0:List dM)(k:dI)(d:dJ)(a:List dM):Prop where
 tb:La a
 ok:∀p∈a,p.dS.ok
 me:kZ a k=(d,true,0)
 el:∀k',k'≠k->kZ a k'=kZ x0 k'
 len:a.length=bif (kZ x0 k).2.1 then x0.length else x0.length+1
 key:∀i,i<x0.length->(a.getD i default).Key=(x0.getD i default).Key
 wh:iW d=true
theorem ahR {x0:List dM}(h:La x0)(hok:∀p∈x0,p.dS.ok){k:dI}(hk:iY k=0){d:dJ}(hd:d.ok)(he:(ku x0 k d).2=0):aqn x0 k d (ku x0 k d).1:=by
 unfold ku at he ⊢
 dsimp only at he ⊢
 rw [h.asked hok hk,ay9,Oq x0 k h.big,akZ hd] at he ⊢
 rw [ahl] at he ⊢
 simp only [cond_false,iZ,Int.toNat_natCast] at he ⊢
 rw [XA (l:=x0) rfl]
 cases hw:iW d with
 |false=>rw [hw] at he;cases he
 |true=>
  rw [hw] at he
  simp only [Bool.not_true,cond_false] at he ⊢
  cases hp:pl x0 k with
  |none=>
   rw [hp] at he
   simp only [show decide ((-1:Int)<0)=true from rfl,Bool.true_and,cond_true] at he ⊢
   by_cases hl:(x0.length:Int)=1024
   .rw [mD.2 hl] at he;cases he
   .rw [yI.2 hl]
    simp only [cond_false]
    have hn:=anz hp
    have hf:x0.find? (isK k)=none:=by rw [Rz,hp]
    have hlen:=h.len
    refine ⟨⟨by simp;omega,?_,?_⟩,?_,?_,?_,?_,?_,hw⟩
    .intro p hp
     rcases List.mem_append.1 hp with hp|hp
     .exact h.all p hp
     .rw [List.mem_singleton.1 hp];exact ⟨hk,hw⟩
    .rw [List.pairwise_append]
     refine ⟨h.one,List.pairwise_singleton _ _,fun p hp q hq=>?_⟩
     rw [List.mem_singleton.1 hq];exact hn p hp
    .intro p hp
     rcases List.mem_append.1 hp with hp|hp
     .exact hok p hp
     .rw [List.mem_singleton.1 hp];exact hd
    .unfold kZ
     rw [List.find?_append,hf]
     simp [isK]
    .intro k' hk'
     unfold kZ
     rw [List.find?_append]
     have:[dM.mk k d].find? (isK k')=none:=by
      have h1:¬k=k':=fun e=>hk' e.symm
      simp [isK,h1]
     rw [this,Option.or_none]
    .unfold kZ;rw [hf];simp
    .intro i hi
     rw [List.getD_eq_getElem?_getD,List.getD_eq_getElem?_getD,List.getElem?_append_left hi]
  |some i=>
   rw [hp] at he
   have hi:=aou hp
   have hkey:=ak2 hp
   have hneg:decide ((i:Int)<0)=false:=decide_eq_false (by omega)
   simp only [hneg,Bool.false_and,cond_false,Int.toNat_natCast] at he ⊢
   rw [XA (l:=x0.set i _) (by simp),hkey]
   obtain ⟨s1,s2⟩:=abw (d:=d) hp
   have hf:x0.find? (isK k)=some (x0.getD i default):=by rw [Rz,hp]
   have hmap:(x0.set i (dM.mk k d)).map (·.Key)=x0.map (·.Key):=by
    rw [List.map_set]
    apply List.ext_getElem?
    intro j
    rw [List.getElem?_set]
    split
    .rename_i hj
     subst hj
     have hg:(x0.map (·.Key))[i]?=some k:=by
      rw [List.getElem?_map,List.getElem?_eq_getElem hi]
      rw [List.getD_eq_getElem?_getD,List.getElem?_eq_getElem hi] at hkey
      simpa using hkey
     rw [hg]
     simp [hi]
    .rfl
   refine ⟨⟨by simpa using h.len,?_,?_⟩,?_,?_,?_,?_,?_,hw⟩
   .intro p hp
    rcases List.mem_or_eq_of_mem_set hp with hp|rfl
    .exact h.all p hp
    .exact ⟨hk,hw⟩
   .have h1:(x0.map (·.Key)).Pairwise (·≠·):=List.pairwise_map.2 h.one
    rw [<- hmap] at h1
    exact List.pairwise_map.1 h1
   .intro p hp
    rcases List.mem_or_eq_of_mem_set hp with hp|rfl
    .exact hok p hp
    .exact hd
   .unfold kZ;rw [s1]
   .intro k' hk'
    unfold kZ;rw [s2 k' hk']
   .unfold kZ;rw [hf];simp
   .intro j hj
    have:=congrArg (fun m:List dI=>m[j]?) hmap
    simp only [List.getElem?_map] at this
    rw [List.getD_eq_getElem?_getD,List.getD_eq_getElem?_getD]
    have hj':j<(x0.set i (dM.mk k d)).length:=by simpa using hj
    rw [List.getElem?_eq_getElem hj,List.getElem?_eq_getElem hj'] at this ⊢
    simpa using this
structure aso (x0:List dM)(k:dI)(b:List dM):Prop where
 tb:La b
 ok:∀p∈b,p.dS.ok
 me:kZ b k=(d00,false,0)
 el:∀k',k'≠k->kZ b k'=kZ x0 k'
theorem U_ {x0:List dM}(h:La x0)(hok:∀p∈x0,p.dS.ok){k:dI}:aso x0 k (x0.filter (fun p=>!decide (p.Key=k))):=by
 refine ⟨⟨Nat.le_trans (List.length_filter_le _ _) h.len,fun p hp=>h.all p (List.mem_filter.1 hp).1,List.Pairwise.filter _ h.one⟩,fun p hp=>hok p (List.mem_filter.1 hp).1,?_,fun k' hk'=>?_⟩
 .have:(x0.filter (fun p=>!decide (p.Key=k))).find? (isK k)=none:=by
   rw [List.find?_eq_none]
   intro p hp
   have:=(List.mem_filter.1 hp).2
   simpa [isK] using this
  unfold kZ;rw [this]
 .unfold kZ
  rw [List.find?_filter]
  congr 1
  have:(fun a:dM=>decide ((!decide (a.Key=k))=true/\isK k' a=true))=isK k':=by
   funext p
   unfold isK
   by_cases e:p.Key=k'
   .have:¬k'=k:=hk'
    simp [e,this]
   .simp [e]
  rw [this]
theorem afI {x0:List dM}(h:La x0)(hok:∀p∈x0,p.dS.ok){k:dI}(hk:iY k=0):rV x0 k=(x0.filter (fun p=>!decide (p.Key=k)),0):=by
 rw [anu x0 k h.big hok,abt x0 k h.big]
 have:=h.asked hok hk
 rw [U6 x0 k h.big hok] at this
 rw [this];rfl
theorem VG {l:List dI}:(qI l).length=l.length:=by
 unfold qI
 dsimp only
 rw [Bool.cond_eq_ite]
 split
 .rfl
 .rw [iZ,List.drop_zero,List.length_take]
  have:(eY l (l.length:Int)).length=l.length:=ML
  rw [this];simp
theorem ak3 {d:dJ}(hd:d.ok)(h:iW d=true):Rc d:=by
 unfold iW at h
 dsimp only at h
 rw [Bool.and_eq_true] at h
 exact (U8 hd).1 (mD.1 h.1)
end Go.Fw
end
section
namespace Go.Fw
theorem Zc {α:Type}{f:α->List AV}{l:List α}{i:Nat}{x:α}:m_ (List.map f (l.set i x))=m_ (List.map f l):=by simp [m_]
theorem Va {α β:Type}{f:α->β}{l:List α}:m_ (List.map f l)=l.length:=by simp [m_]
def aed (x:Nat):Bool:=ZK x 0&&Yd x 4652218415073722368
theorem anA {x:Nat}(h1:ZK x 0=true)(h2:Yd x 4652218415073722368=true):aed x=true:=by simp [aed,h1,h2]
theorem ak4 {P:Program}{ρ:List AV}{x:Tm}{y:Nat}(h:aed y=true)(hx:(x.den ρ).F=y:=by rfl):Side.holds P ρ (.num .i64 x (.ZL x)):=by
 subst hx
 unfold aed at h
 rw [Bool.and_eq_true] at h
 exact atU h.1 h.2
theorem Ov {v:dL}(h:jh v=true):0<=v.Ref:=by
 unfold jh at h
 dsimp only at h
 cases hc:decide ((v.Ref:Int)<0) with
 |false=>have:=of_decide_eq_false hc;omega
 |true=>rw [hc] at h;simp at h
def hIn (h:dK)(v:dL):Prop:=dR v=true->0<=v.Ref/\v.Ref<h.Objects.length
theorem asq {h:dK}{v:dL}(q:hIn h v)(i:dR v=true):0<=v.Ref:=(q i).1
theorem aov {h:dK}{v:dL}(q:hIn h v)(i:dR v=true):v.Ref<m_ (List.map dN.enc h.Objects):=by rw [Va];exact (q i).2
theorem Zd {h:dK}{v:dL}(q:fF h v=true):hIn h v:=by
 intro i
 unfold fF at q
 dsimp only at q
 cases hm:jh v with
 |false=>rw [hm] at q;simp at q
 |true=>
  rw [hm,i] at q
  simp only [Bool.not_true,cond_false,Bool.false_or,Bool.and_eq_true,decide_eq_true_eq,iZ] at q
  exact ⟨Ov hm,q.1⟩
theorem ak5 {h:dK}{v:dL}(q:fF h v=true):jh v=true:=by
 unfold fF at q
 dsimp only at q
 cases hm:jh v with
 |false=>rw [hm] at q;simp at q
 |true=>rfl
theorem afJ {h:dK}{v:dL}(q:fF h v=true):0<=v.Ref:=Ov (ak5 q)
theorem afK {h:dK}{v:dL}(q:fF h v=true)(i:dR v=true):v.Ref<m_ (List.map dN.enc h.Objects):=aov (Zd q) i
theorem Ze {x0:dK}{x2:Int}{a b:dL}(h:lW (kR x0 x2 ((2:Int).toNat+1) false 0 [a,b]).1=0):dR a=true/\fF x0 a=true/\a.Ref<x2:=by
 have e:(2:Int).toNat+1=2+1:=rfl
 rw [e] at h
 unfold kR at h
 dsimp only at h
 have e1:(!decide ((0:Int)<2))=false:=by decide
 have e2:([a,b].getD (0:Int).toNat default)=a:=rfl
 rw [e1,e2] at h
 simp only [cond_false] at h
 cases hc:(!dR a||!fF x0 a||decide (a.Ref>=x2)) with
 |true=>rw [hc] at h;simp [lW] at h
 |false=>
  simp only [Bool.or_eq_false_iff,Bool.not_eq_false',decide_eq_false_iff_not] at hc
  exact ⟨hc.1.1,hc.1.2,by omega⟩
theorem ak6 {x0:dK}{x2:Int}{a b:dL}(h:lW (kR x0 x2 ((2:Int).toNat+1) false 0 [a,b]).1=0):0<=a.Ref:=afJ (Ze h).2.1
theorem ak7 {x0:dK}{x2:Int}{a b:dL}(h:lW (kR x0 x2 ((2:Int).toNat+1) false 0 [a,b]).1=0):a.Ref<m_ (List.map dN.enc x0.Objects):=afK (Ze h).2.1 (Ze h).1
def DF (h:dK)(i:Nat):Int:=(h.Objects.getD i default).fB.Kind
def CB (h:dK)(i:Nat):Int:=(h.Objects.getD i default).fB.Ref
def Zo (h:dK):Prop:=∀i,i<h.Objects.length->DF h i≠1->0<=CB h i/\CB h i<h.Objects.length
theorem afL {h:dK}{i:Nat}(hi:h.Objects.length<=i):CB h i=0:=by
 unfold CB;rw [List.getD_eq_getElem?_getD,List.getElem?_eq_none hi];rfl
theorem ak8 {h:dK}(hP:Zo h){i:Nat}(hk:(h.Objects.getD i default).fB.Kind≠1):0<=(h.Objects.getD i default).fB.Ref:=by
 by_cases hi:i<h.Objects.length
 .exact (hP i hi hk).1
 .have:=afL (h:=h) (i:=i) (by omega)
  unfold CB at this;omega
theorem aow {h:dK}(hP:Zo h){u:Int}(hk:(h.Objects.getD u.toNat default).fB.Kind≠1)(h1:u<m_ (List.map dN.enc h.Objects))(h0:0<=u):(h.Objects.getD u.toNat default).fB.Ref<m_ (List.map dN.enc h.Objects):=by
 rw [Va] at h1 ⊢
 exact (hP u.toNat (by omega) hk).2
theorem Vb {m:List (Int×Bool)}(ha:∀e∈m,e.2=true)(k:Int):(nS false k m).2=decide (k∈m.map (·.1)):=by
 induction m with
 |nil=>rfl
 |cons e r ih=>
  simp only [nS]
  by_cases h:k=e.1
  .simp [h,ha e (by simp)]
  .rw [if_neg h,ih fun x hx=>ha x (by simp [hx])]
   simp [h]
theorem abx {m:List (Int×Bool)}{k:Int}(h:k∉m.map (·.1)):nT k true m=m++[(k,true)]:=by
 induction m with
 |nil=>rfl
 |cons e r ih=>
  simp only [List.map_cons,List.mem_cons,not_or] at h
  simp only [nT,if_neg h.1,ih h.2,List.cons_append]
theorem aby {x0:dK}{u4:List Bool}{S:List Int}(hS:∀u∈S,(x0.Objects.getD u.toNat default).fB.Kind≠1->(x0.Objects.getD u.toNat default).fB.Ref∈S){u5:Bool} :
  ∀(n:Nat) (u6:Int) (m:List (Int×Bool)),(m.map (·.1)).Nodup->(∀e∈m,e.2=true)->(∀k∈m.map (·.1),k∈S)->u6∈S->S.length<n+m.length->kQ x0 u4 n u5 u6 m=true
 |0,u6,m,hn,ha,hk,hu,hl=>by
  have:=List.Nodup.length_le_of_subset hn hk
  rw [List.length_map] at this
  omega
 |n+1,u6,m,hn,ha,hk,hu,hl=>by
  simp only [kQ]
  cases (!(!(u4.getD u6.toNat default))) with
  |true=>rfl
  |false=>
   simp only [cond_false]
   rw [Vb ha]
   cases hm:decide (u6∈m.map (·.1)) with
   |true=>rfl
   |false=>
    have hm:=of_decide_eq_false hm
    simp only [cond_false]
    cases hq:dW (x0.Objects.getD u6.toNat default).fB.Kind 1 with
    |true=>rfl
    |false=>
     simp only [cond_false]
     rw [abx hm]
     refine aby hS n _ _ ?_ ?_ ?_ (hS _ hu (yI.1 hq)) (by simp;omega)
     .rw [List.map_append,List.nodup_append]
      refine ⟨hn,by simp,fun a ha' b hb=>?_⟩
      simp at hb;subst hb
      intro e;subst e;exact hm ha'
     .intro e he
      rcases List.mem_append.1 he with he|he
      .exact ha e he
      .simp at he;subst he;rfl
     .intro k hk'
      rw [List.map_append] at hk'
      rcases List.mem_append.1 hk' with hk' | hk'
      .exact hk k hk'
      .simp at hk';subst hk';exact hu
theorem P7 {x0:dK}(hP:Zo x0){u4:List Bool}{u2:Bool}{u3:Int}:kQ x0 u4 (x0.Objects.length+3) u2 u3 []=true:=by
 refine aby (S:=u3::0::(List.range x0.Objects.length).map Int.ofNat) (fun u hu hk=>?_) _ _ _ (by simp) (by simp) (by simp) (by simp) (by simp)
 by_cases hi:u.toNat<x0.Objects.length
 .obtain ⟨h1,h2⟩:=hP _ hi hk
  unfold CB at h1 h2
  refine List.mem_cons_of_mem _ (List.mem_cons_of_mem _ (List.mem_map.2 ⟨(x0.Objects.getD u.toNat default).fB.Ref.toNat,List.mem_range.2 (by omega),?_⟩))
  simp only [Int.ofNat_eq_natCast];omega
 .have:=afL (h:=x0) (i:=u.toNat) (by omega)
  unfold CB at this
  rw [this];simp
theorem abz {x0:dK}(hP:Zo x0){u4:List Bool}:∀{n:Nat} {u2:Bool} {u6:Int} {m:List (Int×Bool)},(∀e∈m,0<=e.1/\e.1<m_ (List.map dN.enc x0.Objects))->0<=u6->u6<m_ (List.map dN.enc x0.Objects)->∀e∈(iM x0 u4 n u2 u6 m).2.2.2.1,0<=e.1/\e.1<m_ (List.map dN.enc x0.Objects)
 |0,_,_,_,_,_,_=>fun e he=>by cases he
 |n+1,u2,u6,m,hm,h0,h1=>by
  have hput:∀{l:List (Int×Bool)},(∀e∈l,0<=e.1/\e.1<m_ (List.map dN.enc x0.Objects))->∀e∈nT u6 true l,0<=e.1/\e.1<m_ (List.map dN.enc x0.Objects):=by
   intro l
   induction l with
   |nil=>intro _ e he;simp [nT] at he;subst he;exact ⟨h0,h1⟩
   |cons a r ih=>
    intro hl e he
    simp only [nT] at he
    by_cases hc:u6=a.1
    .rw [if_pos hc] at he
     rcases List.mem_cons.1 he with rfl|he
     .exact ⟨h0,h1⟩
     .exact hl e (by simp [he])
    .rw [if_neg hc] at he
     rcases List.mem_cons.1 he with rfl|he
     .exact hl e (by simp)
     .exact ih (fun x hx=>hl x (by simp [hx])) e he
  simp only [iM]
  cases (!(!(u4.getD u6.toNat default))) with
  |true=>exact hm
  |false=>
   simp only [cond_false]
   cases (nS false u6 m).2 with
   |true=>intro e he;cases he
   |false=>
    simp only [cond_false]
    cases hq:dW (x0.Objects.getD u6.toNat default).fB.Kind 1 with
    |true=>exact hput hm
    |false=>
     simp only [cond_false]
     exact abz hP (hput hm) (ak8 hP (yI.1 hq)) (aow hP (yI.1 hq) h1 h0)
theorem aqo {x0:dK}(hB:x0.Objects.length<=4294967296){u:Int}(h0:0<=u)(g:(!(decide ((u:Int)<(jy dN.enc x0.Objects))))=false):0<=dZ .i64 u 1:=by
 simp only [Bool.not_eq_false',decide_eq_true_eq,iZ] at g
 rw [oM (by omega) (by omega)];omega
theorem JB {c b:Bool}(h:(bif c then false else b)=true):c=false/\b=true:=by cases c<;>simp_all
theorem GI {x0:dK}{i:Int}(h:kM x0 i=true):(x0.Objects.getD i.toNat default).fB.Kind=1\/(dR (x0.Objects.getD i.toNat default).fB=true/\fF x0 (x0.Objects.getD i.toNat default).fB=true):=by
 unfold kM at h
 dsimp only at h
 generalize x0.Objects.getD i.toNat default=o at h ⊢
 cases h6:dW o.Kind 6 with
 |true=>
  rw [h6] at h
  simp only [cond_true] at h
  unfold uw at h
  dsimp only at h
  obtain ⟨hc,-⟩:=JB h
  left
  simp only [Bool.or_eq_false_iff,Bool.not_eq_false'] at hc
  have:=hc.1.1.2
  unfold pV at this
  dsimp only at this
  rw [Bool.and_eq_true] at this
  exact mD.1 this.1
 |false=>
  rw [h6] at h
  simp only [cond_false] at h
  obtain ⟨hc,h⟩:=JB h
  obtain ⟨hd,h⟩:=JB h
  simp only [Bool.or_eq_false_iff,Bool.not_eq_false'] at hd
  by_cases hk:o.fB.Kind=1
  .exact .inl hk
  .right
   have h1:=hd.1.1
   rw [EI.2 hk] at h1
   simp only [Bool.true_and,Bool.not_eq_false'] at h1
   exact ⟨h1,hd.1.2⟩
open Classical in
theorem Vd {x0:dK}(hB:x0.Objects.length<=4294967296):∀(n j:Nat) (u1:Int),j<=x0.Objects.length->x0.Objects.length-j<n->qw x0 n u1 j=if ∀i,j<=i->i<x0.Objects.length->kM x0 (i:Nat)=true then (true,u1,default) else (false,default,9)
 |0,j,_,_,h=>by omega
 |n+1,j,u1,hj,hn=>by
  simp only [qw,iZ]
  by_cases hlt:j<x0.Objects.length
  .have e1:(!decide ((j:Int)<(x0.Objects.length:Int)))=false:=by rw [decide_eq_true (by omega)];rfl
   rw [e1]
   simp only [cond_false]
   cases ho:kM x0 (j:Nat) with
   |false=>
    rw [if_neg (fun hh=>by have:=hh j (Nat.le_refl _) hlt;rw [ho] at this;cases this)]
    rfl
   |true=>
    simp only [Bool.not_true,cond_false]
    rw [oM (by omega) (by omega)]
    have e2:((j:Int)+1)=((j+1:Nat):Int):=by omega
    rw [e2,Vd hB n (j+1) u1 (by omega) (by omega)]
    have:(∀i,j+1<=i->i<x0.Objects.length->kM x0 (i:Nat)=true)↔(∀i,j<=i->i<x0.Objects.length->kM x0 (i:Nat)=true):=by
     constructor
     .intro hh i h1 h2
      by_cases e:i=j
      .subst e;exact ho
      .exact hh i (by omega) h2
     .intro hh i h1 h2;exact hh i (by omega) h2
    simp only [this]
  .have e1:(!decide ((j:Int)<(x0.Objects.length:Int)))=true:=by rw [decide_eq_false (by omega)];rfl
   rw [e1,if_pos (fun i h1 h2=>by omega)]
   rfl
theorem abA {x0:dK}(h:decide ((jy dN.enc x0.Objects:Int) > 4096)=false):x0.Objects.length<=4294967296:=by
 have:=of_decide_eq_false h
 rw [iZ] at this;omega
theorem Ve {x0:dK}(h:∀i,i<x0.Objects.length->kM x0 (i:Nat)=true):Zo x0:=by
 intro i hi hk
 rcases GI (h i hi) with h1|⟨h1,h2⟩
 .exact absurd h1 hk
 .have:=Zd h2 h1
  exact this
theorem anB {x0:dK}(hB:x0.Objects.length<=4294967296)(h:lW (qw x0 (x0.Objects.length+1) 0 0).1=0):Zo x0:=by
 have e:=Vd hB (x0.Objects.length+1) 0 0 (Nat.zero_le _) (by omega)
 have e0:((0:Nat):Int)=0:=rfl
 rw [e0] at e
 rw [e] at h
 split at h<;>rename_i hc
 .exact Ve fun i hi=>hc i (Nat.zero_le _) hi
 .simp [lW] at h
structure HOk (h:dK):Prop where
 len:h.Objects.length<=4096
 obj:∀i,i<h.Objects.length->kM h (i:Nat)=true
 lps:rW h=false
theorem w_ {h:dK}:jr h=0↔HOk h:=by
 unfold jr
 dsimp only
 rw [iZ]
 by_cases hl:h.Objects.length<=4096
 .have e1:decide ((h.Objects.length:Int) > 4096)=false:=decide_eq_false (by omega)
  have e:=Vd (x0:=h) (by omega) (h.Objects.length+1) 0 0 (Nat.zero_le _) (by omega)
  have e0:((0:Nat):Int)=0:=rfl
  rw [e0] at e
  rw [e1,e]
  simp only [cond_false]
  by_cases hc:∀i,0<=i->i<h.Objects.length->kM h (i:Nat)=true
  .rw [if_pos hc]
   have e2:(!dW (lW true) 0)=false:=rfl
   simp only [e2,cond_false]
   cases hL:rW h with
   |true=>exact ⟨fun h=>absurd h (by decide),fun h=>by have:=h.lps;rw [hL] at this;cases this⟩
   |false=>exact ⟨fun _=>⟨hl,fun i hi=>hc i (Nat.zero_le _) hi,hL⟩,fun _=>rfl⟩
  .rw [if_neg hc]
   have e2:(!dW (lW false) 0)=true:=rfl
   simp only [e2,cond_true]
   exact ⟨fun h=>absurd h (by decide),fun h=>absurd (fun i _ hi=>h.obj i hi) hc⟩
 .have e1:decide ((h.Objects.length:Int) > 4096)=true:=decide_eq_true (by omega)
  rw [e1]
  exact ⟨fun h=>absurd h (by simp),fun h=>absurd h.len hl⟩
theorem HOk.pok {h:dK}(k:HOk h):Zo h:=Ve k.obj
theorem aqp {h:dK}(hC:jr h=0){i:Nat}:hIn h (h.Objects.getD i default).fB:=by
 have k:=w_.1 hC
 intro hi
 by_cases hl:i<h.Objects.length
 .rcases GI (k.obj i hl) with h1|⟨h1,h2⟩
  .unfold dR at hi
   simp only [Int.toNat_natCast] at h1
   rw [h1] at hi;simp at hi
  .exact Zd h2 h1
 .have h0:h.Objects.getD i default=default:=by rw [List.getD_eq_getElem?_getD,List.getElem?_eq_none (by omega)];rfl
  rw [h0] at hi;cases hi
def run (h:dK):Nat->Nat->Bool
 |0,_=>false
 |n+1,i=>bif dW (DF h i) 1 then true else run h n (CB h i).toNat
theorem RF {h:dK}:∀{n i:Nat},run h n i=true->run h (n+1) i=true
 |0,_,h=>by cases h
 |n+1,i,hr=>by
  simp only [run] at hr ⊢
  cases hk:dW (DF h i) 1 with
  |true=>rfl
  |false=>rw [hk] at hr;exact RF hr
theorem aqr {h:dK}{n m i:Nat}(hr:run h n i=true)(hm:n<=m):run h m i=true:=by
 obtain ⟨k,rfl⟩:=Nat.le.dest hm
 clear hm
 induction k with
 |zero=>exact hr
 |succ k ih=>exact RF ih
theorem P8 {h:dK}{i:Nat}:∀{n:Nat},run h n i=true->∃k,run h (k+1) i=true/\run h k i=false
 |0,hr=>by cases hr
 |n+1,hr=>by
  cases hk:run h n i with
  |false=>exact ⟨n,hr,hk⟩
  |true=>exact P8 hk
def Vf (h:dK):Prop:=∀i,i<h.Objects.length->∃n,run h n i=true
def ayI (h:dK):Nat->Nat->List Nat
 |0,_=>[]
 |n+1,i=>i::ayI h n (CB h i).toNat
theorem XE {h:dK}:∀{n i:Nat},run h n i=true->(n=0\/run h (n-1) i=false)->∀x∈ayI h n i,run h n x=true
 |0,i,hr,_=>by cases hr
 |n+1,i,hr,hl=>by
  intro x hx
  rcases List.mem_cons.1 hx with rfl|hx
  .exact hr
  .cases n with
   |zero=>cases hx
   |succ n=>
    have hl:run h (n+1) i=false:=by simpa using hl
    have hk:dW (DF h i) 1=false:=by
     cases hk:dW (DF h i) 1 with
     |false=>rfl
     |true=>simp only [run,hk,cond_true] at hl;cases hl
    have h1:run h (n+1) (CB h i).toNat=true:=by
     have:run h (n+2) i=(bif dW (DF h i) 1 then true else run h (n+1) (CB h i).toNat):=rfl
     rw [this,hk] at hr;exact hr
    have h2:run h n (CB h i).toNat=false:=by
     have:run h (n+1) i=(bif dW (DF h i) 1 then true else run h n (CB h i).toNat):=rfl
     rw [this,hk] at hl;exact hl
    exact RF (XE h1 (.inr (by simpa using h2)) x hx)
theorem abC {h:dK}(hP:Zo h):∀{n i:Nat},i<h.Objects.length->run h (n+1) i=true->run h n i=false->(ayI h (n+1) i).Nodup/\(∀x∈ayI h (n+1) i,x<h.Objects.length)/\(ayI h (n+1) i).length=n+1
 |0,i,hi,hr,hl=>by simp [ayI,hi]
 |n+1,i,hi,hr,hl=>by
  have hk:dW (DF h i) 1=false:=by
   cases hk:dW (DF h i) 1 with
   |false=>rfl
   |true=>simp only [run,hk,cond_true] at hl;cases hl
  have h1:run h (n+1) (CB h i).toNat=true:=by
   have:run h (n+2) i=(bif dW (DF h i) 1 then true else run h (n+1) (CB h i).toNat):=rfl
   rw [this,hk] at hr;exact hr
  have h2:run h n (CB h i).toNat=false:=by
   have:run h (n+1) i=(bif dW (DF h i) 1 then true else run h n (CB h i).toNat):=rfl
   rw [this,hk] at hl;exact hl
  obtain ⟨p0,p1⟩:=hP i hi (yI.1 hk)
  obtain ⟨c1,c2,c3⟩:=abC hP (i:=(CB h i).toNat) (by omega) h1 h2
  refine ⟨?_,?_,?_⟩
  .show (i::ayI h (n+1) (CB h i).toNat).Nodup
   refine List.nodup_cons.2 ⟨fun hm=>?_,c1⟩
   have:=XE h1 (.inr (by simpa using h2)) i hm
   rw [hl] at this;cases this
  .intro x hx
   rcases List.mem_cons.1 hx with rfl|hx
   .exact hi
   .exact c2 x hx
  .show (i::ayI h (n+1) (CB h i).toNat).length=_
   rw [List.length_cons,c3]
theorem anC {h:dK}(hP:Zo h)(ha:Vf h){i:Nat}(hi:i<h.Objects.length):run h h.Objects.length i=true:=by
 obtain ⟨n,hn⟩:=ha i hi
 obtain ⟨k,h1,h2⟩:=P8 hn
 obtain ⟨c1,c2,c3⟩:=abC hP hi h1 h2
 have:=List.Nodup.length_le_of_subset c1 (l₂:=List.range h.Objects.length) fun x hx=>List.mem_range.2 (c2 x hx)
 rw [c3,List.length_range] at this
 exact aqr h1 this
theorem abD {x0:dK}{u4:List Bool}:∀{n:Nat} {u5:Bool} {u6:Int} {m:List (Int×Bool)},kQ x0 u4 n u5 u6 m=true->(iM x0 u4 n u5 u6 m).1=true\/((iM x0 u4 n u5 u6 m).1=false/\(iM x0 u4 n u5 u6 m).2.2.2.2.1=true)
 |0,_,_,_,h=>by cases h
 |n+1,u5,u6,m,h=>by
  simp only [kQ] at h
  simp only [iM]
  cases hb:(!(!(u4.getD u6.toNat default))) with
  |true=>exact .inl rfl
  |false=>
   cases hg:(nS false u6 m).2 with
   |true=>exact .inr ⟨rfl,rfl⟩
   |false=>
    cases hq:dW (x0.Objects.getD u6.toNat default).fB.Kind 1 with
    |true=>exact .inl rfl
    |false=>
     rw [hb,hg,hq] at h
     exact abD h
theorem XF {x0:dK}(hP:Zo x0){u4:List Bool}(hd:∀i,u4.getD i default=true->∃n,run x0 n i=true):∀{n:Nat} {u5:Bool} {u6:Int} {m:List (Int×Bool)},(iM x0 u4 n u5 u6 m).1=true->
  (∃k,run x0 k u6.toNat=true)/\(∀e∈(iM x0 u4 n u5 u6 m).2.2.2.1,e∈m\/∃k,run x0 k e.1.toNat=true)/\(∀e∈m,∃e'∈(iM x0 u4 n u5 u6 m).2.2.2.1,e'.1=e.1)/\(u4.getD u6.toNat default=true\/∃e'∈(iM x0 u4 n u5 u6 m).2.2.2.1,e'.1=u6)
 |0,_,_,_,h=>by cases h
 |n+1,u5,u6,m,h=>by
  have hput:∀{l:List (Int×Bool)},(∀e∈nT u6 true l,e∈l\/e=(u6,true))/\(∀e∈l,∃e'∈nT u6 true l,e'.1=e.1)/\(u6,true)∈nT u6 true l:=by
   intro l
   induction l with
   |nil=>exact ⟨fun e he=>.inr (by simpa [nT] using he),fun e he=>(by cases he),by simp [nT]⟩
   |cons a r ih=>
    obtain ⟨i1,i2,i3⟩:=ih
    simp only [nT]
    by_cases hc:u6=a.1
    .rw [if_pos hc]
     refine ⟨fun e he=>?_,fun e he=>?_,by simp⟩
     .rcases List.mem_cons.1 he with rfl|he
      .exact .inr rfl
      .exact .inl (List.mem_cons_of_mem _ he)
     .rcases List.mem_cons.1 he with rfl|he
      .exact ⟨_,List.mem_cons_self ..,hc⟩
      .exact ⟨e,List.mem_cons_of_mem _ he,rfl⟩
    .rw [if_neg hc]
     refine ⟨fun e he=>?_,fun e he=>?_,List.mem_cons_of_mem _ i3⟩
     .rcases List.mem_cons.1 he with rfl|he
      .exact .inl (List.mem_cons_self ..)
      .rcases i1 e he with h|h
       .exact .inl (List.mem_cons_of_mem _ h)
       .exact .inr h
     .rcases List.mem_cons.1 he with rfl|he
      .exact ⟨_,List.mem_cons_self ..,rfl⟩
      .obtain ⟨e',h1,h2⟩:=i2 e he
       exact ⟨e',List.mem_cons_of_mem _ h1,h2⟩
  simp only [iM] at h ⊢
  cases hb:(!(!(u4.getD u6.toNat default))) with
  |true=>
   have hb':u4.getD u6.toNat default=true:=by simpa using hb
   exact ⟨hd _ hb',fun e he=>.inl he,fun e he=>⟨e,he,rfl⟩,.inl hb'⟩
  |false=>
   cases hg:(nS false u6 m).2 with
   |true=>rw [hb,hg] at h;cases h
   |false=>
    obtain ⟨p1,p2,p3⟩:=hput (l:=m)
    cases hq:dW (x0.Objects.getD u6.toNat default).fB.Kind 1 with
    |true=>
     have hr:run x0 1 u6.toNat=true:=by
      show (bif dW (DF x0 u6.toNat) 1 then true else _)=true
      unfold DF;rw [hq];rfl
     refine ⟨⟨1,hr⟩,fun e he=>?_,p2,.inr ⟨_,p3,rfl⟩⟩
     rcases p1 e he with h' | h'
     .exact .inl h'
     .subst h';exact .inr ⟨1,hr⟩
    |false=>
     rw [hb,hg,hq] at h
     simp only [cond_false] at h ⊢
     obtain ⟨⟨k,a1⟩,a2,a3,a4⟩:=XF hP hd h
     have hr:run x0 (k+1) u6.toNat=true:=by
      show (bif dW (DF x0 u6.toNat) 1 then true else run x0 k (CB x0 u6.toNat).toNat)=true
      unfold DF CB;rw [hq];exact a1
     refine ⟨⟨k+1,hr⟩,fun e he=>?_,fun e he=>?_,.inr ?_⟩
     .rcases a2 e he with h' | h'
      .rcases p1 e h' with h'' | h''
       .exact .inl h''
       .subst h'';exact .inr ⟨k+1,hr⟩
      .exact .inr h'
     .obtain ⟨e1,q1,q2⟩:=p2 e he
      obtain ⟨e2,q3,q4⟩:=a3 e1 q1
      exact ⟨e2,q3,q4.trans q2⟩
     .obtain ⟨e2,q3,q4⟩:=a3 _ p3
      exact ⟨e2,q3,q4⟩
theorem abE {m:List (Int×Bool)}{d:List Bool}{i:Nat}(hi:i<d.length):(NV m d).getD i default=(d.getD i default||m.any fun e=>Nat.beq e.1.toNat i):=by
 simp [NV,List.getD_eq_getElem?_getD,List.getElem?_mapIdx,hi]
theorem abG {m:List (Int×Bool)}{d:List Bool}:(NV m d).length=d.length:=by simp [NV]
theorem abH {x0:dK}(hP:Zo x0)(hB:x0.Objects.length<=4294967296):∀(n j:Nat) (u2:Bool) (u4:List Bool),j<=x0.Objects.length->x0.Objects.length-j<n->u4.length=x0.Objects.length->
  (∀i,u4.getD i default=true->∃k,run x0 k i=true)->(∀i,i<j->u4.getD i default=true)->
  ((lK x0 n u2 j u4).1=true/\Vf x0)\/((lK x0 n u2 j u4).1=false/\(lK x0 n u2 j u4).2.2.2.1=true)
 |0,j,_,_,_,h,_,_,_=>by omega
 |n+1,j,u2,u4,hj,hn,hl,hd,ha=>by
  simp only [lK,iZ]
  by_cases hlt:j<x0.Objects.length
  .have e1:(!decide ((j:Int)<(x0.Objects.length:Int)))=false:=by rw [decide_eq_true (by omega)];rfl
   rw [e1]
   simp only [cond_false]
   rcases abD (P7 hP (u4:=u4) (u2:=u2) (u3:=(j:Int))) with hw|⟨hw,hw2⟩
   .rw [hw]
    have e2:(!dW (lW true) 0)=false:=rfl
    simp only [e2,cond_false]
    rw [oM (by omega) (by omega)]
    have e3:((j:Int)+1)=((j+1:Nat):Int):=by omega
    rw [e3]
    obtain ⟨a1,a2,a3,a4⟩:=XF hP hd hw
    generalize (iM x0 u4 (x0.Objects.length+3) u2 (j:Int) []).2.2.2.1=m at a2 a4
    refine abH hP hB n (j+1) _ _ (by omega) (by omega) (by rw [abG,hl]) (fun i hi=>?_) (fun i hi=>?_)
    .by_cases hil:i<u4.length
     .rw [abE hil,Bool.or_eq_true] at hi
      rcases hi with hi|hi
      .exact hd i hi
      .rw [List.any_eq_true] at hi
       obtain ⟨e,he,hei⟩:=hi
       have hei:=Nat.eq_of_beq_eq_true hei
       rcases a2 e he with h' | h'
       .cases h'
       .rw [hei] at h';exact h'
     .rw [List.getD_eq_getElem?_getD,List.getElem?_eq_none (by rw [abG];omega)] at hi;cases hi
    .rw [abE (by omega),Bool.or_eq_true]
     by_cases hij:i<j
     .exact .inl (ha i hij)
     .have:i=j:=by omega
      subst this
      rcases a4 with a4|⟨e,he,hei⟩
      .left;simpa using a4
      .right
       rw [List.any_eq_true]
       exact ⟨e,he,by rw [hei];simp⟩
   .rw [hw]
    have e2:(!dW (lW false) 0)=true:=rfl
    simp only [e2,cond_true]
    exact .inr ⟨trivial,hw2⟩
  .have e1:(!decide ((j:Int)<(x0.Objects.length:Int)))=true:=by rw [decide_eq_false (by omega)];rfl
   rw [e1]
   simp only [cond_true]
   exact .inl ⟨trivial,fun i hi=>hd i (ha i (by omega))⟩
theorem ak9 {n i:Nat}:(List.replicate n false).getD i default=false:=by
 rw [List.getD_eq_getElem?_getD,List.getElem?_replicate]
 split<;>rfl
theorem aee {x0:dK}(hP:Zo x0)(hB:x0.Objects.length<=4294967296)(h:rW x0=false):Vf x0:=by
 unfold rW at h
 dsimp only at h
 rw [iZ,Int.toNat_natCast] at h
 have e0:((0:Nat):Int)=0:=rfl
 rcases abH hP hB (x0.Objects.length+1) 0 false (List.replicate x0.Objects.length false) (Nat.zero_le _) (by omega) (by simp) (fun i hi=>by rw [ak9] at hi;cases hi) (fun i hi=>by omega) with ⟨h1,h2⟩|⟨h1,h2⟩
 .exact h2
 .rw [e0] at h1 h2
  rw [h1] at h
  have e2:(!dW (lW false) 0)=true:=rfl
  rw [e2] at h
  simp only [cond_true] at h
  rw [h2] at h;cases h
theorem HOk.anD {h:dK}(k:HOk h):Vf h:=aee k.pok (by have:=k.len;omega) k.lps
theorem abI {x0:dK}{x1:Int}:∀{k:Nat} {u3:Bool} {v:dL},(dR v=true->run x0 k v.Ref.toNat=true)->jT x0 x1 (k+1) u3 v=true
 |k,u3,v,hr=>by
  simp only [jT]
  cases ho:dR v with
  |false=>rfl
  |true=>
   simp only [Bool.not_true,cond_false]
   cases dW v.Ref x1 with
   |true=>rfl
   |false=>
    simp only [cond_false]
    cases dW (x0.Objects.getD v.Ref.toNat default).Kind 6 with
    |true=>rfl
    |false=>
     simp only [cond_false]
     have hr:=hr ho
     match k,hr with
     |0,hr=>cases hr
     |j+1,hr=>
      refine abI fun hp=>?_
      have:run x0 (j+1) v.Ref.toNat=(bif dW (DF x0 v.Ref.toNat) 1 then true else run x0 j (CB x0 v.Ref.toNat).toNat):=rfl
      rw [this] at hr
      cases hk:dW (DF x0 v.Ref.toNat) 1 with
      |false=>rw [hk] at hr;exact hr
      |true=>
       have hk:=mD.1 hk
       unfold DF at hk
       unfold dR at hp
       rw [hk] at hp;simp at hp
theorem Vg {x0:dK}(hC:jr x0=0){x1:Int}{x2:dL}(h2:hIn x0 x2){u3:Bool}:jT x0 x1 (x0.Objects.length+1) u3 x2=true:=by
 have k:=w_.1 hC
 exact abI fun ho=>anC k.pok k.anD (by have:=h2 ho;omega)
theorem aqs {h:dK}{v:dL}(q:jS h v=true):hIn h v:=by
 intro i
 unfold jS at q
 dsimp only at q
 rw [i] at q
 simp only [Bool.not_true,cond_false] at q
 obtain ⟨q1,-⟩:=JB q
 rw [iZ] at q1
 simp only [Bool.or_eq_false_iff,Bool.not_eq_false',decide_eq_false_iff_not] at q1
 exact ⟨Ov q1.1,by omega⟩
theorem abJ {h:dK}{v:dL}(q:jQ h v=true):hIn h v:=by
 unfold jQ at q
 dsimp only at q
 rw [Bool.and_eq_true] at q
 exact aqs q.2
theorem ak_ {x0:dK}{a:gK}(h1:dW a.Method 2=true)(h2:je (jF x0 a) 0=false):hIn x0 a.Value:=by
 have h2:=qC.1 h2
 have h1:=mD.1 h1
 unfold jF at h2
 dsimp only at h2
 rw [h1] at h2
 cases hp:jQ x0 a.Value with
 |true=>exact abJ hp
 |false=>
  rw [hp] at h2
  simp only [show dW 2 1=false from rfl,show dW 2 2=true from rfl,show dW 2 3=false from rfl,show dW 2 4=false from rfl,show dW 2 11=false from rfl,Bool.or_self,Bool.not_false,Bool.and_self,cond_true] at h2
  generalize (decide (a.Object<0)||decide (a.Object>=jy dN.enc x0.Objects))=c1 at h2
  generalize (!(dW (x0.Objects.getD a.Object.toNat default).Kind 1||(dW (x0.Objects.getD a.Object.toNat default).Kind 4||dW (x0.Objects.getD a.Object.toNat default).Kind 5)))=c2 at h2
  cases c1<;>cases c2<;>simp at h2
theorem abK {x0:dK}{a:gK}(h:(jI x0 a).2.2=0):jr x0=0/\jF x0 a=0:=by
 unfold jI at h
 dsimp only at h
 cases hc:je (jr x0) 0 with
 |true=>rw [hc] at h;exact absurd h (EI.1 hc)
 |false=>
  rw [hc] at h
  simp only [cond_false] at h
  cases hw:je (jF x0 a) 0 with
  |true=>rw [hw] at h;exact absurd h (EI.1 hw)
  |false=>exact ⟨qC.1 hc,qC.1 hw⟩
end Go.Fw
end
section
namespace Go.Fw
theorem ay3 {α:Type}[Inhabited α]{l:List α}{i:Nat}:l.set i (l.getD i default)=l:=by
 apply List.ext_getElem?
 intro j
 rw [List.getElem?_set]
 by_cases h:i=j
 .subst h
  rw [if_pos rfl]
  by_cases h2:i<l.length
  .rw [if_pos h2,List.getD_eq_getElem?_getD,List.getElem?_eq_getElem h2];rfl
  .rw [if_neg h2,List.getElem?_eq_none (by omega)]
 .rw [if_neg h]
theorem afM {x0:dK}(hB:x0.Objects.length<=4294967296):∀(n j:Nat) (l:List dN),j<=x0.Objects.length->x0.Objects.length-j<n->lS x0 n j l=l
 |0,j,l,_,h=>by omega
 |n+1,j,l,hj,hn=>by
  simp only [lS,iZ,EW]
  by_cases hlt:j<x0.Objects.length
  .have e1:(!decide ((j:Int)<(x0.Objects.length:Int)))=false:=by rw [decide_eq_true (by omega)];rfl
   rw [e1,oM (by omega) (by omega)]
   simp only [cond_false]
   have e2:((j:Int)+1)=((j+1:Nat):Int):=by omega
   rw [e2,ay3,afM hB n (j+1) l (by omega) (by omega)]
  .have e1:(!decide ((j:Int)<(x0.Objects.length:Int)))=true:=by rw [decide_eq_false (by omega)];rfl
   rw [e1];rfl
theorem ahS {x0:dK}(hB:x0.Objects.length<=4294967296){l:List dN}:lS x0 (x0.Objects.length+1) 0 l=l:=afM hB _ 0 l (Nat.zero_le _) (by omega)
theorem QH {x0:dK}:∀(n:Nat) (j:Int) (l:List dN),(lS x0 n j l).length<=l.length
 |0,j,l=>Nat.zero_le _
 |n+1,j,l=>by
  simp only [lS]
  cases (!(decide ((j:Int)<(jy dN.enc x0.Objects)))) with
  |true=>exact Nat.le_refl _
  |false=>exact Nat.le_trans (QH n _ _) (by simp)
theorem Vh (x0:dK):Jv x0=zn x0:=by
 unfold Jv zn
 dsimp only
 rw [iZ,Int.toNat_natCast]
 generalize hr:lS x0 (x0.Objects.length+1) 0 _=r
 have:=QH (x0:=x0) (x0.Objects.length+1) 0 (List.take x0.Objects.length x0.Objects++List.drop (min x0.Objects.length x0.Objects.length) (List.replicate x0.Objects.length (dN.mk 0 (dL.mk 0 0 [] 0) false [] (dL.mk 0 0 [] 0) (dL.mk 0 0 [] 0) [] false false)))
 rw [hr] at this
 rw [List.drop_zero,Nat.sub_zero,List.take_of_length_le]
 simpa using this
theorem anE {x0:dK}(hb:x0.Objects.length<=4294967296):zn x0=x0:=by
 unfold zn
 dsimp only
 rw [iZ,Int.toNat_natCast,ahS hb]
 cases x0
 simp
def d0 : dJ:=dJ.mk 0 (dL.mk 0 0 [] 0) (dL.mk 0 0 [] 0) (dL.mk 0 0 [] 0) false false false
def v00 : dL:=dL.mk 0 0 [] 0
def xw (h:dK)(a:gK):dK×gQ×Int:=
 let o:=h.Objects.getD a.Object.toNat default
 let st (o':dN):dK:=⟨h.Objects.set a.Object.toNat o'⟩
 let f:=fK o.Props a.Key
 bif dW a.Method 1 then (h,⟨1,o.fB,false,false,d0,[],0,[]⟩,0)
 else bif dW a.Method 2 then (bif eH a.Value o.fB||!o.Ext||iQ h a.Object a.Value then (h,eu (eH a.Value o.fB),0) else (st {o with fB:=a.Value},eu true,0))
 else bif dW a.Method 3 then (h,eu o.Ext,0)
 else bif dW a.Method 4 then (st {o with Ext:=false},eu true,0)
 else bif dW a.Method 5 then (h,⟨1,v00,false,f.2.1,f.1,[],0,[]⟩,0)
 else bif dW a.Method 6 then
  let ap:=gG o.Ext a.dS f.2.1 f.1
  let pt:=ku o.Props a.Key ap.1
  bif !ap.2.1 then (h,eu false,0) else bif je pt.2 0 then (h,⟨3,v00,false,false,d0,[],2,[116,111,111,32,109,97,110,121]⟩,0) else (st {o with Props:=pt.1},eu true,0)
 else bif dW a.Method 10 then
  bif f.2.1&&!f.1.Configurable then (h,eu false,0) else (st {o with Props:=(rV o.Props a.Key).1},eu true,0)
 else (h,⟨1,v00,false,false,d0,(kH o.Props).1,0,[]⟩,0)
theorem ay2 {l:List dN}{i:Nat}{x:dN}:((l.set i x).drop 0).take (l.length-0)=l.set i x:=by
 rw [List.drop_zero,Nat.sub_zero,List.take_of_length_le (by simp)]
theorem ala {x0:dK}{a:gK}(hC:jr x0=0)(hw:jF x0 a=0):jI x0 a=xw x0 a:=by
 have hk:=(w_.1 hC).len
 unfold jI xw
 dsimp only
 rw [qC.2 hC,qC.2 hw,anE (by omega)]
 simp only [cond_false,iZ,Int.toNat_natCast,ay2]
 generalize x0.Objects.getD a.Object.toNat default=o
 cases m1:dW a.Method 1 with
 |true=>rfl
 |false=>
  simp only [cond_false]
  cases m2:dW a.Method 2 with
  |true=>
   simp only [Bool.true_and]
   cases hs:eH a.Value o.fB with
   |true=>rfl
   |false=>
    cases (!o.Ext) with
    |true=>rfl
    |false=>cases iQ x0 a.Object a.Value<;>rfl
  |false=>
   simp only [Bool.false_and,cond_false]
   cases m3:dW a.Method 3 with
   |true=>rfl
   |false=>
    cases m4:dW a.Method 4 with
    |true=>rfl
    |false=>
     cases m5:dW a.Method 5 with
     |true=>rfl
     |false=>
      simp only [cond_false]
      cases m6:dW a.Method 6 with
      |true=>
       simp only [Bool.true_and]
       cases (gG o.Ext a.dS (fK o.Props a.Key).2.1 (fK o.Props a.Key).1).2.1 with
       |false=>rfl
       |true=>
        simp only [Bool.not_true,Bool.false_or]
        cases je (ku o.Props a.Key (gG o.Ext a.dS (fK o.Props a.Key).2.1 (fK o.Props a.Key).1).1).2 0<;>rfl
      |false=>
       simp only [Bool.false_and,cond_false]
       cases m10:dW a.Method 10 with
       |true=>
        simp only [Bool.true_and]
        cases ((fK o.Props a.Key).2.1&&!(fK o.Props a.Key).1.Configurable)<;>rfl
       |false=>rfl
theorem XG {l:List dM}:(kH l).1.length<=1024:=by
 unfold kH
 dsimp only
 cases hc:je (jA l) 0 with
 |true=>simp
 |false=>
  have hc:=qC.1 hc
  simp only [cond_false]
  by_cases hl:l.length<=1024
  .have e:=JA (x0:=l) (by omega) (l.length+1) 0 [] (Nat.zero_le _) (by omega)
   have e0:((0:Nat):Int)=0:=rfl
   rw [e0] at e
   rw [VG,e]
   simpa using hl
  .unfold jA at hc
   dsimp only at hc
   rw [iZ,decide_eq_true (by omega)] at hc
   cases hc
theorem alb {h:dK}{a:gK}:(xw h a).2.1.Keys.length<=1024:=by
 unfold xw
 dsimp only
 cases dW a.Method 1 with
 |true=>simp
 |false=>
  cases dW a.Method 2 with
  |true=>simp only [cond_false,cond_true];cases (eH a.Value (h.Objects.getD a.Object.toNat default).fB||!(h.Objects.getD a.Object.toNat default).Ext||iQ h a.Object a.Value)<;>simp [eu]
  |false=>
   cases dW a.Method 3 with
   |true=>simp [eu]
   |false=>
    cases dW a.Method 4 with
    |true=>simp [eu]
    |false=>
     cases dW a.Method 5 with
     |true=>simp
     |false=>
      cases dW a.Method 6 with
      |true=>
       simp only [cond_false,cond_true]
       generalize (gG (h.Objects.getD a.Object.toNat default).Ext a.dS (fK (h.Objects.getD a.Object.toNat default).Props a.Key).2.1 (fK (h.Objects.getD a.Object.toNat default).Props a.Key).1)=ap
       generalize ku (h.Objects.getD a.Object.toNat default).Props a.Key ap.1=pt
       cases (!ap.2.1)<;>cases (je pt.2 0)<;>simp [eu]
      |false=>
       cases dW a.Method 10 with
       |true=>simp only [cond_false,cond_true];cases ((fK (h.Objects.getD a.Object.toNat default).Props a.Key).2.1&&!(fK (h.Objects.getD a.Object.toNat default).Props a.Key).1.Configurable)<;>simp [eu]
       |false=>exact XG
theorem Ox {x0:dK}{a:gK}(h:(jI x0 a).2.2=0):jX x0 a=((xw x0 a).1,(xw x0 a).2.1):=by
 unfold jX
 dsimp only
 rw [qC.2 h,ala (abK h).1 (abK h).2];rfl
theorem ahT {x0:dK}{x1:Int}{x2:dI}:m_ (List.map dI.enc (rX x0 x1 x2).keys)<=4294967296:=by
 rw [Va]
 unfold rX
 dsimp only
 generalize (gK.mk 11 x1 (dI.mk [] 0) (dJ.mk 0 (dL.mk 0 0 [] 0) (dL.mk 0 0 [] 0) (dL.mk 0 0 [] 0) false false false) (dL.mk 0 0 [] 0) (dL.mk 0 0 [] 0) [])=a
 by_cases h:(jI x0 a).2.2=0
 .rw [Ox h]
  have:(xw x0 a).2.1.Keys.length<=1024:=alb
  show ((xw x0 a).2.1.Keys.length:Int)<=4294967296
  omega
 .unfold jX
  dsimp only
  rw [EI.2 h]
  simp
end Go.Fw
end
section
namespace Go.Fw
open Go.Proofs
set_option maxRecDepth 100000
theorem j_ : Tryz.prog.follows .mixedOrders=true:=by kernel_rfl
theorem vF (x0:Nat):PC Tryz.prog 156 [.p (.float .f64 x0)] (.p (.int .u64 (oC x0))):=
 YK (fn:=Tryz.f156) (e:=Extern.MathFloatBits.float64bits) (by kernel_rfl) (by kernel_rfl) (by kernel_rfl) (by kernel_rfl) (by kernel_rfl) rfl rfl rfl rfl
theorem xg (x0:Int):PC Tryz.prog 155 [.p (.int .u64 x0)] (.p (.float .f64 (pK x0))):=
 YK (fn:=Tryz.f155) (e:=Extern.MathFloatBits.float64frombits) (by kernel_rfl) (by kernel_rfl) (by kernel_rfl) (by kernel_rfl) (by kernel_rfl) rfl rfl rfl rfl
theorem DI (x0:Nat)(h:Jh x0):PC Tryz.prog 153 [.p (.float .f64 x0)] (.p (.float .f64 (jC x0))):=
 YK (fn:=Tryz.f153) (e:=Extern.MathFloor.toIntegral "math.archTrunc" .zero) (by kernel_rfl) (by kernel_rfl) (by kernel_rfl) (by kernel_rfl) (by kernel_rfl) rfl (ahe h) rfl rfl
def alc : YM:=⟨125,128,126,136,137,144⟩
theorem asu : aod Tryz.prog alc where
 vo:=fun args w=>run_callFunc_extern Tryz.func125 (by kernel_rfl) (by kernel_rfl) (by kernel_rfl) (e:=fun args=>Extern.ReflectliteValue.unpack (args.getD 0 (.tuple #[]))) (by kernel_rfl) args w
 ln:=fun args w=>run_callFunc_extern Tryz.func128 (by kernel_rfl) (by kernel_rfl) (by kernel_rfl) (e:=Extern.ReflectliteValue.method (Extern.ReflectliteValue.valueError "reflectlite.Value.Len" 0) Extern.ReflectliteValue.len) (by kernel_rfl) args w
 sw:=fun args w=>run_callFunc_extern Tryz.func126 (by kernel_rfl) (by kernel_rfl) (by kernel_rfl) (e:=Extern.ReflectliteSwapper.swapper "internal/reflectlite" (Extern.ReflectliteValue.valueError "Swapper")) (by kernel_rfl) args w
 l9:=fun args w=>run_callFunc_extern Tryz.func144 (by kernel_rfl) (by kernel_rfl) (by kernel_rfl) (e:=Extern.ReflectliteSwapper.swap false) (by kernel_rfl) args w
 n1:=by kernel_rfl
 n2:=by kernel_rfl
 n9:=by kernel_rfl
end Go.Fw
end
