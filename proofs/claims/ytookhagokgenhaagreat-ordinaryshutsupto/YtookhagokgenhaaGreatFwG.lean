
import Derived.Test.YtookhagokgenhaaGreatFwF
import Derived.Test.YtookhagokgenhaaGreatFwE
import Derived.Test.YtookhagokgenhaaGreatProg
set_option linter.unusedVariables false
set_option linter.unusedSimpArgs false
set_option linter.unusedSectionVars false
set_option linter.unnecessarySimpa false
section
namespace Go.Fw
theorem vW (k:dH):mP k=iG k:=by
 have:sNe k.Str []=decide ((sLen k.Str:Int) > 0):=by
  unfold sNe sLen
  cases k.Str with
  |nil=>simp
  |cons a r=>simp<;>omega
 unfold mP iG
 rw [this]
theorem Ue (k:dH):iG k=9\/iG k=0:=by
 unfold iG
 generalize (_||_)=b
 cases b<;>simp
theorem anc {x:dI}(h:x.ok):qF x=iE x:=by
 unfold qF yR iE
 dsimp only
 rw [Np h]
 rcases vV h with h9|⟨h0,hc⟩
 .simp [h9,iK,dS]
 .have:=OT h.1 hc
  have e:dS (j_ x).Has x.Has=(dS x.Has 51||dS x.Has 60):=by
   rw [asU] at this
   rw [aoF,decide_eq_decide.2 (eq_comm (a:=(j_ x).Has) (b:=x.Has))]
   exact Bool.not_inj this
  simp [h0,iK,dS] at e ⊢
  exact e
def OV (pre:List dH):List dL->Int
 |[]=>0
 |p::r=>bif iK (iG p.Key) 0 then 9 else bif !iE p.dR then 90 else bif decide (p.Key∈pre) then 100 else OV (pre++[p.Key]) r
theorem adi {m:List (dH×Int)}{k k':dH}{v:Int}:(nC (0:Int) k' (nD k v m)).2=if k'=k then v else (nC (0:Int) k' m).2:=by
 induction m with
 |nil=>
  simp only [nD,nC]
  by_cases h:k'=k<;>simp [h]
 |cons e r ih=>
  simp only [nD]
  by_cases h:k=e.1
  .simp only [h,if_true,nC]
   by_cases h2:k'=e.1<;>simp [h2]
  .simp only [h,if_false,nC]
   by_cases h2:k'=e.1
   .have:¬k'=k:=fun e2=>h (e2▸h2)
    simp only [h2,if_true]
    have h3:¬e.1=k:=fun e2=>h e2.symm
    simp [h3]
   .simp only [h2,if_false];exact ih
theorem Wy (x0:List dL)(hl:x0.length<=4294967296)(hok:∀p∈x0,p.dR.ok):∀(n j:Nat) (u1:Int) (m:List (dH×Int)),j<=x0.length->x0.length-j<n->
  (∀k,decide ((nC (0:Int) k m).2 > 0)=decide (k∈(x0.take j).map (·.Key)))->
  (bif !(dS (mZ (oq x0 n u1 j m).1) 0) then (oq x0 n u1 j m).2.2.2.1 else 0)=OV ((x0.take j).map (·.Key)) (x0.drop j)
 |0,j,u1,m,hj,hn,hm=>by omega
 |n+1,j,u1,m,hj,hn,hm=>by
  simp only [oq,axX,ajh (show j<=4294967296 by omega),Int.toNat_natCast]
  by_cases hlt:j<x0.length
  .rw [XZ x0 j hlt]
   have hp:=aoG x0 j hlt
   simp only [hlt,decide_true,Bool.not_true,cond_false,OV,vW,anc (hok _ hp),hm]
   cases h1:iK (iG (x0.getD j default).Key) 0 with
   |true=>
    rcases Ue (x0.getD j default).Key with h9|h9
    .rw [h9];rfl
    .rw [h9] at h1;cases h1
   |false=>
    simp only [cond_false]
    cases h2:iE (x0.getD j default).dR with
    |false=>rfl
    |true=>
     simp only [Bool.not_true,cond_false]
     by_cases h3:(x0.getD j default).Key∈(x0.take j).map (·.Key)
     .simp only [h3,decide_true,cond_true,agp,Bool.not_false]
     .simp only [h3,decide_false,cond_false]
      have hk:(x0.take (j+1)).map (·.Key)=(x0.take j).map (·.Key)++[(x0.getD j default).Key]:=by rw [ajg x0 j hlt,List.map_append];rfl
      rw [Wy x0 hl hok n (j+1) u1 _ (by omega) (by omega) ?_,hk]
      intro k
      rw [adi,hk]
      by_cases he:k=(x0.getD j default).Key
      .subst he
       simp<;>omega
      .simp only [he,if_false,hm k]
       simp only [List.mem_append,List.mem_singleton,he,or_false]
  .simp only [hlt,decide_false,Bool.not_false,cond_true]
   rw [List.drop_eq_nil_iff.2 (by omega)];rfl
theorem ajP {l:List dL}{k:dH}:(pl l k).isSome=decide (k∈l.map (·.Key)):=by
 unfold pl
 rw [List.findIdx?_isSome,Bool.eq_iff_iff,List.any_eq_true,decide_eq_true_iff,List.mem_map]
 constructor
 .rintro ⟨x,hx,h⟩;exact ⟨x,hx,of_decide_eq_true h⟩
 .rintro ⟨x,hx,h⟩;exact ⟨x,hx,decide_eq_true h⟩
theorem agM {l:List dL}{k:dH}(hl:l.length<=4294967296):decide (vP l k>=0)=decide (k∈l.map (·.Key)):=by
 rw [Nq l k hl,<- ajP]
 cases pl l k<;>simp
theorem WA (x0:List dL)(hl:x0.length<=4294967296):∀(n j:Nat) (u1:Int),j<=x0.length->x0.length-j<n->
  (bif !(dS (mZ (tu x0 n u1 j).1) 0) then (tu x0 n u1 j).2.2 else 0)=OV ((x0.take j).map (·.Key)) (x0.drop j)
 |0,j,u1,hj,hn=>by omega
 |n+1,j,u1,hj,hn=>by
  simp only [tu,axX,ajh (show j<=4294967296 by omega),Int.toNat_natCast,List.drop_zero,Int.toNat_zero,Nat.sub_zero]
  by_cases hlt:j<x0.length
  .rw [XZ x0 j hlt]
   generalize hx:x0.getD j default=p
   have hlk:(x0.take j).length<=4294967296:=by simp;omega
   simp only [hlt,decide_true,Bool.not_true,cond_false,OV,agM hlk]
   cases h1:iK (iG p.Key) 0 with
   |true=>simp [agp]
   |false=>
    simp only [cond_false]
    cases h2:iE p.dR with
    |false=>simp [agp]
    |true=>
     simp only [Bool.not_true,cond_false]
     by_cases h3:p.Key∈(x0.take j).map (·.Key)
     .simp only [h3,decide_true,cond_true,agp,Bool.not_false]
     .simp only [h3,decide_false,cond_false]
      have hk:(x0.take (j+1)).map (·.Key)=(x0.take j).map (·.Key)++[p.Key]:=by rw [ajg x0 j hlt,hx];simp
      rw [WA x0 hl n (j+1) u1 (by omega) (by omega),hk]
  .simp only [hlt,decide_false,Bool.not_false,cond_true]
   rw [List.drop_eq_nil_iff.2 (by omega)];simp [agp,OV]
theorem JC (x0:List dL)(hl:x0.length<=4294967296):kV x0=bif decide ((x0.length:Int) > 1024) then 4 else OV [] x0:=by
 unfold kV
 simp only [ji]
 have:=WA x0 hl (x0.length+1) 0 0 (by omega) (by omega)
 simp only [List.take_zero,List.map_nil,List.drop_zero] at this
 rw [<- this]
 rfl
theorem OW (x0:List dL)(hl:x0.length<=4294967296)(hok:∀p∈x0,p.dR.ok):jG x0=kV x0:=by
 rw [JC x0 hl]
 unfold jG
 simp only [ji]
 have:=Wy x0 hl hok (x0.length+1) 0 0 [] (by omega) (by omega) (by intro k;simp [nC])
 simp only [List.take_zero,List.map_nil,List.drop_zero] at this
 rw [<- this]
 rfl
theorem Uf (x0:List dL)(k:dH)(hl:x0.length<=4294967296)(hok:∀p∈x0,p.dR.ok):mg x0 k=oZ x0 k:=by
 unfold mg oZ
 rw [OW x0 hl hok,vW]
theorem Ug : ∀{l:List dL} {pre:List dH},OV pre l=0->(∀p∈l,p.Key∉pre)/\l.Pairwise (fun p q=>p.Key≠q.Key)
 |[],pre,h=>by simp
 |p::r,pre,h=>by
  simp only [OV] at h
  cases h1:iK (iG p.Key) 0 with
  |true=>simp [h1] at h
  |false=>
   simp only [h1,cond_false] at h
   cases h2:iE p.dR with
   |false=>simp [h2] at h
   |true=>
    simp only [h2,Bool.not_true,cond_false] at h
    by_cases h3:p.Key∈pre
    .simp [h3] at h
    .simp only [h3,decide_false,cond_false] at h
     obtain ⟨i1,i2⟩:=Ug h
     refine ⟨fun q hq=>?_,List.pairwise_cons.2 ⟨fun q hq e=>?_,i2⟩⟩
     .cases hq with
      |head=>exact h3
      |tail _ hq=>exact fun hm=>i1 q hq (by simp [hm])
     .exact i1 q hq (by simp [e])
theorem aaB {x0:List dL}{k:dH}(hl:x0.length<=4294967296)(h:oZ x0 k=0):x0.Pairwise (fun p q=>p.Key≠q.Key):=by
 unfold oZ at h
 simp only at h
 have hc:kV x0=0:=by
  by_cases hc:kV x0=0
  .exact hc
  .have:iK (kV x0) 0=true:=J4.2 hc
   simp [this] at h
   exact absurd h hc
 rw [JC x0 hl] at hc
 by_cases hg:(x0.length:Int) > 1024
 .simp [hg] at hc
 .simp only [hg,decide_false,cond_false] at hc
  exact (Ug hc).2
theorem Yi (x0:List dL)(k:dH)(hl:x0.length<=4294967296):∀(n j:Nat) (u3:List dL),j<=x0.length->x0.length-j<n->
  uG x0 k n u3 j=u3++(x0.drop j).filter (fun p=>!decide (p.Key=k))
 |0,j,u3,hj,hn=>by omega
 |n+1,j,u3,hj,hn=>by
  simp only [uG,axX,axG,ajh (show j<=4294967296 by omega),Int.toNat_natCast]
  by_cases hlt:j<x0.length
  .rw [XZ x0 j hlt]
   generalize hx:x0.getD j default=p
   simp only [hlt,decide_true,Bool.not_true,cond_false,List.filter_cons]
   by_cases hk:p.Key=k
   .simp only [hk,decide_true,Bool.not_true,cond_false,Bool.false_eq_true,if_false]
    exact Yi x0 k hl n (j+1) u3 (by omega) (by omega)
   .simp only [hk,decide_false,Bool.not_false,cond_true,if_true]
    rw [Yi x0 k hl n (j+1) _ (by omega) (by omega)]
    simp
  .simp only [hlt,decide_false,Bool.not_false,cond_true]
   rw [List.drop_eq_nil_iff.2 (by omega)];simp
theorem aaC (x0:List dL)(k:dH)(hl:x0.length<=4294967296):Le x0 k=bif iK (oZ x0 k) 0 then ([],oZ x0 k) else (x0.filter (fun p=>!decide (p.Key=k)),0):=by
 unfold Le
 have:=Yi x0 k hl (x0.length+1) 0 [] (by omega) (by omega)
 simp only [List.drop_zero,List.nil_append] at this
 simp only [<- this]
 rfl
theorem WB : ∀{l:List dL} {k:dH},l.Pairwise (fun p q=>p.Key≠q.Key)->l.filter (fun p=>!decide (p.Key=k))=match pl l k with|some i=>l.take i++l.drop (i+1)|none=>l
 |[],k,h=>rfl
 |p::r,k,h=>by
  obtain ⟨h1,h2⟩:=List.pairwise_cons.1 h
  have ih:=WB (l:=r) (k:=k) h2
  simp only [pl,List.findIdx?_cons,List.filter_cons]
  by_cases hk:p.Key=k
  .simp only [hk,decide_true,Bool.not_true,Bool.false_eq_true,if_false,if_true]
   simp only [List.take_zero,List.nil_append,Nat.zero_add,List.drop_succ_cons,List.drop_zero]
   rw [List.filter_eq_self]
   intro q hq
   have:=h1 q hq
   rw [hk] at this
   simp [this.symm]
  .simp only [hk,decide_false,Bool.not_false,if_true,Bool.false_eq_true,if_false]
   rw [ih]
   unfold pl
   cases r.findIdx? (fun p=>decide (p.Key=k))<;>simp
theorem amd (x0:List dL)(k:dH)(hl:x0.length<=4294967296)(hok:∀p∈x0,p.dR.ok):rC x0 k=Le x0 k:=by
 rw [aaC x0 k hl]
 unfold rC
 simp only [ji,Int.toNat_natCast,Uf x0 k hl hok,axM,Int.toNat_zero,Nat.sub_zero,List.drop_zero]
 cases h:iK (oZ x0 k) 0 with
 |true=>rfl
 |false=>
  simp only [cond_false]
  rw [WB (aaB hl (uF.1 h)),Nq x0 k hl]
  cases hp:pl x0 k with
  |none=>simp
  |some i=>
   have hi:=anb hp
   have:decide ((i:Int)<0)=false:=by simp
   simp only [this,cond_false,ajh (show i<=4294967296 by omega),Int.toNat_natCast]
   rw [List.take_of_length_le (l:=x0.drop (i+1)) (by simp)]
end Go.Fw
end
section
namespace Go.Fw
theorem Gw (x0:List dL):kV x0=0->x0.length<=1024:=by
 intro h
 unfold kV at h
 simp only [ji] at h
 by_cases hl:(x0.length:Int) > 1024
 .simp [hl] at h
 .omega
theorem aoZ {x1 x2 x3:Int}{n:Nat}(h0:0<=x1)(h1:x1<x2)(h2:x2<x3)(h3:x3<=4294967296)(hm:(x3-x1).toNat<n+1):(aoY x1 x3-x1).toNat<n/\(x3-aoY x1 x3).toNat<n:=by
 rw [amb h0 (by omega) (by omega)];omega
end Go.Fw
end
section
namespace Go.Fw
theorem Srt.filter {l:List dH}(h:Srt l)(p:dH->Bool):Srt (l.filter p):=List.Pairwise.filter p h
theorem Yy.filter {a b:List dH}(h:Yy a b)(p:dH->Bool):Yy (a.filter p) (b.filter p):=by
 intro q
 have:=h q
 rw [List.filter_filter,List.filter_filter]
 have e:∀l:List dH,l.filter (fun k=>decide (fV k=q)&&p k)=(l.filter (fun k=>decide (fV k=q))).filter p:=by
  intro l;rw [List.filter_filter];congr 1;funext k;rw [Bool.and_comm]
 rw [e a,e b,this]
theorem adk {x0:List dL}(hl:x0.length<=4294967296)(hc:kV x0=0):OV [] x0=0:=by
 have:=Gw x0 hc
 rw [JC x0 hl,decide_eq_false (by omega)] at hc
 exact hc
end Go.Fw
end
section
namespace Go.Fw
set_option maxRecDepth 20000
def ame (n:Int):Prop:=(decide (n > 63)=false->(hb n 2||hb n 3)=false->jw .u8 51 n=n)/\(decide (n > 63)=false->(hb n 0||hb n 1)=false->jw .u8 60 n=n)
instance (n : Int):Decidable (ame n):=by unfold ame;infer_instance
theorem amf : ∀k:Fin 256,ame ((k:Nat):Int):=by decide +kernel
theorem aaD {n:Int}(h:u8 n):ame n:=by
 obtain ⟨h0,h1⟩:=h
 have e':((n.toNat:Nat):Int)=n:=by omega
 have q:=amf ⟨n.toNat,by omega⟩
 rw [show ((((⟨n.toNat,by omega⟩:Fin 256):Nat)):Int)=n from e'] at q
 exact q
def okV (b:Bool)(v:dJ):Bool:=bif b then lX v else iR v
def okG (b:Bool)(v:dJ):Bool:=bif b then iO v else iR v
structure Rc (x:dI):Prop where
 big:decide (x.Has > 63)=false
 da:((hb x.Has 0||hb x.Has 1)&&(hb x.Has 2||hb x.Has 3))=false
 w:(hb x.Has 1||!x.eP)=true
 e:(hb x.Has 4||!x.dY)=true
 c:(hb x.Has 5||!x.Configurable)=true
 v:okV (hb x.Has 0) x.Value=true
 g:okG (hb x.Has 2) x.Get=true
 s:okG (hb x.Has 3) x.Set=true
theorem Uh {x:dI}(h:x.ok):jV x=0↔Rc x:=by
 obtain ⟨h1,h2,h3,h4⟩:=h
 have B:=bits h1
 unfold jV kK je gU
 dsimp only
 rw [B.r1,B.r2,B.r4,B.r8,B.r16,B.r32]
 have two:∀p q:Bool,(bif p then (90:Int) else bif q then 90 else 0)=bif (p||q) then 90 else 0:=by intro p q;cases p<;>rfl
 rw [two]
 have three:∀p:Bool,((bif p then (90:Int) else 0)=0)↔p=false:=by intro p;cases p<;>simp
 rw [three]
 constructor
 .intro h
  simp only [Bool.or_eq_false_iff,Bool.not_eq_false',Bool.and_eq_true] at h
  obtain ⟨⟨q0,q00⟩,⟨⟨q1,q2⟩,q3⟩,⟨q4,q5⟩,q6⟩:=h
  exact ⟨q0,q00,by rw [Bool.or_comm];exact q4,by rw [Bool.or_comm];exact q5,by rw [Bool.or_comm];exact q6,q1,q2,q3⟩
 .intro h
  have hw:=h.w
  have he:=h.e
  have hc:=h.c
  rw [Bool.or_comm] at hw he hc
  have e1:(bif hb x.Has 0 then lX x.Value else iR x.Value)=true:=h.v
  have e2:(bif hb x.Has 2 then iO x.Get else iR x.Get)=true:=h.g
  have e3:(bif hb x.Has 3 then iO x.Set else iR x.Set)=true:=h.s
  rw [h.big,h.da,e1,e2,e3,hw,he,hc]
  rfl
theorem amg {x:dI}(h:x.ok):jV x=90\/jV x=0:=by
 rcases vV h with h|⟨h,-⟩
 .exact .inl h
 .exact .inr h
theorem Rc.chk {x:dI}(h:x.ok)(r:Rc x):Chk x:=by
 rcases vV h with k|⟨-,k⟩
 .have:=(Uh h).2 r
  rw [k] at this;exact absurd this (by decide)
 .exact k
theorem ajQ : lX (dJ.mk 0 0 [] 0)=true:=by decide +kernel
theorem aaE : iO (dJ.mk 0 0 [] 0)=true:=by decide +kernel
theorem Ew {b:Bool}{v:dJ}(hv:v.ok)(h:okV b v=true):lX v=true:=by
 cases b
 .rw [Eu hv h];exact ajQ
 .exact h
theorem rH {b:Bool}{v:dJ}(hv:v.ok)(h:okG b v=true):iO v=true:=by
 cases b
 .rw [Eu hv h];exact aaE
 .exact h
theorem yJ {v:dJ}(h:iO v=true):lX v=true:=by
 unfold iO at h
 dsimp only at h
 rw [Bool.and_eq_true] at h
 exact h.1
theorem tZ {v:dJ}(hv:v.ok)(h:lX v=true):fB v v=true:=by
 rw [yT v v hv hv]
 obtain ⟨k,n,s,r⟩:=v
 obtain ⟨hk,hn⟩:=hv
 dsimp only at hk hn
 unfold yE xg
 unfold lX at h
 dsimp only at h ⊢
 have hno:∀n,(jv n||fEq n 4607182418800017408)=true->fEq n n=true:=by
  intro n h
  rw [aah]
  cases hn:vN n
  .rfl
  .exfalso
   unfold vN at hn
   have:(jv n||fEq n 4607182418800017408)=false:=by
     unfold jv
     rw [Eb]
     unfold fEq Ieee.Format.order
     show (((jS n).isZero&&_)||(Ieee.Datum.order (jS n) (jS _) == some .eq))=false
     cases hx:jS n with
     |nan s t=>rfl
     |infinity=>rw [hx] at hn;cases hn
     |number=>rw [hx] at hn;cases hn
   rw [this] at h;cases h
 have e1:dS r r=true:=by simp [dS]
 have e2:DK s s=true:=by simp [DK]
 have e3:(fEq n n||(KH n n&&KH n n))=true:=by rw [aah,A8];cases vN n<;>rfl
 have e4:iK k k=false:=by simp [iK]
 rw [e1,e2,e3,e4]
 have hno:=hno n
 generalize fEq n n=F at *
 generalize (jv n||fEq n 4607182418800017408)=O at *
 rcases aay hk with rfl|rfl|rfl|rfl|rfl|rfl|rfl|rfl|rfl|h8
 all_goals first
  |rfl
  |(have hgt:decide (k > 8)=true:=decide_eq_true h8
    rw [hgt] at h
    cases h
    done)
  |(simp only [dS,Int.reduceBEq,Int.reduceGT,Int.reduceGE,decide_true,decide_false,cond_true,cond_false,Bool.or_true,Bool.true_or,Bool.or_false,Bool.false_or,Bool.and_true,Bool.true_and,Bool.and_false,Bool.false_and,Bool.and_eq_true] at h ⊢
    exact hno h.1.1)
structure Yj (x1 d:dI):Prop where
 ok:d.ok
 rc:Rc d
 has:d.Has=51\/d.Has=60
 cut:jw .u8 d.Has x1.Has=x1.Has
 v:hb x1.Has 0=true->d.Value=x1.Value
 g:hb x1.Has 2=true->d.Get=x1.Get
 s:hb x1.Has 3=true->d.Set=x1.Set
 w:hb x1.Has 1=true->d.eP=x1.eP
 e:hb x1.Has 4=true->d.dY=x1.dY
 c:hb x1.Has 5=true->d.Configurable=x1.Configurable
theorem ao0 : hb 51 0=true/\hb 51 1=true/\hb 51 2=false/\hb 51 3=false/\hb 51 4=true/\hb 51 5=true:=by decide
theorem ao1 : hb 60 0=false/\hb 60 1=false/\hb 60 2=true/\hb 60 3=true/\hb 60 4=true/\hb 60 5=true:=by decide
theorem Nr {x1 d:dI}(h1:x1.ok)(r1:Rc x1)(hd:d.ok)(hh:(d.Has=51/\(hb x1.Has 2||hb x1.Has 3)=false/\iR d.Get=true/\iR d.Set=true/\lX d.Value=true)\/(d.Has=60/\(hb x1.Has 0||hb x1.Has 1)=false/\iR d.Value=true/\d.eP=false/\iO d.Get=true/\iO d.Set=true))
  (v:hb x1.Has 0=true->d.Value=x1.Value) (g:hb x1.Has 2=true->d.Get=x1.Get) (s:hb x1.Has 3=true->d.Set=x1.Set) (w:hb x1.Has 1=true->d.eP=x1.eP)
  (e:hb x1.Has 4=true->d.dY=x1.dY) (c:hb x1.Has 5=true->d.Configurable=x1.Configurable):Yj x1 d:=by
 obtain ⟨p0,p1,p2,p3,p4,p5⟩:=ao0
 obtain ⟨q0,q1,q2,q3,q4,q5⟩:=ao1
 rcases hh with ⟨hh,ha,hg,hs,hv⟩|⟨hh,ha,hv,hw,hg,hs⟩
 .refine ⟨hd,⟨?_,?_,?_,?_,?_,?_,?_,?_⟩,.inl hh,?_,v,g,s,w,e,c⟩
  .rw [hh];rfl
  .rw [hh,p2,p3];simp
  .rw [hh,p1];rfl
  .rw [hh,p4];rfl
  .rw [hh,p5];rfl
  .rw [hh,p0];exact hv
  .rw [hh,p2];exact hg
  .rw [hh,p3];exact hs
  .rw [hh];exact (aaD h1.1).1 r1.big ha
 .refine ⟨hd,⟨?_,?_,?_,?_,?_,?_,?_,?_⟩,.inr hh,?_,v,g,s,w,e,c⟩
  .rw [hh];rfl
  .rw [hh,q0,q1];rfl
  .rw [hh,q1,hw];rfl
  .rw [hh,q4];rfl
  .rw [hh,q5];rfl
  .rw [hh,q0];exact hv
  .rw [hh,q2];exact hg
  .rw [hh,q3];exact hs
  .rw [hh];exact (aaD h1.1).2 r1.big ha
theorem Ns {x1:dI}(h1:x1.ok)(r1:Rc x1)(e c:Bool)(he:hb x1.Has 4=true->e=x1.dY)(hc:hb x1.Has 5=true->c=x1.Configurable) :
  Yj x1 (dI.mk (l7 x1).Has x1.Value x1.Get x1.Set x1.eP e c):=by
 have B1:=bits h1.1
 have hda:=r1.da
 have hwh:(l7 x1).Has=bif (hb x1.Has 2||hb x1.Has 3) then 60 else 51:=by unfold l7;dsimp only;rw [o8 h1.1]
 rw [hwh]
 cases ha:(hb x1.Has 2||hb x1.Has 3)
 .simp only [Bool.or_eq_false_iff] at ha
  have rg:=r1.g
  have rs:=r1.s
  rw [ha.1] at rg
  rw [ha.2] at rs
  exact Nr h1 r1 ⟨by unfold u8;exact ⟨by simp,by simp⟩,h1.2⟩ (.inl ⟨rfl,by rw [ha.1,ha.2];rfl,rg,rs,Ew h1.2.1 r1.v⟩) (fun _=>rfl) (fun _=>rfl) (fun _=>rfl) (fun _=>rfl) he hc
 .rw [ha,Bool.and_true] at hda
  have rv:=r1.v
  have rw':=r1.w
  have ao2:=hda
  simp only [Bool.or_eq_false_iff] at ao2
  rw [ao2.1] at rv
  rw [ao2.2] at rw'
  exact Nr h1 r1 ⟨by unfold u8;exact ⟨by simp,by simp⟩,h1.2⟩ (.inr ⟨rfl,hda,rv,by simpa using rw',rH h1.2.2.1 r1.g,rH h1.2.2.2 r1.s⟩) (fun _=>rfl) (fun _=>rfl) (fun _=>rfl) (fun _=>rfl) he hc
def mix (x1 x3:dI):dI:=dI.mk x3.Has (bif hb x1.Has 0 then x1.Value else x3.Value) (bif hb x1.Has 2 then x1.Get else x3.Get) (bif hb x1.Has 3 then x1.Set else x3.Set) (bif hb x1.Has 1 then x1.eP else x3.eP) (bif hb x1.Has 4 then x1.dY else x3.dY) (bif hb x1.Has 5 then x1.Configurable else x3.Configurable)
def axf (x1 x3:dI):Bool:=(((hb x1.Has 0||hb x1.Has 1)&&(hb x3.Has 2||hb x3.Has 3))||((hb x1.Has 2||hb x1.Has 3)&&(hb x3.Has 0||hb x3.Has 1)))
theorem adl {x1 x3:dI}(h1:x1.ok)(h3:x3.ok)(r1:Rc x1)(r3:Rc x3)(hh:x3.Has=51\/x3.Has=60)(ht:axf x1 x3=false):Yj x1 (mix x1 x3):=by
 obtain ⟨p0,p1,p2,p3,p4,p5⟩:=ao0
 obtain ⟨q0,q1,q2,q3,q4,q5⟩:=ao1
 have hok:(mix x1 x3).ok:=by
  unfold mix
  refine ⟨h3.1,?_,?_,?_⟩
  .cases hb x1.Has 0;exact h3.2.1;exact h1.2.1
  .cases hb x1.Has 2;exact h3.2.2.1;exact h1.2.2.1
  .cases hb x1.Has 3;exact h3.2.2.2;exact h1.2.2.2
 unfold axf at ht
 rcases hh with hh|hh
 .rw [hh,p0,p1,p2,p3] at ht
  have ha:(hb x1.Has 2||hb x1.Has 3)=false:=by
   revert ht
   cases (hb x1.Has 2||hb x1.Has 3)<;>simp
  have ha2:=ha
  simp only [Bool.or_eq_false_iff] at ha2
  have rg:=r3.g
  have rs:=r3.s
  have rv:=r3.v
  rw [hh,p2] at rg
  rw [hh,p3] at rs
  refine Nr h1 r1 hok (.inl ⟨hh,ha,?_,?_,?_⟩) ?_ ?_ ?_ ?_ ?_ ?_
  .show iR (bif hb x1.Has 2 then _ else _)=true;rw [ha2.1];exact rg
  .show iR (bif hb x1.Has 3 then _ else _)=true;rw [ha2.2];exact rs
  .show lX (bif hb x1.Has 0 then _ else _)=true
   cases hb x1.Has 0
   .exact Ew h3.2.1 rv
   .exact Ew h1.2.1 r1.v
  all_goals (intro h;simp only [mix,h,cond_true])
 .rw [hh,q0,q1,q2,q3] at ht
  have ha:(hb x1.Has 0||hb x1.Has 1)=false:=by
   revert ht
   cases (hb x1.Has 0||hb x1.Has 1)<;>simp
  have ha2:=ha
  simp only [Bool.or_eq_false_iff] at ha2
  have rg:=r3.g
  have rs:=r3.s
  have rv:=r3.v
  have rw':=r3.w
  rw [hh,q0] at rv
  rw [hh,q1] at rw'
  refine Nr h1 r1 hok (.inr ⟨hh,ha,?_,?_,?_,?_⟩) ?_ ?_ ?_ ?_ ?_ ?_
  .show iR (bif hb x1.Has 0 then _ else _)=true;rw [ha2.1];exact rv
  .show (bif hb x1.Has 1 then _ else _)=false;rw [ha2.2];simpa using rw'
  .show iO (bif hb x1.Has 2 then _ else _)=true
   cases hb x1.Has 2
   .exact rH h3.2.2.1 rg
   .exact rH h1.2.2.1 r1.g
  .show iO (bif hb x1.Has 3 then _ else _)=true
   cases hb x1.Has 3
   .exact rH h3.2.2.2 rs
   .exact rH h1.2.2.2 r1.s
  all_goals (intro h;simp only [mix,h,cond_true])
end Go.Fw
end
section
namespace Go.Fw
set_option maxRecDepth 20000
structure Passed (x0:Bool)(x1:dI)(x2:Bool)(x3:dI):Prop where
 r1:Rc x1
 no:x2=false->x0=true
 r3:x2=true->Rc x3
 has:x2=true->x3.Has=51\/x3.Has=60
 may:x2=true->A_ x1 x3=true
theorem axx {x0:Bool}{x1:dI}{x2:Bool}{x3:dI}(h1:x1.ok)(h3:x3.ok)(h:gV x0 x1 x2 x3=(true,0)):Passed x0 x1 x2 x3:=by
 have hr:=h
 rw [OU h1 h3] at hr
 unfold gV at h
 unfold jX iE at hr
 dsimp only at h hr
 rcases amg h1 with c1|c1
 .rw [c1] at hr
  simp only [show iK 90 0=true from rfl,Bool.true_or,cond_true] at hr
  cases hr
 .rw [c1] at hr
  simp only [show iK 0 0=false from rfl,Bool.false_or] at hr
  have r1:=(Uh h1).1 c1
  cases x2
  .simp only [Bool.false_and,cond_false,Bool.not_false,cond_true] at hr
   exact ⟨r1,(fun _=>by cases hr;rfl),(fun h=>by cases h),(fun h=>by cases h),(fun h=>by cases h)⟩
  .simp only [Bool.true_and,Bool.not_true,cond_false] at hr
   generalize hw:(dS (jV x3) 0&&(dS x3.Has 51||dS x3.Has 60))=q at hr
   cases q
   .simp only [Bool.not_false,cond_true] at hr;cases hr
   .simp only [Bool.and_eq_true,dS,beq_iff_eq,Bool.or_eq_true] at hw
    refine ⟨r1,(fun h=>by cases h),fun _=>(Uh h3).1 hw.1,fun _=>hw.2,fun _=>?_⟩
    simp only [Bool.not_true,cond_false] at h
    cases ha:iK (uZ x1 true x3) 0
    .rw [ha] at h;simp only [cond_false,Prod.mk.injEq] at h;exact h.1
    .rw [ha] at h;simp only [cond_true,Prod.mk.injEq] at h;exact absurd h.1 (by decide)
theorem axy {x0:Bool}{x1:dI}{x2:Bool}{x3:dI}(h1:x1.ok)(h3:x3.ok)(h:gV x0 x1 x2 x3=(true,0)) :
  fG x0 x1 x2 x3=(bif !x2 then l7 x1 else bif axf x1 x3 then dI.mk (l7 x1).Has x1.Value x1.Get x1.Set x1.eP (bif (!hb x1.Has 4) then x3.dY else x1.dY) (bif (!hb x1.Has 5) then x3.Configurable else x1.Configurable) else mix x1 x3,true,0):=by
 have B1:=bits h1.1
 rw [ajO h1 h3]
 have hr:=h
 rw [OU h1 h3] at hr
 unfold IL
 dsimp only
 rw [hr]
 simp only [show iK 0 0=false from rfl,Bool.not_true,Bool.or_self,cond_false]
 cases x2
 .rfl
 .simp only [Bool.not_true,cond_false]
  unfold gU
  rw [yI h1.1,o8 h1.1,yI h3.1,o8 h3.1,B1.r1,B1.r2,B1.r4,B1.r8,B1.r16,B1.r32]
  unfold mix axf
  generalize (((hb x1.Has 0||hb x1.Has 1)&&(hb x3.Has 2||hb x3.Has 3))||((hb x1.Has 2||hb x1.Has 3)&&(hb x3.Has 0||hb x3.Has 1)))=K
  cases K
  .simp only [cond_false]
   congr 1
   congr 1
   .cases hb x1.Has 0<;>rfl
   .cases hb x1.Has 2<;>rfl
   .cases hb x1.Has 3<;>rfl
  .rfl
theorem axJ {x0:Bool}{x1:dI}{x2:Bool}{x3:dI}(h1:x1.ok)(h3:x3.ok)(h:gV x0 x1 x2 x3=(true,0)):Yj x1 (fG x0 x1 x2 x3).1:=by
 have p:=axx h1 h3 h
 rw [axy h1 h3 h]
 dsimp only
 cases x2
 .exact Ns h1 p.r1 _ _ (fun _=>rfl) (fun _=>rfl)
 .simp only [Bool.not_true,cond_false]
  cases ht:axf x1 x3
  .exact adl h1 h3 p.r1 (p.r3 rfl) (p.has rfl) ht
  .exact Ns h1 p.r1 _ _ (fun h=>by rw [h];rfl) (fun h=>by rw [h];rfl)
theorem zq (b:Bool):NV b b=true:=by simp [NV]
theorem axz {d:dI}(hd:d.ok)(r:Rc d)(hh:d.Has=51\/d.Has=60):gV false d true d=(true,0):=by
 have B:=bits hd.1
 unfold gV uZ
 dsimp only
 rw [Np hd,(Uh hd).2 r,OT hd.1 (r.chk hd)]
 have e:(dS d.Has 51||dS d.Has 60)=true:=by rcases hh with hh|hh<;>rw [hh]<;>rfl
 rw [e]
 simp only [show iK 0 0=false from rfl,cond_false,Bool.not_true,Bool.false_or,Bool.and_false]
 congr 1
 unfold A_ tX
 dsimp only
 rw [yH hd.1,tZ hd.2.1 (Ew hd.2.1 r.v),tZ hd.2.2.1 (yJ (rH hd.2.2.1 r.g)),tZ hd.2.2.2 (yJ (rH hd.2.2.2 r.s)),zq,zq]
 simp only [Bool.or_true,Bool.and_true,Bool.not_true,Bool.and_false,cond_false]
 cases d.Configurable
 .simp only [cond_false]
  cases dS (jw .u8 d.Has 15) 0
  .simp only [cond_false]
   cases (hb d.Has 0||hb d.Has 1)
   .rfl
   .simp only [cond_true];cases d.eP<;>rfl
  .rfl
 .rfl
theorem ax1 {x0:Bool}{x1:dI}{x3:dI}(h1:x1.ok)(h3:x3.ok)(h:gV x0 x1 true x3=(true,0))(hc:x3.Configurable=false) :
  let d:=(fG x0 x1 true x3).1
  d.Configurable=false/\NV d.dY x3.dY=true/\d.Has=x3.Has/\
   (bif iD x3 then (fB d.Get x3.Get&&fB d.Set x3.Set) else (x3.eP||((!d.eP)&&fB d.Value x3.Value)))=true:=by
 have p:=axx h1 h3 h
 have hm:=p.may rfl
 have r3:=p.r3 rfl
 have r1:=p.r1
 have hh:=p.has rfl
 have B1:=bits h1.1
 have s0:=tZ h3.2.1 (Ew h3.2.1 r3.v)
 have s1:=tZ h3.2.2.1 (yJ (rH h3.2.2.1 r3.g))
 have s2:=tZ h3.2.2.2 (yJ (rH h3.2.2.2 r3.s))
 have hk:(hb x3.Has 2||hb x3.Has 3)=!(hb x3.Has 0||hb x3.Has 1):=by
  obtain ⟨p0,p1,p2,p3,-,-⟩:=ao0
  obtain ⟨q0,q1,q2,q3,-,-⟩:=ao1
  rcases hh with hh|hh
  .rw [hh,p0,p1,p2,p3];rfl
  .rw [hh,q0,q1,q2,q3];rfl
 unfold A_ tX at hm
 dsimp only at hm
 rw [yH h1.1,yH h3.1,hc,B1.a16,B1.z15,B1.z1,B1.z4,B1.z8] at hm
 simp only [cond_false] at hm
 cases hc1:x1.Configurable
 .rw [hc1] at hm
  simp only [cond_false] at hm
  cases he:(hb x1.Has 4&&!NV x1.dY x3.dY)
  .rw [he] at hm
   simp only [cond_false] at hm
   have ht:axf x1 x3=false:=by
    unfold axf
    rw [hk]
    have hda:=r1.da
    cases ha:(hb x1.Has 0||hb x1.Has 1)
    .cases hb':(hb x1.Has 2||hb x1.Has 3)
     .rfl
     .rw [ha,hb'] at hm
      simp only [Bool.or_true,Bool.not_true,cond_false] at hm
      cases hd:(hb x3.Has 0||hb x3.Has 1)
      .rfl
      .rw [hd] at hm;cases hm
    .rw [ha,Bool.true_and] at hda
     rw [hda]
     rw [ha,hda] at hm
     simp only [Bool.or_false,Bool.not_true,cond_false] at hm
     cases hd:(hb x3.Has 0||hb x3.Has 1)
     .rw [hd] at hm;cases hm
     .rfl
   have hd:=axy h1 h3 h
   rw [ht] at hd
   simp only [Bool.not_true,cond_false] at hd
   dsimp only
   rw [hd]
   dsimp only
   unfold mix
   dsimp only
   rw [CU h3.1,hk,hc,hc1]
   refine ⟨by cases hb x1.Has 5<;>rfl,?_,rfl,?_⟩
   .cases h4:hb x1.Has 4
    .exact zq _
    .rw [h4] at he;simpa using he
   .cases hd3:(hb x3.Has 0||hb x3.Has 1)
    .simp only [Bool.not_false,cond_true]
     rw [hd3] at hm
     cases ha:(hb x1.Has 0||hb x1.Has 1)
     .rw [ha] at hm
      cases hb':(hb x1.Has 2||hb x1.Has 3)
      .simp only [Bool.or_eq_false_iff] at hb'
       rw [hb'.1,hb'.2]
       simp only [cond_false,s1,s2,Bool.and_self]
      .rw [hb'] at hm
       simp only [Bool.or_true,Bool.not_true,cond_false,zq] at hm
       revert hm
       cases hb x1.Has 2<;>cases hb x1.Has 3<;>simp [s1,s2]
     .rw [ha] at hm
      simp only [Bool.true_or,Bool.not_true,cond_false] at hm
      cases hm
    .simp only [Bool.not_true,cond_false]
     rw [hd3] at hm
     cases ha:(hb x1.Has 0||hb x1.Has 1)
     .simp only [Bool.or_eq_false_iff] at ha
      rw [ha.1,ha.2]
      simp only [cond_false,s0]
      cases x3.eP<;>rfl
     .rw [ha] at hm
      simp only [Bool.true_or,Bool.not_true,cond_false,zq,cond_true] at hm
      revert hm
      cases x3.eP<;>cases x1.eP<;>cases hb x1.Has 0<;>cases hb x1.Has 1<;>simp [s0]
  .rw [he] at hm;cases hm
 .rw [hc1] at hm;cases hm
end Go.Fw
end
section
namespace Go.Fw
theorem Ui : ∀{l:List dL} {pre:List dH},OV pre l=0↔(∀p∈l,iG p.Key=0/\iE p.dR=true/\p.Key∉pre)/\l.Pairwise (fun p q=>p.Key≠q.Key)
 |[],pre=>by simp [OV]
 |a::r,pre=>by
  simp only [OV]
  by_cases h1:iG a.Key=0
  .rw [uF.2 h1]
   simp only [cond_false]
   cases h2:iE a.dR with
   |false=>
    simp only [Bool.not_false,cond_true]
    exact ⟨fun h=>by omega,fun h=>by have:=(h.1 a (by simp)).2.1;rw [h2] at this;cases this⟩
   |true=>
    simp only [Bool.not_true,cond_false]
    by_cases h3:a.Key∈pre
    .simp only [h3,decide_true,cond_true]
     exact ⟨fun h=>by omega,fun h=>absurd h3 (h.1 a (by simp)).2.2⟩
    .simp only [h3,decide_false,cond_false]
     rw [Ui (l:=r)]
     constructor
     .rintro ⟨i1,i2⟩
      refine ⟨fun p hp=>?_,List.pairwise_cons.2 ⟨fun q hq e=>(i1 q hq).2.2 (by simp [e]),i2⟩⟩
      cases hp with
      |head=>exact ⟨h1,h2,h3⟩
      |tail _ hp=>
       obtain ⟨j1,j2,j3⟩:=i1 p hp
       exact ⟨j1,j2,fun hm=>j3 (by simp [hm])⟩
     .rintro ⟨i1,i2⟩
      obtain ⟨k1,k2⟩:=List.pairwise_cons.1 i2
      refine ⟨fun p hp=>?_,k2⟩
      obtain ⟨j1,j2,j3⟩:=i1 p (List.mem_cons_of_mem _ hp)
      refine ⟨j1,j2,fun hm=>?_⟩
      rcases List.mem_append.1 hm with hm|hm
      .exact j3 hm
      .exact k1 p hp (List.mem_singleton.1 hm).symm
  .rw [J4.2 h1]
   simp only [cond_true]
   exact ⟨fun h=>by omega,fun h=>absurd (h.1 a (by simp)).1 h1⟩
structure NH (l:List dL):Prop where
 len:l.length<=1024
 all:∀p∈l,iG p.Key=0/\iE p.dR=true
 one:l.Pairwise (fun p q=>p.Key≠q.Key)
theorem NH.big {l:List dL}(h:NH l):l.length<=4294967296:=by have:=h.len;omega
theorem NH.of {l:List dL}(hl:l.length<=4294967296)(h:kV l=0):NH l:=by
 obtain ⟨h1,h2⟩:=Ui.1 (adk hl h)
 exact ⟨Gw l h,fun p hp=>⟨(h1 p hp).1,(h1 p hp).2.1⟩,h2⟩
theorem NH.chk {l:List dL}(h:NH l):kV l=0:=by
 have:=h.len
 rw [JC l h.big,decide_eq_false (by omega)]
 exact Ui.2 ⟨fun p hp=>⟨(h.all p hp).1,(h.all p hp).2,by simp⟩,h.one⟩
theorem NH.asked {l:List dL}(h:NH l)(hok:∀p∈l,p.dR.ok){k:dH}(hk:iG k=0):mg l k=0:=by
 rw [Uf l k h.big hok]
 unfold oZ
 dsimp only
 rw [h.chk,hk];rfl
def d00 : dI:=dI.mk 0 (dJ.mk 0 0 [] 0) (dJ.mk 0 0 [] 0) (dJ.mk 0 0 [] 0) false false false
def isK (k:dH)(p:dL):Bool:=decide (p.Key=k)
def pW (l:List dL)(k:dH):dI×Bool×Int:=match l.find? (isK k) with
 |some p=>(p.dR,true,0)
 |none=>(d00,false,0)
theorem QA : ∀(l:List dL) (k:dH),l.find? (isK k)=match pl l k with|some i=>some (l.getD i default)|none=>none
 |[],k=>rfl
 |a::r,k=>by
  have ih:=QA r k
  unfold pl at ih ⊢
  rw [List.findIdx?_cons,List.find?_cons]
  unfold isK at ih ⊢
  by_cases h:a.Key=k
  .simp [h]
  .simp only [h,decide_false,Bool.false_eq_true,if_false]
   rw [ih]
   cases r.findIdx? (fun p=>decide (p.Key=k))<;>simp
theorem NH.find {l:List dL}(h:NH l)(hok:∀p∈l,p.dR.ok){k:dH}(hk:iG k=0):fA l k=pW l k:=by
 unfold fA pW
 dsimp only
 rw [h.asked hok hk,axM,Nq l k h.big,QA]
 cases pl l k with
 |none=>rfl
 |some i=>simp [iK]
theorem aaF : ∀{l:List dL} {i:Nat} {k:dH} {d:dI},pl l k=some i->(l.set i (dL.mk k d)).find? (isK k)=some (dL.mk k d)/\∀k',k'≠k->(l.set i (dL.mk k d)).find? (isK k')=l.find? (isK k')
 |[],i,k,d,h=>by cases h
 |a::r,i,k,d,h=>by
  unfold pl at h
  rw [List.findIdx?_cons] at h
  by_cases hk:a.Key=k
  .simp only [hk,decide_true,if_true,Option.some.injEq] at h
   subst h
   refine ⟨by simp [isK],fun k' hk'=>?_⟩
   have h1:¬k=k':=fun e=>hk' e.symm
   simp [isK,hk,h1]
  .simp only [hk,decide_false,Bool.false_eq_true,if_false] at h
   cases hp:r.findIdx? (fun p=>decide (p.Key=k)) with
   |none=>rw [hp] at h;cases h
   |some j=>
    rw [hp] at h
    simp only [Option.map_some,Option.some.injEq] at h
    subst h
    obtain ⟨h1,h2⟩:=aaF (d:=d) (show pl r k=some j from hp)
    refine ⟨?_,fun k' hk'=>?_⟩
    .rw [List.set_cons_succ,List.find?_cons]
     simp only [isK,hk,decide_false]
     exact h1
    .rw [List.set_cons_succ,List.find?_cons,List.find?_cons,h2 k' hk']
theorem amh {l:List dL}{k:dH}(h:pl l k=none):∀p∈l,p.Key≠k:=by
 intro p hp e
 have:=ajP (l:=l) (k:=k)
 rw [h] at this
 simp only [Option.isSome_none] at this
 have:=of_decide_eq_false this.symm
 exact this (List.mem_map.2 ⟨p,hp,e⟩)
theorem ajR : ∀{l:List dL} {k:dH} {i:Nat},pl l k=some i->(l.getD i default).Key=k
 |[],k,i,h=>by cases h
 |a::r,k,i,h=>by
  unfold pl at h
  rw [List.findIdx?_cons] at h
  by_cases hk:a.Key=k
  .simp only [hk,decide_true,if_true,Option.some.injEq] at h
   subst h;simpa using hk
  .simp only [hk,decide_false,Bool.false_eq_true,if_false] at h
   cases hp:r.findIdx? (fun p=>decide (p.Key=k)) with
   |none=>rw [hp] at h;cases h
   |some j=>
    rw [hp] at h
    simp only [Option.map_some,Option.some.injEq] at h
    subst h
    simpa using ajR (show pl r k=some j from hp)
structure ao3 (x0:List dL)(k:dH)(d:dI)(a:List dL):Prop where
 tb:NH a
 ok:∀p∈a,p.dR.ok
 me:pW a k=(d,true,0)
 el:∀k',k'≠k->pW a k'=pW x0 k'
 len:a.length=bif (pW x0 k).2.1 then x0.length else x0.length+1
 key:∀i,i<x0.length->(a.getD i default).Key=(x0.getD i default).Key
 wh:iE d=true
theorem agN {x0:List dL}(h:NH x0)(hok:∀p∈x0,p.dR.ok){k:dH}(hk:iG k=0){d:dI}(hd:d.ok)(he:(jY x0 k d).2=0):ao3 x0 k d (jY x0 k d).1:=by
 unfold jY at he ⊢
 dsimp only at he ⊢
 rw [h.asked hok hk,axM,Nq x0 k h.big,anc hd] at he ⊢
 rw [agn] at he ⊢
 simp only [cond_false,ji,Int.toNat_natCast] at he ⊢
 rw [Wx (l:=x0) rfl]
 cases hw:iE d with
 |false=>rw [hw] at he;cases he
 |true=>
  rw [hw] at he
  simp only [Bool.not_true,cond_false] at he ⊢
  cases hp:pl x0 k with
  |none=>
   rw [hp] at he
   simp only [show decide ((-1:Int)<0)=true from rfl,Bool.true_and,cond_true] at he ⊢
   by_cases hl:(x0.length:Int)=1024
   .rw [nO.2 hl] at he;cases he
   .rw [zh.2 hl]
    simp only [cond_false]
    have hn:=amh hp
    have hf:x0.find? (isK k)=none:=by rw [QA,hp]
    have hlen:=h.len
    refine ⟨⟨by simp;omega,?_,?_⟩,?_,?_,?_,?_,?_,hw⟩
    .intro p hp
     rcases List.mem_append.1 hp with hp|hp
     .exact h.all p hp
     .rw [List.mem_singleton.1 hp];exact ⟨hk,hw⟩
    .rw [List.pairwise_append]
     refine ⟨h.one,List.pairwise_singleton _ _,fun p hp q hq=>?_⟩
     rw [List.mem_singleton.1 hq];exact hn p hp
    .intro p hp
     rcases List.mem_append.1 hp with hp|hp
     .exact hok p hp
     .rw [List.mem_singleton.1 hp];exact hd
    .unfold pW
     rw [List.find?_append,hf]
     simp [isK]
    .intro k' hk'
     unfold pW
     rw [List.find?_append]
     have:[dL.mk k d].find? (isK k')=none:=by
      have h1:¬k=k':=fun e=>hk' e.symm
      simp [isK,h1]
     rw [this,Option.or_none]
    .unfold pW;rw [hf];simp
    .intro i hi
     rw [List.getD_eq_getElem?_getD,List.getD_eq_getElem?_getD,List.getElem?_append_left hi]
  |some i=>
   rw [hp] at he
   have hi:=anb hp
   have hkey:=ajR hp
   have hneg:decide ((i:Int)<0)=false:=decide_eq_false (by omega)
   simp only [hneg,Bool.false_and,cond_false,Int.toNat_natCast] at he ⊢
   rw [Wx (l:=x0.set i _) (by simp),hkey]
   obtain ⟨s1,s2⟩:=aaF (d:=d) hp
   have hf:x0.find? (isK k)=some (x0.getD i default):=by rw [QA,hp]
   have hmap:(x0.set i (dL.mk k d)).map (·.Key)=x0.map (·.Key):=by
    rw [List.map_set]
    apply List.ext_getElem?
    intro j
    rw [List.getElem?_set]
    split
    .rename_i hj
     subst hj
     have hg:(x0.map (·.Key))[i]?=some k:=by
      rw [List.getElem?_map,List.getElem?_eq_getElem hi]
      rw [List.getD_eq_getElem?_getD,List.getElem?_eq_getElem hi] at hkey
      simpa using hkey
     rw [hg]
     simp [hi]
    .rfl
   refine ⟨⟨by simpa using h.len,?_,?_⟩,?_,?_,?_,?_,?_,hw⟩
   .intro p hp
    rcases List.mem_or_eq_of_mem_set hp with hp|rfl
    .exact h.all p hp
    .exact ⟨hk,hw⟩
   .have h1:(x0.map (·.Key)).Pairwise (·≠·):=List.pairwise_map.2 h.one
    rw [<- hmap] at h1
    exact List.pairwise_map.1 h1
   .intro p hp
    rcases List.mem_or_eq_of_mem_set hp with hp|rfl
    .exact hok p hp
    .exact hd
   .unfold pW;rw [s1]
   .intro k' hk'
    unfold pW;rw [s2 k' hk']
   .unfold pW;rw [hf];simp
   .intro j hj
    have:=congrArg (fun m:List dH=>m[j]?) hmap
    simp only [List.getElem?_map] at this
    rw [List.getD_eq_getElem?_getD,List.getD_eq_getElem?_getD]
    have hj':j<(x0.set i (dL.mk k d)).length:=by simpa using hj
    rw [List.getElem?_eq_getElem hj,List.getElem?_eq_getElem hj'] at this ⊢
    simpa using this
structure aqU (x0:List dL)(k:dH)(b:List dL):Prop where
 tb:NH b
 ok:∀p∈b,p.dR.ok
 me:pW b k=(d00,false,0)
 el:∀k',k'≠k->pW b k'=pW x0 k'
theorem Uj {x0:List dL}(h:NH x0)(hok:∀p∈x0,p.dR.ok){k:dH}:aqU x0 k (x0.filter (fun p=>!decide (p.Key=k))):=by
 refine ⟨⟨Nat.le_trans (List.length_filter_le _ _) h.len,fun p hp=>h.all p (List.mem_filter.1 hp).1,List.Pairwise.filter _ h.one⟩,fun p hp=>hok p (List.mem_filter.1 hp).1,?_,fun k' hk'=>?_⟩
 .have:(x0.filter (fun p=>!decide (p.Key=k))).find? (isK k)=none:=by
   rw [List.find?_eq_none]
   intro p hp
   have:=(List.mem_filter.1 hp).2
   simpa [isK] using this
  unfold pW;rw [this]
 .unfold pW
  rw [List.find?_filter]
  congr 1
  have:(fun a:dL=>decide ((!decide (a.Key=k))=true/\isK k' a=true))=isK k':=by
   funext p
   unfold isK
   by_cases e:p.Key=k'
   .have:¬k'=k:=hk'
    simp [e,this]
   .simp [e]
  rw [this]
theorem aeO {x0:List dL}(h:NH x0)(hok:∀p∈x0,p.dR.ok){k:dH}(hk:iG k=0):rC x0 k=(x0.filter (fun p=>!decide (p.Key=k)),0):=by
 rw [amd x0 k h.big hok,aaC x0 k h.big]
 have:=h.asked hok hk
 rw [Uf x0 k h.big hok] at this
 rw [this];rfl
theorem ajS {d:dI}(hd:d.ok)(h:iE d=true):Rc d:=by
 unfold iE at h
 dsimp only at h
 rw [Bool.and_eq_true] at h
 exact (Uh hd).1 (nO.1 h.1)
end Go.Fw
end
section
namespace Go.Fw
theorem Yk {α:Type}{f:α->List AV}{l:List α}{i:Nat}{x:α}:mF (List.map f (l.set i x))=mF (List.map f l):=by simp [mF]
theorem aaG {α β:Type}{f:α->β}{l:List α}:mF (List.map f l)=l.length:=by simp [mF]
def adn (x:Nat):Bool:=YV x 0&&Xi x 4652218415073722368
theorem ami {x:Nat}(h1:YV x 0=true)(h2:Xi x 4652218415073722368=true):adn x=true:=by simp [adn,h1,h2]
theorem ajT {P:Program}{ρ:List AV}{x:Tm}{y:Nat}(h:adn y=true)(hx:(x.den ρ).F=y:=by rfl):Side.holds P ρ (.num .i64 x (.YW x)):=by
 subst hx
 unfold adn at h
 rw [Bool.and_eq_true] at h
 exact asn h.1 h.2
theorem Nu {v:dJ}(h:iJ v=true):0<=v.Ref:=by
 unfold iJ at h
 dsimp only at h
 cases hc:decide ((v.Ref:Int)<0) with
 |false=>have:=of_decide_eq_false hc;omega
 |true=>rw [hc] at h;simp at h
def hIn (h:dK)(v:dJ):Prop:=dP v=true->0<=v.Ref/\v.Ref<h.Objects.length
theorem aqV {h:dK}{v:dJ}(q:hIn h v)(i:dP v=true):0<=v.Ref:=(q i).1
theorem ane {h:dK}{v:dJ}(q:hIn h v)(i:dP v=true):v.Ref<mF (List.map dM.enc h.Objects):=by rw [aaG];exact (q i).2
theorem Yl {h:dK}{v:dJ}(q:eX h v=true):hIn h v:=by
 intro i
 unfold eX at q
 dsimp only at q
 cases hm:iJ v with
 |false=>rw [hm] at q;simp at q
 |true=>
  rw [hm,i] at q
  simp only [Bool.not_true,cond_false,Bool.false_or,Bool.and_eq_true,decide_eq_true_eq,ji] at q
  exact ⟨Nu hm,q.1⟩
theorem ao4 {h:dK}{v:dJ}(q:eX h v=true):iJ v=true:=by
 unfold eX at q
 dsimp only at q
 cases hm:iJ v with
 |false=>rw [hm] at q;simp at q
 |true=>rfl
theorem aeP {h:dK}{v:dJ}(q:eX h v=true):0<=v.Ref:=Nu (ao4 q)
theorem aeQ {h:dK}{v:dJ}(q:eX h v=true)(i:dP v=true):v.Ref<mF (List.map dM.enc h.Objects):=ane (Yl q) i
theorem Ym {x0:dK}{x2:Int}{a b:dJ}(h:mZ (kH x0 x2 ((2:Int).toNat+1) false 0 [a,b]).1=0):dP a=true/\eX x0 a=true/\a.Ref<x2:=by
 have e:(2:Int).toNat+1=2+1:=rfl
 rw [e] at h
 unfold kH at h
 dsimp only at h
 have e1:(!decide ((0:Int)<2))=false:=by decide
 have e2:([a,b].getD (0:Int).toNat default)=a:=rfl
 rw [e1,e2] at h
 simp only [cond_false] at h
 cases hc:(!dP a||!eX x0 a||decide (a.Ref>=x2)) with
 |true=>rw [hc] at h;simp [mZ] at h
 |false=>
  simp only [Bool.or_eq_false_iff,Bool.not_eq_false',decide_eq_false_iff_not] at hc
  exact ⟨hc.1.1,hc.1.2,by omega⟩
theorem ajU {x0:dK}{x2:Int}{a b:dJ}(h:mZ (kH x0 x2 ((2:Int).toNat+1) false 0 [a,b]).1=0):0<=a.Ref:=aeP (Ym h).2.1
theorem ajV {x0:dK}{x2:Int}{a b:dJ}(h:mZ (kH x0 x2 ((2:Int).toNat+1) false 0 [a,b]).1=0):a.Ref<mF (List.map dM.enc x0.Objects):=aeQ (Ym h).2.1 (Ym h).1
def CV (h:dK)(i:Nat):Int:=(h.Objects.getD i default).eY.Kind
def Bz (h:dK)(i:Nat):Int:=(h.Objects.getD i default).eY.Ref
def Yz (h:dK):Prop:=∀i,i<h.Objects.length->CV h i≠1->0<=Bz h i/\Bz h i<h.Objects.length
theorem aeR {h:dK}{i:Nat}(hi:h.Objects.length<=i):Bz h i=0:=by
 unfold Bz;rw [List.getD_eq_getElem?_getD,List.getElem?_eq_none hi];rfl
theorem ajW {h:dK}(hP:Yz h){i:Nat}(hk:(h.Objects.getD i default).eY.Kind≠1):0<=(h.Objects.getD i default).eY.Ref:=by
 by_cases hi:i<h.Objects.length
 .exact (hP i hi hk).1
 .have:=aeR (h:=h) (i:=i) (by omega)
  unfold Bz at this;omega
theorem anf {h:dK}(hP:Yz h){u:Int}(hk:(h.Objects.getD u.toNat default).eY.Kind≠1)(h1:u<mF (List.map dM.enc h.Objects))(h0:0<=u):(h.Objects.getD u.toNat default).eY.Ref<mF (List.map dM.enc h.Objects):=by
 rw [aaG] at h1 ⊢
 exact (hP u.toNat (by omega) hk).2
theorem Uk {m:List (Int×Bool)}(ha:∀e∈m,e.2=true)(k:Int):(nC false k m).2=decide (k∈m.map (·.1)):=by
 induction m with
 |nil=>rfl
 |cons e r ih=>
  simp only [nC]
  by_cases h:k=e.1
  .simp [h,ha e (by simp)]
  .rw [if_neg h,ih fun x hx=>ha x (by simp [hx])]
   simp [h]
theorem aaH {m:List (Int×Bool)}{k:Int}(h:k∉m.map (·.1)):nD k true m=m++[(k,true)]:=by
 induction m with
 |nil=>rfl
 |cons e r ih=>
  simp only [List.map_cons,List.mem_cons,not_or] at h
  simp only [nD,if_neg h.1,ih h.2,List.cons_append]
theorem aaI {x0:dK}{u4:List Bool}{S:List Int}(hS:∀u∈S,(x0.Objects.getD u.toNat default).eY.Kind≠1->(x0.Objects.getD u.toNat default).eY.Ref∈S){u5:Bool} :
  ∀(n:Nat) (u6:Int) (m:List (Int×Bool)),(m.map (·.1)).Nodup->(∀e∈m,e.2=true)->(∀k∈m.map (·.1),k∈S)->u6∈S->S.length<n+m.length->kG x0 u4 n u5 u6 m=true
 |0,u6,m,hn,ha,hk,hu,hl=>by
  have:=List.Nodup.length_le_of_subset hn hk
  rw [List.length_map] at this
  omega
 |n+1,u6,m,hn,ha,hk,hu,hl=>by
  simp only [kG]
  cases (!(!(u4.getD u6.toNat default))) with
  |true=>rfl
  |false=>
   simp only [cond_false]
   rw [Uk ha]
   cases hm:decide (u6∈m.map (·.1)) with
   |true=>rfl
   |false=>
    have hm:=of_decide_eq_false hm
    simp only [cond_false]
    cases hq:dS (x0.Objects.getD u6.toNat default).eY.Kind 1 with
    |true=>rfl
    |false=>
     simp only [cond_false]
     rw [aaH hm]
     refine aaI hS n _ _ ?_ ?_ ?_ (hS _ hu (zh.1 hq)) (by simp;omega)
     .rw [List.map_append,List.nodup_append]
      refine ⟨hn,by simp,fun a ha' b hb=>?_⟩
      simp at hb;subst hb
      intro e;subst e;exact hm ha'
     .intro e he
      rcases List.mem_append.1 he with he|he
      .exact ha e he
      .simp at he;subst he;rfl
     .intro k hk'
      rw [List.map_append] at hk'
      rcases List.mem_append.1 hk' with hk' | hk'
      .exact hk k hk'
      .simp at hk';subst hk';exact hu
theorem OX {x0:dK}(hP:Yz x0){u4:List Bool}{u2:Bool}{u3:Int}:kG x0 u4 (x0.Objects.length+3) u2 u3 []=true:=by
 refine aaI (S:=u3::0::(List.range x0.Objects.length).map Int.ofNat) (fun u hu hk=>?_) _ _ _ (by simp) (by simp) (by simp) (by simp) (by simp)
 by_cases hi:u.toNat<x0.Objects.length
 .obtain ⟨h1,h2⟩:=hP _ hi hk
  unfold Bz at h1 h2
  refine List.mem_cons_of_mem _ (List.mem_cons_of_mem _ (List.mem_map.2 ⟨(x0.Objects.getD u.toNat default).eY.Ref.toNat,List.mem_range.2 (by omega),?_⟩))
  simp only [Int.ofNat_eq_natCast];omega
 .have:=aeR (h:=x0) (i:=u.toNat) (by omega)
  unfold Bz at this
  rw [this];simp
theorem aaJ {x0:dK}(hP:Yz x0){u4:List Bool}:∀{n:Nat} {u2:Bool} {u6:Int} {m:List (Int×Bool)},(∀e∈m,0<=e.1/\e.1<mF (List.map dM.enc x0.Objects))->0<=u6->u6<mF (List.map dM.enc x0.Objects)->∀e∈(g_ x0 u4 n u2 u6 m).2.2.2.1,0<=e.1/\e.1<mF (List.map dM.enc x0.Objects)
 |0,_,_,_,_,_,_=>fun e he=>by cases he
 |n+1,u2,u6,m,hm,h0,h1=>by
  have hput:∀{l:List (Int×Bool)},(∀e∈l,0<=e.1/\e.1<mF (List.map dM.enc x0.Objects))->∀e∈nD u6 true l,0<=e.1/\e.1<mF (List.map dM.enc x0.Objects):=by
   intro l
   induction l with
   |nil=>intro _ e he;simp [nD] at he;subst he;exact ⟨h0,h1⟩
   |cons a r ih=>
    intro hl e he
    simp only [nD] at he
    by_cases hc:u6=a.1
    .rw [if_pos hc] at he
     rcases List.mem_cons.1 he with rfl|he
     .exact ⟨h0,h1⟩
     .exact hl e (by simp [he])
    .rw [if_neg hc] at he
     rcases List.mem_cons.1 he with rfl|he
     .exact hl e (by simp)
     .exact ih (fun x hx=>hl x (by simp [hx])) e he
  simp only [g_]
  cases (!(!(u4.getD u6.toNat default))) with
  |true=>exact hm
  |false=>
   simp only [cond_false]
   cases (nC false u6 m).2 with
   |true=>intro e he;cases he
   |false=>
    simp only [cond_false]
    cases hq:dS (x0.Objects.getD u6.toNat default).eY.Kind 1 with
    |true=>exact hput hm
    |false=>
     simp only [cond_false]
     exact aaJ hP (hput hm) (ajW hP (zh.1 hq)) (anf hP (zh.1 hq) h1 h0)
theorem ao5 {x0:dK}(hB:x0.Objects.length<=4294967296){u:Int}(h0:0<=u)(g:(!(decide ((u:Int)<(iM dM.enc x0.Objects))))=false):0<=dZ .i64 u 1:=by
 simp only [Bool.not_eq_false',decide_eq_true_eq,ji] at g
 rw [Gq (by omega) (by omega)];omega
theorem IZ {c b:Bool}(h:(bif c then false else b)=true):c=false/\b=true:=by cases c<;>simp_all
theorem F5 {x0:dK}{i:Int}(h:kC x0 i=true):(x0.Objects.getD i.toNat default).eY.Kind=1\/(dP (x0.Objects.getD i.toNat default).eY=true/\eX x0 (x0.Objects.getD i.toNat default).eY=true):=by
 unfold kC at h
 dsimp only at h
 generalize x0.Objects.getD i.toNat default=o at h ⊢
 cases h6:dS o.Kind 6 with
 |true=>
  rw [h6] at h
  simp only [cond_true] at h
  unfold tC at h
  dsimp only at h
  obtain ⟨hc,-⟩:=IZ h
  left
  simp only [Bool.or_eq_false_iff,Bool.not_eq_false'] at hc
  have:=hc.1.1.2
  unfold o7 at this
  dsimp only at this
  rw [Bool.and_eq_true] at this
  exact nO.1 this.1
 |false=>
  rw [h6] at h
  simp only [cond_false] at h
  obtain ⟨hc,h⟩:=IZ h
  obtain ⟨hd,h⟩:=IZ h
  simp only [Bool.or_eq_false_iff,Bool.not_eq_false'] at hd
  by_cases hk:o.eY.Kind=1
  .exact .inl hk
  .right
   have h1:=hd.1.1
   rw [J4.2 hk] at h1
   simp only [Bool.true_and,Bool.not_eq_false'] at h1
   exact ⟨h1,hd.1.2⟩
open Classical in
theorem Ul {x0:dK}(hB:x0.Objects.length<=4294967296):∀(n j:Nat) (u1:Int),j<=x0.Objects.length->x0.Objects.length-j<n->pO x0 n u1 j=if ∀i,j<=i->i<x0.Objects.length->kC x0 (i:Nat)=true then (true,u1,default) else (false,default,9)
 |0,j,_,_,h=>by omega
 |n+1,j,u1,hj,hn=>by
  simp only [pO,ji]
  by_cases hlt:j<x0.Objects.length
  .have e1:(!decide ((j:Int)<(x0.Objects.length:Int)))=false:=by rw [decide_eq_true (by omega)];rfl
   rw [e1]
   simp only [cond_false]
   cases ho:kC x0 (j:Nat) with
   |false=>
    rw [if_neg (fun hh=>by have:=hh j (Nat.le_refl _) hlt;rw [ho] at this;cases this)]
    rfl
   |true=>
    simp only [Bool.not_true,cond_false]
    rw [Gq (by omega) (by omega)]
    have e2:((j:Int)+1)=((j+1:Nat):Int):=by omega
    rw [e2,Ul hB n (j+1) u1 (by omega) (by omega)]
    have:(∀i,j+1<=i->i<x0.Objects.length->kC x0 (i:Nat)=true)↔(∀i,j<=i->i<x0.Objects.length->kC x0 (i:Nat)=true):=by
     constructor
     .intro hh i h1 h2
      by_cases e:i=j
      .subst e;exact ho
      .exact hh i (by omega) h2
     .intro hh i h1 h2;exact hh i (by omega) h2
    simp only [this]
  .have e1:(!decide ((j:Int)<(x0.Objects.length:Int)))=true:=by rw [decide_eq_false (by omega)];rfl
   rw [e1,if_pos (fun i h1 h2=>by omega)]
   rfl
theorem aaK {x0:dK}(h:decide ((iM dM.enc x0.Objects:Int) > 4096)=false):x0.Objects.length<=4294967296:=by
 have:=of_decide_eq_false h
 rw [ji] at this;omega
theorem Um {x0:dK}(h:∀i,i<x0.Objects.length->kC x0 (i:Nat)=true):Yz x0:=by
 intro i hi hk
 rcases F5 (h i hi) with h1|⟨h1,h2⟩
 .exact absurd h1 hk
 .have:=Yl h2 h1
  exact this
theorem amj {x0:dK}(hB:x0.Objects.length<=4294967296)(h:mZ (pO x0 (x0.Objects.length+1) 0 0).1=0):Yz x0:=by
 have e:=Ul hB (x0.Objects.length+1) 0 0 (Nat.zero_le _) (by omega)
 have e0:((0:Nat):Int)=0:=rfl
 rw [e0] at e
 rw [e] at h
 split at h<;>rename_i hc
 .exact Um fun i hi=>hc i (Nat.zero_le _) hi
 .simp [mZ] at h
structure HOk (h:dK):Prop where
 len:h.Objects.length<=4096
 obj:∀i,i<h.Objects.length->kC h (i:Nat)=true
 lps:rD h=false
theorem Aj {h:dK}:jO h=0↔HOk h:=by
 unfold jO
 dsimp only
 rw [ji]
 by_cases hl:h.Objects.length<=4096
 .have e1:decide ((h.Objects.length:Int) > 4096)=false:=decide_eq_false (by omega)
  have e:=Ul (x0:=h) (by omega) (h.Objects.length+1) 0 0 (Nat.zero_le _) (by omega)
  have e0:((0:Nat):Int)=0:=rfl
  rw [e0] at e
  rw [e1,e]
  simp only [cond_false]
  by_cases hc:∀i,0<=i->i<h.Objects.length->kC h (i:Nat)=true
  .rw [if_pos hc]
   have e2:(!dS (mZ true) 0)=false:=rfl
   simp only [e2,cond_false]
   cases hL:rD h with
   |true=>exact ⟨fun h=>absurd h (by decide),fun h=>by have:=h.lps;rw [hL] at this;cases this⟩
   |false=>exact ⟨fun _=>⟨hl,fun i hi=>hc i (Nat.zero_le _) hi,hL⟩,fun _=>rfl⟩
  .rw [if_neg hc]
   have e2:(!dS (mZ false) 0)=true:=rfl
   simp only [e2,cond_true]
   exact ⟨fun h=>absurd h (by decide),fun h=>absurd (fun i _ hi=>h.obj i hi) hc⟩
 .have e1:decide ((h.Objects.length:Int) > 4096)=true:=decide_eq_true (by omega)
  rw [e1]
  exact ⟨fun h=>absurd h (by simp),fun h=>absurd h.len hl⟩
theorem HOk.pok {h:dK}(k:HOk h):Yz h:=Um k.obj
theorem ao6 {h:dK}(hC:jO h=0){i:Nat}:hIn h (h.Objects.getD i default).eY:=by
 have k:=Aj.1 hC
 intro hi
 by_cases hl:i<h.Objects.length
 .rcases F5 (k.obj i hl) with h1|⟨h1,h2⟩
  .unfold dP at hi
   simp only [Int.toNat_natCast] at h1
   rw [h1] at hi;simp at hi
  .exact Yl h2 h1
 .have h0:h.Objects.getD i default=default:=by rw [List.getD_eq_getElem?_getD,List.getElem?_eq_none (by omega)];rfl
  rw [h0] at hi;cases hi
def run (h:dK):Nat->Nat->Bool
 |0,_=>false
 |n+1,i=>bif dS (CV h i) 1 then true else run h n (Bz h i).toNat
theorem QB {h:dK}:∀{n i:Nat},run h n i=true->run h (n+1) i=true
 |0,_,h=>by cases h
 |n+1,i,hr=>by
  simp only [run] at hr ⊢
  cases hk:dS (CV h i) 1 with
  |true=>rfl
  |false=>rw [hk] at hr;exact QB hr
theorem ao7 {h:dK}{n m i:Nat}(hr:run h n i=true)(hm:n<=m):run h m i=true:=by
 obtain ⟨k,rfl⟩:=Nat.le.dest hm
 clear hm
 induction k with
 |zero=>exact hr
 |succ k ih=>exact QB ih
theorem OY {h:dK}{i:Nat}:∀{n:Nat},run h n i=true->∃k,run h (k+1) i=true/\run h k i=false
 |0,hr=>by cases hr
 |n+1,hr=>by
  cases hk:run h n i with
  |false=>exact ⟨n,hr,hk⟩
  |true=>exact OY hk
def Un (h:dK):Prop:=∀i,i<h.Objects.length->∃n,run h n i=true
def axb (h:dK):Nat->Nat->List Nat
 |0,_=>[]
 |n+1,i=>i::axb h n (Bz h i).toNat
theorem WC {h:dK}:∀{n i:Nat},run h n i=true->(n=0\/run h (n-1) i=false)->∀x∈axb h n i,run h n x=true
 |0,i,hr,_=>by cases hr
 |n+1,i,hr,hl=>by
  intro x hx
  rcases List.mem_cons.1 hx with rfl|hx
  .exact hr
  .cases n with
   |zero=>cases hx
   |succ n=>
    have hl:run h (n+1) i=false:=by simpa using hl
    have hk:dS (CV h i) 1=false:=by
     cases hk:dS (CV h i) 1 with
     |false=>rfl
     |true=>simp only [run,hk,cond_true] at hl;cases hl
    have h1:run h (n+1) (Bz h i).toNat=true:=by
     have:run h (n+2) i=(bif dS (CV h i) 1 then true else run h (n+1) (Bz h i).toNat):=rfl
     rw [this,hk] at hr;exact hr
    have h2:run h n (Bz h i).toNat=false:=by
     have:run h (n+1) i=(bif dS (CV h i) 1 then true else run h n (Bz h i).toNat):=rfl
     rw [this,hk] at hl;exact hl
    exact QB (WC h1 (.inr (by simpa using h2)) x hx)
theorem aaM {h:dK}(hP:Yz h):∀{n i:Nat},i<h.Objects.length->run h (n+1) i=true->run h n i=false->(axb h (n+1) i).Nodup/\(∀x∈axb h (n+1) i,x<h.Objects.length)/\(axb h (n+1) i).length=n+1
 |0,i,hi,hr,hl=>by simp [axb,hi]
 |n+1,i,hi,hr,hl=>by
  have hk:dS (CV h i) 1=false:=by
   cases hk:dS (CV h i) 1 with
   |false=>rfl
   |true=>simp only [run,hk,cond_true] at hl;cases hl
  have h1:run h (n+1) (Bz h i).toNat=true:=by
   have:run h (n+2) i=(bif dS (CV h i) 1 then true else run h (n+1) (Bz h i).toNat):=rfl
   rw [this,hk] at hr;exact hr
  have h2:run h n (Bz h i).toNat=false:=by
   have:run h (n+1) i=(bif dS (CV h i) 1 then true else run h n (Bz h i).toNat):=rfl
   rw [this,hk] at hl;exact hl
  obtain ⟨p0,p1⟩:=hP i hi (zh.1 hk)
  obtain ⟨c1,c2,c3⟩:=aaM hP (i:=(Bz h i).toNat) (by omega) h1 h2
  refine ⟨?_,?_,?_⟩
  .show (i::axb h (n+1) (Bz h i).toNat).Nodup
   refine List.nodup_cons.2 ⟨fun hm=>?_,c1⟩
   have:=WC h1 (.inr (by simpa using h2)) i hm
   rw [hl] at this;cases this
  .intro x hx
   rcases List.mem_cons.1 hx with rfl|hx
   .exact hi
   .exact c2 x hx
  .show (i::axb h (n+1) (Bz h i).toNat).length=_
   rw [List.length_cons,c3]
theorem amk {h:dK}(hP:Yz h)(ha:Un h){i:Nat}(hi:i<h.Objects.length):run h h.Objects.length i=true:=by
 obtain ⟨n,hn⟩:=ha i hi
 obtain ⟨k,h1,h2⟩:=OY hn
 obtain ⟨c1,c2,c3⟩:=aaM hP hi h1 h2
 have:=List.Nodup.length_le_of_subset c1 (l₂:=List.range h.Objects.length) fun x hx=>List.mem_range.2 (c2 x hx)
 rw [c3,List.length_range] at this
 exact ao7 h1 this
theorem aaN {x0:dK}{u4:List Bool}:∀{n:Nat} {u5:Bool} {u6:Int} {m:List (Int×Bool)},kG x0 u4 n u5 u6 m=true->(g_ x0 u4 n u5 u6 m).1=true\/((g_ x0 u4 n u5 u6 m).1=false/\(g_ x0 u4 n u5 u6 m).2.2.2.2.1=true)
 |0,_,_,_,h=>by cases h
 |n+1,u5,u6,m,h=>by
  simp only [kG] at h
  simp only [g_]
  cases hb:(!(!(u4.getD u6.toNat default))) with
  |true=>exact .inl rfl
  |false=>
   cases hg:(nC false u6 m).2 with
   |true=>exact .inr ⟨rfl,rfl⟩
   |false=>
    cases hq:dS (x0.Objects.getD u6.toNat default).eY.Kind 1 with
    |true=>exact .inl rfl
    |false=>
     rw [hb,hg,hq] at h
     exact aaN h
theorem WE {x0:dK}(hP:Yz x0){u4:List Bool}(hd:∀i,u4.getD i default=true->∃n,run x0 n i=true):∀{n:Nat} {u5:Bool} {u6:Int} {m:List (Int×Bool)},(g_ x0 u4 n u5 u6 m).1=true->
  (∃k,run x0 k u6.toNat=true)/\(∀e∈(g_ x0 u4 n u5 u6 m).2.2.2.1,e∈m\/∃k,run x0 k e.1.toNat=true)/\(∀e∈m,∃e'∈(g_ x0 u4 n u5 u6 m).2.2.2.1,e'.1=e.1)/\(u4.getD u6.toNat default=true\/∃e'∈(g_ x0 u4 n u5 u6 m).2.2.2.1,e'.1=u6)
 |0,_,_,_,h=>by cases h
 |n+1,u5,u6,m,h=>by
  have hput:∀{l:List (Int×Bool)},(∀e∈nD u6 true l,e∈l\/e=(u6,true))/\(∀e∈l,∃e'∈nD u6 true l,e'.1=e.1)/\(u6,true)∈nD u6 true l:=by
   intro l
   induction l with
   |nil=>exact ⟨fun e he=>.inr (by simpa [nD] using he),fun e he=>(by cases he),by simp [nD]⟩
   |cons a r ih=>
    obtain ⟨i1,i2,i3⟩:=ih
    simp only [nD]
    by_cases hc:u6=a.1
    .rw [if_pos hc]
     refine ⟨fun e he=>?_,fun e he=>?_,by simp⟩
     .rcases List.mem_cons.1 he with rfl|he
      .exact .inr rfl
      .exact .inl (List.mem_cons_of_mem _ he)
     .rcases List.mem_cons.1 he with rfl|he
      .exact ⟨_,List.mem_cons_self ..,hc⟩
      .exact ⟨e,List.mem_cons_of_mem _ he,rfl⟩
    .rw [if_neg hc]
     refine ⟨fun e he=>?_,fun e he=>?_,List.mem_cons_of_mem _ i3⟩
     .rcases List.mem_cons.1 he with rfl|he
      .exact .inl (List.mem_cons_self ..)
      .rcases i1 e he with h|h
       .exact .inl (List.mem_cons_of_mem _ h)
       .exact .inr h
     .rcases List.mem_cons.1 he with rfl|he
      .exact ⟨_,List.mem_cons_self ..,rfl⟩
      .obtain ⟨e',h1,h2⟩:=i2 e he
       exact ⟨e',List.mem_cons_of_mem _ h1,h2⟩
  simp only [g_] at h ⊢
  cases hb:(!(!(u4.getD u6.toNat default))) with
  |true=>
   have hb':u4.getD u6.toNat default=true:=by simpa using hb
   exact ⟨hd _ hb',fun e he=>.inl he,fun e he=>⟨e,he,rfl⟩,.inl hb'⟩
  |false=>
   cases hg:(nC false u6 m).2 with
   |true=>rw [hb,hg] at h;cases h
   |false=>
    obtain ⟨p1,p2,p3⟩:=hput (l:=m)
    cases hq:dS (x0.Objects.getD u6.toNat default).eY.Kind 1 with
    |true=>
     have hr:run x0 1 u6.toNat=true:=by
      show (bif dS (CV x0 u6.toNat) 1 then true else _)=true
      unfold CV;rw [hq];rfl
     refine ⟨⟨1,hr⟩,fun e he=>?_,p2,.inr ⟨_,p3,rfl⟩⟩
     rcases p1 e he with h' | h'
     .exact .inl h'
     .subst h';exact .inr ⟨1,hr⟩
    |false=>
     rw [hb,hg,hq] at h
     simp only [cond_false] at h ⊢
     obtain ⟨⟨k,a1⟩,a2,a3,a4⟩:=WE hP hd h
     have hr:run x0 (k+1) u6.toNat=true:=by
      show (bif dS (CV x0 u6.toNat) 1 then true else run x0 k (Bz x0 u6.toNat).toNat)=true
      unfold CV Bz;rw [hq];exact a1
     refine ⟨⟨k+1,hr⟩,fun e he=>?_,fun e he=>?_,.inr ?_⟩
     .rcases a2 e he with h' | h'
      .rcases p1 e h' with h'' | h''
       .exact .inl h''
       .subst h'';exact .inr ⟨k+1,hr⟩
      .exact .inr h'
     .obtain ⟨e1,q1,q2⟩:=p2 e he
      obtain ⟨e2,q3,q4⟩:=a3 e1 q1
      exact ⟨e2,q3,q4.trans q2⟩
     .obtain ⟨e2,q3,q4⟩:=a3 _ p3
      exact ⟨e2,q3,q4⟩
theorem aaO {m:List (Int×Bool)}{d:List Bool}{i:Nat}(hi:i<d.length):(MW m d).getD i default=(d.getD i default||m.any fun e=>Nat.beq e.1.toNat i):=by
 simp [MW,List.getD_eq_getElem?_getD,List.getElem?_mapIdx,hi]
theorem aaP {m:List (Int×Bool)}{d:List Bool}:(MW m d).length=d.length:=by simp [MW]
theorem aaQ {x0:dK}(hP:Yz x0)(hB:x0.Objects.length<=4294967296):∀(n j:Nat) (u2:Bool) (u4:List Bool),j<=x0.Objects.length->x0.Objects.length-j<n->u4.length=x0.Objects.length->
  (∀i,u4.getD i default=true->∃k,run x0 k i=true)->(∀i,i<j->u4.getD i default=true)->
  ((kY x0 n u2 j u4).1=true/\Un x0)\/((kY x0 n u2 j u4).1=false/\(kY x0 n u2 j u4).2.2.2.1=true)
 |0,j,_,_,_,h,_,_,_=>by omega
 |n+1,j,u2,u4,hj,hn,hl,hd,ha=>by
  simp only [kY,ji]
  by_cases hlt:j<x0.Objects.length
  .have e1:(!decide ((j:Int)<(x0.Objects.length:Int)))=false:=by rw [decide_eq_true (by omega)];rfl
   rw [e1]
   simp only [cond_false]
   rcases aaN (OX hP (u4:=u4) (u2:=u2) (u3:=(j:Int))) with hw|⟨hw,hw2⟩
   .rw [hw]
    have e2:(!dS (mZ true) 0)=false:=rfl
    simp only [e2,cond_false]
    rw [Gq (by omega) (by omega)]
    have e3:((j:Int)+1)=((j+1:Nat):Int):=by omega
    rw [e3]
    obtain ⟨a1,a2,a3,a4⟩:=WE hP hd hw
    generalize (g_ x0 u4 (x0.Objects.length+3) u2 (j:Int) []).2.2.2.1=m at a2 a4
    refine aaQ hP hB n (j+1) _ _ (by omega) (by omega) (by rw [aaP,hl]) (fun i hi=>?_) (fun i hi=>?_)
    .by_cases hil:i<u4.length
     .rw [aaO hil,Bool.or_eq_true] at hi
      rcases hi with hi|hi
      .exact hd i hi
      .rw [List.any_eq_true] at hi
       obtain ⟨e,he,hei⟩:=hi
       have hei:=Nat.eq_of_beq_eq_true hei
       rcases a2 e he with h' | h'
       .cases h'
       .rw [hei] at h';exact h'
     .rw [List.getD_eq_getElem?_getD,List.getElem?_eq_none (by rw [aaP];omega)] at hi;cases hi
    .rw [aaO (by omega),Bool.or_eq_true]
     by_cases hij:i<j
     .exact .inl (ha i hij)
     .have:i=j:=by omega
      subst this
      rcases a4 with a4|⟨e,he,hei⟩
      .left;simpa using a4
      .right
       rw [List.any_eq_true]
       exact ⟨e,he,by rw [hei];simp⟩
   .rw [hw]
    have e2:(!dS (mZ false) 0)=true:=rfl
    simp only [e2,cond_true]
    exact .inr ⟨trivial,hw2⟩
  .have e1:(!decide ((j:Int)<(x0.Objects.length:Int)))=true:=by rw [decide_eq_false (by omega)];rfl
   rw [e1]
   simp only [cond_true]
   exact .inl ⟨trivial,fun i hi=>hd i (ha i (by omega))⟩
theorem ajX {n i:Nat}:(List.replicate n false).getD i default=false:=by
 rw [List.getD_eq_getElem?_getD,List.getElem?_replicate]
 split<;>rfl
theorem ado {x0:dK}(hP:Yz x0)(hB:x0.Objects.length<=4294967296)(h:rD x0=false):Un x0:=by
 unfold rD at h
 dsimp only at h
 rw [ji,Int.toNat_natCast] at h
 have e0:((0:Nat):Int)=0:=rfl
 rcases aaQ hP hB (x0.Objects.length+1) 0 false (List.replicate x0.Objects.length false) (Nat.zero_le _) (by omega) (by simp) (fun i hi=>by rw [ajX] at hi;cases hi) (fun i hi=>by omega) with ⟨h1,h2⟩|⟨h1,h2⟩
 .exact h2
 .rw [e0] at h1 h2
  rw [h1] at h
  have e2:(!dS (mZ false) 0)=true:=rfl
  rw [e2] at h
  simp only [cond_true] at h
  rw [h2] at h;cases h
theorem HOk.aml {h:dK}(k:HOk h):Un h:=ado k.pok (by have:=k.len;omega) k.lps
theorem aaR {x0:dK}{x1:Int}:∀{k:Nat} {u3:Bool} {v:dJ},(dP v=true->run x0 k v.Ref.toNat=true)->jI x0 x1 (k+1) u3 v=true
 |k,u3,v,hr=>by
  simp only [jI]
  cases ho:dP v with
  |false=>rfl
  |true=>
   simp only [Bool.not_true,cond_false]
   cases dS v.Ref x1 with
   |true=>rfl
   |false=>
    simp only [cond_false]
    cases dS (x0.Objects.getD v.Ref.toNat default).Kind 6 with
    |true=>rfl
    |false=>
     simp only [cond_false]
     have hr:=hr ho
     match k,hr with
     |0,hr=>cases hr
     |j+1,hr=>
      refine aaR fun hp=>?_
      have:run x0 (j+1) v.Ref.toNat=(bif dS (CV x0 v.Ref.toNat) 1 then true else run x0 j (Bz x0 v.Ref.toNat).toNat):=rfl
      rw [this] at hr
      cases hk:dS (CV x0 v.Ref.toNat) 1 with
      |false=>rw [hk] at hr;exact hr
      |true=>
       have hk:=nO.1 hk
       unfold CV at hk
       unfold dP at hp
       rw [hk] at hp;simp at hp
theorem Uo {x0:dK}(hC:jO x0=0){x1:Int}{x2:dJ}(h2:hIn x0 x2){u3:Bool}:jI x0 x1 (x0.Objects.length+1) u3 x2=true:=by
 have k:=Aj.1 hC
 exact aaR fun ho=>amk k.pok k.aml (by have:=h2 ho;omega)
theorem ao8 {h:dK}{v:dJ}(q:jH h v=true):hIn h v:=by
 intro i
 unfold jH at q
 dsimp only at q
 rw [i] at q
 simp only [Bool.not_true,cond_false] at q
 obtain ⟨q1,-⟩:=IZ q
 rw [ji] at q1
 simp only [Bool.or_eq_false_iff,Bool.not_eq_false',decide_eq_false_iff_not] at q1
 exact ⟨Nu q1.1,by omega⟩
theorem aaS {h:dK}{v:dJ}(q:jD h v=true):hIn h v:=by
 unfold jD at q
 dsimp only at q
 rw [Bool.and_eq_true] at q
 exact ao8 q.2
theorem ajY {x0:dK}{a:iI}(h1:dS a.Method 2=true)(h2:iK (jh x0 a) 0=false):hIn x0 a.Value:=by
 have h2:=uF.1 h2
 have h1:=nO.1 h1
 unfold jh at h2
 dsimp only at h2
 rw [h1] at h2
 cases hp:jD x0 a.Value with
 |true=>exact aaS hp
 |false=>
  rw [hp] at h2
  simp only [show dS 2 1=false from rfl,show dS 2 2=true from rfl,show dS 2 3=false from rfl,show dS 2 4=false from rfl,show dS 2 11=false from rfl,Bool.or_self,Bool.not_false,Bool.and_self,cond_true] at h2
  generalize (decide (a.Object<0)||decide (a.Object>=iM dM.enc x0.Objects))=c1 at h2
  generalize (!(dS (x0.Objects.getD a.Object.toNat default).Kind 1||(dS (x0.Objects.getD a.Object.toNat default).Kind 4||dS (x0.Objects.getD a.Object.toNat default).Kind 5)))=c2 at h2
  cases c1<;>cases c2<;>simp at h2
theorem Nv {x0:dK}{a:iI}(h:(jJ x0 a).2.2=0):jO x0=0/\jh x0 a=0:=by
 unfold jJ at h
 dsimp only at h
 cases hc:iK (jO x0) 0 with
 |true=>rw [hc] at h;exact absurd h (J4.1 hc)
 |false=>
  rw [hc] at h
  simp only [cond_false] at h
  cases hw:iK (jh x0 a) 0 with
  |true=>rw [hw] at h;exact absurd h (J4.1 hw)
  |false=>exact ⟨uF.1 hc,uF.1 hw⟩
end Go.Fw
end
section
namespace Go.Fw
theorem axD {α:Type}[Inhabited α]{l:List α}{i:Nat}:l.set i (l.getD i default)=l:=by
 apply List.ext_getElem?
 intro j
 rw [List.getElem?_set]
 by_cases h:i=j
 .subst h
  rw [if_pos rfl]
  by_cases h2:i<l.length
  .rw [if_pos h2,List.getD_eq_getElem?_getD,List.getElem?_eq_getElem h2];rfl
  .rw [if_neg h2,List.getElem?_eq_none (by omega)]
 .rw [if_neg h]
theorem aeS {x0:dK}(hB:x0.Objects.length<=4294967296):∀(n j:Nat) (l:List dM),j<=x0.Objects.length->x0.Objects.length-j<n->lD x0 n j l=l
 |0,j,l,_,h=>by omega
 |n+1,j,l,hj,hn=>by
  simp only [lD,ji,Eo]
  by_cases hlt:j<x0.Objects.length
  .have e1:(!decide ((j:Int)<(x0.Objects.length:Int)))=false:=by rw [decide_eq_true (by omega)];rfl
   rw [e1,Gq (by omega) (by omega)]
   simp only [cond_false]
   have e2:((j:Int)+1)=((j+1:Nat):Int):=by omega
   rw [e2,axD,aeS hB n (j+1) l (by omega) (by omega)]
  .have e1:(!decide ((j:Int)<(x0.Objects.length:Int)))=true:=by rw [decide_eq_false (by omega)];rfl
   rw [e1];rfl
theorem agO {x0:dK}(hB:x0.Objects.length<=4294967296){l:List dM}:lD x0 (x0.Objects.length+1) 0 l=l:=aeS hB _ 0 l (Nat.zero_le _) (by omega)
theorem PW {x0:dK}:∀(n:Nat) (j:Int) (l:List dM),(lD x0 n j l).length<=l.length
 |0,j,l=>Nat.zero_le _
 |n+1,j,l=>by
  simp only [lD]
  cases (!(decide ((j:Int)<(iM dM.enc x0.Objects)))) with
  |true=>exact Nat.le_refl _
  |false=>exact Nat.le_trans (PW n _ _) (by simp)
theorem Ur (x0:dK):IY x0=yG x0:=by
 unfold IY yG
 dsimp only
 rw [ji,Int.toNat_natCast]
 generalize hr:lD x0 (x0.Objects.length+1) 0 _=r
 have:=PW (x0:=x0) (x0.Objects.length+1) 0 (List.take x0.Objects.length x0.Objects++List.drop (min x0.Objects.length x0.Objects.length) (List.replicate x0.Objects.length (dM.mk 0 (dJ.mk 0 0 [] 0) false [] (dJ.mk 0 0 [] 0) (dJ.mk 0 0 [] 0) [] false false)))
 rw [hr] at this
 rw [List.drop_zero,Nat.sub_zero,List.take_of_length_le]
 simpa using this
theorem amm {x0:dK}(hb:x0.Objects.length<=4294967296):yG x0=x0:=by
 unfold yG
 dsimp only
 rw [ji,Int.toNat_natCast,agO hb]
 cases x0
 simp
def d0 : dI:=dI.mk 0 (dJ.mk 0 0 [] 0) (dJ.mk 0 0 [] 0) (dJ.mk 0 0 [] 0) false false false
def v00 : dJ:=dJ.mk 0 0 [] 0
def GY (h:dK)(a:iI):dK×gJ×Int:=
 let o:=h.Objects.getD a.Object.toNat default
 let st (o':dM):dK:=⟨h.Objects.set a.Object.toNat o'⟩
 let f:=fA o.Props a.Key
 bif dS a.Method 1 then (h,⟨1,o.eY,false,false,d0,[],0,[]⟩,0)
 else bif dS a.Method 2 then (bif fB a.Value o.eY||!o.Ext||iH h a.Object a.Value then (h,dX (fB a.Value o.eY),0) else (st {o with eY:=a.Value},dX true,0))
 else bif dS a.Method 3 then (h,dX o.Ext,0)
 else bif dS a.Method 4 then (st {o with Ext:=false},dX true,0)
 else bif dS a.Method 5 then (h,⟨1,v00,false,f.2.1,f.1,[],0,[]⟩,0)
 else bif dS a.Method 6 then
  let ap:=fG o.Ext a.dR f.2.1 f.1
  let pt:=jY o.Props a.Key ap.1
  bif !ap.2.1 then (h,dX false,0) else bif iK pt.2 0 then (h,⟨3,v00,false,false,d0,[],2,[116,111,111,32,109,97,110,121]⟩,0) else (st {o with Props:=pt.1},dX true,0)
 else bif dS a.Method 10 then
  bif f.2.1&&!f.1.Configurable then (h,dX false,0) else (st {o with Props:=(rC o.Props a.Key).1},dX true,0)
 else (h,⟨1,v00,false,false,d0,(pJ o.Props).1,0,[]⟩,0)
theorem axA {l:List dM}{i:Nat}{x:dM}:((l.set i x).drop 0).take (l.length-0)=l.set i x:=by
 rw [List.drop_zero,Nat.sub_zero,List.take_of_length_le (by simp)]
theorem aeT {x0:dK}{a:iI}(hC:jO x0=0)(hw:jh x0 a=0):jJ x0 a=GY x0 a:=by
 have hk:=(Aj.1 hC).len
 unfold jJ GY
 dsimp only
 rw [uF.2 hC,uF.2 hw,amm (by omega)]
 simp only [cond_false,ji,Int.toNat_natCast,axA]
 generalize x0.Objects.getD a.Object.toNat default=o
 cases m1:dS a.Method 1 with
 |true=>rfl
 |false=>
  simp only [cond_false]
  cases m2:dS a.Method 2 with
  |true=>
   simp only [Bool.true_and]
   cases hs:fB a.Value o.eY with
   |true=>rfl
   |false=>
    cases (!o.Ext) with
    |true=>rfl
    |false=>cases iH x0 a.Object a.Value<;>rfl
  |false=>
   simp only [Bool.false_and,cond_false]
   cases m3:dS a.Method 3 with
   |true=>rfl
   |false=>
    cases m4:dS a.Method 4 with
    |true=>rfl
    |false=>
     cases m5:dS a.Method 5 with
     |true=>rfl
     |false=>
      simp only [cond_false]
      cases m6:dS a.Method 6 with
      |true=>
       simp only [Bool.true_and]
       cases (fG o.Ext a.dR (fA o.Props a.Key).2.1 (fA o.Props a.Key).1).2.1 with
       |false=>rfl
       |true=>
        simp only [Bool.not_true,Bool.false_or]
        cases iK (jY o.Props a.Key (fG o.Ext a.dR (fA o.Props a.Key).2.1 (fA o.Props a.Key).1).1).2 0<;>rfl
      |false=>
       simp only [Bool.false_and,cond_false]
       cases m10:dS a.Method 10 with
       |true=>
        simp only [Bool.true_and]
        cases ((fA o.Props a.Key).2.1&&!(fA o.Props a.Key).1.Configurable)<;>rfl
       |false=>rfl
theorem amn {x0:dK}{a:iI}(h:(jJ x0 a).2.2=0):mW x0 a=((GY x0 a).1,(GY x0 a).2.1):=by
 unfold mW
 dsimp only
 rw [uF.2 h,aeT (Nv h).1 (Nv h).2];rfl
end Go.Fw
end
section
namespace Go.Fw
open Go.Proofs
set_option maxRecDepth 100000
theorem jR : Tryz.prog.follows .mixedOrders=true:=by kernel_rfl
theorem uw (x0:Nat):PC Tryz.prog 156 [.p (.float .f64 x0)] (.p (.int .u64 (nU x0))):=
 XQ (fn:=Tryz.f156) (e:=Extern.MathFloatBits.float64bits) (by kernel_rfl) (by kernel_rfl) (by kernel_rfl) (by kernel_rfl) (by kernel_rfl) rfl rfl rfl rfl
theorem vX (x0:Int):PC Tryz.prog 155 [.p (.int .u64 x0)] (.p (.float .f64 (oV x0))):=
 XQ (fn:=Tryz.f155) (e:=Extern.MathFloatBits.float64frombits) (by kernel_rfl) (by kernel_rfl) (by kernel_rfl) (by kernel_rfl) (by kernel_rfl) rfl rfl rfl rfl
theorem CW (x0:Nat)(h:IC x0):PC Tryz.prog 153 [.p (.float .f64 x0)] (.p (.float .f64 (jd x0))):=
 XQ (fn:=Tryz.f153) (e:=Extern.MathFloor.toIntegral "math.archTrunc" .zero) (by kernel_rfl) (by kernel_rfl) (by kernel_rfl) (by kernel_rfl) (by kernel_rfl) rfl (agh h) rfl rfl
def ajZ : XT:=⟨125,128,126,136,137,144⟩
theorem aqX : amX Tryz.prog ajZ where
 vo:=fun args w=>run_callFunc_extern Tryz.func125 (by kernel_rfl) (by kernel_rfl) (by kernel_rfl) (e:=fun args=>Extern.ReflectliteValue.unpack (args.getD 0 (.tuple #[]))) (by kernel_rfl) args w
 ln:=fun args w=>run_callFunc_extern Tryz.func128 (by kernel_rfl) (by kernel_rfl) (by kernel_rfl) (e:=Extern.ReflectliteValue.method (Extern.ReflectliteValue.valueError "reflectlite.Value.Len" 0) Extern.ReflectliteValue.len) (by kernel_rfl) args w
 sw:=fun args w=>run_callFunc_extern Tryz.func126 (by kernel_rfl) (by kernel_rfl) (by kernel_rfl) (e:=Extern.ReflectliteSwapper.swapper "internal/reflectlite" (Extern.ReflectliteValue.valueError "Swapper")) (by kernel_rfl) args w
 l9:=fun args w=>run_callFunc_extern Tryz.func144 (by kernel_rfl) (by kernel_rfl) (by kernel_rfl) (e:=Extern.ReflectliteSwapper.swap false) (by kernel_rfl) args w
 n1:=by kernel_rfl
 n2:=by kernel_rfl
 n9:=by kernel_rfl
end Go.Fw
end
