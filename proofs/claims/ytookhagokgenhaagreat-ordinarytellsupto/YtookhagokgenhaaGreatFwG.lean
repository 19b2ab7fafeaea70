
import Derived.Test.YtookhagokgenhaaGreatFwF
import Derived.Test.YtookhagokgenhaaGreatFwE
import Derived.Test.YtookhagokgenhaaGreatProg
set_option linter.unusedVariables false
set_option linter.unusedSimpArgs false
set_option linter.unusedSectionVars false
set_option linter.unnecessarySimpa false
section
namespace Go.Fw
def pv : List UInt8->Int->Option Int
 |[],a=>some a
 |c::r,a=>if c.toNat<48\/c.toNat > 57 then none else pv r (10*a+(c.toNat-48))
def tD (n:Nat):List UInt8:=
 if n<10 then [UInt8.ofNat (48+n)] else if n<100 then [UInt8.ofNat (48+n / 10),UInt8.ofNat (48+n % 10)]
 else if n<1000 then [UInt8.ofNat (48+n / 100),UInt8.ofNat (48+n / 10 % 10),UInt8.ofNat (48+n % 10)]
 else [UInt8.ofNat (48+n / 1000),UInt8.ofNat (48+n / 100 % 10),UInt8.ofNat (48+n / 10 % 10),UInt8.ofNat (48+n % 10)]
theorem abE : ∀n<1024,qR ((n:Nat):Int)=tD n:=by decide +kernel
theorem an5 : ∀n<1024,iI ⟨qR ((n:Nat):Int),0⟩=(((n:Nat):Int),true):=by decide +kernel
theorem Xn {s:List UInt8}{a b:Int}:∀(n:Nat) {u1:Int} {u2:Bool} {u3 u4:Int},oh ⟨s,a⟩ n u1 u2 u3 u4=oh ⟨s,b⟩ n u1 u2 u3 u4
 |0,_,_,_,_=>rfl
 |n+1,u1,u2,u3,u4=>by
  simp only [oh]
  rw [Xn (a:=a) (b:=b) n]
theorem aq3 {s:List UInt8}{a:Int}(h:¬a > 0):iI ⟨s,a⟩=iI ⟨s,0⟩:=by
 unfold iI
 dsimp only
 rw [Xn (a:=a) (b:=0),decide_eq_false h,decide_eq_false (by omega:¬(0:Int) > 0)]
theorem adZ {k:dI}(h:k.Sym > 0):iI k=(0,false):=by
 unfold iI
 dsimp only
 rw [decide_eq_true h];rfl
theorem wsub {c:UInt8}(h:48<=c.toNat):IntKind.wrap .i64 (iq .u8 ((c.toNat:Nat):Int) 48)=c.toNat-48:=by
 have hc:=c.toNat_lt
 have e:iq .u8 ((c.toNat:Nat):Int) 48=c.toNat-48:=by
  show (if (false&&decide (((c.toNat:Int)-48) % 2 ^ 8>=2 ^ (8-1)))=true then ((c.toNat:Int)-48) % 2 ^ 8-2 ^ 8 else ((c.toNat:Int)-48) % 2 ^ 8)=_
  simp;omega
 rw [e]
 have:=nG (a:=(c.toNat:Int)-48) (b:=0) (by omega) (by omega)
 unfold dY at this
 simpa using this
theorem aiE (s:List UInt8):sLen s=(s.length:Int):=rfl
theorem an6 {s:List UInt8}{b:Int}(hs:s.length<=4):∀(n j:Nat) {u1:Int} {u2:Bool} {a:Int},j<=s.length->s.length-j<n->0<=a->((j=0/\a<=0)\/(j=1/\a<=9)\/(j=2/\a<=99)\/(j=3/\a<=999)\/(j=4/\a<=9999))->
  ∃r,oh ⟨s,b⟩ n u1 u2 a j=r/\(match pv (s.drop j) a with|none=>r.1=false/\r.2.2.2.2=(0,false)|some v=>r.1=true/\r.2.2.2.1=v)
 |0,j,_,_,a,hj,hn,_,_=>by omega
 |n+1,j,u1,u2,a,hj,hn,h0,h1=>by
  simp only [oh,Int.toNat_natCast]
  by_cases hlt:j<s.length
  .have e:s.drop j=s.getD j 0::s.drop (j+1):=by
    rw [List.drop_eq_getElem_cons hlt];simp [List.getD_eq_getElem?_getD,hlt]
   rw [e]
   have hd:decide ((j:Int)<(sLen s:Int))=true:=decide_eq_true (show (j:Int)<(s.length:Int) by omega)
   simp only [hd,Bool.not_true,cond_false,pv]
   obtain ⟨c,hcc⟩:∃c,s.getD j 0=c:=⟨_,rfl⟩
   simp only [hcc]
   by_cases hc:c.toNat<48\/c.toNat > 57
   .have:(decide (((c.toNat:Nat):Int)<48)||decide (((c.toNat:Nat):Int) > 57))=true:=by
     rw [<- Bool.decide_or];exact decide_eq_true (by omega)
    simp only [this,cond_true,hc,if_true]
    exact ⟨_,rfl,rfl,rfl⟩
   .have:(decide (((c.toNat:Nat):Int)<48)||decide (((c.toNat:Nat):Int) > 57))=false:=by
     rw [<- Bool.decide_or];exact decide_eq_false (by omega)
    simp only [this,cond_false,hc,if_false]
    rw [wsub (by omega),aij (by omega) (by omega),nG (by omega) (by omega),Um (by omega),show a*10+(↑c.toNat-48)=10*a+(↑c.toNat-48) by omega]
    exact an6 hs n (j+1) (by omega) (by omega) (by omega) (by omega)
  .rw [List.drop_eq_nil_iff.2 (by omega)]
   have hd:decide ((j:Int)<(sLen s:Int))=false:=decide_eq_false (show ¬(j:Int)<(s.length:Int) by omega)
   simp only [hd,Bool.not_false,cond_true,pv]
   exact ⟨_,rfl,rfl,rfl⟩
theorem aEl {s:List UInt8}:iI ⟨s,0⟩=if s=[]\/s.length > 4\/(s.length > 1/\(s.getD 0 0).toNat=48) then (0,false) else match pv s 0 with|none=>(0,false)|some v=>if v>=1024 then (0,false) else (v,true):=by
 unfold iI
 dsimp only
 have hg:(((decide ((0:Int) > 0)||zW s [])||decide ((sLen s:Int) > 4))||(decide ((sLen s:Int) > 1)&&dZ (((s.getD (0:Int).toNat 0).toNat:Nat):Int) 48))=decide (s=[]\/s.length > 4\/(s.length > 1/\(s.getD 0 0).toNat=48)):=by
  rw [auI,Yl,aiE,<- Bool.decide_or,<- Bool.decide_or,<- Bool.decide_and,<- Bool.decide_or]
  apply decide_eq_decide.2
  have:(0:Int).toNat=0:=rfl
  rw [this]
  constructor
  .rintro (((h|h)|h)|⟨h1,h2⟩)
   .omega
   .exact Or.inl h
   .exact Or.inr (Or.inl (by omega))
   .exact Or.inr (Or.inr ⟨by omega,by omega⟩)
  .rintro (h|h|⟨h1,h2⟩)
   .exact Or.inl (Or.inl (Or.inr h))
   .exact Or.inl (Or.inr (by omega))
   .exact Or.inr ⟨by omega,by omega⟩
 rw [hg]
 by_cases h:s=[]\/s.length > 4\/(s.length > 1/\(s.getD 0 0).toNat=48)
 .rw [if_pos h,decide_eq_true h];rfl
 .rw [if_neg h,decide_eq_false h]
  obtain ⟨r,hr,hm⟩:=an6 (s:=s) (b:=0) (by omega) ((sLen s:Int).toNat+1) 0 (u1:=0) (u2:=false) (a:=0) (by omega) (by rw [aiE];omega) (by omega) (by omega)
  simp only [show (((0:Nat):Int))=0 from rfl,List.drop_zero] at hr hm
  rw [hr]
  cases hp:pv s 0 with
  |none=>
   rw [hp] at hm
   rw [Ym,hm.1,hm.2];rfl
  |some v=>
   rw [hp] at hm
   rw [Ym,hm.1,hm.2]
   by_cases hv:v>=1024<;>simp [hv]
theorem Yq {a:UInt8}{n:Nat}(h:a.toNat=n):UInt8.ofNat n=a:=by subst h;simp
theorem an7 {s:List UInt8}{v:Int}(h:iI ⟨s,0⟩=(v,true)):∃n:Nat,v=n/\n<1024/\qR (n:Int)=s:=by
 rw [aEl] at h
 split at h
 .cases h
 rename_i hg
 cases hp:pv s 0 with
 |none=>rw [hp] at h;cases h
 |some w=>
  rw [hp] at h
  simp only at h
  split at h
  .cases h
  rename_i hw
  simp only [Prod.mk.injEq,and_true] at h
  subst h
  match s,hg,hp with
  |[],hg,hp=>exact absurd (Or.inl rfl) hg
  |[a],hg,hp=>
   simp only [pv] at hp
   split at hp
   .cases hp
   simp only [Option.some.injEq] at hp
   refine ⟨a.toNat-48,by omega,by omega,?_⟩
   rw [abE _ (by omega)]
   unfold tD
   rw [if_pos (by omega),Yq (a:=a) (by omega)]
  |[a,b],hg,hp=>
   simp only [pv] at hp
   split at hp
   .cases hp
   split at hp
   .cases hp
   simp only [Option.some.injEq] at hp
   simp at hg
   refine ⟨10*(a.toNat-48)+(b.toNat-48),by omega,by omega,?_⟩
   rw [abE _ (by omega)]
   unfold tD
   rw [if_neg (by omega),if_pos (by omega),Yq (a:=a) (by omega),Yq (a:=b) (by omega)]
  |[a,b,c],hg,hp=>
   simp only [pv] at hp
   split at hp
   .cases hp
   split at hp
   .cases hp
   split at hp
   .cases hp
   simp only [Option.some.injEq] at hp
   simp at hg
   refine ⟨100*(a.toNat-48)+10*(b.toNat-48)+(c.toNat-48),by omega,by omega,?_⟩
   rw [abE _ (by omega)]
   unfold tD
   rw [if_neg (by omega),if_neg (by omega),if_pos (by omega),Yq (a:=a) (by omega),Yq (a:=b) (by omega),Yq (a:=c) (by omega)]
  |[a,b,c,d],hg,hp=>
   simp only [pv] at hp
   split at hp
   .cases hp
   split at hp
   .cases hp
   split at hp
   .cases hp
   split at hp
   .cases hp
   simp only [Option.some.injEq] at hp
   simp at hg
   refine ⟨1000*(a.toNat-48)+100*(b.toNat-48)+10*(c.toNat-48)+(d.toNat-48),by omega,by omega,?_⟩
   rw [abE _ (by omega)]
   unfold tD
   rw [if_neg (by omega),if_neg (by omega),if_neg (by omega),Yq (a:=a) (by omega),Yq (a:=b) (by omega),Yq (a:=c) (by omega),Yq (a:=d) (by omega)]
  |a::b::c::d::e::r,hg,hp=>exact absurd (Or.inr (Or.inl (by simp))) hg
end Go.Fw
end
section
namespace Go.Fw
theorem akC {s:List UInt8}{x:Int}(h:iI ⟨s,0⟩=(x,false)):x=0:=by
 rw [aEl] at h
 split at h
 .cases h;rfl
 .split at h
  .cases h;rfl
  .split at h
   .cases h;rfl
   .cases h
theorem aiF {k:dI}:∀(n j:Nat) {u1:Int} {u2:Bool},j<=1024->1024-j<n->(∀i<j,qR ((i:Nat):Int)≠k.Str)->
  ∃r,rF k n u1 u2 j=r/\((r.1=false/\r.2.2.2.2=true/\∃m:Nat,m<1024/\r.2.2.2.1=m/\qR (m:Int)=k.Str)\/(r.1=true/\∀i<1024,qR ((i:Nat):Int)≠k.Str))
 |0,j,_,_,hj,hn,hm=>by omega
 |n+1,j,u1,u2,hj,hn,hm=>by
  simp only [rF]
  by_cases hlt:j<1024
  .have hd:decide ((j:Int)<1024)=true:=decide_eq_true (by omega)
   simp only [hd,Bool.not_true,cond_false,auI]
   by_cases he:qR (j:Int)=k.Str
   .simp only [decide_eq_true he,cond_true]
    exact ⟨_,rfl,Or.inl ⟨rfl,rfl,j,hlt,rfl,he⟩⟩
   .simp only [decide_eq_false he,cond_false,Um (show j<=4294967296 by omega)]
    exact aiF n (j+1) (by omega) (by omega) (fun i hi=>by
     by_cases h:i=j
     .subst h;exact he
     .exact hm i (by omega))
  .have hd:decide ((j:Int)<1024)=false:=decide_eq_false (by omega)
   simp only [hd,Bool.not_false,cond_true]
   exact ⟨_,rfl,Or.inr ⟨rfl,fun i hi=>hm i (by omega)⟩⟩
theorem U5 (k:dI):lI k=iI k:=by
 by_cases hs:k.Sym > 0
 .rw [adZ hs]
  unfold lI
  dsimp only
  rw [decide_eq_true hs];rfl
 obtain ⟨s,a⟩:=k
 rw [aq3 hs]
 by_cases hl:s.length > 4
 .rw [aEl,if_pos (Or.inr (Or.inl hl))]
  unfold lI
  dsimp only
  have:decide ((sLen s:Int) > 4)=true:=decide_eq_true (show (s.length:Int) > 4 by omega)
  rw [this,Bool.or_true];rfl
 unfold lI
 dsimp only
 have h1:decide ((sLen s:Int) > 4)=false:=decide_eq_false (show ¬(s.length:Int) > 4 by omega)
 have h2:decide (a > 0)=false:=decide_eq_false hs
 rw [h1,h2]
 obtain ⟨r,hr,hc⟩:=aiF (k:=⟨s,a⟩) ((1024:Int).toNat+1) 0 (u1:=0) (u2:=false) (by omega) (by show 1024-0<1025;omega) (fun i hi=>by omega)
 simp only [show (((0:Nat):Int))=0 from rfl] at hr
 rw [hr]
 rcases hc with ⟨c1,c2,m,c3,c4,c5⟩|⟨c1,c2⟩
 .simp only at c5
  rw [Ym,c1,c2,c4,<- c5,an5 m c3];rfl
 .rw [Ym,c1]
  generalize hk:iI ⟨s,0⟩=x
  obtain ⟨v,b⟩:=x
  cases b with
  |true=>
   obtain ⟨m,q1,q2,q3⟩:=an7 hk
   exact absurd q3 (c2 m q2)
  |false=>rw [akC hk];rfl
def yB (k:dI):Bool:=(iI k).2
def num (k:dI):Int:=(iI k).1
theorem aq4 {k:dI}(h:yB k=true):¬k.Sym > 0:=by
 intro hs;unfold yB at h;rw [adZ hs] at h;cases h
theorem y9 (k:dI):dW k=if yB k=true then (0,num k) else if k.Sym > 0 then (2,0) else (1,0):=by
 unfold dW yB num
 dsimp only
 simp only [Bool.cond_eq_ite,decide_eq_true_eq]
theorem abG {a b:dI}(ha:yB a=true)(hb:yB b=true):ltK a b=decide (num a<num b):=by
 rw [Bool.eq_iff_iff,Nh,y9,y9,if_pos ha,if_pos hb,decide_eq_true_eq]
 simp
theorem asr {v5:Int×Bool}{T:List dI}:∀(n:Nat) (S:List dI) (u:Int),u=S.length->S.length<n->S.length<=4294967296->(S.Pairwise fun a b=>num a<=num b)->
  ∃S1 S2,S=S1++S2/\rG ((S++T).map num) v5 n u=S1.length/\(∀y∈S1,num y<=v5.1)/\(∀y∈S2,v5.1<num y)
 |0,S,u,hu,hn,hl,hs=>by omega
 |n+1,S,u,hu,hn,hl,hs=>by
  simp only [rG]
  rcases List.eq_nil_or_concat S with rfl|⟨S',y,rfl⟩
  .have hd:decide (u > 0)=false:=decide_eq_false (by simp at hu;omega)
   refine ⟨[],[],rfl,?_,by simp,by simp⟩
   simp [hd];simpa using hu
  .simp only [List.concat_eq_append,List.length_append,List.length_cons,List.length_nil] at *
   have hd:decide (u > 0)=true:=decide_eq_true (by omega)
   have e1:iq .i64 u 1=u-1:=uV (by omega) (by omega)
   have g:((S'++[y]++T).map num).getD (u-1).toNat default=num y:=by
    rw [show (S'++[y]++T).map num=S'.map num++num y::T.map num by simp];exact y8 (by simp;omega)
   simp only [hd,e1,g,Bool.true_and]
   by_cases hy:num y > v5.1
   .simp only [decide_eq_true hy,Bool.not_true,cond_false]
    obtain ⟨S1,S2,q1,q2,q3,q4⟩:=asr (v5:=v5) (T:=y::T) n S' (u-1) (by omega) (by omega) (by omega) (List.pairwise_append.1 hs).1
    refine ⟨S1,S2++[y],by rw [q1];simp,by rw [<- q2];simp,q3,fun z hz=>?_⟩
    rcases List.mem_append.1 hz with hz|hz
    .exact q4 z hz
    .simp at hz;subst hz;exact hy
   .simp only [decide_eq_false hy,Bool.not_false,cond_true]
    refine ⟨S'++[y],[],by simp,by simp;omega,fun z hz=>?_,by simp⟩
    rcases List.mem_append.1 hz with hz|hz
    .have:=(List.pairwise_append.1 hs).2.2 z hz y (by simp);omega
    .simp at hz;subst hz;omega
theorem asu {r:Int}:∀(n:Nat) (P S T:List dI) (x:dI) (P' S' T':List Int) (x':Int) (u:Int),r=P.length->u=P.length+S.length->P'.length=P.length->S'.length=S.length->u<n->u<=4294967296->
  ∃y y',(pz r n u (P++S++x::T) (P'++S'++x'::T')).2.1=P++y::(S++T)/\(pz r n u (P++S++x::T) (P'++S'++x'::T')).2.2=P'++y'::(S'++T')
 |0,P,S,T,x,P',S',T',x',u,hr,hu,hp,hs,hn,hl=>by omega
 |n+1,P,S,T,x,P',S',T',x',u,hr,hu,hp,hs,hn,hl=>by
  simp only [pz]
  rcases List.eq_nil_or_concat S with rfl|⟨S0,y,rfl⟩
  .have:S'=[]:=List.length_eq_zero_iff.1 (by simpa using hs)
   subst this
   have hd:decide (u > r)=false:=decide_eq_false (by simp at hu;omega)
   exact ⟨x,x',by simp [hd],by simp [hd]⟩
  .rcases List.eq_nil_or_concat S' with rfl|⟨S0',y',rfl⟩
   .simp at hs
   simp only [List.concat_eq_append,List.length_append,List.length_cons,List.length_nil] at *
   have hd:decide (u > r)=true:=decide_eq_true (by omega)
   have e1:iq .i64 u 1=u-1:=uV (by omega) (by omega)
   have g:(P++(S0++[y])++x::T).getD (u-1).toNat default=y:=by
    rw [show P++(S0++[y])++x::T=(P++S0)++y::(x::T) by simp];exact y8 (by simp;omega)
   have g':(P'++(S0'++[y'])++x'::T').getD (u-1).toNat default=y':=by
    rw [show P'++(S0'++[y'])++x'::T'=(P'++S0')++y'::(x'::T') by simp];exact y8 (by simp;omega)
   simp only [hd,e1,g,g',Bool.not_true,cond_false]
   rw [aDB (by simp;omega),aDB (by simp;omega)]
   obtain ⟨z,z',q1,q2⟩:=asu (r:=r) n P S0 (y::T) y P' S0' (y'::T') y' (u-1) hr (by omega) hp (by omega) (by omega) (by omega)
   refine ⟨z,z',?_,?_⟩
   .rw [show P++(S0++[y])++y::T=P++S0++y::(y::T) by simp,show P'++(S0'++[y'])++y'::T'=P'++S0'++y'::(y'::T') by simp,q1];simp
   .rw [show P++(S0++[y])++y::T=P++S0++y::(y::T) by simp,show P'++(S0'++[y'])++y'::T'=P'++S0'++y'::(y'::T') by simp,q2];simp
end Go.Fw
end
section
namespace Go.Fw
theorem aEu {α:Type}{A B:List α}{x y:α}{i:Int}(h:i=A.length):(A++x::B).set i.toNat y=A++y::B:=aDB h
theorem aq5 {l:List dI}(hi:∀k∈l,yB k=true)(hs:Ej l):l.Pairwise fun a b=>num a<=num b:=by
 refine List.Pairwise.imp_of_mem (fun {a b} ha hb h=>?_) hs
 rw [abG (hi b hb) (hi a ha)] at h
 have:=of_decide_eq_false h
 omega
theorem an8 {x0:List dI}(hx:x0.length<=1048576):∀(n j:Nat) (u:List dI),j<=x0.length->x0.length-j<n->u.length<=j->(∀k∈u,yB k=true)->Ej u->um u ((x0.take j).filter yB)->
  ∃r,pF x0 n u (u.map num) j=r/\(∀k∈r,yB k=true)/\Ej r/\um r (x0.filter yB)
 |0,j,u,hj,hn,hu,hi,hs,he=>by omega
 |n+1,j,u,hj,hn,hu,hi,hs,he=>by
  simp only [pF,aEs,Int.toNat_natCast,U5]
  by_cases hlt:j<x0.length
  .simp only [decide_eq_true hlt,Bool.not_true,cond_false,Um (show j<=4294967296 by omega)]
   have ht:=agw x0 j hlt
   generalize x0.getD j default=k at *
   cases hk:yB k with
   |false=>
    have hk':(iI k).2=false:=hk
    simp only [hk',Bool.not_false,cond_true]
    refine an8 hx n (j+1) u (by omega) (by omega) (by omega) hi hs ?_
    rw [ht,List.filter_append]
    simpa [hk] using he
   |true=>
    have hk':(iI k).2=true:=hk
    simp only [hk',Bool.not_true,cond_false]
    obtain ⟨S1,S2,rfl,q2,q3,q4⟩:=asr (v5:=iI k) (T:=[]) (u.length+1) u (je dI.enc u) (iL _ _) (by omega) (by omega) (aq5 hi hs)
    rw [List.append_nil] at q2
    rw [q2,an1 (by omega)]
    obtain ⟨y,y',w1,w2⟩:=asu (r:=(S1.length:Int)) ((S1++S2).length+1) S1 S2 [] (dI.mk [] 0) (S1.map num) (S2.map num) [] 0 ((S1++S2).length:Int) rfl (by simp) (by simp) (by simp) (by omega) (by omega)
    rw [show (S1++S2).map num++[0]=S1.map num++S2.map num++[0] by simp,w1,w2]
    rw [aEu (by omega),aEu (by simp)]
    rw [show List.map num S1++(iI k).1::(List.map num S2++[])=(S1++k::(S2++[])).map num by simp [num]]
    have m1:∀y∈S1,ltK k y=false:=fun y hy=>by
     rw [abG hk (hi y (by simp [hy]))]
     have:=q3 y hy
     exact decide_eq_false (by show ¬(iI k).1<num y;omega)
    have m2:∀y∈S2,ltK k y=true:=fun y hy=>by
     rw [abG hk (hi y (by simp [hy]))]
     exact decide_eq_true (q4 y hy)
    refine an8 hx n (j+1) (S1++k::(S2++[])) (by omega) (by omega) (by simp at hu ⊢;omega) ?_ (by simpa using abB hs m1 m2) ?_
    .intro z hz
     simp only [List.append_nil,List.mem_append,List.mem_cons] at hz
     rcases hz with hz|rfl|hz
     .exact hi z (by simp [hz])
     .exact hk
     .exact hi z (by simp [hz])
    .rw [ht,List.filter_append,List.append_nil]
     refine (abC m2).trans (um.app he ?_)
     simp [hk]
     exact um.refl _
  .simp only [decide_eq_false hlt,Bool.not_false,cond_true]
   rw [List.take_of_length_le (by omega)] at he
   exact ⟨u,rfl,hi,hs,he⟩
theorem an9 {x0:List dI}(hx:x0.length<=1048576):∀(n j:Nat) (u:List dI),j<=x0.length->x0.length-j<n->
  pG x0 n u j=u++(x0.drop j).filter (fun k=>!yB k&&decide (k.Sym<=0))
 |0,j,u,hj,hn=>by omega
 |n+1,j,u,hj,hn=>by
  simp only [pG,aEs,Int.toNat_natCast,U5]
  by_cases hlt:j<x0.length
  .rw [I_ x0 j hlt]
   simp only [decide_eq_true hlt,Bool.not_true,cond_false,Um (show j<=4294967296 by omega)]
   rw [an9 hx n (j+1) _ (by omega) (by omega),an9 hx n (j+1) _ (by omega) (by omega),List.filter_cons]
   show (bif !yB (x0.getD j default)&&decide ((x0.getD j default).Sym<=0) then _ else _)=_
   cases (!yB (x0.getD j default)&&decide ((x0.getD j default).Sym<=0))<;>simp
  .simp only [decide_eq_false hlt,Bool.not_false,cond_true]
   rw [List.drop_eq_nil_iff.2 (by omega)];simp
theorem an_ {x0:List dI}(hx:x0.length<=1048576):∀(n j:Nat) (u:List dI),j<=x0.length->x0.length-j<n->
  pI x0 n u j=u++(x0.drop j).filter (fun k=>decide (k.Sym > 0))
 |0,j,u,hj,hn=>by omega
 |n+1,j,u,hj,hn=>by
  simp only [pI,aEs,Int.toNat_natCast]
  by_cases hlt:j<x0.length
  .rw [I_ x0 j hlt]
   simp only [decide_eq_true hlt,Bool.not_true,cond_false,Um (show j<=4294967296 by omega)]
   rw [an_ hx n (j+1) _ (by omega) (by omega),an_ hx n (j+1) _ (by omega) (by omega),List.filter_cons]
   cases decide ((x0.getD j default).Sym > 0)<;>simp
  .simp only [decide_eq_false hlt,Bool.not_false,cond_true]
   rw [List.drop_eq_nil_iff.2 (by omega)];simp
theorem ad1 {l:List dI}{p:Int×Int}(h:∀k∈l,dW k=p):Ej l:=by
 refine List.Pairwise.imp_of_mem (R:=fun _ _=>True) (fun {a b} ha hb _=>?_) (List.pairwise_of_forall (fun _ _=>trivial))
 rw [JA,h a ha,h b hb];omega
theorem akD {x0:List dI}(hx:x0.length<=1048576):Ej (qy x0)/\um (qy x0) x0:=by
 unfold qy
 dsimp only
 obtain ⟨r,hr,hi,hs,he⟩:=an8 hx (x0.length+1) 0 [] (by omega) (by omega) (by simp) (by simp) List.Pairwise.nil (by simpa using um.refl _)
 simp only [show (((0:Nat):Int))=0 from rfl,List.map_nil] at hr
 rw [hr]
 have h2:=an9 hx (x0.length+1) 0 r (by omega) (by omega)
 simp only [show (((0:Nat):Int))=0 from rfl,List.drop_zero] at h2
 rw [h2]
 have h3:=an_ hx (x0.length+1) 0 (r++x0.filter (fun k=>!yB k&&decide (k.Sym<=0))) (by omega) (by omega)
 simp only [show (((0:Nat):Int))=0 from rfl,List.drop_zero] at h3
 rw [h3]
 have p1:∀k∈x0.filter (fun k=>!yB k&&decide (k.Sym<=0)),dW k=(1,0):=by
  intro k hk
  have:=(List.mem_filter.1 hk).2
  simp only [Bool.and_eq_true,Bool.not_eq_true',decide_eq_true_eq] at this
  rw [y9,if_neg (by rw [this.1];simp),if_neg (by omega)]
 have p2:∀k∈x0.filter (fun k=>decide (k.Sym > 0)),dW k=(2,0):=by
  intro k hk
  have:=of_decide_eq_true (List.mem_filter.1 hk).2
  rw [y9,if_neg (fun h=>aq4 h this),if_pos this]
 have p0:∀k∈r,dW k=(0,num k):=fun k hk=>by rw [y9,if_pos (hi k hk)]
 refine ⟨abD (abD hs (ad1 p1) fun x hx y hy=>?_) (ad1 p2) fun x hx y hy=>?_,fun p=>?_⟩
 .rw [JA,p0 x hx,p1 y hy];simp
 .rcases List.mem_append.1 hx with hx|hx
  .rw [JA,p0 x hx,p2 y hy];simp
  .rw [JA,p1 x hx,p2 y hy];simp
 .rw [List.filter_append,List.filter_append,he p,List.filter_filter,List.filter_filter,List.filter_filter]
  by_cases h0:p.1=0
  .have e1:x0.filter (fun k=>decide (dW k=p)&&yB k)=x0.filter (fun k=>decide (dW k=p)):=by
    refine List.filter_congr fun k hk=>?_
    by_cases hp:dW k=p
    .have:yB k=true:=by
      cases hk:yB k with
      |true=>rfl
      |false=>
       rw [y9,if_neg (by rw [hk];simp)] at hp
       split at hp<;>(rw [<- hp] at h0;simp at h0)
     simp [hp,this]
    .simp [hp]
   have e2:x0.filter (fun k=>decide (dW k=p)&&(!yB k&&decide (k.Sym<=0)))=[]:=by
    rw [List.filter_eq_nil_iff];intro k hk hc
    simp only [Bool.and_eq_true,decide_eq_true_eq] at hc
    have:=p1 k (List.mem_filter.2 ⟨hk,by simpa using hc.2⟩)
    rw [hc.1] at this;rw [this] at h0;simp at h0
   have e3:x0.filter (fun k=>decide (dW k=p)&&decide (k.Sym > 0))=[]:=by
    rw [List.filter_eq_nil_iff];intro k hk hc
    simp only [Bool.and_eq_true,decide_eq_true_eq] at hc
    have:=p2 k (List.mem_filter.2 ⟨hk,by simpa using hc.2⟩)
    rw [hc.1] at this;rw [this] at h0;simp at h0
   rw [e1,e2,e3];simp
  .have e1:x0.filter (fun k=>decide (dW k=p)&&yB k)=[]:=by
    rw [List.filter_eq_nil_iff];intro k hk hc
    simp only [Bool.and_eq_true,decide_eq_true_eq] at hc
    rw [y9,if_pos hc.2] at hc
    rw [<- hc.1] at h0;simp at h0
   rw [e1]
   by_cases h1:p.1=1
   .have e2:x0.filter (fun k=>decide (dW k=p)&&(!yB k&&decide (k.Sym<=0)))=x0.filter (fun k=>decide (dW k=p)):=by
     refine List.filter_congr fun k hk=>?_
     by_cases hp:dW k=p
     .rw [y9] at hp
      split at hp
      .rw [<- hp] at h1;simp at h1
      .split at hp
       .rw [<- hp] at h1;simp at h1
       .rename_i a b
        simp only [Bool.not_eq_true] at a
        have:k.Sym<=0:=by omega
        simp [a,this]
     .simp [hp]
    have e3:x0.filter (fun k=>decide (dW k=p)&&decide (k.Sym > 0))=[]:=by
     rw [List.filter_eq_nil_iff];intro k hk hc
     simp only [Bool.and_eq_true,decide_eq_true_eq] at hc
     have:=p2 k (List.mem_filter.2 ⟨hk,by simpa using hc.2⟩)
     rw [hc.1] at this;rw [this] at h1;simp at h1
    rw [e2,e3];simp
   .have e2:x0.filter (fun k=>decide (dW k=p)&&(!yB k&&decide (k.Sym<=0)))=[]:=by
     rw [List.filter_eq_nil_iff];intro k hk hc
     simp only [Bool.and_eq_true,decide_eq_true_eq] at hc
     have:=p1 k (List.mem_filter.2 ⟨hk,by simpa using hc.2⟩)
     rw [hc.1] at this;rw [this] at h1;simp at h1
    have e3:x0.filter (fun k=>decide (dW k=p)&&decide (k.Sym > 0))=x0.filter (fun k=>decide (dW k=p)):=by
     refine List.filter_congr fun k hk=>?_
     by_cases hp:dW k=p
     .rw [y9] at hp
      split at hp
      .rw [<- hp] at h0;simp at h0
      .split at hp
       .rename_i b
        have:k.Sym > 0:=b
        simp [this]
       .rw [<- hp] at h1;simp at h1
     .simp [hp]
    rw [e2,e3];simp
end Go.Fw
end
section
namespace Go.Fw
theorem Xo {x:Nat}(h:x<2 ^ 64):wP x=Dx x:=by
 unfold wP Dx BI
 dsimp only
 have ht:Ja x=jI x:=rfl
 have ha:Qc x=x % 9223372036854775808:=aEI h
 have hs:CZ x=(kH x).neg:=aqA h
 rw [ht,ha,hs,D6,MX x 0,GU]
 by_cases hn:xY x=true
 .simp [hn]
 .have hn:xY x=false:=by simpa using hn
  rw [ano x hn,hn]
  cases hx:kH x with
  |nan s t=>unfold xY at hn;rw [hx] at hn;cases hn
  |infinity s=>
   have:(Yd x 14069245235905429503&&UH x 4845873199050653695)=false:=by
    unfold Yd UH Ieee.Format.order
    show (((Ieee.Datum.order (kH x) _ == _)||(Ieee.Datum.order (kH x) _ == _))&&((Ieee.Datum.order (kH x) _ == _)||(Ieee.Datum.order (kH x) _ == _)))=false
    rw [hx]
    have e1:FloatKind.f64.format.read 4845873199050653695=.number false 9007199254740991 0:=MP
    have e2:FloatKind.f64.format.read 14069245235905429503=.number true 9007199254740991 0:=I9
    rw [e1,e2]
    cases s<;>rfl
   simp [this]
  |number s m i=>
   rw [W9 hx]
   simp only [MX,Ieee.Datum.neg]
   cases m with
   |zero=>
    rw [anm hx]
    simp only [Ieee.Datum.isZero]
    generalize (Yd x 14069245235905429503&&UH x 4845873199050653695)=A
    generalize fEq (FloatKind.f64.nearest (((FloatKind.f64.decode x).toInt .zero).getD 0)) x=B
    cases A<;>cases B<;>cases s<;>rfl
   |succ m=>
    simp only [Ieee.Datum.isZero]
    generalize (Yd x 14069245235905429503&&UH x 4845873199050653695)=A
    generalize fEq (FloatKind.f64.nearest (((FloatKind.f64.decode x).toInt .zero).getD 0)) x=B
    cases A<;>cases B<;>cases s<;>rfl
theorem Qp : wP 0=true:=by decide +kernel
theorem Xp {x:Nat}(h:x<2 ^ 64):(fEq x 0&&wP x)=jk x:=by
 unfold jk
 by_cases hz:fEq x 0=true
 .rw [Xo h]
  rw [GU] at hz
  cases hx:kH x with
  |nan s t=>rw [hx] at hz;cases hz
  |infinity s=>rw [hx] at hz;cases hz
  |number s m i=>
   cases m with
   |succ m=>rw [hx] at hz;cases hz
   |zero=>
    have hn:xY x=false:=by unfold xY;rw [hx]
    rw [agv hx]
    unfold Dx BI
    dsimp only
    rw [anm hx,D6,hn]
    have hz':fEq x 0=true:=by rw [GU,hx];rfl
    have e1:Yd x 14069245235905429503=true:=by
     unfold Yd Ieee.Format.order
     show ((Ieee.Datum.order (kH x) (kH _) == _)||(Ieee.Datum.order (kH x) (kH _) == _))=true
     have e:kH 14069245235905429503=.number true 9007199254740991 0:=I9
     rw [hx,e]
     simp only [Ieee.Datum.order,anl,sg0,Ieee.signed,if_true,decide_eq_true_eq]
     have:=Int.natCast_nonneg (9007199254740991 <<< (0-min i 0).toNat)
     generalize ((9007199254740991 <<< (0-min i 0).toNat:Nat):Int)=q at this ⊢
     omega
    have e2:UH x 4845873199050653695=true:=by
     unfold UH Ieee.Format.order
     show ((Ieee.Datum.order (kH x) (kH _) == _)||(Ieee.Datum.order (kH x) (kH _) == _))=true
     have e:kH 4845873199050653695=.number false 9007199254740991 0:=MP
     rw [hx,e]
     simp only [Ieee.Datum.order,ank,sg0,Ieee.signed,if_true,decide_eq_true_eq,Bool.false_eq_true,if_false]
     have:=Int.natCast_nonneg (9007199254740991 <<< (0-min i 0).toNat)
     generalize ((9007199254740991 <<< (0-min i 0).toNat:Nat):Int)=q at this ⊢
     omega
    have e3:fEq (FloatKind.f64.nearest (((FloatKind.f64.decode x).toInt .zero).getD 0)) x=true:=by
     rw [<- W9 hx]
     have:jI x=FloatKind.f64.format.word s 0:=by
      unfold jI FloatKind.decode FloatKind.encode
      show FloatKind.f64.format.write ((kH x).integral .zero)=_
      rw [hx]
      simp only [Ieee.Datum.integral,Lh,Nat.shiftLeft_eq,Ieee.Format.write,Nat.zero_mul,Nat.zero_div,ZT]
     rw [this,adI]
     unfold fEq Ieee.Format.order
     show (Ieee.Datum.order (kH x) (kH _) == _)=true
     rw [agu,hx]
     simp only [Ieee.Datum.order,aD3,sg0]
     rfl
    rw [e1,e2,MX,e3,hz']
    cases s<;>rfl
 .have hz:fEq x 0=false:=by simpa using hz
  simp [hz]
def u8 (n:Int):Prop:=0<=n/\n<=255
def dL.ok (v:dL):Prop:=u8 v.Kind/\v.Num<2 ^ 64
theorem ad2 {n:Int}(h:u8 n):n=0\/n=1\/n=2\/n=3\/n=4\/n=5\/n=6\/n=7\/n=8\/n > 8:=by unfold u8 at h;omega
theorem JG {x:Nat}:D7 x 0=jk x:=by
 unfold D7 jk
 rw [D6,D6]
 have h0:xY 0=false:=by rfl
 rw [h0,MX,GU]
 cases hx:kH x with
 |nan s t=>simp [xY,hx,Ieee.Datum.isZero]
 |infinity s=>simp [xY,hx,Ieee.Datum.isZero]
 |number s m i=>
  cases m with
  |succ m=>simp [xY,hx,Ieee.Datum.isZero]
  |zero=>
   rw [agv hx,aDM hx,aDM aik]
   have:xY x=false:=by simp [xY,hx]
   rw [this]
   cases s<;>rfl
theorem zf {v:dL}(h:v.ok):iZ v=iw v:=by
 obtain ⟨k,n,s,r⟩:=v
 obtain ⟨hk,hn⟩:=h
 dsimp only at hk hn
 have hN:=Xp hn
 have hM:=Xo hn
 unfold iZ iw
 dsimp only
 have hlen:(sLen s > 4096)=¬(sLen s<=4096):=by simp
 have hr0:∀r:Int,(decide (r<0)=!(dZ r 0||decide (r > 0))):=by
  intro r
  unfold dZ
  by_cases h1:r<0
  .have h2:¬r=0:=by omega
   have h3:¬r > 0:=by omega
   simp [h1,h2,h3]
  .by_cases h2:r=0
   . simp [h2]
   . have h3:r > 0:=by omega
     simp [h1,h2,h3]
 rw [<- hN,<- hM]
 have hse:zW s []=true->sLen s<=4096:=by
  intro e
  have:s=[]:=of_decide_eq_true e
  subst this
  simp [sLen]
 simp only [hlen,decide_not,hr0,Qp,MX]
 have hz:fEq 0 0=true:=by rfl
 generalize hA:decide (sLen s<=4096)=A
 have hAs:zW s []=true->A=true:=fun e=>by rw [<- hA];exact decide_eq_true (hse e)
 have hr1:dZ r 0=true->decide (r > 0)=false:=fun e=>by
  have:r=0:=by simpa [dZ] using e
  subst this;rfl
 have azo:zW ([]:List UInt8) []=true:=by rfl
 have hi0:dZ 0 0=true:=by rfl
 have hkk:dZ k k=true:=by simp [dZ]
 rw [hkk]
 rcases ad2 hk with rfl|rfl|rfl|rfl|rfl|rfl|rfl|rfl|rfl|h8
 all_goals first
  |(have hgt:decide (k > 8)=true:=decide_eq_true h8
    simp only [hgt,Bool.true_or,cond_true]
    done)
  |(simp only [dZ] at hr1
    simp only [dZ,Int.reduceBEq,Int.reduceGT,Int.reduceGE,decide_true,decide_false,cond_true,cond_false,Bool.or_true,Bool.true_or,Bool.or_false,Bool.false_or,Bool.and_true,Bool.true_and,Bool.and_false,Bool.false_and,Bool.not_true,Bool.not_false,hz,azo,hi0,Qp]
    generalize zW s []=S at *
    generalize (r == 0)=R at *
    generalize decide (r > 0)=Q at *
    generalize wP n=M at *
    generalize fEq n 0=Z at *
    generalize fEq n 4607182418800017408=O at *
    clear hN hM hn hk
    revert hAs hr1
    clear hA hse hr0
    revert A S R Q M Z O
    decide)
end Go.Fw
end
section
namespace Go.Fw
set_option maxRecDepth 20000
def hb (n:Int)(i:Nat):Bool:=n.toNat.testBit i
structure Bits (n:Int):Prop where
 a1:jC (jZ .u8 n 1) 0=hb n 0
 a2:jC (jZ .u8 n 2) 0=hb n 1
 a4:jC (jZ .u8 n 4) 0=hb n 2
 a8:jC (jZ .u8 n 8) 0=hb n 3
 a16:jC (jZ .u8 n 16) 0=hb n 4
 a32:jC (jZ .u8 n 32) 0=hb n 5
 z1:dZ (jZ .u8 n 1) 0=!hb n 0
 z4:dZ (jZ .u8 n 4) 0=!hb n 2
 z8:dZ (jZ .u8 n 8) 0=!hb n 3
 c1:jC (jZ .u8 (Iy .u8 n) 1) 0=!hb n 0
 c2:jC (jZ .u8 (Iy .u8 n) 2) 0=!hb n 1
 c4:jC (jZ .u8 (Iy .u8 n) 4) 0=!hb n 2
 c8:jC (jZ .u8 (Iy .u8 n) 8) 0=!hb n 3
 c16:jC (jZ .u8 (Iy .u8 n) 16) 0=!hb n 4
 c32:jC (jZ .u8 (Iy .u8 n) 32) 0=!hb n 5
 a12:jC (jZ .u8 n 12) 0=(hb n 2||hb n 3)
 a3:jC (jZ .u8 n 3) 0=(hb n 0||hb n 1)
 z15:dZ (jZ .u8 n 15) 0=!((hb n 0||hb n 1)||(hb n 2||hb n 3))
 n63:jC (pV .u8 n 63) 0=decide (n > 63)
 r1:dZ (Ox .u8 (Ov .u8 n 1) 2) 1=hb n 0
 r2:dZ (Ox .u8 (Ov .u8 n 2) 2) 1=hb n 1
 r4:dZ (Ox .u8 (Ov .u8 n 4) 2) 1=hb n 2
 r8:dZ (Ox .u8 (Ov .u8 n 8) 2) 1=hb n 3
 r16:dZ (Ox .u8 (Ov .u8 n 16) 2) 1=hb n 4
 r32:dZ (Ox .u8 (Ov .u8 n 32) 2) 1=hb n 5
 o60:decide (n > 63)=false->(hb n 0||hb n 1)=false->iOr .u8 n 60=60
 o51:decide (n > 63)=false->(hb n 2||hb n 3)=false->iOr .u8 n 51=51
 p60:decide (n > 63)=false->(hb n 0||hb n 1)=false->iOr .u8 (pV .u8 n 48) 60=60
 p51:decide (n > 63)=false->(hb n 2||hb n 3)=false->iOr .u8 (pV .u8 n 48) 51=51
 p12:jC (jZ .u8 (pV .u8 n 48) 12) 0=(hb n 2||hb n 3)
 e51:n=51->(hb n 0=true/\hb n 1=true/\hb n 2=false/\hb n 3=false/\hb n 4=true/\hb n 5=true)
 e60:n=60->(hb n 0=false/\hb n 1=false/\hb n 2=true/\hb n 3=true/\hb n 4=true/\hb n 5=true)
 w60:(hb n 2||hb n 3)=true->decide (n > 63)=false->(hb n 0||hb n 1)=false->jC n (iOr .u8 n 60)=!(dZ n 51||dZ n 60)
 w51:(hb n 2||hb n 3)=false->decide (n > 63)=false->jC n (iOr .u8 n 51)=!(dZ n 51||dZ n 60)
def agK (n:Int):Prop:=(jC (jZ .u8 n 1) 0=hb n 0/\jC (jZ .u8 n 2) 0=hb n 1/\jC (jZ .u8 n 4) 0=hb n 2/\jC (jZ .u8 n 8) 0=hb n 3/\jC (jZ .u8 n 16) 0=hb n 4/\jC (jZ .u8 n 32) 0=hb n 5/\
 dZ (jZ .u8 n 1) 0=(!hb n 0)/\dZ (jZ .u8 n 4) 0=(!hb n 2)/\dZ (jZ .u8 n 8) 0=(!hb n 3))
instance (n : Int):Decidable (agK n):=by unfold agK;infer_instance
theorem akE : ∀k:Fin 256,agK ((k:Nat):Int):=by decide +kernel
def agL (n:Int):Prop:=(jC (jZ .u8 (Iy .u8 n) 1) 0=(!hb n 0)/\jC (jZ .u8 (Iy .u8 n) 2) 0=(!hb n 1)/\jC (jZ .u8 (Iy .u8 n) 4) 0=(!hb n 2)/\jC (jZ .u8 (Iy .u8 n) 8) 0=(!hb n 3)/\
 jC (jZ .u8 (Iy .u8 n) 16) 0=(!hb n 4)/\jC (jZ .u8 (Iy .u8 n) 32) 0=(!hb n 5))
instance (n : Int):Decidable (agL n):=by unfold agL;infer_instance
theorem akF : ∀k:Fin 256,agL ((k:Nat):Int):=by decide +kernel
def agM (n:Int):Prop:=(jC (jZ .u8 n 12) 0=(hb n 2||hb n 3)/\jC (jZ .u8 n 3) 0=(hb n 0||hb n 1)/\dZ (jZ .u8 n 15) 0=(!((hb n 0||hb n 1)||(hb n 2||hb n 3)))/\jC (pV .u8 n 63) 0=decide (n > 63))
instance (n : Int):Decidable (agM n):=by unfold agM;infer_instance
theorem akG : ∀k:Fin 256,agM ((k:Nat):Int):=by decide +kernel
def agN (n:Int):Prop:=(dZ (Ox .u8 (Ov .u8 n 1) 2) 1=hb n 0/\dZ (Ox .u8 (Ov .u8 n 2) 2) 1=hb n 1/\dZ (Ox .u8 (Ov .u8 n 4) 2) 1=hb n 2/\dZ (Ox .u8 (Ov .u8 n 8) 2) 1=hb n 3/\
 dZ (Ox .u8 (Ov .u8 n 16) 2) 1=hb n 4/\dZ (Ox .u8 (Ov .u8 n 32) 2) 1=hb n 5)
instance (n : Int):Decidable (agN n):=by unfold agN;infer_instance
theorem akH : ∀k:Fin 256,agN ((k:Nat):Int):=by decide +kernel
def agO (n:Int):Prop:=(decide (n > 63)=false->(hb n 0||hb n 1)=false->iOr .u8 n 60=60)
instance (n : Int):Decidable (agO n):=by unfold agO;infer_instance
theorem akI : ∀k:Fin 256,agO ((k:Nat):Int):=by decide +kernel
def agP (n:Int):Prop:=(decide (n > 63)=false->(hb n 2||hb n 3)=false->iOr .u8 n 51=51)
instance (n : Int):Decidable (agP n):=by unfold agP;infer_instance
theorem akJ : ∀k:Fin 256,agP ((k:Nat):Int):=by decide +kernel
def agQ (n:Int):Prop:=(decide (n > 63)=false->(hb n 0||hb n 1)=false->iOr .u8 (pV .u8 n 48) 60=60)
instance (n : Int):Decidable (agQ n):=by unfold agQ;infer_instance
theorem akK : ∀k:Fin 256,agQ ((k:Nat):Int):=by decide +kernel
def agR (n:Int):Prop:=(decide (n > 63)=false->(hb n 2||hb n 3)=false->iOr .u8 (pV .u8 n 48) 51=51)
instance (n : Int):Decidable (agR n):=by unfold agR;infer_instance
theorem akL : ∀k:Fin 256,agR ((k:Nat):Int):=by decide +kernel
def agS (n:Int):Prop:=jC (jZ .u8 (pV .u8 n 48) 12) 0=(hb n 2||hb n 3)
instance (n : Int):Decidable (agS n):=by unfold agS;infer_instance
theorem akM : ∀k:Fin 256,agS ((k:Nat):Int):=by decide +kernel
def agT (n:Int):Prop:=(n=51->(hb n 0=true/\hb n 1=true/\hb n 2=false/\hb n 3=false/\hb n 4=true/\hb n 5=true))
instance (n : Int):Decidable (agT n):=by unfold agT;infer_instance
theorem akN : ∀k:Fin 256,agT ((k:Nat):Int):=by decide +kernel
def abH (n:Int):Prop:=(n=60->(hb n 0=false/\hb n 1=false/\hb n 2=true/\hb n 3=true/\hb n 4=true/\hb n 5=true))
instance (n : Int):Decidable (abH n):=by unfold abH;infer_instance
theorem agU : ∀k:Fin 256,abH ((k:Nat):Int):=by decide +kernel
def abI (n:Int):Prop:=((hb n 2||hb n 3)=true->decide (n > 63)=false->(hb n 0||hb n 1)=false->jC n (iOr .u8 n 60)=!(dZ n 51||dZ n 60))
instance (n : Int):Decidable (abI n):=by unfold abI;infer_instance
theorem agV : ∀k:Fin 256,abI ((k:Nat):Int):=by decide +kernel
def abJ (n:Int):Prop:=((hb n 2||hb n 3)=false->decide (n > 63)=false->jC n (iOr .u8 n 51)=!(dZ n 51||dZ n 60))
instance (n : Int):Decidable (abJ n):=by unfold abJ;infer_instance
theorem agW : ∀k:Fin 256,abJ ((k:Nat):Int):=by decide +kernel
theorem bits {n:Int}(h:u8 n):Bits n:=by
 obtain ⟨h0,h1⟩:=h
 have e':((n.toNat:Nat):Int)=n:=by omega
 have q0:=akE ⟨n.toNat,by omega⟩
 rw [show ((((⟨n.toNat,by omega⟩:Fin 256):Nat)):Int)=n from e'] at q0
 have q1:=akF ⟨n.toNat,by omega⟩
 rw [show ((((⟨n.toNat,by omega⟩:Fin 256):Nat)):Int)=n from e'] at q1
 have q2:=akG ⟨n.toNat,by omega⟩
 rw [show ((((⟨n.toNat,by omega⟩:Fin 256):Nat)):Int)=n from e'] at q2
 have q3:=akH ⟨n.toNat,by omega⟩
 rw [show ((((⟨n.toNat,by omega⟩:Fin 256):Nat)):Int)=n from e'] at q3
 have q4:=akI ⟨n.toNat,by omega⟩
 rw [show ((((⟨n.toNat,by omega⟩:Fin 256):Nat)):Int)=n from e'] at q4
 have q5:=akJ ⟨n.toNat,by omega⟩
 rw [show ((((⟨n.toNat,by omega⟩:Fin 256):Nat)):Int)=n from e'] at q5
 have q6:=akK ⟨n.toNat,by omega⟩
 rw [show ((((⟨n.toNat,by omega⟩:Fin 256):Nat)):Int)=n from e'] at q6
 have q7:=akL ⟨n.toNat,by omega⟩
 rw [show ((((⟨n.toNat,by omega⟩:Fin 256):Nat)):Int)=n from e'] at q7
 have q8:=akM ⟨n.toNat,by omega⟩
 rw [show ((((⟨n.toNat,by omega⟩:Fin 256):Nat)):Int)=n from e'] at q8
 have q9:=akN ⟨n.toNat,by omega⟩
 rw [show ((((⟨n.toNat,by omega⟩:Fin 256):Nat)):Int)=n from e'] at q9
 have q10:=agU ⟨n.toNat,by omega⟩
 rw [show ((((⟨n.toNat,by omega⟩:Fin 256):Nat)):Int)=n from e'] at q10
 have q11:=agV ⟨n.toNat,by omega⟩
 rw [show ((((⟨n.toNat,by omega⟩:Fin 256):Nat)):Int)=n from e'] at q11
 have q12:=agW ⟨n.toNat,by omega⟩
 rw [show ((((⟨n.toNat,by omega⟩:Fin 256):Nat)):Int)=n from e'] at q12
 obtain ⟨a,b,c,d,e,f,g,h,i⟩:=q0
 obtain ⟨j,k,l,m,o,p⟩:=q1
 obtain ⟨q,r,s,t⟩:=q2
 obtain ⟨u,v,w,x,y,z⟩:=q3
 exact ⟨a,b,c,d,e,f,g,h,i,j,k,l,m,o,p,q,r,s,t,u,v,w,x,y,z,q4,q5,q6,q7,q8,q9,q10,q11,q12⟩
def dN.ok (v:dN):Prop:=u8 v.Has/\v.Value.ok/\v.Get.ok/\v.Set.ok
def Xq (v:dL):Bool:=(dZ v.Kind 0)&&((fEq v.Num 0)&&((zW v.Str [])&&(dZ v.Ref 0)))
theorem aD5 {v:dL}(h:v.ok):iR v=(iZ v&&Xq v):=by
 rw [zf h]
 unfold iR BH Xq iw
 dsimp only
 rw [JG]
 have hn:jk v.Num=(fEq v.Num 0&&jk v.Num):=by
  unfold jk;cases fEq v.Num 0<;>rfl
 rw [hn]
 by_cases hk:v.Kind=0
 .rw [hk]
  have e1:decide ((0:Int) > 8)=false:=rfl
  have e2:dZ 0 3=false:=rfl
  have e3:dZ 0 2=false:=rfl
  have e4:dZ 0 4=false:=rfl
  have e5:dZ 0 0=true:=rfl
  have e6:decide ((0:Int)>=5)=false:=rfl
  simp only [e1,e2,e3,e4,e5,e6,cond_false,Bool.false_and,Bool.or_false,Bool.true_and]
  cases zW v.Str []<;>cases dZ v.Ref 0<;>cases fEq v.Num 0<;>cases jk v.Num<;>rfl
 .have e5:dZ v.Kind 0=false:=by simp [dZ,hk]
  simp [e5]
theorem Z8 {v:dL}(h:v.ok):nH v=iO v:=by
 unfold nH iO
 dsimp only
 rw [zf h]
 rfl
theorem Xr {v:dL}:(nH v&&Xq v)=(iZ v&&Xq v):=by
 unfold nH Xq
 dsimp only
 cases iZ v<;>cases dZ v.Kind 0<;>simp
theorem Qq {x:dN}(h:x.ok):uX x=jM x:=by
 obtain ⟨h1,h2,h3,h4⟩:=h
 have B:=bits h1
 unfold uX jM lH jA kD jf fE
 dsimp only
 rw [<- zf h2,aD5 h2,aD5 h3,aD5 h4,<- Z8 h3,<- Z8 h4,<- Xr (v:=x.Get),<- Xr (v:=x.Set)]
 have n2:((dZ x.Value.Kind 0)&&((fEq x.Value.Num 0)&&((zW x.Value.Str [])&&(dZ x.Value.Ref 0))))=Xq x.Value:=rfl
 have n3:((dZ x.Get.Kind 0)&&((fEq x.Get.Num 0)&&((zW x.Get.Str [])&&(dZ x.Get.Ref 0))))=Xq x.Get:=rfl
 have n4:((dZ x.Set.Kind 0)&&((fEq x.Set.Num 0)&&((zW x.Set.Str [])&&(dZ x.Set.Ref 0))))=Xq x.Set:=rfl
 rw [n2,n3,n4,B.a12,B.a3,B.n63,B.c1,B.c2,B.c4,B.c8,B.c16,B.c32,B.r1,B.r2,B.r4,B.r8,B.r16,B.r32]
 generalize iZ x.Value=M
 generalize nH x.Get=G
 generalize nH x.Set=S
 generalize Xq x.Value=N2
 generalize Xq x.Get=N3
 generalize Xq x.Set=N4
 generalize hb x.Has 0=b0
 generalize hb x.Has 1=b1
 generalize hb x.Has 2=b2
 generalize hb x.Has 3=b3
 generalize hb x.Has 4=b4
 generalize hb x.Has 5=b5
 generalize decide (x.Has > 63)=big
 generalize x.fB=w
 generalize x.eG=e
 generalize x.Configurable=c
 have key:((((((big||((b0||b1)&&(b2||b3)))||(!M))||(!G))||(!S))||((((!b0)&&(!N2))||((!b2)&&(!N3)))||((!b3)&&(!N4))))||((((!b1)&&w)||((!b4)&&e))||((!b5)&&c))) =
   ((big||((b0||b1)&&(b2||b3)))||((((!(bif b0 then M else (M&&N2)))||(!(bif b2 then G else (G&&N3))))||(!(bif b3 then S else (S&&N4))))||(!((((!w)||b1)&&((!e)||b4))&&((!c)||b5))))):=by
  cases big
  .cases M
   .cases b0<;>simp
   .cases G
    .cases b2<;>simp
    .cases S
     .cases b3<;>simp
     .clear B h1 h2 h3 h4 n2 n3 n4
      revert N2 N3 N4 b0 b1 b2 b3 b4 b5 w e c
      decide +kernel
  .simp
 have two:∀p q:Bool,(bif p then (90:Int) else bif q then 90 else 0)=bif (p||q) then 90 else 0:=by intro p q;cases p<;>rfl
 have three:∀p q r:Bool,(bif p then (90:Int) else bif q then 90 else bif r then 90 else 0)=bif ((p||q)||r) then 90 else 0:=by intro p q r;cases p<;>cases q<;>rfl
 rw [three,two]
 rw [<- key]
end Go.Fw
end
section
namespace Go.Fw
theorem ad3 {n:Nat}(h:n<2 ^ 64)(hz:jk n=true):n=0:=by
 unfold jk at hz
 rw [Bool.and_eq_true,GU] at hz
 obtain ⟨h1,h2⟩:=hz
 have hs:=asa n
 cases hx:kH n with
 |nan s t=>rw [hx] at h1;cases h1
 |infinity s=>rw [hx] at h1;cases h1
 |number s m i=>
  cases m with
  |succ m=>rw [hx] at h1;cases h1
  |zero=>
   rw [agv hx] at h2
   have hs2:s=false:=by simpa using h2
   rw [hx,hs2] at hs
   have e:(2:Nat) ^ 64=18446744073709551616:=by decide
   rw [e] at h
   have hd:n / 9223372036854775808=0:=by
    simp only [Ieee.Datum.neg] at hs
    have:n / 9223372036854775808 % 2≠1:=by
     intro k
     rw [k] at hs
     cases hs
    omega
   have hr:n % 9223372036854775808=0:=by
    unfold kH Ieee.Format.read at hx
    have e:FloatKind.f64.format.signWeight=9223372036854775808:=by rfl
    have e3:FloatKind.f64.format.binade=4503599627370496:=by rfl
    simp only [e,e3] at hx
    split at hx
    .simp only [Ieee.Datum.number.injEq] at hx;exact hx.2.1
    .split at hx
     .simp only [Ieee.Datum.number.injEq] at hx;omega
     .split at hx<;>cases hx
   omega
theorem G_ {v:dL}(h:v.ok)(hb:iR v=true):v=dL.mk 0 0 [] 0:=by
 obtain ⟨k,n,s,r⟩:=v
 unfold iR BH at hb
 dsimp only at hb
 rw [JG] at hb
 simp only [Bool.and_eq_true,dZ,zW,beq_iff_eq,decide_eq_true_eq] at hb
 obtain ⟨⟨⟨rfl,rfl⟩,rfl⟩,hn⟩:=hb
 obtain rfl:=ad3 h.2 hn
 rfl
structure Chk (x:dN):Prop where
 big:decide (x.Has > 63)=false
 da:((hb x.Has 0||hb x.Has 1)&&(hb x.Has 2||hb x.Has 3))=false
 w:(hb x.Has 1||!x.fB)=true
 e:(hb x.Has 4||!x.eG)=true
 c:(hb x.Has 5||!x.Configurable)=true
 v:hb x.Has 0=false->x.Value=dL.mk 0 0 [] 0
 g:hb x.Has 2=false->x.Get=dL.mk 0 0 [] 0
 s:hb x.Has 3=false->x.Set=dL.mk 0 0 [] 0
theorem yg {x:dN}(h:x.ok):jM x=90\/(jM x=0/\Chk x):=by
 obtain ⟨h1,h2,h3,h4⟩:=h
 have B:=bits h1
 have z2:=G_ h2
 have z3:=G_ h3
 have z4:=G_ h4
 by_cases hc:jM x=90
 .exact .inl hc
 .refine .inr ?_
  unfold jM kD jf fE at hc ⊢
  dsimp only at hc ⊢
  rw [B.r1,B.r2,B.r4,B.r8,B.r16,B.r32] at hc ⊢
  generalize hA:(decide (x.Has > 63)||((hb x.Has 0||hb x.Has 1)&&(hb x.Has 2||hb x.Has 3)))=A at hc ⊢
  cases A
  .simp only [cond_false] at hc ⊢
   generalize hQ:((((!(bif hb x.Has 0 then iw x.Value else iR x.Value))||(!(bif hb x.Has 2 then iO x.Get else iR x.Get)))||(!(bif hb x.Has 3 then iO x.Set else iR x.Set)))||(!((((!x.fB)||hb x.Has 1)&&((!x.eG)||hb x.Has 4))&&((!x.Configurable)||hb x.Has 5))))=Q at hc ⊢
   cases Q
   .refine ⟨rfl,?_⟩
    simp only [Bool.or_eq_false_iff,Bool.not_eq_false',Bool.and_eq_true] at hQ hA
    obtain ⟨⟨⟨q1,q2⟩,q3⟩,⟨q4,q5⟩,q6⟩:=hQ
    refine ⟨hA.1,hA.2,by rw [Bool.or_comm];exact q4,by rw [Bool.or_comm];exact q5,by rw [Bool.or_comm];exact q6,fun e=>?_,fun e=>?_,fun e=>?_⟩
    .rw [e] at q1;exact z2 q1
    .rw [e] at q2;exact z3 q2
    .rw [e] at q3;exact z4 q3
   .exact absurd rfl hc
  .exact absurd rfl hc
theorem EZ {x:dN}(h:u8 x.Has):jA x=(hb x.Has 2||hb x.Has 3):=(bits h).a12
theorem SE {x:dN}(h:u8 x.Has)(c:Chk x):jC x.Has (m_ x).Has=!(dZ x.Has 51||dZ x.Has 60):=by
 have B:=bits h
 unfold m_
 dsimp only
 rw [EZ h]
 have hda:=c.da
 cases ha:(hb x.Has 2||hb x.Has 3)
 .simp only [cond_false];exact B.w51 ha c.big
 .rw [ha,Bool.and_true] at hda
  simp only [cond_true];exact B.w60 ha c.big hda
theorem vok {v:dL}(h:v.wf):v.ok:=⟨h.Kind,h.Num⟩
theorem dok {v:dN}(h:v.wf):v.ok:=⟨h.Has,vok h.Value,vok h.Get,vok h.Set⟩
end Go.Fw
end
section
namespace Go.Fw
def pl (l:List dJ)(k:dI):Option Nat:=l.findIdx? (fun p=>decide (p.Key=k))
theorem ad4 (x0:List dJ)(x1:dI)(hl:x0.length<=4294967296):∀(n j:Nat) (u2:Int),j<=x0.length->x0.length-j<n->
  nJ x0 x1 n u2 j=match (x0.drop j).findIdx? (fun p=>decide (p.Key=x1)) with|some i=>(false,default,((j+i:Nat):Int))|none=>(true,u2,default)
 |0,j,u2,hj,hn=>by omega
 |n+1,j,u2,hj,hn=>by
  simp only [nJ,aEs,aEw,Um (show j<=4294967296 by omega),Int.toNat_natCast]
  by_cases hlt:j<x0.length
  .rw [I_ x0 j hlt]
   simp only [hlt,decide_true,Bool.not_true,cond_false,List.findIdx?_cons]
   by_cases hk:(x0.getD j default).Key=x1
   .simp only [hk,decide_true,cond_true,if_true,Nat.add_zero]
   .simp only [hk,decide_false,cond_false,Bool.false_eq_true,if_false]
    rw [ad4 x0 x1 hl n (j+1) u2 (by omega) (by omega)]
    cases (x0.drop (j+1)).findIdx? (fun p=>decide (p.Key=x1)) with
    |none=>rfl
    |some i=>simp only [Option.map_some];congr 3;omega
  .simp only [hlt,decide_false,Bool.not_false,cond_true]
   rw [List.drop_eq_nil_iff.2 (by omega)];rfl
theorem Qr (x0:List dJ)(x1:dI)(hl:x0.length<=4294967296):kS x0 x1=match pl x0 x1 with|some i=>(i:Int)|none => -1:=by
 unfold kS pl
 dsimp only
 rw [show (0:Int)=((0:Nat):Int) from rfl,ad4 x0 x1 hl _ 0 _ (by omega) (by omega),List.drop_zero]
 cases List.findIdx? (fun p:dJ=>decide (p.Key=x1)) x0 with
 |none=>rfl
 |some i=>simp [Ym,ji,dZ]
theorem asw (x0:List dJ)(x1:dI):∀(n:Nat) (u2 u3:Int),xZ x0 x1 n u2 u3=nJ x0 x1 n u2 u3
 |0,_,_=>rfl
 |n+1,u2,u3=>by simp only [xZ,nJ,asw]
theorem aEq (x0:List dJ)(x1:dI):yX x0 x1=kS x0 x1:=by
 unfold yX kS;simp only [asw]
end Go.Fw
end
section
namespace Go.Fw
theorem yh (k:dI):vM k=fP k:=by
 have:sNe k.Str []=decide ((sLen k.Str:Int) > 0):=by
  unfold sNe sLen
  cases k.Str with
  |nil=>simp
  |cons a r=>simp<;>omega
 unfold vM fP
 rw [this]
theorem Xt (k:dI):fP k=9\/fP k=0:=by
 unfold fP
 generalize (_||_)=b
 cases b<;>simp
theorem asy {x:dN}(h:x.ok):uY x=fU x:=by
 unfold uY Bj fU
 dsimp only
 rw [Qq h]
 rcases yg h with h9|⟨h0,hc⟩
 .simp [h9,jC,dZ]
 .have:=SE h.1 hc
  have e:dZ (m_ x).Has x.Has=(dZ x.Has 51||dZ x.Has 60):=by
   rw [ay9] at this
   rw [Yl,decide_eq_decide.2 (eq_comm (a:=(m_ x).Has) (b:=x.Has))]
   exact Bool.not_inj this
  simp [h0,jC,dZ] at e ⊢
  exact e
def OZ (pre:List dI):List dJ->Int
 |[]=>0
 |p::r=>bif jC (fP p.Key) 0 then 9 else bif !fU p.dV then 90 else bif decide (p.Key∈pre) then 100 else OZ (pre++[p.Key]) r
theorem agY {m:List (dI×Int)}{k k':dI}{v:Int}:(n_ (0:Int) k' (og k v m)).2=if k'=k then v else (n_ (0:Int) k' m).2:=by
 induction m with
 |nil=>
  simp only [og,n_]
  by_cases h:k'=k<;>simp [h]
 |cons e r ih=>
  simp only [og]
  by_cases h:k=e.1
  .simp only [h,if_true,n_]
   by_cases h2:k'=e.1<;>simp [h2]
  .simp only [h,if_false,n_]
   by_cases h2:k'=e.1
   .have:¬k'=k:=fun e2=>h (e2▸h2)
    simp only [h2,if_true]
    have h3:¬e.1=k:=fun e2=>h e2.symm
    simp [h3]
   .simp only [h2,if_false];exact ih
theorem Z_ (x0:List dJ)(hl:x0.length<=4294967296)(hok:∀p∈x0,p.dV.ok):∀(n j:Nat) (u1:Int) (m:List (dI×Int)),j<=x0.length->x0.length-j<n->
  (∀k,decide ((n_ (0:Int) k m).2 > 0)=decide (k∈(x0.take j).map (·.Key)))->
  (bif !(dZ (ji (o_ x0 n u1 j m).1) 0) then (o_ x0 n u1 j m).2.2.2.1 else 0)=OZ ((x0.take j).map (·.Key)) (x0.drop j)
 |0,j,u1,m,hj,hn,hm=>by omega
 |n+1,j,u1,m,hj,hn,hm=>by
  simp only [o_,aEs,Um (show j<=4294967296 by omega),Int.toNat_natCast]
  by_cases hlt:j<x0.length
  .rw [I_ x0 j hlt]
   have hp:=auJ x0 j hlt
   simp only [hlt,decide_true,Bool.not_true,cond_false,OZ,yh,asy (hok _ hp),hm]
   cases h1:jC (fP (x0.getD j default).Key) 0 with
   |true=>
    rcases Xt (x0.getD j default).Key with h9|h9
    .rw [h9];rfl
    .rw [h9] at h1;cases h1
   |false=>
    simp only [cond_false]
    cases h2:fU (x0.getD j default).dV with
    |false=>rfl
    |true=>
     simp only [Bool.not_true,cond_false]
     by_cases h3:(x0.getD j default).Key∈(x0.take j).map (·.Key)
     .simp only [h3,decide_true,cond_true,Ym,Bool.not_false]
     .simp only [h3,decide_false,cond_false]
      have hk:(x0.take (j+1)).map (·.Key)=(x0.take j).map (·.Key)++[(x0.getD j default).Key]:=by rw [agw x0 j hlt,List.map_append];rfl
      rw [Z_ x0 hl hok n (j+1) u1 _ (by omega) (by omega) ?_,hk]
      intro k
      rw [agY,hk]
      by_cases he:k=(x0.getD j default).Key
      .subst he
       simp<;>omega
      .simp only [he,if_false,hm k]
       simp only [List.mem_append,List.mem_singleton,he,or_false]
  .simp only [hlt,decide_false,Bool.not_false,cond_true]
   rw [List.drop_eq_nil_iff.2 (by omega)];rfl
theorem aoc {l:List dJ}{k:dI}:(pl l k).isSome=decide (k∈l.map (·.Key)):=by
 unfold pl
 rw [List.findIdx?_isSome,Bool.eq_iff_iff,List.any_eq_true,decide_eq_true_iff,List.mem_map]
 constructor
 .rintro ⟨x,hx,h⟩;exact ⟨x,hx,of_decide_eq_true h⟩
 .rintro ⟨x,hx,h⟩;exact ⟨x,hx,decide_eq_true h⟩
theorem akO {l:List dJ}{k:dI}(hl:l.length<=4294967296):decide (kS l k>=0)=decide (k∈l.map (·.Key)):=by
 rw [Qr l k hl,<- aoc]
 cases pl l k<;>simp
theorem aac (x0:List dJ)(hl:x0.length<=4294967296):∀(n j:Nat) (u1:Int),j<=x0.length->x0.length-j<n->
  (bif !(dZ (ji (pq x0 n u1 j).1) 0) then (pq x0 n u1 j).2.2 else 0)=OZ ((x0.take j).map (·.Key)) (x0.drop j)
 |0,j,u1,hj,hn=>by omega
 |n+1,j,u1,hj,hn=>by
  simp only [pq,aEs,Um (show j<=4294967296 by omega),Int.toNat_natCast,List.drop_zero,Int.toNat_zero,Nat.sub_zero]
  by_cases hlt:j<x0.length
  .rw [I_ x0 j hlt]
   generalize hx:x0.getD j default=p
   have hlk:(x0.take j).length<=4294967296:=by simp;omega
   simp only [hlt,decide_true,Bool.not_true,cond_false,OZ,akO hlk]
   cases h1:jC (fP p.Key) 0 with
   |true=>simp [Ym]
   |false=>
    simp only [cond_false]
    cases h2:fU p.dV with
    |false=>simp [Ym]
    |true=>
     simp only [Bool.not_true,cond_false]
     by_cases h3:p.Key∈(x0.take j).map (·.Key)
     .simp only [h3,decide_true,cond_true,Ym,Bool.not_false]
     .simp only [h3,decide_false,cond_false]
      have hk:(x0.take (j+1)).map (·.Key)=(x0.take j).map (·.Key)++[p.Key]:=by rw [agw x0 j hlt,hx];simp
      rw [aac x0 hl n (j+1) u1 (by omega) (by omega),hk]
  .simp only [hlt,decide_false,Bool.not_false,cond_true]
   rw [List.drop_eq_nil_iff.2 (by omega)];simp [Ym,OZ]
theorem He (x0:List dJ)(hl:x0.length<=4294967296):iJ x0=bif decide ((x0.length:Int) > 1024) then 4 else OZ [] x0:=by
 unfold iJ
 simp only [iL]
 have:=aac x0 hl (x0.length+1) 0 0 (by omega) (by omega)
 simp only [List.take_zero,List.map_nil,List.drop_zero] at this
 rw [<- this]
 rfl
theorem vO (x0:List dJ)(hl:x0.length<=4294967296)(hok:∀p∈x0,p.dV.ok):jF x0=iJ x0:=by
 rw [He x0 hl]
 unfold jF
 simp only [iL]
 have:=Z_ x0 hl hok (x0.length+1) 0 0 [] (by omega) (by omega) (by intro k;simp [n_])
 simp only [List.take_zero,List.map_nil,List.drop_zero] at this
 rw [<- this]
 rfl
theorem Qs (x0:List dJ)(k:dI)(hl:x0.length<=4294967296)(hok:∀p∈x0,p.dV.ok):qx x0 k=kT x0 k:=by
 unfold qx kT
 rw [vO x0 hl hok,yh]
end Go.Fw
end
section
namespace Go.Fw
theorem wV (x0:List dJ):iJ x0=0->x0.length<=1024:=by
 intro h
 unfold iJ at h
 simp only [iL] at h
 by_cases hl:(x0.length:Int) > 1024
 .simp [hl] at h
 .omega
theorem Hf {x0:List dJ}(hl:x0.length<=4294967296):∀(n j:Nat) (u:List dI),j<=x0.length->x0.length-j<n->qU x0 n u j=u++(x0.drop j).map (·.Key)
 |0,j,u,hj,hn=>by omega
 |n+1,j,u,hj,hn=>by
  simp only [qU,aEs,Int.toNat_natCast]
  by_cases hlt:j<x0.length
  .rw [I_ x0 j hlt]
   simp only [decide_eq_true hlt,Bool.not_true,cond_false,Um (show j<=4294967296 by omega)]
   rw [Hf hl n (j+1) _ (by omega) (by omega)];simp
  .simp only [decide_eq_false hlt,Bool.not_false,cond_true]
   rw [List.drop_eq_nil_iff.2 (by omega)];simp
theorem Qu {x0:List dJ}(hl:x0.length<=4294967296):qU x0 (x0.length+1) [] 0=x0.map (·.Key):=by
 have:=Hf hl (x0.length+1) 0 [] (by omega) (by omega)
 simpa using this
theorem NW {x0:List dJ}(hl:x0.length<=4294967296):uZ x0=bif jC (iJ x0) 0 then ([],iJ x0) else (qy (x0.map (·.Key)),0):=by
 unfold uZ
 dsimp only
 rw [Qu hl]
theorem au7 {x1 x2 x3:Int}{n:Nat}(h0:0<=x1)(h1:x1<x2)(h2:x2<x3)(h3:x3<=4294967296)(hm:(x3-x1).toNat<n+1):(au2 x1 x3-x1).toNat<n/\(x3-au2 x1 x3).toNat<n:=by
 rw [Nk h0 (by omega) (by omega)];omega
end Go.Fw
end
section
namespace Go.Fw
theorem Uc {x0:List dJ}(hl:x0.length<=4294967296):∀(n j:Nat) (u:List dI),j<=x0.length->x0.length-j<n->ug x0 n u j=u++(x0.drop j).map (·.Key)
 |0,j,u,hj,hn=>by omega
 |n+1,j,u,hj,hn=>by
  simp only [ug,aEs,Int.toNat_natCast]
  by_cases hlt:j<x0.length
  .rw [I_ x0 j hlt]
   simp only [decide_eq_true hlt,Bool.not_true,cond_false,Um (show j<=4294967296 by omega)]
   rw [Uc hl n (j+1) _ (by omega) (by omega)];simp
  .simp only [decide_eq_false hlt,Bool.not_false,cond_true]
   rw [List.drop_eq_nil_iff.2 (by omega)];simp
theorem NY {l:List dI}(h:l.length<=1048576):uf l=qy l:=by
 have h1:=an4 h
 have h2:=akD (x0:=l) h
 exact Ej.uniq h1.1 h2.1 (h1.2.trans h2.2.symm)
theorem aod (x0:List dJ)(hl:x0.length<=4294967296)(hok:∀p∈x0,p.dV.ok):xB x0=uZ x0:=by
 rw [NW hl]
 unfold xB
 dsimp only
 have h:=Uc hl (x0.length+1) 0 [] (by omega) (by omega)
 simp only [show (((0:Nat):Int))=0 from rfl,List.drop_zero,List.nil_append] at h
 rw [h,vO x0 hl hok]
 by_cases hc:iJ x0=0
 .rw [NY (by have:=wV x0 hc;simp;omega)]
 .rw [GL.2 hc];rfl
theorem Xv : ∀{l:List dJ} {pre:List dI},OZ pre l=0->∀p∈l,fU p.dV=true
 |[],pre,h,p,hp=>by cases hp
 |a::r,pre,h,p,hp=>by
  simp only [OZ,Bool.cond_eq_ite] at h
  split at h
  .omega
  .split at h
   .omega
   .rename_i hw
    split at h
    .omega
    .cases hp with
     |head=>simpa using hw
     |tail _ hp=>exact Xv h p hp
theorem aoe (x0:List dJ)(k:dI)(hl:x0.length<=4294967296)(hok:∀p∈x0,p.dV.ok):kK x0 k=xA x0 k:=by
 unfold kK xA
 dsimp only
 rw [Qs x0 k hl hok,aEq]
 by_cases h:kS x0 k>=0
 .rw [decide_eq_true h,decide_eq_false (by omega:¬kS x0 k<0)];rfl
 .rw [decide_eq_false h,decide_eq_true (by omega:kS x0 k<0)];rfl
theorem akP (x0:List dJ)(hl:x0.length<=4294967296):(uZ x0).1.length<=4294967296:=by
 rw [NW hl]
 by_cases hc:iJ x0=0
 .have hlen:=wV x0 hc
  rw [wF.2 hc]
  show (qy (x0.map (·.Key))).length<=_
  rw [<- NY (l:=x0.map (·.Key)) (by simp;omega)]
  unfold uf
  dsimp only
  rw [Bool.cond_eq_ite]
  split
  .simp;omega
  .refine Nat.le_trans (List.length_take_le _ _) ?_
   rw [iL];simp;omega
 .rw [GL.2 hc];simp
end Go.Fw
end
section
namespace Go.Fw
set_option maxRecDepth 20000
def aq8 (n:Int):Prop:=(decide (n > 63)=false->(hb n 2||hb n 3)=false->jZ .u8 51 n=n)/\(decide (n > 63)=false->(hb n 0||hb n 1)=false->jZ .u8 60 n=n)
instance (n : Int):Decidable (aq8 n):=by unfold aq8;infer_instance
end Go.Fw
end
section
namespace Go.Fw
set_option maxRecDepth 20000
end Go.Fw
end
section
namespace Go.Fw
end Go.Fw
end
section
namespace Go.Fw
theorem aoi {α:Type}{f:α->List AV}{l:List α}{i:Nat}{x:α}:mZ (List.map f (l.set i x))=mZ (List.map f l):=by simp [mZ]
theorem LM {α β:Type}{f:α->β}{l:List α}:mZ (List.map f l)=l.length:=by simp [mZ]
def ag1 (x:Nat):Bool:=Yd x 0&&UH x 4652218415073722368
theorem arb {x:Nat}(h1:Yd x 0=true)(h2:UH x 4652218415073722368=true):ag1 x=true:=by simp [ag1,h1,h2]
theorem aoj {P:Program}{ρ:List AV}{x:Tm}{y:Nat}(h:ag1 y=true)(hx:(x.den ρ).F=y:=by rfl):Side.holds P ρ (.num .i64 x (.UJ x)):=by
 subst hx
 unfold ag1 at h
 rw [Bool.and_eq_true] at h
 exact awS h.1 h.2
theorem Qx {v:dL}(h:iZ v=true):0<=v.Ref:=by
 unfold iZ at h
 dsimp only at h
 cases hc:decide ((v.Ref:Int)<0) with
 |false=>have:=of_decide_eq_false hc;omega
 |true=>rw [hc] at h;simp at h
def hIn (h:dK)(v:dL):Prop:=dM v=true->0<=v.Ref/\v.Ref<h.Objects.length
theorem asz {h:dK}{v:dL}(q:hIn h v)(i:dM v=true):0<=v.Ref:=(q i).1
theorem aiH {h:dK}{v:dL}(q:hIn h v)(i:dM v=true):v.Ref<mZ (List.map dS.enc h.Objects):=by rw [LM];exact (q i).2
theorem abM {h:dK}{v:dL}(q:eH h v=true):hIn h v:=by
 intro i
 unfold eH at q
 dsimp only at q
 cases hm:iZ v with
 |false=>rw [hm] at q;simp at q
 |true=>
  rw [hm,i] at q
  simp only [Bool.not_true,cond_false,Bool.false_or,Bool.and_eq_true,decide_eq_true_eq,iL] at q
  exact ⟨Qx hm,q.1⟩
theorem avb {h:dK}{v:dL}(q:eH h v=true):iZ v=true:=by
 unfold eH at q
 dsimp only at q
 cases hm:iZ v with
 |false=>rw [hm] at q;simp at q
 |true=>rfl
theorem aiI {h:dK}{v:dL}(q:eH h v=true):0<=v.Ref:=Qx (avb q)
theorem aiJ {h:dK}{v:dL}(q:eH h v=true)(i:dM v=true):v.Ref<mZ (List.map dS.enc h.Objects):=aiH (abM q) i
theorem abN {x0:dK}{x2:Int}{a b:dL}(h:ji (jJ x0 x2 ((2:Int).toNat+1) false 0 [a,b]).1=0):dM a=true/\eH x0 a=true/\a.Ref<x2:=by
 have e:(2:Int).toNat+1=2+1:=rfl
 rw [e] at h
 unfold jJ at h
 dsimp only at h
 have e1:(!decide ((0:Int)<2))=false:=by decide
 have e2:([a,b].getD (0:Int).toNat default)=a:=rfl
 rw [e1,e2] at h
 simp only [cond_false] at h
 cases hc:(!dM a||!eH x0 a||decide (a.Ref>=x2)) with
 |true=>rw [hc] at h;simp [ji] at h
 |false=>
  simp only [Bool.or_eq_false_iff,Bool.not_eq_false',decide_eq_false_iff_not] at hc
  exact ⟨hc.1.1,hc.1.2,by omega⟩
theorem aok {x0:dK}{x2:Int}{a b:dL}(h:ji (jJ x0 x2 ((2:Int).toNat+1) false 0 [a,b]).1=0):0<=a.Ref:=aiI (abN h).2.1
theorem aol {x0:dK}{x2:Int}{a b:dL}(h:ji (jJ x0 x2 ((2:Int).toNat+1) false 0 [a,b]).1=0):a.Ref<mZ (List.map dS.enc x0.Objects):=aiJ (abN h).2.1 (abN h).1
def Ce (h:dK)(i:Nat):Int:=(h.Objects.getD i default).eu.Kind
def Ci (h:dK)(i:Nat):Int:=(h.Objects.getD i default).eu.Ref
def JH (h:dK):Prop:=∀i,i<h.Objects.length->Ce h i≠1->0<=Ci h i/\Ci h i<h.Objects.length
theorem aiK {h:dK}{i:Nat}(hi:h.Objects.length<=i):Ci h i=0:=by
 unfold Ci;rw [List.getD_eq_getElem?_getD,List.getElem?_eq_none hi];rfl
theorem ad_ {h:dK}(hP:JH h){i:Nat}(hk:(h.Objects.getD i default).eu.Kind≠1):0<=(h.Objects.getD i default).eu.Ref:=by
 by_cases hi:i<h.Objects.length
 .exact (hP i hi hk).1
 .have:=aiK (h:=h) (i:=i) (by omega)
  unfold Ci at this;omega
theorem aiL {h:dK}(hP:JH h){u:Int}(hk:(h.Objects.getD u.toNat default).eu.Kind≠1)(h1:u<mZ (List.map dS.enc h.Objects))(h0:0<=u):(h.Objects.getD u.toNat default).eu.Ref<mZ (List.map dS.enc h.Objects):=by
 rw [LM] at h1 ⊢
 exact (hP u.toNat (by omega) hk).2
theorem Xz {m:List (Int×Bool)}(ha:∀e∈m,e.2=true)(k:Int):(n_ false k m).2=decide (k∈m.map (·.1)):=by
 induction m with
 |nil=>rfl
 |cons e r ih=>
  simp only [n_]
  by_cases h:k=e.1
  .simp [h,ha e (by simp)]
  .rw [if_neg h,ih fun x hx=>ha x (by simp [hx])]
   simp [h]
theorem aea {m:List (Int×Bool)}{k:Int}(h:k∉m.map (·.1)):og k true m=m++[(k,true)]:=by
 induction m with
 |nil=>rfl
 |cons e r ih=>
  simp only [List.map_cons,List.mem_cons,not_or] at h
  simp only [og,if_neg h.1,ih h.2,List.cons_append]
theorem aeb {x0:dK}{u4:List Bool}{S:List Int}(hS:∀u∈S,(x0.Objects.getD u.toNat default).eu.Kind≠1->(x0.Objects.getD u.toNat default).eu.Ref∈S){u5:Bool} :
  ∀(n:Nat) (u6:Int) (m:List (Int×Bool)),(m.map (·.1)).Nodup->(∀e∈m,e.2=true)->(∀k∈m.map (·.1),k∈S)->u6∈S->S.length<n+m.length->kZ x0 u4 n u5 u6 m=true
 |0,u6,m,hn,ha,hk,hu,hl=>by
  have:=List.Nodup.length_le_of_subset hn hk
  rw [List.length_map] at this
  omega
 |n+1,u6,m,hn,ha,hk,hu,hl=>by
  simp only [kZ]
  cases (!(!(u4.getD u6.toNat default))) with
  |true=>rfl
  |false=>
   simp only [cond_false]
   rw [Xz ha]
   cases hm:decide (u6∈m.map (·.1)) with
   |true=>rfl
   |false=>
    have hm:=of_decide_eq_false hm
    simp only [cond_false]
    cases hq:dZ (x0.Objects.getD u6.toNat default).eu.Kind 1 with
    |true=>rfl
    |false=>
     simp only [cond_false]
     rw [aea hm]
     refine aeb hS n _ _ ?_ ?_ ?_ (hS _ hu (tK.1 hq)) (by simp;omega)
     .rw [List.map_append,List.nodup_append]
      refine ⟨hn,by simp,fun a ha' b hb=>?_⟩
      simp at hb;subst hb
      intro e;subst e;exact hm ha'
     .intro e he
      rcases List.mem_append.1 he with he|he
      .exact ha e he
      .simp at he;subst he;rfl
     .intro k hk'
      rw [List.map_append] at hk'
      rcases List.mem_append.1 hk' with hk' | hk'
      .exact hk k hk'
      .simp at hk';subst hk';exact hu
theorem SI {x0:dK}(hP:JH x0){u4:List Bool}{u2:Bool}{u3:Int}:kZ x0 u4 (x0.Objects.length+3) u2 u3 []=true:=by
 refine aeb (S:=u3::0::(List.range x0.Objects.length).map Int.ofNat) (fun u hu hk=>?_) _ _ _ (by simp) (by simp) (by simp) (by simp) (by simp)
 by_cases hi:u.toNat<x0.Objects.length
 .obtain ⟨h1,h2⟩:=hP _ hi hk
  unfold Ci at h1 h2
  refine List.mem_cons_of_mem _ (List.mem_cons_of_mem _ (List.mem_map.2 ⟨(x0.Objects.getD u.toNat default).eu.Ref.toNat,List.mem_range.2 (by omega),?_⟩))
  simp only [Int.ofNat_eq_natCast];omega
 .have:=aiK (h:=x0) (i:=u.toNat) (by omega)
  unfold Ci at this
  rw [this];simp
theorem aec {x0:dK}(hP:JH x0){u4:List Bool}:∀{n:Nat} {u2:Bool} {u6:Int} {m:List (Int×Bool)},(∀e∈m,0<=e.1/\e.1<mZ (List.map dS.enc x0.Objects))->0<=u6->u6<mZ (List.map dS.enc x0.Objects)->∀e∈(iP x0 u4 n u2 u6 m).2.2.2.1,0<=e.1/\e.1<mZ (List.map dS.enc x0.Objects)
 |0,_,_,_,_,_,_=>fun e he=>by cases he
 |n+1,u2,u6,m,hm,h0,h1=>by
  have hput:∀{l:List (Int×Bool)},(∀e∈l,0<=e.1/\e.1<mZ (List.map dS.enc x0.Objects))->∀e∈og u6 true l,0<=e.1/\e.1<mZ (List.map dS.enc x0.Objects):=by
   intro l
   induction l with
   |nil=>intro _ e he;simp [og] at he;subst he;exact ⟨h0,h1⟩
   |cons a r ih=>
    intro hl e he
    simp only [og] at he
    by_cases hc:u6=a.1
    .rw [if_pos hc] at he
     rcases List.mem_cons.1 he with rfl|he
     .exact ⟨h0,h1⟩
     .exact hl e (by simp [he])
    .rw [if_neg hc] at he
     rcases List.mem_cons.1 he with rfl|he
     .exact hl e (by simp)
     .exact ih (fun x hx=>hl x (by simp [hx])) e he
  simp only [iP]
  cases (!(!(u4.getD u6.toNat default))) with
  |true=>exact hm
  |false=>
   simp only [cond_false]
   cases (n_ false u6 m).2 with
   |true=>intro e he;cases he
   |false=>
    simp only [cond_false]
    cases hq:dZ (x0.Objects.getD u6.toNat default).eu.Kind 1 with
    |true=>exact hput hm
    |false=>
     simp only [cond_false]
     exact aec hP (hput hm) (ad_ hP (tK.1 hq)) (aiL hP (tK.1 hq) h1 h0)
theorem aom {x0:dK}(hB:x0.Objects.length<=4294967296){u:Int}(h0:0<=u)(g:(!(decide ((u:Int)<(je dS.enc x0.Objects))))=false):0<=dY .i64 u 1:=by
 simp only [Bool.not_eq_false',decide_eq_true_eq,iL] at g
 rw [nG (by omega) (by omega)];omega
theorem zh {c b:Bool}(h:(bif c then false else b)=true):c=false/\b=true:=by cases c<;>simp_all
theorem Jj {x0:dK}{i:Int}(h:jv x0 i=true):(x0.Objects.getD i.toNat default).eu.Kind=1\/(dM (x0.Objects.getD i.toNat default).eu=true/\eH x0 (x0.Objects.getD i.toNat default).eu=true):=by
 unfold jv at h
 dsimp only at h
 generalize x0.Objects.getD i.toNat default=o at h ⊢
 cases h6:dZ o.Kind 6 with
 |true=>
  rw [h6] at h
  simp only [cond_true] at h
  unfold pK at h
  dsimp only at h
  obtain ⟨hc,-⟩:=zh h
  left
  simp only [Bool.or_eq_false_iff,Bool.not_eq_false'] at hc
  have:=hc.1.1.2
  unfold nR at this
  dsimp only at this
  rw [Bool.and_eq_true] at this
  exact kP.1 this.1
 |false=>
  rw [h6] at h
  simp only [cond_false] at h
  obtain ⟨hc,h⟩:=zh h
  obtain ⟨hd,h⟩:=zh h
  simp only [Bool.or_eq_false_iff,Bool.not_eq_false'] at hd
  by_cases hk:o.eu.Kind=1
  .exact .inl hk
  .right
   have h1:=hd.1.1
   rw [GL.2 hk] at h1
   simp only [Bool.true_and,Bool.not_eq_false'] at h1
   exact ⟨h1,hd.1.2⟩
open Classical in
theorem Qy {x0:dK}(hB:x0.Objects.length<=4294967296):∀(n j:Nat) (u1:Int),j<=x0.Objects.length->x0.Objects.length-j<n->qX x0 n u1 j=if ∀i,j<=i->i<x0.Objects.length->jv x0 (i:Nat)=true then (true,u1,default) else (false,default,9)
 |0,j,_,_,h=>by omega
 |n+1,j,u1,hj,hn=>by
  simp only [qX,iL]
  by_cases hlt:j<x0.Objects.length
  .have e1:(!decide ((j:Int)<(x0.Objects.length:Int)))=false:=by rw [decide_eq_true (by omega)];rfl
   rw [e1]
   simp only [cond_false]
   cases ho:jv x0 (j:Nat) with
   |false=>
    rw [if_neg (fun hh=>by have:=hh j (Nat.le_refl _) hlt;rw [ho] at this;cases this)]
    rfl
   |true=>
    simp only [Bool.not_true,cond_false]
    rw [nG (by omega) (by omega)]
    have e2:((j:Int)+1)=((j+1:Nat):Int):=by omega
    rw [e2,Qy hB n (j+1) u1 (by omega) (by omega)]
    have:(∀i,j+1<=i->i<x0.Objects.length->jv x0 (i:Nat)=true)↔(∀i,j<=i->i<x0.Objects.length->jv x0 (i:Nat)=true):=by
     constructor
     .intro hh i h1 h2
      by_cases e:i=j
      .subst e;exact ho
      .exact hh i (by omega) h2
     .intro hh i h1 h2;exact hh i (by omega) h2
    simp only [this]
  .have e1:(!decide ((j:Int)<(x0.Objects.length:Int)))=true:=by rw [decide_eq_false (by omega)];rfl
   rw [e1,if_pos (fun i h1 h2=>by omega)]
   rfl
theorem LP {x0:dK}(h:decide ((je dS.enc x0.Objects:Int) > 4096)=false):x0.Objects.length<=4294967296:=by
 have:=of_decide_eq_false h
 rw [iL] at this;omega
theorem Qz {x0:dK}(h:∀i,i<x0.Objects.length->jv x0 (i:Nat)=true):JH x0:=by
 intro i hi hk
 rcases Jj (h i hi) with h1|⟨h1,h2⟩
 .exact absurd h1 hk
 .have:=abM h2 h1
  exact this
theorem ard {x0:dK}(hB:x0.Objects.length<=4294967296)(h:ji (qX x0 (x0.Objects.length+1) 0 0).1=0):JH x0:=by
 have e:=Qy hB (x0.Objects.length+1) 0 0 (Nat.zero_le _) (by omega)
 have e0:((0:Nat):Int)=0:=rfl
 rw [e0] at e
 rw [e] at h
 split at h<;>rename_i hc
 .exact Qz fun i hi=>hc i (Nat.zero_le _) hi
 .simp [ji] at h
structure HOk (h:dK):Prop where
 len:h.Objects.length<=4096
 obj:∀i,i<h.Objects.length->jv h (i:Nat)=true
 lps:qW h=false
theorem Hl {h:dK}:kR h=0↔HOk h:=by
 unfold kR
 dsimp only
 rw [iL]
 by_cases hl:h.Objects.length<=4096
 .have e1:decide ((h.Objects.length:Int) > 4096)=false:=decide_eq_false (by omega)
  have e:=Qy (x0:=h) (by omega) (h.Objects.length+1) 0 0 (Nat.zero_le _) (by omega)
  have e0:((0:Nat):Int)=0:=rfl
  rw [e0] at e
  rw [e1,e]
  simp only [cond_false]
  by_cases hc:∀i,0<=i->i<h.Objects.length->jv h (i:Nat)=true
  .rw [if_pos hc]
   have e2:(!dZ (ji true) 0)=false:=rfl
   simp only [e2,cond_false]
   cases hL:qW h with
   |true=>exact ⟨fun h=>absurd h (by decide),fun h=>by have:=h.lps;rw [hL] at this;cases this⟩
   |false=>exact ⟨fun _=>⟨hl,fun i hi=>hc i (Nat.zero_le _) hi,hL⟩,fun _=>rfl⟩
  .rw [if_neg hc]
   have e2:(!dZ (ji false) 0)=true:=rfl
   simp only [e2,cond_true]
   exact ⟨fun h=>absurd h (by decide),fun h=>absurd (fun i _ hi=>h.obj i hi) hc⟩
 .have e1:decide ((h.Objects.length:Int) > 4096)=true:=decide_eq_true (by omega)
  rw [e1]
  exact ⟨fun h=>absurd h (by simp),fun h=>absurd h.len hl⟩
theorem HOk.pok {h:dK}(k:HOk h):JH h:=Qz k.obj
theorem avc {h:dK}(hC:kR h=0){i:Nat}:hIn h (h.Objects.getD i default).eu:=by
 have k:=Hl.1 hC
 intro hi
 by_cases hl:i<h.Objects.length
 .rcases Jj (k.obj i hl) with h1|⟨h1,h2⟩
  .unfold dM at hi
   simp only [Int.toNat_natCast] at h1
   rw [h1] at hi;simp at hi
  .exact abM h2 h1
 .have h0:h.Objects.getD i default=default:=by rw [List.getD_eq_getElem?_getD,List.getElem?_eq_none (by omega)];rfl
  rw [h0] at hi;cases hi
def run (h:dK):Nat->Nat->Bool
 |0,_=>false
 |n+1,i=>bif dZ (Ce h i) 1 then true else run h n (Ci h i).toNat
theorem QA {h:dK}:∀{n i:Nat},run h n i=true->run h (n+1) i=true
 |0,_,h=>by cases h
 |n+1,i,hr=>by
  simp only [run] at hr ⊢
  cases hk:dZ (Ce h i) 1 with
  |true=>rfl
  |false=>rw [hk] at hr;exact QA hr
theorem avd {h:dK}{n m i:Nat}(hr:run h n i=true)(hm:n<=m):run h m i=true:=by
 obtain ⟨k,rfl⟩:=Nat.le.dest hm
 clear hm
 induction k with
 |zero=>exact hr
 |succ k ih=>exact QA ih
theorem Nl {h:dK}{i:Nat}:∀{n:Nat},run h n i=true->∃k,run h (k+1) i=true/\run h k i=false
 |0,hr=>by cases hr
 |n+1,hr=>by
  cases hk:run h n i with
  |false=>exact ⟨n,hr,hk⟩
  |true=>exact Nl hk
def LQ (h:dK):Prop:=∀i,i<h.Objects.length->∃n,run h n i=true
def aD2 (h:dK):Nat->Nat->List Nat
 |0,_=>[]
 |n+1,i=>i::aD2 h n (Ci h i).toNat
theorem aae {h:dK}:∀{n i:Nat},run h n i=true->(n=0\/run h (n-1) i=false)->∀x∈aD2 h n i,run h n x=true
 |0,i,hr,_=>by cases hr
 |n+1,i,hr,hl=>by
  intro x hx
  rcases List.mem_cons.1 hx with rfl|hx
  .exact hr
  .cases n with
   |zero=>cases hx
   |succ n=>
    have hl:run h (n+1) i=false:=by simpa using hl
    have hk:dZ (Ce h i) 1=false:=by
     cases hk:dZ (Ce h i) 1 with
     |false=>rfl
     |true=>simp only [run,hk,cond_true] at hl;cases hl
    have h1:run h (n+1) (Ci h i).toNat=true:=by
     have:run h (n+2) i=(bif dZ (Ce h i) 1 then true else run h (n+1) (Ci h i).toNat):=rfl
     rw [this,hk] at hr;exact hr
    have h2:run h n (Ci h i).toNat=false:=by
     have:run h (n+1) i=(bif dZ (Ce h i) 1 then true else run h n (Ci h i).toNat):=rfl
     rw [this,hk] at hl;exact hl
    exact QA (aae h1 (.inr (by simpa using h2)) x hx)
theorem aee {h:dK}(hP:JH h):∀{n i:Nat},i<h.Objects.length->run h (n+1) i=true->run h n i=false->(aD2 h (n+1) i).Nodup/\(∀x∈aD2 h (n+1) i,x<h.Objects.length)/\(aD2 h (n+1) i).length=n+1
 |0,i,hi,hr,hl=>by simp [aD2,hi]
 |n+1,i,hi,hr,hl=>by
  have hk:dZ (Ce h i) 1=false:=by
   cases hk:dZ (Ce h i) 1 with
   |false=>rfl
   |true=>simp only [run,hk,cond_true] at hl;cases hl
  have h1:run h (n+1) (Ci h i).toNat=true:=by
   have:run h (n+2) i=(bif dZ (Ce h i) 1 then true else run h (n+1) (Ci h i).toNat):=rfl
   rw [this,hk] at hr;exact hr
  have h2:run h n (Ci h i).toNat=false:=by
   have:run h (n+1) i=(bif dZ (Ce h i) 1 then true else run h n (Ci h i).toNat):=rfl
   rw [this,hk] at hl;exact hl
  obtain ⟨p0,p1⟩:=hP i hi (tK.1 hk)
  obtain ⟨c1,c2,c3⟩:=aee hP (i:=(Ci h i).toNat) (by omega) h1 h2
  refine ⟨?_,?_,?_⟩
  .show (i::aD2 h (n+1) (Ci h i).toNat).Nodup
   refine List.nodup_cons.2 ⟨fun hm=>?_,c1⟩
   have:=aae h1 (.inr (by simpa using h2)) i hm
   rw [hl] at this;cases this
  .intro x hx
   rcases List.mem_cons.1 hx with rfl|hx
   .exact hi
   .exact c2 x hx
  .show (i::aD2 h (n+1) (Ci h i).toNat).length=_
   rw [List.length_cons,c3]
theorem aiM {h:dK}(hP:JH h)(ha:LQ h){i:Nat}(hi:i<h.Objects.length):run h h.Objects.length i=true:=by
 obtain ⟨n,hn⟩:=ha i hi
 obtain ⟨k,h1,h2⟩:=Nl hn
 obtain ⟨c1,c2,c3⟩:=aee hP hi h1 h2
 have:=List.Nodup.length_le_of_subset c1 (l₂:=List.range h.Objects.length) fun x hx=>List.mem_range.2 (c2 x hx)
 rw [c3,List.length_range] at this
 exact avd h1 this
theorem aef {x0:dK}{u4:List Bool}:∀{n:Nat} {u5:Bool} {u6:Int} {m:List (Int×Bool)},kZ x0 u4 n u5 u6 m=true->(iP x0 u4 n u5 u6 m).1=true\/((iP x0 u4 n u5 u6 m).1=false/\(iP x0 u4 n u5 u6 m).2.2.2.2.1=true)
 |0,_,_,_,h=>by cases h
 |n+1,u5,u6,m,h=>by
  simp only [kZ] at h
  simp only [iP]
  cases hb:(!(!(u4.getD u6.toNat default))) with
  |true=>exact .inl rfl
  |false=>
   cases hg:(n_ false u6 m).2 with
   |true=>exact .inr ⟨rfl,rfl⟩
   |false=>
    cases hq:dZ (x0.Objects.getD u6.toNat default).eu.Kind 1 with
    |true=>exact .inl rfl
    |false=>
     rw [hb,hg,hq] at h
     exact aef h
theorem aaf {x0:dK}(hP:JH x0){u4:List Bool}(hd:∀i,u4.getD i default=true->∃n,run x0 n i=true):∀{n:Nat} {u5:Bool} {u6:Int} {m:List (Int×Bool)},(iP x0 u4 n u5 u6 m).1=true->
  (∃k,run x0 k u6.toNat=true)/\(∀e∈(iP x0 u4 n u5 u6 m).2.2.2.1,e∈m\/∃k,run x0 k e.1.toNat=true)/\(∀e∈m,∃e'∈(iP x0 u4 n u5 u6 m).2.2.2.1,e'.1=e.1)/\(u4.getD u6.toNat default=true\/∃e'∈(iP x0 u4 n u5 u6 m).2.2.2.1,e'.1=u6)
 |0,_,_,_,h=>by cases h
 |n+1,u5,u6,m,h=>by
  have hput:∀{l:List (Int×Bool)},(∀e∈og u6 true l,e∈l\/e=(u6,true))/\(∀e∈l,∃e'∈og u6 true l,e'.1=e.1)/\(u6,true)∈og u6 true l:=by
   intro l
   induction l with
   |nil=>exact ⟨fun e he=>.inr (by simpa [og] using he),fun e he=>(by cases he),by simp [og]⟩
   |cons a r ih=>
    obtain ⟨i1,i2,i3⟩:=ih
    simp only [og]
    by_cases hc:u6=a.1
    .rw [if_pos hc]
     refine ⟨fun e he=>?_,fun e he=>?_,by simp⟩
     .rcases List.mem_cons.1 he with rfl|he
      .exact .inr rfl
      .exact .inl (List.mem_cons_of_mem _ he)
     .rcases List.mem_cons.1 he with rfl|he
      .exact ⟨_,List.mem_cons_self ..,hc⟩
      .exact ⟨e,List.mem_cons_of_mem _ he,rfl⟩
    .rw [if_neg hc]
     refine ⟨fun e he=>?_,fun e he=>?_,List.mem_cons_of_mem _ i3⟩
     .rcases List.mem_cons.1 he with rfl|he
      .exact .inl (List.mem_cons_self ..)
      .rcases i1 e he with h|h
       .exact .inl (List.mem_cons_of_mem _ h)
       .exact .inr h
     .rcases List.mem_cons.1 he with rfl|he
      .exact ⟨_,List.mem_cons_self ..,rfl⟩
      .obtain ⟨e',h1,h2⟩:=i2 e he
       exact ⟨e',List.mem_cons_of_mem _ h1,h2⟩
  simp only [iP] at h ⊢
  cases hb:(!(!(u4.getD u6.toNat default))) with
  |true=>
   have hb':u4.getD u6.toNat default=true:=by simpa using hb
   exact ⟨hd _ hb',fun e he=>.inl he,fun e he=>⟨e,he,rfl⟩,.inl hb'⟩
  |false=>
   cases hg:(n_ false u6 m).2 with
   |true=>rw [hb,hg] at h;cases h
   |false=>
    obtain ⟨p1,p2,p3⟩:=hput (l:=m)
    cases hq:dZ (x0.Objects.getD u6.toNat default).eu.Kind 1 with
    |true=>
     have hr:run x0 1 u6.toNat=true:=by
      show (bif dZ (Ce x0 u6.toNat) 1 then true else _)=true
      unfold Ce;rw [hq];rfl
     refine ⟨⟨1,hr⟩,fun e he=>?_,p2,.inr ⟨_,p3,rfl⟩⟩
     rcases p1 e he with h' | h'
     .exact .inl h'
     .subst h';exact .inr ⟨1,hr⟩
    |false=>
     rw [hb,hg,hq] at h
     simp only [cond_false] at h ⊢
     obtain ⟨⟨k,a1⟩,a2,a3,a4⟩:=aaf hP hd h
     have hr:run x0 (k+1) u6.toNat=true:=by
      show (bif dZ (Ce x0 u6.toNat) 1 then true else run x0 k (Ci x0 u6.toNat).toNat)=true
      unfold Ce Ci;rw [hq];exact a1
     refine ⟨⟨k+1,hr⟩,fun e he=>?_,fun e he=>?_,.inr ?_⟩
     .rcases a2 e he with h' | h'
      .rcases p1 e h' with h'' | h''
       .exact .inl h''
       .subst h'';exact .inr ⟨k+1,hr⟩
      .exact .inr h'
     .obtain ⟨e1,q1,q2⟩:=p2 e he
      obtain ⟨e2,q3,q4⟩:=a3 e1 q1
      exact ⟨e2,q3,q4.trans q2⟩
     .obtain ⟨e2,q3,q4⟩:=a3 _ p3
      exact ⟨e2,q3,q4⟩
theorem aeg {m:List (Int×Bool)}{d:List Bool}{i:Nat}(hi:i<d.length):(Qa m d).getD i default=(d.getD i default||m.any fun e=>Nat.beq e.1.toNat i):=by
 simp [Qa,List.getD_eq_getElem?_getD,List.getElem?_mapIdx,hi]
theorem aeh {m:List (Int×Bool)}{d:List Bool}:(Qa m d).length=d.length:=by simp [Qa]
theorem aei {x0:dK}(hP:JH x0)(hB:x0.Objects.length<=4294967296):∀(n j:Nat) (u2:Bool) (u4:List Bool),j<=x0.Objects.length->x0.Objects.length-j<n->u4.length=x0.Objects.length->
  (∀i,u4.getD i default=true->∃k,run x0 k i=true)->(∀i,i<j->u4.getD i default=true)->
  ((lN x0 n u2 j u4).1=true/\LQ x0)\/((lN x0 n u2 j u4).1=false/\(lN x0 n u2 j u4).2.2.2.1=true)
 |0,j,_,_,_,h,_,_,_=>by omega
 |n+1,j,u2,u4,hj,hn,hl,hd,ha=>by
  simp only [lN,iL]
  by_cases hlt:j<x0.Objects.length
  .have e1:(!decide ((j:Int)<(x0.Objects.length:Int)))=false:=by rw [decide_eq_true (by omega)];rfl
   rw [e1]
   simp only [cond_false]
   rcases aef (SI hP (u4:=u4) (u2:=u2) (u3:=(j:Int))) with hw|⟨hw,hw2⟩
   .rw [hw]
    have e2:(!dZ (ji true) 0)=false:=rfl
    simp only [e2,cond_false]
    rw [nG (by omega) (by omega)]
    have e3:((j:Int)+1)=((j+1:Nat):Int):=by omega
    rw [e3]
    obtain ⟨a1,a2,a3,a4⟩:=aaf hP hd hw
    generalize (iP x0 u4 (x0.Objects.length+3) u2 (j:Int) []).2.2.2.1=m at a2 a4
    refine aei hP hB n (j+1) _ _ (by omega) (by omega) (by rw [aeh,hl]) (fun i hi=>?_) (fun i hi=>?_)
    .by_cases hil:i<u4.length
     .rw [aeg hil,Bool.or_eq_true] at hi
      rcases hi with hi|hi
      .exact hd i hi
      .rw [List.any_eq_true] at hi
       obtain ⟨e,he,hei⟩:=hi
       have hei:=Nat.eq_of_beq_eq_true hei
       rcases a2 e he with h' | h'
       .cases h'
       .rw [hei] at h';exact h'
     .rw [List.getD_eq_getElem?_getD,List.getElem?_eq_none (by rw [aeh];omega)] at hi;cases hi
    .rw [aeg (by omega),Bool.or_eq_true]
     by_cases hij:i<j
     .exact .inl (ha i hij)
     .have:i=j:=by omega
      subst this
      rcases a4 with a4|⟨e,he,hei⟩
      .left;simpa using a4
      .right
       rw [List.any_eq_true]
       exact ⟨e,he,by rw [hei];simp⟩
   .rw [hw]
    have e2:(!dZ (ji false) 0)=true:=rfl
    simp only [e2,cond_true]
    exact .inr ⟨trivial,hw2⟩
  .have e1:(!decide ((j:Int)<(x0.Objects.length:Int)))=true:=by rw [decide_eq_false (by omega)];rfl
   rw [e1]
   simp only [cond_true]
   exact .inl ⟨trivial,fun i hi=>hd i (ha i (by omega))⟩
theorem aon {n i:Nat}:(List.replicate n false).getD i default=false:=by
 rw [List.getD_eq_getElem?_getD,List.getElem?_replicate]
 split<;>rfl
theorem ag2 {x0:dK}(hP:JH x0)(hB:x0.Objects.length<=4294967296)(h:qW x0=false):LQ x0:=by
 unfold qW at h
 dsimp only at h
 rw [iL,Int.toNat_natCast] at h
 have e0:((0:Nat):Int)=0:=rfl
 rcases aei hP hB (x0.Objects.length+1) 0 false (List.replicate x0.Objects.length false) (Nat.zero_le _) (by omega) (by simp) (fun i hi=>by rw [aon] at hi;cases hi) (fun i hi=>by omega) with ⟨h1,h2⟩|⟨h1,h2⟩
 .exact h2
 .rw [e0] at h1 h2
  rw [h1] at h
  have e2:(!dZ (ji false) 0)=true:=rfl
  rw [e2] at h
  simp only [cond_true] at h
  rw [h2] at h;cases h
theorem HOk.aoo {h:dK}(k:HOk h):LQ h:=ag2 k.pok (by have:=k.len;omega) k.lps
theorem aej {x0:dK}{x1:Int}:∀{k:Nat} {u3:Bool} {v:dL},(dM v=true->run x0 k v.Ref.toNat=true)->jX x0 x1 (k+1) u3 v=true
 |k,u3,v,hr=>by
  simp only [jX]
  cases ho:dM v with
  |false=>rfl
  |true=>
   simp only [Bool.not_true,cond_false]
   cases dZ v.Ref x1 with
   |true=>rfl
   |false=>
    simp only [cond_false]
    cases dZ (x0.Objects.getD v.Ref.toNat default).Kind 6 with
    |true=>rfl
    |false=>
     simp only [cond_false]
     have hr:=hr ho
     match k,hr with
     |0,hr=>cases hr
     |j+1,hr=>
      refine aej fun hp=>?_
      have:run x0 (j+1) v.Ref.toNat=(bif dZ (Ce x0 v.Ref.toNat) 1 then true else run x0 j (Ci x0 v.Ref.toNat).toNat):=rfl
      rw [this] at hr
      cases hk:dZ (Ce x0 v.Ref.toNat) 1 with
      |false=>rw [hk] at hr;exact hr
      |true=>
       have hk:=kP.1 hk
       unfold Ce at hk
       unfold dM at hp
       rw [hk] at hp;simp at hp
theorem XA {x0:dK}(hC:kR x0=0){x1:Int}{x2:dL}(h2:hIn x0 x2){u3:Bool}:jX x0 x1 (x0.Objects.length+1) u3 x2=true:=by
 have k:=Hl.1 hC
 exact aej fun ho=>aiM k.pok k.aoo (by have:=h2 ho;omega)
theorem ave {x0:dK}{x1:Int}(h:jC (Bo x0 x1).2 0=false):kR x0=0:=by
 have h:=wF.1 h
 unfold Bo at h
 dsimp only at h
 cases hc:jC (kR x0) 0 with
 |false=>exact wF.1 hc
 |true=>rw [hc] at h;exact h
theorem avf {h:dK}{v:dL}(q:kV h v=true):hIn h v:=by
 intro i
 unfold kV at q
 dsimp only at q
 rw [i] at q
 simp only [Bool.not_true,cond_false] at q
 obtain ⟨q1,-⟩:=zh q
 rw [iL] at q1
 simp only [Bool.or_eq_false_iff,Bool.not_eq_false',decide_eq_false_iff_not] at q1
 exact ⟨Qx q1.1,by omega⟩
theorem aek {h:dK}{v:dL}(q:jV h v=true):hIn h v:=by
 unfold jV at q
 dsimp only at q
 rw [Bool.and_eq_true] at q
 exact avf q.2
end Go.Fw
end
section
namespace Go.Fw
end Go.Fw
end
section
namespace Go.Fw
theorem aag {x0:dK}{u4:List Bool}(hP:JH x0):∀{n:Nat} {u5:Bool} {u6:Int} {m:List (Int×Bool)} {k:Nat},kZ x0 u4 n u5 u6 m=true->(∀e∈m,e.2=true/\0<=e.1)->0<=u6->run x0 (k+1) u6.toNat=true->run x0 k u6.toNat=false->
  (∀e∈m,run x0 (k+1) e.1.toNat=false)->(iP x0 u4 n u5 u6 m).1=true
 |0,_,_,_,_,h,_,_,_,_,_=>by cases h
 |n+1,u5,u6,m,k,h,hm,h0,hr,hl,hb=>by
  simp only [kZ] at h
  simp only [iP]
  cases hd:(!(!(u4.getD u6.toNat default))) with
  |true=>rfl
  |false=>
   have hg:(n_ false u6 m).2=false:=by
    rw [Xz (fun e he=>(hm e he).1)]
    refine decide_eq_false fun hmem=>?_
    obtain ⟨e,he,hee⟩:=List.mem_map.1 hmem
    have:=hb e he
    rw [hee,hr] at this;cases this
   rw [hg]
   cases hq:dZ (x0.Objects.getD u6.toNat default).eu.Kind 1 with
   |true=>rfl
   |false=>
    rw [hd,hg,hq] at h
    simp only [cond_false] at h ⊢
    have hnm:u6∉m.map (·.1):=by
     rw [Xz (fun e he=>(hm e he).1)] at hg
     exact of_decide_eq_false hg
    rw [aea hnm] at h ⊢
    have hk:dZ (Ce x0 u6.toNat) 1=false:=hq
    have hr':run x0 k (Ci x0 u6.toNat).toNat=true:=by
     have:run x0 (k+1) u6.toNat=(bif dZ (Ce x0 u6.toNat) 1 then true else run x0 k (Ci x0 u6.toNat).toNat):=rfl
     rw [this,hk] at hr;exact hr
    match k,hr',hl,hb,hr with
    |0,hr',_,_,_=>cases hr'
    |j+1,hr',hl,hb,hr=>
     have hl':run x0 j (Ci x0 u6.toNat).toNat=false:=by
      have:run x0 (j+1) u6.toNat=(bif dZ (Ce x0 u6.toNat) 1 then true else run x0 j (Ci x0 u6.toNat).toNat):=rfl
      rw [this,hk] at hl;exact hl
     refine aag hP h (fun e he=>?_) (ad_ hP (tK.1 hq)) hr' hl' (fun e he=>?_)
     .rcases List.mem_append.1 he with he|he
      .exact hm e he
      .simp at he;subst he;exact ⟨rfl,h0⟩
     .rcases List.mem_append.1 he with he|he
      .cases hc:run x0 (j+1) e.1.toNat with
       |false=>rfl
       |true=>have:=QA hc;rw [hb e he] at this;cases this
      .simp at he;subst he;exact hl
theorem XB {x0:dK}(hP:JH x0)(hB:x0.Objects.length<=4294967296)(ha:LQ x0):∀(n j:Nat) (u2:Bool) (u4:List Bool),j<=x0.Objects.length->x0.Objects.length-j<n->(lN x0 n u2 j u4).1=true
 |0,j,_,_,_,h=>by omega
 |n+1,j,u2,u4,hj,hn=>by
  simp only [lN,iL]
  by_cases hlt:j<x0.Objects.length
  .have e1:(!decide ((j:Int)<(x0.Objects.length:Int)))=false:=by rw [decide_eq_true (by omega)];rfl
   rw [e1]
   simp only [cond_false]
   obtain ⟨m,hm⟩:=ha j hlt
   obtain ⟨k,h1,h2⟩:=Nl hm
   have hw:=aag hP (SI hP (u4:=u4) (u2:=u2) (u3:=(j:Int))) (by simp) (by omega) (k:=k) (by simpa using h1) (by simpa using h2) (by simp)
   rw [hw]
   have e2:(!dZ (ji true) 0)=false:=rfl
   simp only [e2,cond_false]
   rw [nG (by omega) (by omega)]
   have e3:((j:Int)+1)=((j+1:Nat):Int):=by omega
   rw [e3]
   exact XB hP hB ha n (j+1) _ _ (by omega) (by omega)
  .have e1:(!decide ((j:Int)<(x0.Objects.length:Int)))=true:=by rw [decide_eq_false (by omega)];rfl
   rw [e1];rfl
theorem XC {x0:dK}(hP:JH x0)(hB:x0.Objects.length<=4294967296)(ha:LQ x0):qW x0=false:=by
 unfold qW
 dsimp only
 rw [iL,Int.toNat_natCast]
 have:=XB hP hB ha (x0.Objects.length+1) 0 false (List.replicate x0.Objects.length false) (Nat.zero_le _) (by omega)
 have e0:((0:Nat):Int)=0:=rfl
 rw [e0] at this
 rw [this]
 rfl
theorem BN {α:Type}[Inhabited α]{l:List α}{i j:Nat}{x:α}(hi:i<l.length):(l.set i x).getD j default=if j=i then x else l.getD j default:=by
 rw [List.getD_eq_getElem?_getD,List.getElem?_set]
 by_cases h:i=j
 .subst h;simp [hi]
 .rw [if_neg h,if_neg (fun e=>h e.symm),List.getD_eq_getElem?_getD]
end Go.Fw
end
section
namespace Go.Fw
structure HWf (h:dK):Prop where
 ps:∀o∈h.Objects,∀p∈o.Props,p.dV.ok
 pr:∀o∈h.Objects,o.eu.ok
theorem hwf {h:dK}(w:h.wf):HWf h:=⟨fun o ho p hp=>dok ((w.Objects.2 o ho).Props.2 p hp).dV,fun o ho=>vok (w.Objects.2 o ho).eu⟩
theorem HWf.at {h:dK}(w:HWf h)(i:Nat):(∀p∈(h.Objects.getD i default).Props,p.dV.ok)/\(h.Objects.getD i default).eu.ok:=by
 by_cases hi:i<h.Objects.length
 .have:h.Objects.getD i default∈h.Objects:=by rw [List.getD_eq_getElem?_getD,List.getElem?_eq_getElem hi];exact List.getElem_mem hi
  exact ⟨w.ps _ this,w.pr _ this⟩
 .rw [List.getD_eq_getElem?_getD,List.getElem?_eq_none (by omega)]
  exact ⟨fun p hp=>(by cases hp),⟨⟨by decide,by decide⟩,by decide⟩⟩
end Go.Fw
end
section
namespace Go.Fw
end Go.Fw
end
section
namespace Go.Fw
end Go.Fw
end
section
namespace Go.Fw
theorem aD8 {α:Type}[Inhabited α]{l:List α}{i:Nat}(hi:i<l.length):l.getD i default∈l:=by
 rw [List.getD_eq_getElem?_getD,List.getElem?_eq_getElem hi];exact List.getElem_mem hi
end Go.Fw
end
section
namespace Go.Fw
end Go.Fw
end
section
namespace Go.Fw
def jQ (x0:dL):Bool:=
 let v1:Bool:=iw x0
 ((dZ x0.Kind 1)&&v1)
def yj (x0:dS)(x1:Int):dL:=
 (dL.mk (bif x0.Makes then 8 else (bif x0.Calls then 7 else 6)) 0 [] x1)
def jE (x0:dK)(x1:dL):Bool:=
 let v2:Bool:=iw x1
 let v3:Bool:=eX x1
 let v4:dS:=x0.Objects.getD (x1.Ref:Int).toNat default
 let v5:dL:=yj v4 x1.Ref
 bif (!v2) then false
 else bif (!v3) then true
 else ((decide ((x1.Ref:Int)<(je dS.enc x0.Objects)))&&((dZ v5.Kind x1.Kind)&&((fEq v5.Num x1.Num)&&((zW v5.Str x1.Str)&&(dZ v5.Ref x1.Ref)))))
def yu (x0:dK)(x1:dS)(x2:Int):Bool:=
 let v3:Bool:=jQ x1.eu
 let v4:Bool:=jQ x1.Target
 let v5:Bool:=jQ x1.Handler
 let v6:Bool:=jQ x1.Target
 let v7:Bool:=jQ x1.Handler
 let v8:Bool:=eX x1.Target
 let v9:Bool:=eX x1.Handler
 let v10:Bool:=jE x0 x1.Target
 let v11:Bool:=jE x0 x1.Handler
 let v12:dS:=x0.Objects.getD (x1.Target.Ref:Int).toNat default
 bif (((((decide (((je dJ.enc x1.Props):Int) > 0))||x1.Ext)||(!v3))||(sNe x1.Text []))||(x1.Makes&&(!x1.Calls))) then false
 else bif (v4||v5) then (v6&&v7)
 else bif ((((((!v8)||(!v9))||(decide ((x1.Target.Ref:Int)>=x2)))||(decide ((x1.Handler.Ref:Int)>=x2)))||(!v10))||(!v11)) then false
 else ((Nr v12.Calls x1.Calls)&&(Nr v12.Makes x1.Makes))
def sV (x0:dL):Bool:=
 let v1:Bool:=iw x0
 ((dZ x0.Kind 0)&&v1)
def wI (x0:dK)(x1:dS)(x2:Int):Bool:=
 let v3:Bool:=eX x1.Target
 let v4:Bool:=jE x0 x1.Target
 let v5:dS:=x0.Objects.getD (x1.Target.Ref:Int).toNat default
 (((((dZ x1.Kind 5)&&v3)&&(decide ((x1.Target.Ref:Int)<x2)))&&v4)&&(dZ v5.Kind 6))
def rJ (x0:dK)(x1:List dJ):Nat->Bool->Int->(Bool×Bool×Bool)
 |0,_,_=>default
 |n+1,u3,u4=>
  let v5:dJ:=x1.getD (u4:Int).toNat default
  let v6:Bool:=jE x0 v5.dV.Value
  let v7:Bool:=jE x0 v5.dV.Get
  let v8:Bool:=jE x0 v5.dV.Set
  bif (!(decide ((u4:Int)<(je dJ.enc x1)))) then (true,u3,default)
  else bif (((!v6)||(!v7))||(!v8)) then (false,default,false)
  else rJ x0 x1 n u3 (dY .i64 u4 1)
def E5 (x0:dK)(x1:List dJ):Bool:=
 let v2:Int:=iJ x1
 let r3:Bool×Bool×Bool:=rJ x0 x1 (x1.length+1) false 0
 bif (jC v2 0) then false
 else bif (!(dZ (ji r3.1) 0)) then r3.2.2
 else true
def lW (x0:List dJ)(x1:Int):Nat->Bool->Int->(Bool×Bool×Bool)
 |0,_,_=>default
 |n+1,u2,u3=>
  let v4:dJ:=x0.getD (u3:Int).toNat default
  let v5:Int×Bool:=lI v4.Key
  bif (!(decide ((u3:Int)<(je dJ.enc x0)))) then (true,u2,default)
  else bif (v5.2&&(decide ((v5.1:Int)>=x1))) then (false,default,false)
  else lW x0 x1 n u2 (dY .i64 u3 1)
def BO (x0:List dJ)(x1:Int):Bool:=
 let r2:Bool×Bool×Bool:=lW x0 x1 (x0.length+1) false 0
 bif (!(dZ (ji r2.1) 0)) then r2.2.2
 else true
def BP (x0:List dJ):Bool:=
 let v1:dJ:=x0.getD (0:Int).toNat default
 let v2:dJ:=x0.getD (0:Int).toNat default
 let v3:Bool:=BO x0 (((FloatKind.f64.decode v2.dV.Value.Num).toInt .zero).getD 0)
 bif ((dZ (je dJ.enc x0) 0)||(!((zW v1.Key.Str [108,101,110,103,116,104])&&(dZ v1.Key.Sym 0)))) then false
 else bif (((((jC (jZ .u8 v2.dV.Has 12) 0)||v2.dV.eG)||v2.dV.Configurable)||(jC v2.dV.Value.Kind 3))||(!((Yd v2.dV.Value.Num 0)&&(UH v2.dV.Value.Num 4652218415073722368)))) then false
 else v3
def lY (x0:List dJ)(x1:List UInt8):Nat->Bool->Int->(Bool×Bool×Bool)
 |0,_,_=>default
 |n+1,u2,u3=>
  let v4:dJ:=x0.getD (u3:Int).toNat default
  let v5:Int×Bool:=lI v4.Key
  let v6:dJ:=x0.getD (u3:Int).toNat default
  bif (!(decide ((u3:Int)<(je dJ.enc x0)))) then (true,u2,default)
  else bif ((v5.2&&(decide ((v5.1:Int)<(sLen x1))))||((zW v6.Key.Str [108,101,110,103,116,104])&&(dZ v6.Key.Sym 0))) then (false,default,false)
  else lY x0 x1 n u2 (dY .i64 u3 1)
def BQ (x0:List dJ)(x1:List UInt8):Bool:=
 let r2:Bool×Bool×Bool:=lY x0 x1 (x0.length+1) false 0
 bif (decide (((sLen x1):Int) > 4096)) then false
 else bif (!(dZ (ji r2.1) 0)) then r2.2.2
 else true
def kF (x0:dK)(x1:Int):Bool:=
 let v2:dS:=x0.Objects.getD (x1:Int).toNat default
 let v3:Bool:=yu x0 v2 x1
 let v4:Bool:=sV v2.Target
 let v5:Bool:=wI x0 v2 x1
 let v6:Bool:=sV v2.Handler
 let v7:Bool:=eX v2.eu
 let v8:Bool:=jE x0 v2.eu
 let v9:Bool:=E5 x0 v2.Props
 let v10:Bool:=BP v2.Props
 let v11:Bool:=BQ v2.Props v2.Text
 bif (dZ v2.Kind 6) then v3
 else bif ((((!v4)&&(!v5))||(!v6))||((sNe v2.Text [])&&(jC v2.Kind 3))) then false
 else bif ((((jC v2.eu.Kind 1)&&(!v7))||(!v8))||(!v9)) then false
 else bif (dZ v2.Kind 1) then ((!v2.Calls)&&(!v2.Makes))
 else bif (dZ v2.Kind 2) then (((!v2.Calls)&&(!v2.Makes))&&v10)
 else bif (dZ v2.Kind 3) then (((!v2.Calls)&&(!v2.Makes))&&v11)
 else bif (dZ v2.Kind 4) then (v2.Calls&&v2.Makes)
 else bif (dZ v2.Kind 5) then v2.Calls
 else false
def sW (x0:dK):Nat->Bool->Int->(Bool×Bool×Bool)
 |0,_,_=>default
 |n+1,u1,u2=>
  let v3:Bool:=kF x0 u2
  bif (!(decide ((u2:Int)<(je dS.enc x0.Objects)))) then (true,u1,default)
  else bif (!v3) then (false,default,false)
  else sW x0 n u1 (dY .i64 u2 1)
def gK (x0:dK)(u6:Int):Nat->Bool->Int->(List Int)->(Bool×Bool×Int×List Int×Bool×List Int)
 |0,_,_,_=>default
 |n+1,u8,u9,u10=>
  let v11:Int:=u10.getD (u9:Int).toNat default
  let v12:List Int:=u10.set (u9:Int).toNat (dY .i64 u6 1)
  let v13:dS:=x0.Objects.getD (u9:Int).toNat default
  let v14:dS:=x0.Objects.getD (u9:Int).toNat default
  let v15:Int:=v12.getD (v14.eu.Ref:Int).toNat default
  bif (!(dZ v11 0)) then (true,u8,u9,u10,default,default)
  else bif (dZ v13.eu.Kind 1) then (true,u8,u9,v12,default,default)
  else bif (dZ v15 (dY .i64 u6 1)) then (false,default,default,default,false,v12)
  else gK x0 u6 n u8 v14.eu.Ref v12
def lQ (x0:dK)(u6:Int):Nat->Bool->Int->(List Int)->Bool
 |0,_,_,_=>false
 |n+1,u8,u9,u10=>
  let v11:Int:=u10.getD (u9:Int).toNat default
  let v12:List Int:=u10.set (u9:Int).toNat (dY .i64 u6 1)
  let v13:dS:=x0.Objects.getD (u9:Int).toNat default
  let v14:dS:=x0.Objects.getD (u9:Int).toNat default
  let v15:Int:=v12.getD (v14.eu.Ref:Int).toNat default
  bif (!(dZ v11 0)) then true
  else bif (dZ v13.eu.Kind 1) then true
  else bif (dZ v15 (dY .i64 u6 1)) then true
  else lQ x0 u6 n u8 v14.eu.Ref v12
def lS (x0:dK)(u6:Int):Nat->Int->(List Int)->(Int×List Int)
 |0,_,_=>default
 |n+1,u14,u15=>
  let v16:Int:=u15.getD (u14:Int).toNat default
  let v17:List Int:=u15.set (u14:Int).toNat (-1)
  let v18:dS:=x0.Objects.getD (u14:Int).toNat default
  let v19:dS:=x0.Objects.getD (u14:Int).toNat default
  bif (!(dZ v16 (dY .i64 u6 1))) then (u14,u15)
  else bif (dZ v18.eu.Kind 1) then (u14,v17)
  else lS x0 u6 n v19.eu.Ref v17
def lg (x0:dK)(u6:Int):Nat->Int->(List Int)->Bool
 |0,_,_=>false
 |n+1,u14,u15=>
  let v16:Int:=u15.getD (u14:Int).toNat default
  let v17:List Int:=u15.set (u14:Int).toNat (-1)
  let v18:dS:=x0.Objects.getD (u14:Int).toNat default
  let v19:dS:=x0.Objects.getD (u14:Int).toNat default
  bif (!(dZ v16 (dY .i64 u6 1))) then true
  else bif (dZ v18.eu.Kind 1) then true
  else lg x0 u6 n v19.eu.Ref v17
def nC (x0:dK):Nat->Bool->Int->(List Int)->(Bool×Bool×List Int×Bool×List Int)
 |0,_,_,_=>default
 |n+1,u5,u6,u7=>
  let r8:Bool×Bool×Int×List Int×Bool×List Int:=gK x0 u6 (x0.Objects.length+1) u5 u6 u7
  let r14:Int×List Int:=lS x0 u6 (x0.Objects.length+1) u6 r8.2.2.2.1
  bif (!(decide ((u6:Int)<(je dS.enc x0.Objects)))) then (true,u5,u7,default,default)
  else bif (!(dZ (ji r8.1) 0)) then (false,default,default,r8.2.2.2.2.1,r8.2.2.2.2.2)
  else nC x0 n r8.2.1 (dY .i64 u6 1) r14.2
def oP (x0:dK):Bool:=
 let r1:Bool×Bool×Bool:=sW x0 (x0.Objects.length+1) false 0
 let v4:List Int:=List.replicate ((je dS.enc x0.Objects):Int).toNat 0
 let r5:Bool×Bool×List Int×Bool×List Int:=nC x0 (x0.Objects.length+1) r1.2.1 0 v4
 bif (decide (((je dS.enc x0.Objects):Int) > 4096)) then false
 else bif (!(dZ (ji r1.1) 0)) then r1.2.2
 else bif (!(dZ (ji r5.1) 0)) then r5.2.2.2.1
 else true
def Ho (x0:dK)(x1:dL):Bool:=
 let v2:Bool:=iw x1
 let v3:Bool:=eX x1
 let v4:dS:=x0.Objects.getD (x1.Ref:Int).toNat default
 let v5:dL:=yj v4 x1.Ref
 bif (!v2) then false
 else bif (!v3) then true
 else ((decide ((x1.Ref:Int)<(je dS.enc x0.Objects)))&&((dZ v5.Kind x1.Kind)&&((fEq v5.Num x1.Num)&&((zW v5.Str x1.Str)&&(dZ v5.Ref x1.Ref)))))
def qj (x0:dK)(x1:Int):Nat->Bool->dL->(Bool×Bool×dL×Bool×dL)
 |0,_,_=>default
 |n+1,u3,u4=>
  let v5:Bool:=eX u4
  let v6:dS:=x0.Objects.getD (u4.Ref:Int).toNat default
  let v7:dS:=x0.Objects.getD (u4.Ref:Int).toNat default
  bif (!v5) then (true,u3,u4,default,default)
  else bif (dZ u4.Ref x1) then (false,default,default,true,u4)
  else bif (dZ v6.Kind 6) then (false,default,default,false,u4)
  else qj x0 x1 n u3 v7.eu
def oQ (x0:dK)(x1:Int):Nat->Bool->dL->Bool
 |0,_,_=>false
 |n+1,u3,u4=>
  let v5:Bool:=eX u4
  let v6:dS:=x0.Objects.getD (u4.Ref:Int).toNat default
  let v7:dS:=x0.Objects.getD (u4.Ref:Int).toNat default
  bif (!v5) then true
  else bif (dZ u4.Ref x1) then true
  else bif (dZ v6.Kind 6) then true
  else oQ x0 x1 n u3 v7.eu
def zi (x0:dK)(x1:Int)(x2:dL):Bool:=
 let r3:Bool×Bool×dL×Bool×dL:=qj x0 x1 (x0.Objects.length+1) false x2
 bif (dZ (ji r3.1) 0) then false
 else r3.2.2.2.1
def BR (x0:dK)(x1:Int)(x2:dL):Bool×Int:=
 let v3:Bool:=oP x0
 let v4:Bool:=eX x2
 let v5:Bool:=Ho x0 x2
 let v6:Bool:=zi x0 x1 x2
 bif (!v3) then (false,9)
 else bif ((decide ((x1:Int)<0))||(decide ((x1:Int)>=(je dS.enc x0.Objects)))) then (false,2)
 else bif (((jC x2.Kind 1)&&(!v4))||(!v5)) then (false,9)
 else (v6,0)
def Hq (x0:dK)(x1:Int)(x2:dI):dN×Bool×Int:=
 let v3:Bool:=oP x0
 let v4:Int:=fP x2
 let v5:dS:=x0.Objects.getD (x1:Int).toNat default
 let v6:dN×Bool×Int:=xA v5.Props x2
 bif (!v3) then ((dN.mk 0 (dL.mk 0 0 [] 0) (dL.mk 0 0 [] 0) (dL.mk 0 0 [] 0) false false false),false,9)
 else bif ((decide ((x1:Int)<0))||(decide ((x1:Int)>=(je dS.enc x0.Objects)))) then ((dN.mk 0 (dL.mk 0 0 [] 0) (dL.mk 0 0 [] 0) (dL.mk 0 0 [] 0) false false false),false,2)
 else bif (jC v4 0) then ((dN.mk 0 (dL.mk 0 0 [] 0) (dL.mk 0 0 [] 0) (dL.mk 0 0 [] 0) false false false),false,9)
 else (v6.1,v6.2.1,0)
def xH (x0:dK)(x1:Int):List dI×Int:=
 let v2:Bool:=oP x0
 let v3:dS:=x0.Objects.getD (x1:Int).toNat default
 let v4:List dI×Int:=uZ v3.Props
 bif (!v2) then ([],9)
 else bif ((decide ((x1:Int)<0))||(decide ((x1:Int)>=(je dS.enc x0.Objects)))) then ([],2)
 else (v4.1,0)
def sZ (x0:dL)(x1:dL):Bool:=
 ((((dZ x0.Kind x1.Kind)&&(zW x0.Str x1.Str))&&(dZ x0.Ref x1.Ref))&&((fEq x0.Num x1.Num)||((Ns x0.Num x0.Num)&&(Ns x1.Num x1.Num))))
def vg (x0:dN)(x1:dN):Bool:=
 let v2:Bool:=sZ x0.Value x1.Value
 let v3:Bool:=sZ x0.Get x1.Get
 let v4:Bool:=sZ x0.Set x1.Set
 (((((((dZ x0.Has x1.Has)&&(Nr x0.fB x1.fB))&&(Nr x0.eG x1.eG))&&(Nr x0.Configurable x1.Configurable))&&v2)&&v3)&&v4)
def nT (x0:List dI)(x1:List dI):Nat->Bool->Int->(Bool×Bool×Bool)
 |0,_,_=>default
 |n+1,u2,u3=>
  let v4:dI:=x0.getD (u3:Int).toNat default
  let v5:dI:=x1.getD (u3:Int).toNat default
  bif (!(decide ((u3:Int)<(je dI.enc x0)))) then (true,u2,default)
  else bif (!((zW v4.Str v5.Str)&&(dZ v4.Sym v5.Sym))) then (false,default,false)
  else nT x0 x1 n u2 (dY .i64 u3 1)
def vw (x0:List dI)(x1:List dI):Bool:=
 let r2:Bool×Bool×Bool:=nT x0 x1 (x0.length+1) false 0
 bif (jC (je dI.enc x0) (je dI.enc x1)) then false
 else bif (!(dZ (ji r2.1) 0)) then r2.2.2
 else true
def nY (x0:dK)(x1:Int)(x2:dL)(x3:dI):Bool:=
 let v4:Bool:=EX x0
 let v5:Bool×Int:=u_ x0 x1 x2
 let v6:Bool×Int:=BR x0 x1 x2
 let v7:dN×Bool×Int:=y7 x0 x1 x3
 let v8:dN×Bool×Int:=Hq x0 x1 x3
 let v9:List dI×Int:=wH x0 x1
 let v10:List dI×Int:=xH x0 x1
 let v11:Bool:=vg v7.1 v8.1
 let v12:Bool:=vw v9.1 v10.1
 bif v4 then true
 else (((((((Nr v5.1 v6.1)&&(dZ v5.2 v6.2))&&(Nr v7.2.1 v8.2.1))&&(dZ v7.2.2 v8.2.2))&&v11)&&(dZ v9.2 v10.2))&&v12)
end Go.Fw
end
section
namespace Go.Fw
theorem QC {v:dL}(h:iw v=true):0<=v.Ref:=by
 unfold iw at h
 dsimp only at h
 obtain ⟨-,h⟩:=zh h
 rw [Bool.and_eq_true] at h
 have h:=h.2
 rw [Bool.or_eq_true,Bool.and_eq_true] at h
 rcases h with h|h
 .have:=kP.1 h;omega
 .have:=of_decide_eq_true h.2;omega
theorem AZ {v:dL}:eX v=dM v:=by
 unfold eX dM
 rw [Bool.eq_iff_iff]
 simp only [Bool.or_eq_true,Bool.and_eq_true,decide_eq_true_eq,kP]
 omega
theorem XE {h:dK}{v:dL}(q:jE h v=true):hIn h v:=by
 intro i
 unfold jE at q
 dsimp only at q
 cases hm:iw v with
 |false=>rw [hm] at q;simp at q
 |true=>
  rw [hm,AZ,i] at q
  simp only [Bool.not_true,cond_false,Bool.and_eq_true,decide_eq_true_eq,iL] at q
  exact ⟨QC hm,q.1⟩
theorem aoA {h:dK}{v:dL}(q:jE h v=true):0<=v.Ref:=by
 unfold jE at q
 dsimp only at q
 cases hm:iw v with
 |false=>rw [hm] at q;simp at q
 |true=>exact QC hm
theorem aoB {h:dK}{v:dL}(q:jE h v=true)(i:eX v=true):v.Ref<mZ (List.map dS.enc h.Objects):=aiH (XE q) (AZ▸i)
theorem arj {h:dK}{v:dL}(q:Ho h v=true):hIn h v:=XE (show jE h v=true from q)
theorem Yt {x0:dK}{i:Int}(h:kF x0 i=true):(x0.Objects.getD i.toNat default).eu.Kind=1\/(dM (x0.Objects.getD i.toNat default).eu=true/\jE x0 (x0.Objects.getD i.toNat default).eu=true):=by
 unfold kF at h
 dsimp only at h
 generalize x0.Objects.getD i.toNat default=o at h ⊢
 cases h6:dZ o.Kind 6 with
 |true=>
  rw [h6] at h
  simp only [cond_true] at h
  unfold yu at h
  dsimp only at h
  obtain ⟨hc,-⟩:=zh h
  left
  simp only [Bool.or_eq_false_iff,Bool.not_eq_false'] at hc
  have:=hc.1.1.2
  unfold jQ at this
  dsimp only at this
  rw [Bool.and_eq_true] at this
  exact kP.1 this.1
 |false=>
  rw [h6] at h
  simp only [cond_false] at h
  obtain ⟨hc,h⟩:=zh h
  obtain ⟨hd,h⟩:=zh h
  simp only [Bool.or_eq_false_iff,Bool.not_eq_false'] at hd
  by_cases hk:o.eu.Kind=1
  .exact .inl hk
  .right
   have h1:=hd.1.1
   rw [GL.2 hk] at h1
   simp only [Bool.true_and,Bool.not_eq_false'] at h1
   exact ⟨AZ▸h1,hd.1.2⟩
theorem SL {x0:dK}(h:∀i,i<x0.Objects.length->kF x0 (i:Nat)=true):JH x0:=by
 intro i hi hk
 rcases Yt (h i hi) with h1|⟨h1,h2⟩
 .exact absurd h1 hk
 .have:=XE h2 h1
  exact this
open Classical in
theorem ag8 {x0:dK}(hB:x0.Objects.length<=4294967296):∀(n j:Nat) (u1:Bool),j<=x0.Objects.length->x0.Objects.length-j<n->sW x0 n u1 j=if ∀i,j<=i->i<x0.Objects.length->kF x0 (i:Nat)=true then (true,u1,default) else (false,default,false)
 |0,j,_,_,h=>by omega
 |n+1,j,u1,hj,hn=>by
  simp only [sW,iL]
  by_cases hlt:j<x0.Objects.length
  .have e1:(!decide ((j:Int)<(x0.Objects.length:Int)))=false:=by rw [decide_eq_true (by omega)];rfl
   rw [e1]
   simp only [cond_false]
   cases ho:kF x0 (j:Nat) with
   |false=>
    rw [if_neg (fun hh=>by have:=hh j (Nat.le_refl _) hlt;rw [ho] at this;cases this)]
    rfl
   |true=>
    simp only [Bool.not_true,cond_false]
    rw [nG (by omega) (by omega)]
    have e2:((j:Int)+1)=((j+1:Nat):Int):=by omega
    rw [e2,ag8 hB n (j+1) u1 (by omega) (by omega)]
    have:(∀i,j+1<=i->i<x0.Objects.length->kF x0 (i:Nat)=true)↔(∀i,j<=i->i<x0.Objects.length->kF x0 (i:Nat)=true):=by
     constructor
     .intro hh i h1 h2
      by_cases e:i=j
      .subst e;exact ho
      .exact hh i (by omega) h2
     .intro hh i h1 h2;exact hh i (by omega) h2
    simp only [this]
  .have e1:(!decide ((j:Int)<(x0.Objects.length:Int)))=true:=by rw [decide_eq_false (by omega)];rfl
   rw [e1,if_pos (fun i h1 h2=>by omega)]
   rfl
theorem aoC {x0:dK}(hB:x0.Objects.length<=4294967296)(h:ji (sW x0 (x0.Objects.length+1) false 0).1=0):JH x0:=by
 have e:=ag8 hB (x0.Objects.length+1) 0 false (Nat.zero_le _) (by omega)
 have e0:((0:Nat):Int)=0:=rfl
 rw [e0] at e
 rw [e] at h
 split at h<;>rename_i hc
 .exact SL fun i hi=>hc i (Nat.zero_le _) hi
 .simp [ji] at h
theorem aiN {p:Int->Bool}{l:List Int}{i:Nat}{a:Int}(hi:i<l.length)(h1:p (l.getD i default)=true)(h2:p a=false):(l.set i a).countP p+1=l.countP p:=by
 have hg:l.getD i default=l[i]:=by simp [List.getD_eq_getElem?_getD,hi]
 rw [hg] at h1
 have:0<l.countP p:=List.countP_pos_iff.2 ⟨_,List.getElem_mem hi,h1⟩
 rw [List.countP_set hi,h1,h2]
 simp;omega
theorem aoD {x0:dK}(hP:JH x0){u6:Int}(h6:dY .i64 u6 1≠0){u8:Bool}:∀(n:Nat) (u9:Int) (u10:List Int),0<=u9->u9<x0.Objects.length->u10.length=x0.Objects.length->u10.countP (fun z=>dZ z 0)<n->lQ x0 u6 n u8 u9 u10=true
 |0,_,_,_,_,_,h=>by omega
 |n+1,u9,u10,h0,h1,hl,hn=>by
  simp only [lQ]
  cases hz:dZ (u10.getD u9.toNat default) 0 with
  |false=>rfl
  |true=>
   simp only [Bool.not_true,cond_false]
   cases hk:dZ (x0.Objects.getD u9.toNat default).eu.Kind 1 with
   |true=>rfl
   |false=>
    simp only [cond_false]
    cases dZ ((u10.set u9.toNat (dY .i64 u6 1)).getD (x0.Objects.getD u9.toNat default).eu.Ref.toNat default) (dY .i64 u6 1) with
    |true=>rfl
    |false=>
     simp only [cond_false]
     obtain ⟨p0,p1⟩:=hP _ (show u9.toNat<_ by omega) (tK.1 hk)
     have:=aiN (p:=fun z=>dZ z 0) (l:=u10) (i:=u9.toNat) (a:=dY .i64 u6 1) (by omega) hz (tK.2 h6)
     exact aoD hP h6 n _ _ p0 p1 (by simp;omega) (by omega)
theorem aoE {x0:dK}(hP:JH x0){u6:Int}(h6:dY .i64 u6 1 ≠ -1):∀(n:Nat) (u9:Int) (u10:List Int),0<=u9->u9<x0.Objects.length->u10.length=x0.Objects.length->u10.countP (fun z=>dZ z (dY .i64 u6 1))<n->lg x0 u6 n u9 u10=true
 |0,_,_,_,_,_,h=>by omega
 |n+1,u9,u10,h0,h1,hl,hn=>by
  simp only [lg]
  cases hz:dZ (u10.getD u9.toNat default) (dY .i64 u6 1) with
  |false=>rfl
  |true=>
   simp only [Bool.not_true,cond_false]
   cases hk:dZ (x0.Objects.getD u9.toNat default).eu.Kind 1 with
   |true=>rfl
   |false=>
    simp only [cond_false]
    obtain ⟨p0,p1⟩:=hP _ (show u9.toNat<_ by omega) (tK.1 hk)
    have:=aiN (p:=fun z=>dZ z (dY .i64 u6 1)) (l:=u10) (i:=u9.toNat) (a := -1) (by omega) hz (tK.2 (Ne.symm h6))
    exact aoE hP h6 n _ _ p0 p1 (by simp;omega) (by omega)
theorem abQ {x0:dK}{u6:Int}:∀{n:Nat} {u8:Bool} {u9:Int} {u10:List Int},(gK x0 u6 n u8 u9 u10).1=true->(gK x0 u6 n u8 u9 u10).2.2.2.1.length=u10.length
 |0,_,_,_,h=>by cases h
 |n+1,u8,u9,u10,h=>by
  simp only [gK] at h ⊢
  cases hz:(!dZ (u10.getD u9.toNat default) 0) with
  |true=>rfl
  |false=>
   rw [hz] at h
   simp only [cond_false] at h ⊢
   cases hk:dZ (x0.Objects.getD u9.toNat default).eu.Kind 1 with
   |true=>simp
   |false=>
    rw [hk] at h
    simp only [cond_false] at h ⊢
    cases hc:dZ ((u10.set u9.toNat (dY .i64 u6 1)).getD (x0.Objects.getD u9.toNat default).eu.Ref.toNat default) (dY .i64 u6 1) with
    |true=>rw [hc] at h;cases h
    |false=>
     rw [hc] at h
     simp only [cond_false] at h ⊢
     rw [abQ h];simp
theorem abR {x0:dK}{u6:Int}:∀{n:Nat} {u9:Int} {u10:List Int},lg x0 u6 n u9 u10=true->(lS x0 u6 n u9 u10).2.length=u10.length
 |0,_,_,h=>by cases h
 |n+1,u9,u10,h=>by
  simp only [lg] at h
  simp only [lS]
  cases hz:(!dZ (u10.getD u9.toNat default) (dY .i64 u6 1)) with
  |true=>rfl
  |false=>
   rw [hz] at h
   simp only [cond_false] at h ⊢
   cases hk:dZ (x0.Objects.getD u9.toNat default).eu.Kind 1 with
   |true=>simp
   |false=>
    rw [hk] at h
    simp only [cond_false] at h ⊢
    rw [abR h];simp
theorem axm {b:Bool}(h:dZ (ji b) 0=true):b=true:=by cases b;cases h;rfl
theorem axn {x0:dK}(hB:x0.Objects.length<=4294967296){u6:Int}(k0:0<=u6)(g:decide (u6<mZ (List.map dS.enc x0.Objects))=true):dY .i64 u6 1=u6+1/\u6<x0.Objects.length:=by
 have g:=of_decide_eq_true g
 rw [LM] at g
 exact ⟨nG (by omega) (by omega),g⟩
theorem aen {x0:dK}(hP:JH x0)(hB:x0.Objects.length<=4294967296){u6:Int}(k0:0<=u6)(g:decide (u6<mZ (List.map dS.enc x0.Objects))=true){u8:Bool}{u10:List Int}(k1:u10.length=x0.Objects.length):lQ x0 u6 (x0.Objects.length+1) u8 u6 u10=true:=by
 obtain ⟨e,g⟩:=axn hB k0 g
 have:=List.countP_le_length (p:=fun z=>dZ z 0) (l:=u10)
 exact aoD hP (by omega) _ _ _ k0 g k1 (by omega)
theorem XF {x0:dK}(hP:JH x0)(hB:x0.Objects.length<=4294967296){u6:Int}(k0:0<=u6)(g:decide (u6<mZ (List.map dS.enc x0.Objects))=true){n:Nat}{u8:Bool}{u9:Int}{u10:List Int}(k1:u10.length=x0.Objects.length)(h:dZ (ji (gK x0 u6 n u8 u9 u10).1) 0=true):lg x0 u6 (x0.Objects.length+1) u6 (gK x0 u6 n u8 u9 u10).2.2.2.1=true:=by
 obtain ⟨e,g⟩:=axn hB k0 g
 have hl:=abQ (axm h)
 have:=List.countP_le_length (p:=fun z=>dZ z (dY .i64 u6 1)) (l:=(gK x0 u6 n u8 u9 u10).2.2.2.1)
 exact aoE hP (by omega) _ _ _ k0 g (by omega) (by omega)
theorem ark {x0:dK}(hP:JH x0)(hB:x0.Objects.length<=4294967296){u6:Int}(k0:0<=u6)(g0:(!(decide ((u6:Int)<(je dS.enc x0.Objects))))=false){n:Nat}{u8:Bool}{u9:Int}{u10:List Int}(k1:u10.length=x0.Objects.length)(g1:(!(dZ (ji (gK x0 u6 n u8 u9 u10).1) 0))=false):(lS x0 u6 (x0.Objects.length+1) u6 (gK x0 u6 n u8 u9 u10).2.2.2.1).2.length=x0.Objects.length:=by
 have g0:decide (u6<mZ (List.map dS.enc x0.Objects))=true:=by rw [Bool.not_eq_false',iL] at g0;rw [LM];exact g0
 have g1:dZ (ji (gK x0 u6 n u8 u9 u10).1) 0=true:=by simpa using g1
 rw [abR (XF hP hB k0 g0 k1 g1),abQ (axm g1),k1]
theorem arl {x0:dK}:(List.replicate ((je dS.enc x0.Objects):Int).toNat (0:Int)).length=x0.Objects.length:=by rw [iL];simp
def Lo.axo : Lo->Pc
 | .mk pc _ _ _ _ _ _ _ _=>pc
theorem azt {P:Program}{T:Dc}{ρ ρ0 vs:List AV}{hs:List LH}{ls:List Lo}{n m0:Nat}{us:List AV}{pc:Pc}{base m:Nat}{entry:List SV}{outs:List (Tm×Nat×List SV)}{sd:List (Pc×Side)}{aw:List Lo}{bn:List Tm}{L:Lo}
  (h:Pc.holds ρ L.axo->nU P T L (hdH hs) ρ0 n vs (0,us)) (k:U2 P T ls (tlH hs) ρ) (hL:L=.mk pc base m entry outs sd aw [m0] bn:=by rfl) (hb:Nat.ble base ρ.length=true:=by rfl) (h0:ρ.take base=ρ0:=by rfl) (hv:dU ρ entry=vs:=by rfl)
  (hn:ftV ρ (hdH hs).ft<(n:Int):=by first|exact fuR|exact fuN) (hu:(ρ.drop base).take us.length=us:=by rfl) (hn0:Nat.blt 0 n=true:=by rfl):U2 P T (L::ls) hs ρ:=by
 subst hL;subst h0;subst hv
 refine ⟨?_,k⟩
 simp only [Lo.wk]
 rw [Nat.blt_eq] at hn0
 exact fun p _=>⟨Nat.le_of_ble_eq_true hb,n,0,us,⟨hn0,hn⟩,h p,fun h=>by simp at h,ZM hu⟩
theorem axp {P:Program}{T:Dc}{ρ ρ0 vs:List AV}{hs:List LH}{ls:List Lo}{n m0 m1:Nat}{b:Bool}{u0 u1:List AV}{pc:Pc}{base m:Nat}{entry:List SV}{outs:List (Tm×Nat×List SV)}{sd:List (Pc×Side)}{aw:List Lo}{bn:List Tm}{L:Lo}
  (h:Pc.holds ρ L.axo->nU P T L (hdH hs) ρ0 n vs (Ny b u0 u1)) (k:U2 P T ls (tlH hs) ρ) (hL:L=.mk pc base m entry outs sd aw [m0,m1] bn:=by rfl) (hb:Nat.ble base ρ.length=true:=by rfl) (h0:ρ.take base=ρ0:=by rfl) (hv:dU ρ entry=vs:=by rfl)
  (hn:ftV ρ (hdH hs).ft<(n:Int):=by first|exact fuR|exact fuN) (hk:(ρ.getD base eP).D.I=ji b:=by rfl) (hu0:(ρ.drop (base+1)).take u0.length=u0:=by rfl) (hu1:(ρ.drop (base+1+m0)).take u1.length=u1:=by rfl) (hn0:Nat.blt 0 n=true:=by rfl):U2 P T (L::ls) hs ρ:=by
 subst hL;subst h0;subst hv
 refine ⟨?_,k⟩
 simp only [Lo.wk]
 rw [Nat.blt_eq] at hn0
 refine fun p _=>⟨Nat.le_of_ble_eq_true hb,n,(Ny b u0 u1).1,(Ny b u0 u1).2,⟨hn0,hn⟩,h p,fun _=>?_,?_⟩
 .rw [hk];cases b<;>rfl
 .cases b
  .intro i u hu
   have:=ZM hu1 i u hu
   have e:aDJ base [m0,m1] (Ny false u0 u1).1=base+1+m0:=by show (base+1)+(m0+0)=_;omega
   rw [e];exact this
  .intro i u hu
   have:=ZM hu0 i u hu
   have e:aDJ base [m0,m1] (Ny true u0 u1).1=base+1:=rfl
   rw [e];exact this
end Go.Fw
end
section
namespace Go.Fw
theorem avj {h:dK}(hP:JH h){i:Nat}:hIn h (h.Objects.getD i default).eu:=by
 intro hi
 by_cases hl:i<h.Objects.length
 .refine hP i hl fun h1=>?_
  have h1:(h.Objects.getD i default).eu.Kind=1:=h1
  unfold dM at hi
  rw [h1] at hi;simp at hi
 .have h0:h.Objects.getD i default=default:=by rw [List.getD_eq_getElem?_getD,List.getElem?_eq_none (by omega)];rfl
  rw [h0] at hi;cases hi
theorem aaj {x0:dK}{x1:Int}:∀{k:Nat} {u3:Bool} {v:dL},(dM v=true->run x0 k v.Ref.toNat=true)->oQ x0 x1 (k+1) u3 v=true
 |k,u3,v,hr=>by
  simp only [oQ,AZ]
  cases ho:dM v with
  |false=>rfl
  |true=>
   simp only [Bool.not_true,cond_false]
   cases dZ v.Ref x1 with
   |true=>rfl
   |false=>
    simp only [cond_false]
    cases dZ (x0.Objects.getD v.Ref.toNat default).Kind 6 with
    |true=>rfl
    |false=>
     simp only [cond_false]
     have hr:=hr ho
     match k,hr with
     |0,hr=>cases hr
     |j+1,hr=>
      refine aaj fun hp=>?_
      have:run x0 (j+1) v.Ref.toNat=(bif dZ (Ce x0 v.Ref.toNat) 1 then true else run x0 j (Ci x0 v.Ref.toNat).toNat):=rfl
      rw [this] at hr
      cases hk:dZ (Ce x0 v.Ref.toNat) 1 with
      |false=>rw [hk] at hr;exact hr
      |true=>
       have hk:=kP.1 hk
       unfold Ce at hk
       unfold dM at hp
       rw [hk] at hp;simp at hp
theorem aeo {x0:dK}(hP:JH x0)(hA:LQ x0){x1:Int}{x2:dL}(h2:hIn x0 x2){u3:Bool}:oQ x0 x1 (x0.Objects.length+1) u3 x2=true:=
 aaj fun ho=>aiM hP hA (by have:=h2 ho;omega)
theorem avk {h:dK}{v:dL}(q:hIn h v)(i:eX v=true):0<=v.Ref:=asz q (AZ▸i)
theorem avl {h:dK}{v:dL}(q:hIn h v)(i:eX v=true):v.Ref<mZ (List.map dS.enc h.Objects):=aiH q (AZ▸i)
theorem aiO {h:dK}{n i:Nat}:run h (n+1) i=(bif dZ (Ce h i) 1 then true else run h n (Ci h i).toNat):=rfl
def aEv (h:dK)(i:Nat):Prop:=∃n,run h n i=true
theorem arn {h:dK}{i:Nat}(hr:aEv h (Ci h i).toNat):aEv h i:=by
 obtain ⟨n,hn⟩:=hr
 refine ⟨n+1,?_⟩
 rw [aiO];cases dZ (Ce h i) 1
 .exact hn
 .rfl
theorem avm {h:dK}{i:Nat}(hk:dZ (Ce h i) 1=true):aEv h i:=⟨1,by rw [aiO,hk];rfl⟩
theorem asE {x0:dK}(hP:JH x0){u6 c:Int}(hc:dY .i64 u6 1=c)(h6:0<c):∀{n:Nat} {u8:Bool} {u9:Int} {u10:List Int},0<=u9->u9<x0.Objects.length->u10.length=x0.Objects.length->
  (∀k,k<x0.Objects.length->u10.getD k default≠0->u10.getD k default=c\/aEv x0 k)->u10.getD u9.toNat default≠c->(∀k,u10.getD k default<=c)->(gK x0 u6 n u8 u9 u10).1=true->
  aEv x0 u9.toNat/\(∀k,k<x0.Objects.length->(gK x0 u6 n u8 u9 u10).2.2.2.1.getD k default≠0->u10.getD k default=c\/aEv x0 k)/\(∀k,(gK x0 u6 n u8 u9 u10).2.2.2.1.getD k default<=c)
 |0,_,_,_,_,_,_,_,_,_,h=>by cases h
 |n+1,u8,u9,u10,h0,h1,hl,hm,hs,hle,h=>by
  simp only [gK,hc] at h ⊢
  have hi:u9.toNat<x0.Objects.length:=by omega
  have hi':u9.toNat<u10.length:=by omega
  cases hz:(!dZ (u10.getD u9.toNat default) 0) with
  |true=>
   simp only [cond_true]
   refine ⟨?_,hm,hle⟩
   rw [Bool.not_eq_true'] at hz
   rcases hm _ hi (tK.1 hz) with h|h
   .exact absurd h hs
   .exact h
  |false=>
   rw [Bool.not_eq_false'] at hz
   have hz:=kP.1 hz
   rw [hz] at h
   simp only [cond_false] at h ⊢
   have le2:∀k,(u10.set u9.toNat c).getD k default<=c:=by
    intro k;rw [BN hi'];split
    .exact Int.le_refl _
    .exact hle k
   cases hk:dZ (x0.Objects.getD u9.toNat default).eu.Kind 1 with
   |true=>
    simp only [cond_true]
    have hr:=avm (h:=x0) (i:=u9.toNat) hk
    refine ⟨hr,fun k hk2 hne=>?_,le2⟩
    rw [BN hi'] at hne
    split at hne
    .rename_i e;subst e;exact .inr hr
    .exact hm k hk2 hne
   |false=>
    rw [hk] at h
    simp only [cond_false] at h ⊢
    cases hcc:dZ ((u10.set u9.toNat c).getD (x0.Objects.getD u9.toNat default).eu.Ref.toNat default) c with
    |true=>rw [hcc] at h;cases h
    |false=>
     rw [hcc] at h
     simp only [cond_false] at h ⊢
     obtain ⟨p0,p1⟩:=hP _ hi (tK.1 hk)
     obtain ⟨r,q,l⟩:=asE hP hc h6 p0 p1 (by simp;omega) (fun k hk2 hne=>by
      rw [BN hi'] at hne ⊢
      split
      .exact .inl rfl
      .rename_i e;rw [if_neg e] at hne;exact hm k hk2 hne) (tK.1 hcc) le2 h
     have hr:=arn (h:=x0) (i:=u9.toNat) r
     refine ⟨hr,fun k hk2 hne=>?_,l⟩
     rcases q k hk2 hne with h|h
     .rw [BN hi'] at h
      split at h
      .rename_i e;subst e;exact .inr hr
      .exact .inl h
     .exact .inr h
theorem axq {x0:dK}{u6:Int}:∀{n:Nat} {u8:Bool} {u9:Int} {u10:List Int},lQ x0 u6 n u8 u9 u10=true->(gK x0 u6 n u8 u9 u10).1=false->(gK x0 u6 n u8 u9 u10).2.2.2.2.1=false
 |0,_,_,_,t,_=>by cases t
 |n+1,u8,u9,u10,t,h=>by
  simp only [lQ] at t
  simp only [gK] at h ⊢
  cases hz:(!dZ (u10.getD u9.toNat default) 0) with
  |true=>rw [hz] at h;cases h
  |false=>
   rw [hz] at h t
   simp only [cond_false] at h t ⊢
   cases hk:dZ (x0.Objects.getD u9.toNat default).eu.Kind 1 with
   |true=>rw [hk] at h;cases h
   |false=>
    rw [hk] at h t
    simp only [cond_false] at h t ⊢
    cases hcc:dZ ((u10.set u9.toNat (dY .i64 u6 1)).getD (x0.Objects.getD u9.toNat default).eu.Ref.toNat default) (dY .i64 u6 1) with
    |true=>rfl
    |false=>
     rw [hcc] at h t
     simp only [cond_false] at h t ⊢
     exact axq t h
theorem aiP {x0:dK}(hP:JH x0){u6 c:Int}(hc:dY .i64 u6 1=c):∀{n:Nat} {u8:Bool} {u9:Int} {u10:List Int} {k:Nat},lQ x0 u6 n u8 u9 u10=true->0<=u9->u9<x0.Objects.length->u10.length=x0.Objects.length->
  run x0 (k+1) u9.toNat=true->run x0 k u9.toNat=false->(∀y,u10.getD y default=c->run x0 k y=false)->(gK x0 u6 n u8 u9 u10).1=true
 |0,_,_,_,_,h,_,_,_,_,_,_=>by cases h
 |n+1,u8,u9,u10,k,t,h0,h1,hl,hr,hf,hb=>by
  simp only [lQ,hc] at t
  simp only [gK,hc]
  have hi:u9.toNat<x0.Objects.length:=by omega
  have hi':u9.toNat<u10.length:=by omega
  cases hz:(!dZ (u10.getD u9.toNat default) 0) with
  |true=>rfl
  |false=>
   rw [hz] at t
   simp only [cond_false] at t ⊢
   cases hk:dZ (x0.Objects.getD u9.toNat default).eu.Kind 1 with
   |true=>rfl
   |false=>
    rw [hk] at t
    simp only [cond_false] at t ⊢
    obtain ⟨p0,p1⟩:=hP _ hi (tK.1 hk)
    have hk':dZ (Ce x0 u9.toNat) 1=false:=hk
    have hr':run x0 k (Ci x0 u9.toNat).toNat=true:=by rw [aiO,hk'] at hr;exact hr
    have hb':∀y,(u10.set u9.toNat c).getD y default=c->run x0 k y=false:=by
     intro y hy
     rw [BN hi'] at hy
     split at hy
     .rename_i e;subst e;exact hf
     .exact hb y hy
    cases hcc:dZ ((u10.set u9.toNat c).getD (x0.Objects.getD u9.toNat default).eu.Ref.toNat default) c with
    |true=>
     have:=hb' _ (kP.1 hcc)
     have hr2:run x0 k (x0.Objects.getD u9.toNat default).eu.Ref.toNat=true:=hr'
     rw [hr2] at this;cases this
    |false=>
     rw [hcc] at t
     simp only [cond_false] at t ⊢
     match k,hr',hf,hb' with
     |0,hr',_,_=>cases hr'
     |j+1,hr',hf,hb'=>
      have hl':run x0 j (Ci x0 u9.toNat).toNat=false:=by rw [aiO,hk'] at hf;exact hf
      refine aiP hP hc t p0 p1 (by simp;omega) hr' hl' fun y hy=>?_
      cases hcy:run x0 j y with
      |false=>rfl
      |true=>have:=QA hcy;rw [hb' y hy] at this;cases this
theorem aoF {x0:dK}(hP:JH x0){u6 c:Int}(hc:dY .i64 u6 1=c)(h6:0<c):∀{n:Nat} {u9:Int} {u10:List Int},0<=u9->u9<x0.Objects.length->u10.length=x0.Objects.length->(∀k,u10.getD k default<=c)->lg x0 u6 n u9 u10=true->
  (∀k,(lS x0 u6 n u9 u10).2.getD k default≠0->u10.getD k default≠0)/\(∀k,(lS x0 u6 n u9 u10).2.getD k default<=c)
 |0,_,_,_,_,_,_,t=>by cases t
 |n+1,u9,u10,h0,h1,hl,hle,t=>by
  simp only [lg,hc] at t
  simp only [lS,hc]
  have hi:u9.toNat<x0.Objects.length:=by omega
  have hi':u9.toNat<u10.length:=by omega
  cases hz:dZ (u10.getD u9.toNat default) c with
  |false=>exact ⟨fun _ h=>h,hle⟩
  |true=>
   rw [hz] at t
   simp only [Bool.not_true,cond_false] at t ⊢
   have hz:=kP.1 hz
   have a1:∀k,(u10.set u9.toNat (-1)).getD k default≠0->u10.getD k default≠0:=by
    intro k hk
    rw [BN hi'] at hk
    split at hk
    .rename_i e;subst e;rw [hz];omega
    .exact hk
   have a2:∀k,(u10.set u9.toNat (-1)).getD k default<=c:=by
    intro k
    rw [BN hi']
    split
    .omega
    .exact hle k
   cases hk:dZ (x0.Objects.getD u9.toNat default).eu.Kind 1 with
   |true=>exact ⟨a1,a2⟩
   |false=>
    rw [hk] at t
    simp only [cond_false] at t ⊢
    obtain ⟨p0,p1⟩:=hP _ hi (tK.1 hk)
    obtain ⟨b1,b2⟩:=aoF hP hc h6 p0 p1 (by simp;omega) a2 t
    exact ⟨fun k h=>a1 k (b1 k h),b2⟩
theorem m5 {x0:dK}(hP:JH x0)(hB:x0.Objects.length<=4096):∀(n j:Nat) (u5:Bool) (s:List Int),j<=x0.Objects.length->x0.Objects.length-j<n->s.length=x0.Objects.length->(∀k,k<x0.Objects.length->s.getD k default≠0->aEv x0 k)->(∀k,s.getD k default<=(j:Int))->
  ((nC x0 n u5 j s).1=true->∀i,j<=i->i<x0.Objects.length->aEv x0 i)/\(LQ x0->(nC x0 n u5 j s).1=true)/\((nC x0 n u5 j s).1=false->(nC x0 n u5 j s).2.2.2.1=false)
 |0,j,_,_,_,h,_,_,_=>by omega
 |n+1,j,u5,s,hj,hn,hl,hr,hle=>by
  simp only [nC,iL]
  by_cases hlt:j<x0.Objects.length
  .have e1:(!decide ((j:Int)<(x0.Objects.length:Int)))=false:=by rw [decide_eq_true (by omega)];rfl
   rw [e1]
   simp only [cond_false]
   have ec:dY .i64 (j:Int) 1=(j:Int)+1:=nG (by omega) (by omega)
   have g0:decide ((j:Int)<mZ (List.map dS.enc x0.Objects))=true:=by rw [LM];exact decide_eq_true (by omega)
   have T1:=aen hP (by omega) (u6:=(j:Int)) (by omega) g0 (u8:=u5) hl
   have nc:s.getD (j:Int).toNat default≠(j:Int)+1:=by have:=hle (j:Int).toNat;omega
   have hle':∀k,s.getD k default<=(j:Int)+1:=fun k=>by have:=hle k;omega
   cases h8:(gK x0 j (x0.Objects.length+1) u5 j s).1 with
   |false=>
    have e2:(!dZ (ji false) 0)=true:=rfl
    simp only [e2,cond_true]
    refine ⟨fun h=>Bool.noConfusion h,fun ha=>?_,fun _=>axq T1 h8⟩
    obtain ⟨m,hm⟩:=ha j hlt
    obtain ⟨k,h1,h2⟩:=Nl hm
    have:=aiP hP ec T1 (by omega) (by omega) hl (k:=k) (by simpa using h1) (by simpa using h2) (fun y hy=>by have:=hle y;omega)
    rw [h8] at this;cases this
   |true=>
    have e2:(!dZ (ji true) 0)=false:=rfl
    simp only [e2,cond_false]
    obtain ⟨r,q,l⟩:=asE hP ec (by omega) (by omega) (by omega) hl (fun k hk hne=>.inr (hr k hk hne)) nc hle' h8
    have l8:=abQ h8
    have g1:dZ (ji (gK x0 j (x0.Objects.length+1) u5 j s).1) 0=true:=by rw [h8];rfl
    have T2:=XF hP (by omega) (u6:=(j:Int)) (by omega) g0 hl g1
    obtain ⟨b1,b2⟩:=aoF hP ec (by omega) (by omega) (by omega) (by omega) l T2
    rw [ec]
    have e3:((j:Int)+1)=((j+1:Nat):Int):=by omega
    rw [e3]
    have ih:=m5 hP hB n (j+1) (gK x0 j (x0.Objects.length+1) u5 j s).2.1 _ (by omega) (by omega) (by rw [abR T2];omega) (fun k hk hne=>by
     rcases q k hk (b1 k hne) with h|h
     .have:=hle k;omega
     .exact h) (fun k=>by rw [<- e3];exact b2 k)
    refine ⟨fun h i h1 h2=>?_,ih.2.1,ih.2.2⟩
    by_cases e:i=j
    .subst e;simpa using r
    .exact ih.1 h i (by omega) h2
  .have e1:(!decide ((j:Int)<(x0.Objects.length:Int)))=true:=by rw [decide_eq_false (by omega)];rfl
   rw [e1]
   exact ⟨fun _ i h1 h2=>by omega,fun _=>rfl,fun h=>Bool.noConfusion h⟩
theorem XG {h:dK}:oP h=true↔h.Objects.length<=4096/\(∀i,i<h.Objects.length->kF h (i:Nat)=true)/\LQ h:=by
 unfold oP
 dsimp only
 rw [iL,Int.toNat_natCast]
 by_cases hl:h.Objects.length<=4096
 .have e1:decide ((h.Objects.length:Int) > 4096)=false:=decide_eq_false (by omega)
  have e:=ag8 (x0:=h) (by omega) (h.Objects.length+1) 0 false (Nat.zero_le _) (by omega)
  have e0:((0:Nat):Int)=0:=rfl
  rw [e0] at e
  rw [e1,e]
  simp only [cond_false]
  by_cases hc:∀i,0<=i->i<h.Objects.length->kF h (i:Nat)=true
  .rw [if_pos hc]
   have e2:(!dZ (ji true) 0)=false:=rfl
   simp only [e2,cond_false]
   have hP:JH h:=SL fun i hi=>hc i (Nat.zero_le _) hi
   have rep:∀k,(List.replicate h.Objects.length (0:Int)).getD k default=0:=fun k=>by
    rw [List.getD_eq_getElem?_getD]
    by_cases hk:k<h.Objects.length
    .rw [List.getElem?_replicate,if_pos hk];rfl
    .rw [List.getElem?_replicate,if_neg hk];rfl
   obtain ⟨a,b,c⟩:=m5 hP hl (h.Objects.length+1) 0 false (List.replicate h.Objects.length 0) (Nat.zero_le _) (by omega) (by simp) (fun k _ hne=>absurd (rep k) hne) (fun k=>by rw [rep k];exact Int.le_refl _)
   rw [e0] at a b c
   cases h5:(nC h (h.Objects.length+1) false 0 (List.replicate h.Objects.length 0)).1 with
   |true=>
    have e3:(!dZ (ji true) 0)=false:=rfl
    simp only [e3,cond_false]
    exact ⟨fun _=>⟨hl,fun i hi=>hc i (Nat.zero_le _) hi,fun i hi=>a h5 i (Nat.zero_le _) hi⟩,fun _=>by first|rfl|trivial⟩
   |false=>
    have e3:(!dZ (ji false) 0)=true:=rfl
    simp only [e3,cond_true]
    rw [c h5]
    exact ⟨fun h=>Bool.noConfusion h,fun k=>by have:=b k.2.2;rw [h5] at this;cases this⟩
  .rw [if_neg hc]
   have e2:(!dZ (ji false) 0)=true:=rfl
   simp only [e2,cond_true]
   exact ⟨fun h=>(Bool.false_ne_true h).elim,fun h=>absurd (fun i _ hi=>h.2.1 i hi) hc⟩
 .have e1:decide ((h.Objects.length:Int) > 4096)=true:=decide_eq_true (by omega)
  rw [e1]
  exact ⟨fun h=>(Bool.false_ne_true h).elim,fun h=>absurd h.1 hl⟩
theorem aoG {h:dK}(k:oP h=true):JH h:=SL (XG.1 k).2.1
theorem akS {h:dK}(k:oP h=true):LQ h:=(XG.1 k).2.2
end Go.Fw
end
section
namespace Go.Fw
open Go.Proofs
set_option maxRecDepth 100000
theorem jc : Tryz.prog.follows .mixedOrders=true:=by kernel_rfl
theorem wu (x0:Nat):PC Tryz.prog 156 [.p (.float .f64 x0)] (.p (.int .u64 (oM x0))):=
 abg (fn:=Tryz.f156) (e:=Extern.MathFloatBits.float64bits) (by kernel_rfl) (by kernel_rfl) (by kernel_rfl) (by kernel_rfl) (by kernel_rfl) rfl rfl rfl rfl
theorem yw (x0:Int):PC Tryz.prog 155 [.p (.int .u64 x0)] (.p (.float .f64 (qw x0))):=
 abg (fn:=Tryz.f155) (e:=Extern.MathFloatBits.float64frombits) (by kernel_rfl) (by kernel_rfl) (by kernel_rfl) (by kernel_rfl) (by kernel_rfl) rfl rfl rfl rfl
theorem E8 (x0:Nat)(h:Cb x0):PC Tryz.prog 153 [.p (.float .f64 x0)] (.p (.float .f64 (jI x0))):=
 abg (fn:=Tryz.f153) (e:=Extern.MathFloor.toIntegral "math.archTrunc" .zero) (by kernel_rfl) (by kernel_rfl) (by kernel_rfl) (by kernel_rfl) (by kernel_rfl) rfl (akh h) rfl rfl
def aoH : abj:=⟨125,128,126,136,137,144⟩
theorem axr : ar8 Tryz.prog aoH where
 vo:=fun args w=>run_callFunc_extern Tryz.func125 (by kernel_rfl) (by kernel_rfl) (by kernel_rfl) (e:=fun args=>Extern.ReflectliteValue.unpack (args.getD 0 (.tuple #[]))) (by kernel_rfl) args w
 ln:=fun args w=>run_callFunc_extern Tryz.func128 (by kernel_rfl) (by kernel_rfl) (by kernel_rfl) (e:=Extern.ReflectliteValue.method (Extern.ReflectliteValue.valueError "reflectlite.Value.Len" 0) Extern.ReflectliteValue.len) (by kernel_rfl) args w
 sw:=fun args w=>run_callFunc_extern Tryz.func126 (by kernel_rfl) (by kernel_rfl) (by kernel_rfl) (e:=Extern.ReflectliteSwapper.swapper "internal/reflectlite" (Extern.ReflectliteValue.valueError "Swapper")) (by kernel_rfl) args w
 l9:=fun args w=>run_callFunc_extern Tryz.func144 (by kernel_rfl) (by kernel_rfl) (by kernel_rfl) (e:=Extern.ReflectliteSwapper.swap false) (by kernel_rfl) args w
 n1:=by kernel_rfl
 n2:=by kernel_rfl
 n9:=by kernel_rfl
end Go.Fw
end
