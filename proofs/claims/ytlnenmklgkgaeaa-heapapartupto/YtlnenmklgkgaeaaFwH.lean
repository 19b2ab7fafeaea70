
import Derived.Test.YtlnenmklgkgaeaaFwG
import Derived.Test.YtlnenmklgkgaeaaFwF
import Derived.Test.YtlnenmklgkgaeaaProg
import Derived.Test.YtlnenmklgkgaeaaRows
set_option linter.unusedVariables false
set_option linter.unusedSimpArgs false
set_option linter.unusedSectionVars false
set_option linter.unnecessarySimpa false
section
namespace Go.Fw
set_option maxRecDepth 20000
structure Passed (x0:Bool)(x1:dN)(x2:Bool)(x3:dN):Prop where
 r1:Rc x1
 no:x2=false->x0=true
 r3:x2=true->Rc x3
 has:x2=true->x3.Has=51\/x3.Has=60
 may:x2=true->Ip x1 x3=true
theorem ay9 {x0:Bool}{x1:dN}{x2:Bool}{x3:dN}(h1:x1.ok)(h3:x3.ok)(h:ig x0 x1 x2 x3=(true,0)):Passed x0 x1 x2 x3:=by
 have hr:=h
 rw [O4 h1 h3] at hr
 unfold ig at h
 unfold jA gU at hr
 dsimp only at h hr
 rcases anN h1 with c1|c1
 .rw [c1] at hr
  simp only [show jk 90 0=true from rfl,Bool.true_or,cond_true] at hr
  cases hr
 .rw [c1] at hr
  simp only [show jk 0 0=false from rfl,Bool.false_or] at hr
  have r1:=(UY h1).1 c1
  cases x2
  .simp only [Bool.false_and,cond_false,Bool.not_false,cond_true] at hr
   exact ⟨r1,(fun _=>by cases hr;rfl),(fun h=>by cases h),(fun h=>by cases h),(fun h=>by cases h)⟩
  .simp only [Bool.true_and,Bool.not_true,cond_false] at hr
   generalize hw:(dU (jv x3) 0&&(dU x3.Has 51||dU x3.Has 60))=q at hr
   cases q
   .simp only [Bool.not_false,cond_true] at hr;cases hr
   .simp only [Bool.and_eq_true,dU,beq_iff_eq,Bool.or_eq_true] at hw
    refine ⟨r1,(fun h=>by cases h),fun _=>(UY h3).1 hw.1,fun _=>hw.2,fun _=>?_⟩
    simp only [Bool.not_true,cond_false] at h
    cases ha:jk (Fp x1 true x3) 0
    .rw [ha] at h;simp only [cond_false,Prod.mk.injEq] at h;exact h.1
    .rw [ha] at h;simp only [cond_true,Prod.mk.injEq] at h;exact absurd h.1 (by decide)
theorem aza {x0:Bool}{x1:dN}{x2:Bool}{x3:dN}(h1:x1.ok)(h3:x3.ok)(h:ig x0 x1 x2 x3=(true,0)) :
  gu x0 x1 x2 x3=(bif !x2 then lD x1 else bif ayW x1 x3 then dN.mk (lD x1).Has x1.Value x1.Get x1.Set x1.eH (bif (!hb x1.Has 4) then x3.dS else x1.dS) (bif (!hb x1.Has 5) then x3.Configurable else x1.Configurable) else mix x1 x3,true,0):=by
 have B1:=bits h1.1
 rw [ak8 h1 h3]
 have hr:=h
 rw [O4 h1 h3] at hr
 unfold Iu
 dsimp only
 rw [hr]
 simp only [show jk 0 0=false from rfl,Bool.not_true,Bool.or_self,cond_false]
 cases x2
 .rfl
 .simp only [Bool.not_true,cond_false]
  unfold fP
  rw [yg h1.1,oI h1.1,yg h3.1,oI h3.1,B1.r1,B1.r2,B1.r4,B1.r8,B1.r16,B1.r32]
  unfold mix ayW
  generalize (((hb x1.Has 0||hb x1.Has 1)&&(hb x3.Has 2||hb x3.Has 3))||((hb x1.Has 2||hb x1.Has 3)&&(hb x3.Has 0||hb x3.Has 1)))=K
  cases K
  .simp only [cond_false]
   congr 1
   congr 1
   .cases hb x1.Has 0<;>rfl
   .cases hb x1.Has 2<;>rfl
   .cases hb x1.Has 3<;>rfl
  .rfl
theorem azs {x0:Bool}{x1:dN}{x2:Bool}{x3:dN}(h1:x1.ok)(h3:x3.ok)(h:ig x0 x1 x2 x3=(true,0)):Y1 x1 (gu x0 x1 x2 x3).1:=by
 have p:=ay9 h1 h3 h
 rw [aza h1 h3 h]
 dsimp only
 cases x2
 .exact Nr h1 p.r1 _ _ (fun _=>rfl) (fun _=>rfl)
 .simp only [Bool.not_true,cond_false]
  cases ht:ayW x1 x3
  .exact ad2 h1 h3 p.r1 (p.r3 rfl) (p.has rfl) ht
  .exact Nr h1 p.r1 _ _ (fun h=>by rw [h];rfl) (fun h=>by rw [h];rfl)
theorem yU (b:Bool):Qy b b=true:=by simp [Qy]
theorem azl {d:dN}(hd:d.ok)(r:Rc d)(hh:d.Has=51\/d.Has=60):ig false d true d=(true,0):=by
 have B:=bits hd.1
 unfold ig Fp
 dsimp only
 rw [Nl hd,(UY hd).2 r,O3 hd.1 (r.chk hd)]
 have e:(dU d.Has 51||dU d.Has 60)=true:=by rcases hh with hh|hh<;>rw [hh]<;>rfl
 rw [e]
 simp only [show jk 0 0=false from rfl,cond_false,Bool.not_true,Bool.false_or,Bool.and_false]
 congr 1
 unfold Ip zN
 dsimp only
 rw [yc hd.1,sV hd.2.1 (Ee hd.2.1 r.v),sV hd.2.2.1 (yh (qB hd.2.2.1 r.g)),sV hd.2.2.2 (yh (qB hd.2.2.2 r.s)),yU,yU]
 simp only [Bool.or_true,Bool.and_true,Bool.not_true,Bool.and_false,cond_false]
 cases d.Configurable
 .simp only [cond_false]
  cases dU (jl .u8 d.Has 15) 0
  .simp only [cond_false]
   cases (hb d.Has 0||hb d.Has 1)
   .rfl
   .simp only [cond_true];cases d.eH<;>rfl
  .rfl
 .rfl
theorem azH {x0:Bool}{x1:dN}{x3:dN}(h1:x1.ok)(h3:x3.ok)(h:ig x0 x1 true x3=(true,0))(hc:x3.Configurable=false) :
  let d:=(gu x0 x1 true x3).1
  d.Configurable=false/\Qy d.dS x3.dS=true/\d.Has=x3.Has/\
   (bif iy x3 then (h_ d.Get x3.Get&&h_ d.Set x3.Set) else (x3.eH||((!d.eH)&&h_ d.Value x3.Value)))=true:=by
 have p:=ay9 h1 h3 h
 have hm:=p.may rfl
 have r3:=p.r3 rfl
 have r1:=p.r1
 have hh:=p.has rfl
 have B1:=bits h1.1
 have s0:=sV h3.2.1 (Ee h3.2.1 r3.v)
 have s1:=sV h3.2.2.1 (yh (qB h3.2.2.1 r3.g))
 have s2:=sV h3.2.2.2 (yh (qB h3.2.2.2 r3.s))
 have hk:(hb x3.Has 2||hb x3.Has 3)=!(hb x3.Has 0||hb x3.Has 1):=by
  obtain ⟨p0,p1,p2,p3,-,-⟩:=aqt
  obtain ⟨q0,q1,q2,q3,-,-⟩:=aqu
  rcases hh with hh|hh
  .rw [hh,p0,p1,p2,p3];rfl
  .rw [hh,q0,q1,q2,q3];rfl
 unfold Ip zN at hm
 dsimp only at hm
 rw [yc h1.1,yc h3.1,hc,B1.a16,B1.z15,B1.z1,B1.z4,B1.z8] at hm
 simp only [cond_false] at hm
 cases hc1:x1.Configurable
 .rw [hc1] at hm
  simp only [cond_false] at hm
  cases he:(hb x1.Has 4&&!Qy x1.dS x3.dS)
  .rw [he] at hm
   simp only [cond_false] at hm
   have ht:ayW x1 x3=false:=by
    unfold ayW
    rw [hk]
    have hda:=r1.da
    cases ha:(hb x1.Has 0||hb x1.Has 1)
    .cases hb':(hb x1.Has 2||hb x1.Has 3)
     .rfl
     .rw [ha,hb'] at hm
      simp only [Bool.or_true,Bool.not_true,cond_false] at hm
      cases hd:(hb x3.Has 0||hb x3.Has 1)
      .rfl
      .rw [hd] at hm;cases hm
    .rw [ha,Bool.true_and] at hda
     rw [hda]
     rw [ha,hda] at hm
     simp only [Bool.or_false,Bool.not_true,cond_false] at hm
     cases hd:(hb x3.Has 0||hb x3.Has 1)
     .rw [hd] at hm;cases hm
     .rfl
   have hd:=aza h1 h3 h
   rw [ht] at hd
   simp only [Bool.not_true,cond_false] at hd
   dsimp only
   rw [hd]
   dsimp only
   unfold mix
   dsimp only
   rw [CJ h3.1,hk,hc,hc1]
   refine ⟨by cases hb x1.Has 5<;>rfl,?_,rfl,?_⟩
   .cases h4:hb x1.Has 4
    .exact yU _
    .rw [h4] at he;simpa using he
   .cases hd3:(hb x3.Has 0||hb x3.Has 1)
    .simp only [Bool.not_false,cond_true]
     rw [hd3] at hm
     cases ha:(hb x1.Has 0||hb x1.Has 1)
     .rw [ha] at hm
      cases hb':(hb x1.Has 2||hb x1.Has 3)
      .simp only [Bool.or_eq_false_iff] at hb'
       rw [hb'.1,hb'.2]
       simp only [cond_false,s1,s2,Bool.and_self]
      .rw [hb'] at hm
       simp only [Bool.or_true,Bool.not_true,cond_false,yU] at hm
       revert hm
       cases hb x1.Has 2<;>cases hb x1.Has 3<;>simp [s1,s2]
     .rw [ha] at hm
      simp only [Bool.true_or,Bool.not_true,cond_false] at hm
      cases hm
    .simp only [Bool.not_true,cond_false]
     rw [hd3] at hm
     cases ha:(hb x1.Has 0||hb x1.Has 1)
     .simp only [Bool.or_eq_false_iff] at ha
      rw [ha.1,ha.2]
      simp only [cond_false,s0]
      cases x3.eH<;>rfl
     .rw [ha] at hm
      simp only [Bool.true_or,Bool.not_true,cond_false,yU,cond_true] at hm
      revert hm
      cases x3.eH<;>cases x1.eH<;>cases hb x1.Has 0<;>cases hb x1.Has 1<;>simp [s0]
  .rw [he] at hm;cases hm
 .rw [hc1] at hm;cases hm
end Go.Fw
end
section
namespace Go.Fw
theorem UZ : ∀{l:List dI} {pre:List dP},O5 pre l=0↔(∀p∈l,gV p.Key=0/\gU p.dQ=true/\p.Key∉pre)/\l.Pairwise (fun p q=>p.Key≠q.Key)
 |[],pre=>by simp [O5]
 |a::r,pre=>by
  simp only [O5]
  by_cases h1:gV a.Key=0
  .rw [Ii.2 h1]
   simp only [cond_false]
   cases h2:gU a.dQ with
   |false=>
    simp only [Bool.not_false,cond_true]
    exact ⟨fun h=>by omega,fun h=>by have:=(h.1 a (by simp)).2.1;rw [h2] at this;cases this⟩
   |true=>
    simp only [Bool.not_true,cond_false]
    by_cases h3:a.Key∈pre
    .simp only [h3,decide_true,cond_true]
     exact ⟨fun h=>by omega,fun h=>absurd h3 (h.1 a (by simp)).2.2⟩
    .simp only [h3,decide_false,cond_false]
     rw [UZ (l:=r)]
     constructor
     .rintro ⟨i1,i2⟩
      refine ⟨fun p hp=>?_,List.pairwise_cons.2 ⟨fun q hq e=>(i1 q hq).2.2 (by simp [e]),i2⟩⟩
      cases hp with
      |head=>exact ⟨h1,h2,h3⟩
      |tail _ hp=>
       obtain ⟨j1,j2,j3⟩:=i1 p hp
       exact ⟨j1,j2,fun hm=>j3 (by simp [hm])⟩
     .rintro ⟨i1,i2⟩
      obtain ⟨k1,k2⟩:=List.pairwise_cons.1 i2
      refine ⟨fun p hp=>?_,k2⟩
      obtain ⟨j1,j2,j3⟩:=i1 p (List.mem_cons_of_mem _ hp)
      refine ⟨j1,j2,fun hm=>?_⟩
      rcases List.mem_append.1 hm with hm|hm
      .exact j3 hm
      .exact k1 p hp (List.mem_singleton.1 hm).symm
  .rw [aa2.2 h1]
   simp only [cond_true]
   exact ⟨fun h=>by omega,fun h=>absurd (h.1 a (by simp)).1 h1⟩
structure O7 (l:List dI):Prop where
 len:l.length<=1024
 all:∀p∈l,gV p.Key=0/\gU p.dQ=true
 one:l.Pairwise (fun p q=>p.Key≠q.Key)
theorem O7.big {l:List dI}(h:O7 l):l.length<=4294967296:=by have:=h.len;omega
theorem O7.of {l:List dI}(hl:l.length<=4294967296)(h:jV l=0):O7 l:=by
 obtain ⟨h1,h2⟩:=UZ.1 (ad1 hl h)
 exact ⟨F5 l h,fun p hp=>⟨(h1 p hp).1,(h1 p hp).2.1⟩,h2⟩
theorem O7.chk {l:List dI}(h:O7 l):jV l=0:=by
 have:=h.len
 rw [Jp l h.big,decide_eq_false (by omega)]
 exact UZ.2 ⟨fun p hp=>⟨(h.all p hp).1,(h.all p hp).2,by simp⟩,h.one⟩
theorem O7.asked {l:List dI}(h:O7 l)(hok:∀p∈l,p.dQ.ok){k:dP}(hk:gV k=0):rZ l k=0:=by
 rw [UU l k h.big hok]
 unfold oD
 dsimp only
 rw [h.chk,hk];rfl
def d00 : dN:=dN.mk 0 (dL.mk 0 0 [] 0) (dL.mk 0 0 [] 0) (dL.mk 0 0 [] 0) false false false
def isK (k:dP)(p:dI):Bool:=decide (p.Key=k)
def pz (l:List dI)(k:dP):dN×Bool×Int:=match l.find? (isK k) with
 |some p=>(p.dQ,true,0)
 |none=>(d00,false,0)
theorem QS : ∀(l:List dI) (k:dP),l.find? (isK k)=match pl l k with|some i=>some (l.getD i default)|none=>none
 |[],k=>rfl
 |a::r,k=>by
  have ih:=QS r k
  unfold pl at ih ⊢
  rw [List.findIdx?_cons,List.find?_cons]
  unfold isK at ih ⊢
  by_cases h:a.Key=k
  .simp [h]
  .simp only [h,decide_false,Bool.false_eq_true,if_false]
   rw [ih]
   cases r.findIdx? (fun p=>decide (p.Key=k))<;>simp
theorem O7.find {l:List dI}(h:O7 l)(hok:∀p∈l,p.dQ.ok){k:dP}(hk:gV k=0):lW l k=pz l k:=by
 unfold lW pz
 dsimp only
 rw [h.asked hok hk,azu,Np l k h.big,QS]
 cases pl l k with
 |none=>rfl
 |some i=>simp [jk]
theorem abA : ∀{l:List dI} {i:Nat} {k:dP} {d:dN},pl l k=some i->(l.set i (dI.mk k d)).find? (isK k)=some (dI.mk k d)/\∀k',k'≠k->(l.set i (dI.mk k d)).find? (isK k')=l.find? (isK k')
 |[],i,k,d,h=>by cases h
 |a::r,i,k,d,h=>by
  unfold pl at h
  rw [List.findIdx?_cons] at h
  by_cases hk:a.Key=k
  .simp only [hk,decide_true,if_true,Option.some.injEq] at h
   subst h
   refine ⟨by simp [isK],fun k' hk'=>?_⟩
   have h1:¬k=k':=fun e=>hk' e.symm
   simp [isK,hk,h1]
  .simp only [hk,decide_false,Bool.false_eq_true,if_false] at h
   cases hp:r.findIdx? (fun p=>decide (p.Key=k)) with
   |none=>rw [hp] at h;cases h
   |some j=>
    rw [hp] at h
    simp only [Option.map_some,Option.some.injEq] at h
    subst h
    obtain ⟨h1,h2⟩:=abA (d:=d) (show pl r k=some j from hp)
    refine ⟨?_,fun k' hk'=>?_⟩
    .rw [List.set_cons_succ,List.find?_cons]
     simp only [isK,hk,decide_false]
     exact h1
    .rw [List.set_cons_succ,List.find?_cons,List.find?_cons,h2 k' hk']
theorem anO {l:List dI}{k:dP}(h:pl l k=none):∀p∈l,p.Key≠k:=by
 intro p hp e
 have:=ak9 (l:=l) (k:=k)
 rw [h] at this
 simp only [Option.isSome_none] at this
 have:=of_decide_eq_false this.symm
 exact this (List.mem_map.2 ⟨p,hp,e⟩)
theorem ala : ∀{l:List dI} {k:dP} {i:Nat},pl l k=some i->(l.getD i default).Key=k
 |[],k,i,h=>by cases h
 |a::r,k,i,h=>by
  unfold pl at h
  rw [List.findIdx?_cons] at h
  by_cases hk:a.Key=k
  .simp only [hk,decide_true,if_true,Option.some.injEq] at h
   subst h;simpa using hk
  .simp only [hk,decide_false,Bool.false_eq_true,if_false] at h
   cases hp:r.findIdx? (fun p=>decide (p.Key=k)) with
   |none=>rw [hp] at h;cases h
   |some j=>
    rw [hp] at h
    simp only [Option.map_some,Option.some.injEq] at h
    subst h
    simpa using ala (show pl r k=some j from hp)
structure aqw (x0:List dI)(k:dP)(d:dN)(a:List dI):Prop where
 tb:O7 a
 ok:∀p∈a,p.dQ.ok
 me:pz a k=(d,true,0)
 el:∀k',k'≠k->pz a k'=pz x0 k'
 len:a.length=bif (pz x0 k).2.1 then x0.length else x0.length+1
 key:∀i,i<x0.length->(a.getD i default).Key=(x0.getD i default).Key
 wh:gU d=true
theorem ahV {x0:List dI}(h:O7 x0)(hok:∀p∈x0,p.dQ.ok){k:dP}(hk:gV k=0){d:dN}(hd:d.ok)(he:(lU x0 k d).2=0):aqw x0 k d (lU x0 k d).1:=by
 unfold lU at he ⊢
 dsimp only at he ⊢
 rw [h.asked hok hk,azu,Np x0 k h.big,aoO hd] at he ⊢
 rw [ahs] at he ⊢
 simp only [cond_false,jF,Int.toNat_natCast] at he ⊢
 rw [Xq (l:=x0) rfl]
 cases hw:gU d with
 |false=>rw [hw] at he;cases he
 |true=>
  rw [hw] at he
  simp only [Bool.not_true,cond_false] at he ⊢
  cases hp:pl x0 k with
  |none=>
   rw [hp] at he
   simp only [show decide ((-1:Int)<0)=true from rfl,Bool.true_and,cond_true] at he ⊢
   by_cases hl:(x0.length:Int)=1024
   .rw [rQ.2 hl] at he;cases he
   .rw [Cj.2 hl]
    simp only [cond_false]
    have hn:=anO hp
    have hf:x0.find? (isK k)=none:=by rw [QS,hp]
    have hlen:=h.len
    refine ⟨⟨by simp;omega,?_,?_⟩,?_,?_,?_,?_,?_,hw⟩
    .intro p hp
     rcases List.mem_append.1 hp with hp|hp
     .exact h.all p hp
     .rw [List.mem_singleton.1 hp];exact ⟨hk,hw⟩
    .rw [List.pairwise_append]
     refine ⟨h.one,List.pairwise_singleton _ _,fun p hp q hq=>?_⟩
     rw [List.mem_singleton.1 hq];exact hn p hp
    .intro p hp
     rcases List.mem_append.1 hp with hp|hp
     .exact hok p hp
     .rw [List.mem_singleton.1 hp];exact hd
    .unfold pz
     rw [List.find?_append,hf]
     simp [isK]
    .intro k' hk'
     unfold pz
     rw [List.find?_append]
     have:[dI.mk k d].find? (isK k')=none:=by
      have h1:¬k=k':=fun e=>hk' e.symm
      simp [isK,h1]
     rw [this,Option.or_none]
    .unfold pz;rw [hf];simp
    .intro i hi
     rw [List.getD_eq_getElem?_getD,List.getD_eq_getElem?_getD,List.getElem?_append_left hi]
  |some i=>
   rw [hp] at he
   have hi:=aoN hp
   have hkey:=ala hp
   have hneg:decide ((i:Int)<0)=false:=decide_eq_false (by omega)
   simp only [hneg,Bool.false_and,cond_false,Int.toNat_natCast] at he ⊢
   rw [Xq (l:=x0.set i _) (by simp),hkey]
   obtain ⟨s1,s2⟩:=abA (d:=d) hp
   have hf:x0.find? (isK k)=some (x0.getD i default):=by rw [QS,hp]
   have hmap:(x0.set i (dI.mk k d)).map (·.Key)=x0.map (·.Key):=by
    rw [List.map_set]
    apply List.ext_getElem?
    intro j
    rw [List.getElem?_set]
    split
    .rename_i hj
     subst hj
     have hg:(x0.map (·.Key))[i]?=some k:=by
      rw [List.getElem?_map,List.getElem?_eq_getElem hi]
      rw [List.getD_eq_getElem?_getD,List.getElem?_eq_getElem hi] at hkey
      simpa using hkey
     rw [hg]
     simp [hi]
    .rfl
   refine ⟨⟨by simpa using h.len,?_,?_⟩,?_,?_,?_,?_,?_,hw⟩
   .intro p hp
    rcases List.mem_or_eq_of_mem_set hp with hp|rfl
    .exact h.all p hp
    .exact ⟨hk,hw⟩
   .have h1:(x0.map (·.Key)).Pairwise (·≠·):=List.pairwise_map.2 h.one
    rw [<- hmap] at h1
    exact List.pairwise_map.1 h1
   .intro p hp
    rcases List.mem_or_eq_of_mem_set hp with hp|rfl
    .exact hok p hp
    .exact hd
   .unfold pz;rw [s1]
   .intro k' hk'
    unfold pz;rw [s2 k' hk']
   .unfold pz;rw [hf];simp
   .intro j hj
    have:=congrArg (fun m:List dP=>m[j]?) hmap
    simp only [List.getElem?_map] at this
    rw [List.getD_eq_getElem?_getD,List.getD_eq_getElem?_getD]
    have hj':j<(x0.set i (dI.mk k d)).length:=by simpa using hj
    rw [List.getElem?_eq_getElem hj,List.getElem?_eq_getElem hj'] at this ⊢
    simpa using this
structure asQ (x0:List dI)(k:dP)(b:List dI):Prop where
 tb:O7 b
 ok:∀p∈b,p.dQ.ok
 me:pz b k=(d00,false,0)
 el:∀k',k'≠k->pz b k'=pz x0 k'
theorem U0 {x0:List dI}(h:O7 x0)(hok:∀p∈x0,p.dQ.ok){k:dP}:asQ x0 k (x0.filter (fun p=>!decide (p.Key=k))):=by
 refine ⟨⟨Nat.le_trans (List.length_filter_le _ _) h.len,fun p hp=>h.all p (List.mem_filter.1 hp).1,List.Pairwise.filter _ h.one⟩,fun p hp=>hok p (List.mem_filter.1 hp).1,?_,fun k' hk'=>?_⟩
 .have:(x0.filter (fun p=>!decide (p.Key=k))).find? (isK k)=none:=by
   rw [List.find?_eq_none]
   intro p hp
   have:=(List.mem_filter.1 hp).2
   simpa [isK] using this
  unfold pz;rw [this]
 .unfold pz
  rw [List.find?_filter]
  congr 1
  have:(fun a:dI=>decide ((!decide (a.Key=k))=true/\isK k' a=true))=isK k':=by
   funext p
   unfold isK
   by_cases e:p.Key=k'
   .have:¬k'=k:=hk'
    simp [e,this]
   .simp [e]
  rw [this]
theorem afI {x0:List dI}(h:O7 x0)(hok:∀p∈x0,p.dQ.ok){k:dP}(hk:gV k=0):xY x0 k=(x0.filter (fun p=>!decide (p.Key=k)),0):=by
 rw [anK x0 k h.big hok,abx x0 k h.big]
 have:=h.asked hok hk
 rw [UU x0 k h.big hok] at this
 rw [this];rfl
theorem alb {d:dN}(hd:d.ok)(h:gU d=true):Rc d:=by
 unfold gU at h
 dsimp only at h
 rw [Bool.and_eq_true] at h
 exact (UY hd).1 (rQ.1 h.1)
end Go.Fw
end
section
namespace Go.Fw
theorem abB {α β:Type}{f:α->β}{l:List α}:nM (List.map f l)=l.length:=by simp [nM]
def ad3 (x:Nat):Bool:=ZI x 0&&XZ x 4652218415073722368
theorem anP {x:Nat}(h1:ZI x 0=true)(h2:XZ x 4652218415073722368=true):ad3 x=true:=by simp [ad3,h1,h2]
theorem alc {P:Program}{ρ:List AV}{x:Tm}{y:Nat}(h:ad3 y=true)(hx:(x.den ρ).F=y:=by rfl):Side.holds P ρ (.num .i64 x (.ZJ x)):=by
 subst hx
 unfold ad3 at h
 rw [Bool.and_eq_true] at h
 exact auJ h.1 h.2
theorem QT {v:dL}(h:iI v=true):0<=v.Ref:=by
 unfold iI at h
 dsimp only at h
 cases hc:decide ((v.Ref:Int)<0) with
 |false=>have:=of_decide_eq_false hc;omega
 |true=>rw [hc] at h;simp at h
def hIn (h:dH)(v:dL):Prop:=dR v=true->0<=v.Ref/\v.Ref<h.Objects.length
theorem asR {h:dH}{v:dL}(q:hIn h v)(i:dR v=true):v.Ref<nM (List.map dJ.enc h.Objects):=by rw [abB];exact (q i).2
theorem ad4 {h:dH}{v:dL}(q:dZ h v=true):hIn h v:=by
 intro i
 unfold dZ at q
 dsimp only at q
 cases hm:iI v with
 |false=>rw [hm] at q;simp at q
 |true=>
  rw [hm,i] at q
  simp only [Bool.not_true,cond_false,Bool.false_or,Bool.and_eq_true,decide_eq_true_eq,jF] at q
  exact ⟨QT hm,q.1⟩
theorem aqx {h:dH}{v:dL}(q:dZ h v=true):iI v=true:=by
 unfold dZ at q
 dsimp only at q
 cases hm:iI v with
 |false=>rw [hm] at q;simp at q
 |true=>rfl
theorem afJ {h:dH}{v:dL}(q:dZ h v=true):0<=v.Ref:=QT (aqx q)
theorem afK {h:dH}{v:dL}(q:dZ h v=true)(i:dR v=true):v.Ref<nM (List.map dJ.enc h.Objects):=asR (ad4 q) i
theorem Y2 {x0:dH}{x2:Int}{a b:dL}(h:mg (jO x0 x2 ((2:Int).toNat+1) false 0 [a,b]).1=0):dR a=true/\dZ x0 a=true/\a.Ref<x2:=by
 have e:(2:Int).toNat+1=2+1:=rfl
 rw [e] at h
 unfold jO at h
 dsimp only at h
 have e1:(!decide ((0:Int)<2))=false:=by decide
 have e2:([a,b].getD (0:Int).toNat default)=a:=rfl
 rw [e1,e2] at h
 simp only [cond_false] at h
 cases hc:(!dR a||!dZ x0 a||decide (a.Ref>=x2)) with
 |true=>rw [hc] at h;simp [mg] at h
 |false=>
  simp only [Bool.or_eq_false_iff,Bool.not_eq_false',decide_eq_false_iff_not] at hc
  exact ⟨hc.1.1,hc.1.2,by omega⟩
theorem ald {x0:dH}{x2:Int}{a b:dL}(h:mg (jO x0 x2 ((2:Int).toNat+1) false 0 [a,b]).1=0):0<=a.Ref:=afJ (Y2 h).2.1
theorem ale {x0:dH}{x2:Int}{a b:dL}(h:mg (jO x0 x2 ((2:Int).toNat+1) false 0 [a,b]).1=0):a.Ref<nM (List.map dJ.enc x0.Objects):=afK (Y2 h).2.1 (Y2 h).1
def CP (h:dH)(i:Nat):Int:=(h.Objects.getD i default).fA.Kind
def Bz (h:dH)(i:Nat):Int:=(h.Objects.getD i default).fA.Ref
def Ze (h:dH):Prop:=∀i,i<h.Objects.length->CP h i≠1->0<=Bz h i/\Bz h i<h.Objects.length
theorem afL {h:dH}{i:Nat}(hi:h.Objects.length<=i):Bz h i=0:=by
 unfold Bz;rw [List.getD_eq_getElem?_getD,List.getElem?_eq_none hi];rfl
theorem alf {h:dH}(hP:Ze h){i:Nat}(hk:(h.Objects.getD i default).fA.Kind≠1):0<=(h.Objects.getD i default).fA.Ref:=by
 by_cases hi:i<h.Objects.length
 .exact (hP i hi hk).1
 .have:=afL (h:=h) (i:=i) (by omega)
  unfold Bz at this;omega
theorem aoP {h:dH}(hP:Ze h){u:Int}(hk:(h.Objects.getD u.toNat default).fA.Kind≠1)(h1:u<nM (List.map dJ.enc h.Objects))(h0:0<=u):(h.Objects.getD u.toNat default).fA.Ref<nM (List.map dJ.enc h.Objects):=by
 rw [abB] at h1 ⊢
 exact (hP u.toNat (by omega) hk).2
theorem U1 {m:List (Int×Bool)}(ha:∀e∈m,e.2=true)(k:Int):(mJ false k m).2=decide (k∈m.map (·.1)):=by
 induction m with
 |nil=>rfl
 |cons e r ih=>
  simp only [mJ]
  by_cases h:k=e.1
  .simp [h,ha e (by simp)]
  .rw [if_neg h,ih fun x hx=>ha x (by simp [hx])]
   simp [h]
theorem abC {m:List (Int×Bool)}{k:Int}(h:k∉m.map (·.1)):mM k true m=m++[(k,true)]:=by
 induction m with
 |nil=>rfl
 |cons e r ih=>
  simp only [List.map_cons,List.mem_cons,not_or] at h
  simp only [mM,if_neg h.1,ih h.2,List.cons_append]
theorem abD {x0:dH}{u4:List Bool}{S:List Int}(hS:∀u∈S,(x0.Objects.getD u.toNat default).fA.Kind≠1->(x0.Objects.getD u.toNat default).fA.Ref∈S){u5:Bool} :
  ∀(n:Nat) (u6:Int) (m:List (Int×Bool)),(m.map (·.1)).Nodup->(∀e∈m,e.2=true)->(∀k∈m.map (·.1),k∈S)->u6∈S->S.length<n+m.length->jM x0 u4 n u5 u6 m=true
 |0,u6,m,hn,ha,hk,hu,hl=>by
  have:=List.Nodup.length_le_of_subset hn hk
  rw [List.length_map] at this
  omega
 |n+1,u6,m,hn,ha,hk,hu,hl=>by
  simp only [jM]
  cases (!(!(u4.getD u6.toNat default))) with
  |true=>rfl
  |false=>
   simp only [cond_false]
   rw [U1 ha]
   cases hm:decide (u6∈m.map (·.1)) with
   |true=>rfl
   |false=>
    have hm:=of_decide_eq_false hm
    simp only [cond_false]
    cases hq:dU (x0.Objects.getD u6.toNat default).fA.Kind 1 with
    |true=>rfl
    |false=>
     simp only [cond_false]
     rw [abC hm]
     refine abD hS n _ _ ?_ ?_ ?_ (hS _ hu (Cj.1 hq)) (by simp;omega)
     .rw [List.map_append,List.nodup_append]
      refine ⟨hn,by simp,fun a ha' b hb=>?_⟩
      simp at hb;subst hb
      intro e;subst e;exact hm ha'
     .intro e he
      rcases List.mem_append.1 he with he|he
      .exact ha e he
      .simp at he;subst he;rfl
     .intro k hk'
      rw [List.map_append] at hk'
      rcases List.mem_append.1 hk' with hk' | hk'
      .exact hk k hk'
      .simp at hk';subst hk';exact hu
theorem O8 {x0:dH}(hP:Ze x0){u4:List Bool}{u2:Bool}{u3:Int}:jM x0 u4 (x0.Objects.length+3) u2 u3 []=true:=by
 refine abD (S:=u3::0::(List.range x0.Objects.length).map Int.ofNat) (fun u hu hk=>?_) _ _ _ (by simp) (by simp) (by simp) (by simp) (by simp)
 by_cases hi:u.toNat<x0.Objects.length
 .obtain ⟨h1,h2⟩:=hP _ hi hk
  unfold Bz at h1 h2
  refine List.mem_cons_of_mem _ (List.mem_cons_of_mem _ (List.mem_map.2 ⟨(x0.Objects.getD u.toNat default).fA.Ref.toNat,List.mem_range.2 (by omega),?_⟩))
  simp only [Int.ofNat_eq_natCast];omega
 .have:=afL (h:=x0) (i:=u.toNat) (by omega)
  unfold Bz at this
  rw [this];simp
theorem abE {x0:dH}(hP:Ze x0){u4:List Bool}:∀{n:Nat} {u2:Bool} {u6:Int} {m:List (Int×Bool)},(∀e∈m,0<=e.1/\e.1<nM (List.map dJ.enc x0.Objects))->0<=u6->u6<nM (List.map dJ.enc x0.Objects)->∀e∈(f_ x0 u4 n u2 u6 m).2.2.2.1,0<=e.1/\e.1<nM (List.map dJ.enc x0.Objects)
 |0,_,_,_,_,_,_=>fun e he=>by cases he
 |n+1,u2,u6,m,hm,h0,h1=>by
  have hput:∀{l:List (Int×Bool)},(∀e∈l,0<=e.1/\e.1<nM (List.map dJ.enc x0.Objects))->∀e∈mM u6 true l,0<=e.1/\e.1<nM (List.map dJ.enc x0.Objects):=by
   intro l
   induction l with
   |nil=>intro _ e he;simp [mM] at he;subst he;exact ⟨h0,h1⟩
   |cons a r ih=>
    intro hl e he
    simp only [mM] at he
    by_cases hc:u6=a.1
    .rw [if_pos hc] at he
     rcases List.mem_cons.1 he with rfl|he
     .exact ⟨h0,h1⟩
     .exact hl e (by simp [he])
    .rw [if_neg hc] at he
     rcases List.mem_cons.1 he with rfl|he
     .exact hl e (by simp)
     .exact ih (fun x hx=>hl x (by simp [hx])) e he
  simp only [f_]
  cases (!(!(u4.getD u6.toNat default))) with
  |true=>exact hm
  |false=>
   simp only [cond_false]
   cases (mJ false u6 m).2 with
   |true=>intro e he;cases he
   |false=>
    simp only [cond_false]
    cases hq:dU (x0.Objects.getD u6.toNat default).fA.Kind 1 with
    |true=>exact hput hm
    |false=>
     simp only [cond_false]
     exact abE hP (hput hm) (alf hP (Cj.1 hq)) (aoP hP (Cj.1 hq) h1 h0)
theorem aqy {x0:dH}(hB:x0.Objects.length<=4294967296){u:Int}(h0:0<=u)(g:(!(decide ((u:Int)<(jT dJ.enc x0.Objects))))=false):0<=fK .i64 u 1:=by
 simp only [Bool.not_eq_false',decide_eq_true_eq,jF] at g
 rw [G_ (by omega) (by omega)];omega
theorem Ef {c b:Bool}(h:(bif c then false else b)=true):c=false/\b=true:=by cases c<;>simp_all
theorem Ns {x0:dH}{i:Int}(h:jH x0 i=true):(x0.Objects.getD i.toNat default).fA.Kind=1\/(dR (x0.Objects.getD i.toNat default).fA=true/\dZ x0 (x0.Objects.getD i.toNat default).fA=true):=by
 unfold jH at h
 dsimp only at h
 generalize x0.Objects.getD i.toNat default=o at h ⊢
 cases h6:dU o.Kind 6 with
 |true=>
  rw [h6] at h
  simp only [cond_true] at h
  unfold sJ at h
  dsimp only at h
  obtain ⟨hc,-⟩:=Ef h
  left
  simp only [Bool.or_eq_false_iff,Bool.not_eq_false'] at hc
  have:=hc.1.1.2
  unfold oG at this
  dsimp only at this
  rw [Bool.and_eq_true] at this
  exact rQ.1 this.1
 |false=>
  rw [h6] at h
  simp only [cond_false] at h
  obtain ⟨hc,h⟩:=Ef h
  obtain ⟨hd,h⟩:=Ef h
  simp only [Bool.or_eq_false_iff,Bool.not_eq_false'] at hd
  by_cases hk:o.fA.Kind=1
  .exact .inl hk
  .right
   have h1:=hd.1.1
   rw [aa2.2 hk] at h1
   simp only [Bool.true_and,Bool.not_eq_false'] at h1
   exact ⟨h1,hd.1.2⟩
open Classical in
theorem U2 {x0:dH}(hB:x0.Objects.length<=4294967296):∀(n j:Nat) (u1:Int),j<=x0.Objects.length->x0.Objects.length-j<n->o7 x0 n u1 j=if ∀i,j<=i->i<x0.Objects.length->jH x0 (i:Nat)=true then (true,u1,default) else (false,default,9)
 |0,j,_,_,h=>by omega
 |n+1,j,u1,hj,hn=>by
  simp only [o7,jF]
  by_cases hlt:j<x0.Objects.length
  .have e1:(!decide ((j:Int)<(x0.Objects.length:Int)))=false:=by rw [decide_eq_true (by omega)];rfl
   rw [e1]
   simp only [cond_false]
   cases ho:jH x0 (j:Nat) with
   |false=>
    rw [if_neg (fun hh=>by have:=hh j (Nat.le_refl _) hlt;rw [ho] at this;cases this)]
    rfl
   |true=>
    simp only [Bool.not_true,cond_false]
    rw [G_ (by omega) (by omega)]
    have e2:((j:Int)+1)=((j+1:Nat):Int):=by omega
    rw [e2,U2 hB n (j+1) u1 (by omega) (by omega)]
    have:(∀i,j+1<=i->i<x0.Objects.length->jH x0 (i:Nat)=true)↔(∀i,j<=i->i<x0.Objects.length->jH x0 (i:Nat)=true):=by
     constructor
     .intro hh i h1 h2
      by_cases e:i=j
      .subst e;exact ho
      .exact hh i (by omega) h2
     .intro hh i h1 h2;exact hh i (by omega) h2
    simp only [this]
  .have e1:(!decide ((j:Int)<(x0.Objects.length:Int)))=true:=by rw [decide_eq_false (by omega)];rfl
   rw [e1,if_pos (fun i h1 h2=>by omega)]
   rfl
theorem abG {x0:dH}(h:decide ((jT dJ.enc x0.Objects:Int) > 4096)=false):x0.Objects.length<=4294967296:=by
 have:=of_decide_eq_false h
 rw [jF] at this;omega
theorem U3 {x0:dH}(h:∀i,i<x0.Objects.length->jH x0 (i:Nat)=true):Ze x0:=by
 intro i hi hk
 rcases Ns (h i hi) with h1|⟨h1,h2⟩
 .exact absurd h1 hk
 .have:=ad4 h2 h1
  exact this
theorem anQ {x0:dH}(hB:x0.Objects.length<=4294967296)(h:mg (o7 x0 (x0.Objects.length+1) 0 0).1=0):Ze x0:=by
 have e:=U2 hB (x0.Objects.length+1) 0 0 (Nat.zero_le _) (by omega)
 have e0:((0:Nat):Int)=0:=rfl
 rw [e0] at e
 rw [e] at h
 split at h<;>rename_i hc
 .exact U3 fun i hi=>hc i (Nat.zero_le _) hi
 .simp [mg] at h
structure Xv (h:dH):Prop where
 len:h.Objects.length<=4096
 obj:∀i,i<h.Objects.length->jH h (i:Nat)=true
 lps:qy h=false
theorem O9 {h:dH}:lY h=0↔Xv h:=by
 unfold lY
 dsimp only
 rw [jF]
 by_cases hl:h.Objects.length<=4096
 .have e1:decide ((h.Objects.length:Int) > 4096)=false:=decide_eq_false (by omega)
  have e:=U2 (x0:=h) (by omega) (h.Objects.length+1) 0 0 (Nat.zero_le _) (by omega)
  have e0:((0:Nat):Int)=0:=rfl
  rw [e0] at e
  rw [e1,e]
  simp only [cond_false]
  by_cases hc:∀i,0<=i->i<h.Objects.length->jH h (i:Nat)=true
  .rw [if_pos hc]
   have e2:(!dU (mg true) 0)=false:=rfl
   simp only [e2,cond_false]
   cases hL:qy h with
   |true=>exact ⟨fun h=>absurd h (by decide),fun h=>by have:=h.lps;rw [hL] at this;cases this⟩
   |false=>exact ⟨fun _=>⟨hl,fun i hi=>hc i (Nat.zero_le _) hi,hL⟩,fun _=>rfl⟩
  .rw [if_neg hc]
   have e2:(!dU (mg false) 0)=true:=rfl
   simp only [e2,cond_true]
   exact ⟨fun h=>absurd h (by decide),fun h=>absurd (fun i _ hi=>h.obj i hi) hc⟩
 .have e1:decide ((h.Objects.length:Int) > 4096)=true:=decide_eq_true (by omega)
  rw [e1]
  exact ⟨fun h=>absurd h (by simp),fun h=>absurd h.len hl⟩
theorem Xv.pok {h:dH}(k:Xv h):Ze h:=U3 k.obj
def run (h:dH):Nat->Nat->Bool
 |0,_=>false
 |n+1,i=>bif dU (CP h i) 1 then true else run h n (Bz h i).toNat
theorem QU {h:dH}:∀{n i:Nat},run h n i=true->run h (n+1) i=true
 |0,_,h=>by cases h
 |n+1,i,hr=>by
  simp only [run] at hr ⊢
  cases hk:dU (CP h i) 1 with
  |true=>rfl
  |false=>rw [hk] at hr;exact QU hr
theorem aqz {h:dH}{n m i:Nat}(hr:run h n i=true)(hm:n<=m):run h m i=true:=by
 obtain ⟨k,rfl⟩:=Nat.le.dest hm
 clear hm
 induction k with
 |zero=>exact hr
 |succ k ih=>exact QU ih
theorem O_ {h:dH}{i:Nat}:∀{n:Nat},run h n i=true->∃k,run h (k+1) i=true/\run h k i=false
 |0,hr=>by cases hr
 |n+1,hr=>by
  cases hk:run h n i with
  |false=>exact ⟨n,hr,hk⟩
  |true=>exact O_ hk
def U4 (h:dH):Prop:=∀i,i<h.Objects.length->∃n,run h n i=true
def ayX (h:dH):Nat->Nat->List Nat
 |0,_=>[]
 |n+1,i=>i::ayX h n (Bz h i).toNat
theorem Xw {h:dH}:∀{n i:Nat},run h n i=true->(n=0\/run h (n-1) i=false)->∀x∈ayX h n i,run h n x=true
 |0,i,hr,_=>by cases hr
 |n+1,i,hr,hl=>by
  intro x hx
  rcases List.mem_cons.1 hx with rfl|hx
  .exact hr
  .cases n with
   |zero=>cases hx
   |succ n=>
    have hl:run h (n+1) i=false:=by simpa using hl
    have hk:dU (CP h i) 1=false:=by
     cases hk:dU (CP h i) 1 with
     |false=>rfl
     |true=>simp only [run,hk,cond_true] at hl;cases hl
    have h1:run h (n+1) (Bz h i).toNat=true:=by
     have:run h (n+2) i=(bif dU (CP h i) 1 then true else run h (n+1) (Bz h i).toNat):=rfl
     rw [this,hk] at hr;exact hr
    have h2:run h n (Bz h i).toNat=false:=by
     have:run h (n+1) i=(bif dU (CP h i) 1 then true else run h n (Bz h i).toNat):=rfl
     rw [this,hk] at hl;exact hl
    exact QU (Xw h1 (.inr (by simpa using h2)) x hx)
theorem abH {h:dH}(hP:Ze h):∀{n i:Nat},i<h.Objects.length->run h (n+1) i=true->run h n i=false->(ayX h (n+1) i).Nodup/\(∀x∈ayX h (n+1) i,x<h.Objects.length)/\(ayX h (n+1) i).length=n+1
 |0,i,hi,hr,hl=>by simp [ayX,hi]
 |n+1,i,hi,hr,hl=>by
  have hk:dU (CP h i) 1=false:=by
   cases hk:dU (CP h i) 1 with
   |false=>rfl
   |true=>simp only [run,hk,cond_true] at hl;cases hl
  have h1:run h (n+1) (Bz h i).toNat=true:=by
   have:run h (n+2) i=(bif dU (CP h i) 1 then true else run h (n+1) (Bz h i).toNat):=rfl
   rw [this,hk] at hr;exact hr
  have h2:run h n (Bz h i).toNat=false:=by
   have:run h (n+1) i=(bif dU (CP h i) 1 then true else run h n (Bz h i).toNat):=rfl
   rw [this,hk] at hl;exact hl
  obtain ⟨p0,p1⟩:=hP i hi (Cj.1 hk)
  obtain ⟨c1,c2,c3⟩:=abH hP (i:=(Bz h i).toNat) (by omega) h1 h2
  refine ⟨?_,?_,?_⟩
  .show (i::ayX h (n+1) (Bz h i).toNat).Nodup
   refine List.nodup_cons.2 ⟨fun hm=>?_,c1⟩
   have:=Xw h1 (.inr (by simpa using h2)) i hm
   rw [hl] at this;cases this
  .intro x hx
   rcases List.mem_cons.1 hx with rfl|hx
   .exact hi
   .exact c2 x hx
  .show (i::ayX h (n+1) (Bz h i).toNat).length=_
   rw [List.length_cons,c3]
theorem anR {h:dH}(hP:Ze h)(ha:U4 h){i:Nat}(hi:i<h.Objects.length):run h h.Objects.length i=true:=by
 obtain ⟨n,hn⟩:=ha i hi
 obtain ⟨k,h1,h2⟩:=O_ hn
 obtain ⟨c1,c2,c3⟩:=abH hP hi h1 h2
 have:=List.Nodup.length_le_of_subset c1 (l₂:=List.range h.Objects.length) fun x hx=>List.mem_range.2 (c2 x hx)
 rw [c3,List.length_range] at this
 exact aqz h1 this
theorem abI {x0:dH}{u4:List Bool}:∀{n:Nat} {u5:Bool} {u6:Int} {m:List (Int×Bool)},jM x0 u4 n u5 u6 m=true->(f_ x0 u4 n u5 u6 m).1=true\/((f_ x0 u4 n u5 u6 m).1=false/\(f_ x0 u4 n u5 u6 m).2.2.2.2.1=true)
 |0,_,_,_,h=>by cases h
 |n+1,u5,u6,m,h=>by
  simp only [jM] at h
  simp only [f_]
  cases hb:(!(!(u4.getD u6.toNat default))) with
  |true=>exact .inl rfl
  |false=>
   cases hg:(mJ false u6 m).2 with
   |true=>exact .inr ⟨rfl,rfl⟩
   |false=>
    cases hq:dU (x0.Objects.getD u6.toNat default).fA.Kind 1 with
    |true=>exact .inl rfl
    |false=>
     rw [hb,hg,hq] at h
     exact abI h
theorem Xx {x0:dH}(hP:Ze x0){u4:List Bool}(hd:∀i,u4.getD i default=true->∃n,run x0 n i=true):∀{n:Nat} {u5:Bool} {u6:Int} {m:List (Int×Bool)},(f_ x0 u4 n u5 u6 m).1=true->
  (∃k,run x0 k u6.toNat=true)/\(∀e∈(f_ x0 u4 n u5 u6 m).2.2.2.1,e∈m\/∃k,run x0 k e.1.toNat=true)/\(∀e∈m,∃e'∈(f_ x0 u4 n u5 u6 m).2.2.2.1,e'.1=e.1)/\(u4.getD u6.toNat default=true\/∃e'∈(f_ x0 u4 n u5 u6 m).2.2.2.1,e'.1=u6)
 |0,_,_,_,h=>by cases h
 |n+1,u5,u6,m,h=>by
  have hput:∀{l:List (Int×Bool)},(∀e∈mM u6 true l,e∈l\/e=(u6,true))/\(∀e∈l,∃e'∈mM u6 true l,e'.1=e.1)/\(u6,true)∈mM u6 true l:=by
   intro l
   induction l with
   |nil=>exact ⟨fun e he=>.inr (by simpa [mM] using he),fun e he=>(by cases he),by simp [mM]⟩
   |cons a r ih=>
    obtain ⟨i1,i2,i3⟩:=ih
    simp only [mM]
    by_cases hc:u6=a.1
    .rw [if_pos hc]
     refine ⟨fun e he=>?_,fun e he=>?_,by simp⟩
     .rcases List.mem_cons.1 he with rfl|he
      .exact .inr rfl
      .exact .inl (List.mem_cons_of_mem _ he)
     .rcases List.mem_cons.1 he with rfl|he
      .exact ⟨_,List.mem_cons_self ..,hc⟩
      .exact ⟨e,List.mem_cons_of_mem _ he,rfl⟩
    .rw [if_neg hc]
     refine ⟨fun e he=>?_,fun e he=>?_,List.mem_cons_of_mem _ i3⟩
     .rcases List.mem_cons.1 he with rfl|he
      .exact .inl (List.mem_cons_self ..)
      .rcases i1 e he with h|h
       .exact .inl (List.mem_cons_of_mem _ h)
       .exact .inr h
     .rcases List.mem_cons.1 he with rfl|he
      .exact ⟨_,List.mem_cons_self ..,rfl⟩
      .obtain ⟨e',h1,h2⟩:=i2 e he
       exact ⟨e',List.mem_cons_of_mem _ h1,h2⟩
  simp only [f_] at h ⊢
  cases hb:(!(!(u4.getD u6.toNat default))) with
  |true=>
   have hb':u4.getD u6.toNat default=true:=by simpa using hb
   exact ⟨hd _ hb',fun e he=>.inl he,fun e he=>⟨e,he,rfl⟩,.inl hb'⟩
  |false=>
   cases hg:(mJ false u6 m).2 with
   |true=>rw [hb,hg] at h;cases h
   |false=>
    obtain ⟨p1,p2,p3⟩:=hput (l:=m)
    cases hq:dU (x0.Objects.getD u6.toNat default).fA.Kind 1 with
    |true=>
     have hr:run x0 1 u6.toNat=true:=by
      show (bif dU (CP x0 u6.toNat) 1 then true else _)=true
      unfold CP;rw [hq];rfl
     refine ⟨⟨1,hr⟩,fun e he=>?_,p2,.inr ⟨_,p3,rfl⟩⟩
     rcases p1 e he with h' | h'
     .exact .inl h'
     .subst h';exact .inr ⟨1,hr⟩
    |false=>
     rw [hb,hg,hq] at h
     simp only [cond_false] at h ⊢
     obtain ⟨⟨k,a1⟩,a2,a3,a4⟩:=Xx hP hd h
     have hr:run x0 (k+1) u6.toNat=true:=by
      show (bif dU (CP x0 u6.toNat) 1 then true else run x0 k (Bz x0 u6.toNat).toNat)=true
      unfold CP Bz;rw [hq];exact a1
     refine ⟨⟨k+1,hr⟩,fun e he=>?_,fun e he=>?_,.inr ?_⟩
     .rcases a2 e he with h' | h'
      .rcases p1 e h' with h'' | h''
       .exact .inl h''
       .subst h'';exact .inr ⟨k+1,hr⟩
      .exact .inr h'
     .obtain ⟨e1,q1,q2⟩:=p2 e he
      obtain ⟨e2,q3,q4⟩:=a3 e1 q1
      exact ⟨e2,q3,q4.trans q2⟩
     .obtain ⟨e2,q3,q4⟩:=a3 _ p3
      exact ⟨e2,q3,q4⟩
theorem abJ {m:List (Int×Bool)}{d:List Bool}{i:Nat}(hi:i<d.length):(MS m d).getD i default=(d.getD i default||m.any fun e=>Nat.beq e.1.toNat i):=by
 simp [MS,List.getD_eq_getElem?_getD,List.getElem?_mapIdx,hi]
theorem abK {m:List (Int×Bool)}{d:List Bool}:(MS m d).length=d.length:=by simp [MS]
theorem abL {x0:dH}(hP:Ze x0)(hB:x0.Objects.length<=4294967296):∀(n j:Nat) (u2:Bool) (u4:List Bool),j<=x0.Objects.length->x0.Objects.length-j<n->u4.length=x0.Objects.length->
  (∀i,u4.getD i default=true->∃k,run x0 k i=true)->(∀i,i<j->u4.getD i default=true)->
  ((jZ x0 n u2 j u4).1=true/\U4 x0)\/((jZ x0 n u2 j u4).1=false/\(jZ x0 n u2 j u4).2.2.2.1=true)
 |0,j,_,_,_,h,_,_,_=>by omega
 |n+1,j,u2,u4,hj,hn,hl,hd,ha=>by
  simp only [jZ,jF]
  by_cases hlt:j<x0.Objects.length
  .have e1:(!decide ((j:Int)<(x0.Objects.length:Int)))=false:=by rw [decide_eq_true (by omega)];rfl
   rw [e1]
   simp only [cond_false]
   rcases abI (O8 hP (u4:=u4) (u2:=u2) (u3:=(j:Int))) with hw|⟨hw,hw2⟩
   .rw [hw]
    have e2:(!dU (mg true) 0)=false:=rfl
    simp only [e2,cond_false]
    rw [G_ (by omega) (by omega)]
    have e3:((j:Int)+1)=((j+1:Nat):Int):=by omega
    rw [e3]
    obtain ⟨a1,a2,a3,a4⟩:=Xx hP hd hw
    generalize (f_ x0 u4 (x0.Objects.length+3) u2 (j:Int) []).2.2.2.1=m at a2 a4
    refine abL hP hB n (j+1) _ _ (by omega) (by omega) (by rw [abK,hl]) (fun i hi=>?_) (fun i hi=>?_)
    .by_cases hil:i<u4.length
     .rw [abJ hil,Bool.or_eq_true] at hi
      rcases hi with hi|hi
      .exact hd i hi
      .rw [List.any_eq_true] at hi
       obtain ⟨e,he,hei⟩:=hi
       have hei:=Nat.eq_of_beq_eq_true hei
       rcases a2 e he with h' | h'
       .cases h'
       .rw [hei] at h';exact h'
     .rw [List.getD_eq_getElem?_getD,List.getElem?_eq_none (by rw [abK];omega)] at hi;cases hi
    .rw [abJ (by omega),Bool.or_eq_true]
     by_cases hij:i<j
     .exact .inl (ha i hij)
     .have:i=j:=by omega
      subst this
      rcases a4 with a4|⟨e,he,hei⟩
      .left;simpa using a4
      .right
       rw [List.any_eq_true]
       exact ⟨e,he,by rw [hei];simp⟩
   .rw [hw]
    have e2:(!dU (mg false) 0)=true:=rfl
    simp only [e2,cond_true]
    exact .inr ⟨trivial,hw2⟩
  .have e1:(!decide ((j:Int)<(x0.Objects.length:Int)))=true:=by rw [decide_eq_false (by omega)];rfl
   rw [e1]
   simp only [cond_true]
   exact .inl ⟨trivial,fun i hi=>hd i (ha i (by omega))⟩
theorem alg {n i:Nat}:(List.replicate n false).getD i default=false:=by
 rw [List.getD_eq_getElem?_getD,List.getElem?_replicate]
 split<;>rfl
theorem ad5 {x0:dH}(hP:Ze x0)(hB:x0.Objects.length<=4294967296)(h:qy x0=false):U4 x0:=by
 unfold qy at h
 dsimp only at h
 rw [jF,Int.toNat_natCast] at h
 have e0:((0:Nat):Int)=0:=rfl
 rcases abL hP hB (x0.Objects.length+1) 0 false (List.replicate x0.Objects.length false) (Nat.zero_le _) (by omega) (by simp) (fun i hi=>by rw [alg] at hi;cases hi) (fun i hi=>by omega) with ⟨h1,h2⟩|⟨h1,h2⟩
 .exact h2
 .rw [e0] at h1 h2
  rw [h1] at h
  have e2:(!dU (mg false) 0)=true:=rfl
  rw [e2] at h
  simp only [cond_true] at h
  rw [h2] at h;cases h
theorem Xv.anS {h:dH}(k:Xv h):U4 h:=ad5 k.pok (by have:=k.len;omega) k.lps
theorem abM {x0:dH}{x1:Int}:∀{k:Nat} {u3:Bool} {v:dL},(dR v=true->run x0 k v.Ref.toNat=true)->kD x0 x1 (k+1) u3 v=true
 |k,u3,v,hr=>by
  simp only [kD]
  cases ho:dR v with
  |false=>rfl
  |true=>
   simp only [Bool.not_true,cond_false]
   cases dU v.Ref x1 with
   |true=>rfl
   |false=>
    simp only [cond_false]
    cases dU (x0.Objects.getD v.Ref.toNat default).Kind 6 with
    |true=>rfl
    |false=>
     simp only [cond_false]
     have hr:=hr ho
     match k,hr with
     |0,hr=>cases hr
     |j+1,hr=>
      refine abM fun hp=>?_
      have:run x0 (j+1) v.Ref.toNat=(bif dU (CP x0 v.Ref.toNat) 1 then true else run x0 j (Bz x0 v.Ref.toNat).toNat):=rfl
      rw [this] at hr
      cases hk:dU (CP x0 v.Ref.toNat) 1 with
      |false=>rw [hk] at hr;exact hr
      |true=>
       have hk:=rQ.1 hk
       unfold CP at hk
       unfold dR at hp
       rw [hk] at hp;simp at hp
theorem ad6 {x0:dH}(hC:lY x0=0){x1:Int}{x2:dL}(h2:hIn x0 x2){u3:Bool}:kD x0 x1 (x0.Objects.length+1) u3 x2=true:=by
 have k:=O9.1 hC
 exact abM fun ho=>anR k.pok k.anS (by have:=h2 ho;omega)
theorem aqA {h:dH}{v:dL}(q:pX h v=true):hIn h v:=by
 intro i
 unfold pX at q
 dsimp only at q
 rw [i] at q
 simp only [Bool.not_true,cond_false] at q
 obtain ⟨q1,-⟩:=Ef q
 rw [jF] at q1
 simp only [Bool.or_eq_false_iff,Bool.not_eq_false',decide_eq_false_iff_not] at q1
 exact ⟨QT q1.1,by omega⟩
theorem alh {h:dH}{v:dL}(q:nH h v=true):hIn h v:=by
 unfold nH at q
 dsimp only at q
 rw [Bool.and_eq_true] at q
 exact aqA q.2
end Go.Fw
end
section
namespace Go.Fw
theorem Qb {x0:dH}:∀(n:Nat) (j:Int) (l:List dJ),(oH x0 n j l).length<=l.length
 |0,j,l=>Nat.zero_le _
 |n+1,j,l=>by
  simp only [oH]
  cases (!(decide ((j:Int)<(jT dJ.enc x0.Objects)))) with
  |true=>exact Nat.le_refl _
  |false=>exact Nat.le_trans (Qb n _ _) (by simp)
theorem U5 (x0:dH):IB x0=Ec x0:=by
 unfold IB Ec
 dsimp only
 rw [jF,Int.toNat_natCast]
 generalize hr:oH x0 (x0.Objects.length+1) 0 _=r
 have:=Qb (x0:=x0) (x0.Objects.length+1) 0 (List.take x0.Objects.length x0.Objects++List.drop (min x0.Objects.length x0.Objects.length) (List.replicate x0.Objects.length (dJ.mk 0 (dL.mk 0 0 [] 0) false [] (dL.mk 0 0 [] 0) (dL.mk 0 0 [] 0) [] false false)))
 rw [hr] at this
 rw [List.drop_zero,Nat.sub_zero,List.take_of_length_le]
 simpa using this
def d0 : dN:=dN.mk 0 (dL.mk 0 0 [] 0) (dL.mk 0 0 [] 0) (dL.mk 0 0 [] 0) false false false
def v00 : dL:=dL.mk 0 0 [] 0
def Pg (h:dH)(a:oP):dH×wG×Int:=
 let o:=h.Objects.getD a.Object.toNat default
 let st (o':dJ):dH:=⟨h.Objects.set a.Object.toNat o'⟩
 let f:=lW o.Props a.Key
 bif dU a.Method 1 then (h,⟨1,o.fA,false,false,d0,[],0,[]⟩,0)
 else bif dU a.Method 2 then (bif h_ a.Value o.fA||!o.Ext||jR h a.Object a.Value then (h,iG (h_ a.Value o.fA),0) else (st {o with fA:=a.Value},iG true,0))
 else bif dU a.Method 3 then (h,iG o.Ext,0)
 else bif dU a.Method 4 then (st {o with Ext:=false},iG true,0)
 else bif dU a.Method 5 then (h,⟨1,v00,false,f.2.1,f.1,[],0,[]⟩,0)
 else bif dU a.Method 6 then
  let ap:=gu o.Ext a.dQ f.2.1 f.1
  let pt:=lU o.Props a.Key ap.1
  bif !ap.2.1 then (h,iG false,0) else bif jk pt.2 0 then (h,⟨3,v00,false,false,d0,[],2,[116,111,111,32,109,97,110,121]⟩,0) else (st {o with Props:=pt.1},iG true,0)
 else bif dU a.Method 10 then
  bif f.2.1&&!f.1.Configurable then (h,iG false,0) else (st {o with Props:=(xY o.Props a.Key).1},iG true,0)
 else (h,⟨1,v00,false,false,d0,(Uw o.Props).1,0,[]⟩,0)
end Go.Fw
end
section
namespace Go.Fw
def U6 (h:dH)(o:dJ)(n:Int):Bool:=
 bif (dU o.Kind 6) then sJ h o n
 else bif ((((!(oG o.Target 0))&&(!(((((dU o.Kind 5)&&dR o.Target)&&(decide ((o.Target.Ref:Int)<n)))&&dZ h o.Target)&&(dU (h.Objects.getD (o.Target.Ref:Int).toNat default).Kind 6))))||(!(oG o.Handler 0)))||((sNe o.Text [])&&(jk o.Kind 3))) then false
 else bif ((((jk o.fA.Kind 1)&&(!(dR o.fA)))||(!(dZ h o.fA)))||(jk (jG o.Props) 0)) then false
 else bif (!(dU (mg (gG h o (o.Props.length+1) false 0).1) 0)) then (gG h o (o.Props.length+1) false 0).2.2
 else bif (dU o.Kind 1) then ((!o.Calls)&&(!o.Makes))
 else bif (dU o.Kind 2) then (((!o.Calls)&&(!o.Makes))&&Bj o.Props)
 else bif (dU o.Kind 3) then (((!o.Calls)&&(!o.Makes))&&Bl o.Props o.Text)
 else bif (dU o.Kind 4) then (o.Calls&&o.Makes)
 else bif (dU o.Kind 5) then o.Calls
 else false
theorem Jq {h:dH}{n:Int}:jH h n=U6 h (h.Objects.getD n.toNat default) n:=rfl
structure ali (h k:dH):Prop where
 len:h.Objects.length=k.Objects.length
 kind:∀i,(h.Objects.getD i default).Kind=(k.Objects.getD i default).Kind
 calls:∀i,(h.Objects.getD i default).Calls=(k.Objects.getD i default).Calls
 makes:∀i,(h.Objects.getD i default).Makes=(k.Objects.getD i default).Makes
theorem alj {h k:dH}(s:ali h k)(v:dL):dZ h v=dZ k v:=by
 unfold dZ Eb
 dsimp only
 rw [jF,jF,s.len,s.calls,s.makes]
theorem aoQ {h k:dH}(s:ali h k){x2:Int}:∀{n:Nat} {a:Bool} {b:Int} {l:List dL},jO h x2 n a b l=jO k x2 n a b l
 |0,_,_,_=>rfl
 |n+1,a,b,l=>by simp only [jO,alj s,aoQ s (n:=n)]
theorem alk {h k:dH}(s:ali h k){o:dJ}:∀{n:Nat} {a:Bool} {b:Int},gG h o n a b=gG k o n a b
 |0,_,_=>rfl
 |n+1,a,b=>by simp only [gG,alj s,alk s (n:=n)]
theorem anT {h k:dH}(s:ali h k)(o:dJ)(n:Int):U6 h o n=U6 k o n:=by
 unfold U6 sJ
 dsimp only
 simp only [alj s,aoQ s,alk s,s.kind,s.calls,s.makes]
theorem alm {h k:dH}(hk:∀i,CP h i=CP k i)(hr:∀i,Bz h i=Bz k i):∀{n i:Nat},run h n i=run k n i
 |0,_=>rfl
 |n+1,i=>by simp only [run,hk,hr,alm hk hr (n:=n)]
theorem Xy {x0:dH}{u4:List Bool}(hP:Ze x0):∀{n:Nat} {u5:Bool} {u6:Int} {m:List (Int×Bool)} {k:Nat},jM x0 u4 n u5 u6 m=true->(∀e∈m,e.2=true/\0<=e.1)->0<=u6->run x0 (k+1) u6.toNat=true->run x0 k u6.toNat=false->
  (∀e∈m,run x0 (k+1) e.1.toNat=false)->(f_ x0 u4 n u5 u6 m).1=true
 |0,_,_,_,_,h,_,_,_,_,_=>by cases h
 |n+1,u5,u6,m,k,h,hm,h0,hr,hl,hb=>by
  simp only [jM] at h
  simp only [f_]
  cases hd:(!(!(u4.getD u6.toNat default))) with
  |true=>rfl
  |false=>
   have hg:(mJ false u6 m).2=false:=by
    rw [U1 (fun e he=>(hm e he).1)]
    refine decide_eq_false fun hmem=>?_
    obtain ⟨e,he,hee⟩:=List.mem_map.1 hmem
    have:=hb e he
    rw [hee,hr] at this;cases this
   rw [hg]
   cases hq:dU (x0.Objects.getD u6.toNat default).fA.Kind 1 with
   |true=>rfl
   |false=>
    rw [hd,hg,hq] at h
    simp only [cond_false] at h ⊢
    have hnm:u6∉m.map (·.1):=by
     rw [U1 (fun e he=>(hm e he).1)] at hg
     exact of_decide_eq_false hg
    rw [abC hnm] at h ⊢
    have hk:dU (CP x0 u6.toNat) 1=false:=hq
    have hr':run x0 k (Bz x0 u6.toNat).toNat=true:=by
     have:run x0 (k+1) u6.toNat=(bif dU (CP x0 u6.toNat) 1 then true else run x0 k (Bz x0 u6.toNat).toNat):=rfl
     rw [this,hk] at hr;exact hr
    match k,hr',hl,hb,hr with
    |0,hr',_,_,_=>cases hr'
    |j+1,hr',hl,hb,hr=>
     have hl':run x0 j (Bz x0 u6.toNat).toNat=false:=by
      have:run x0 (j+1) u6.toNat=(bif dU (CP x0 u6.toNat) 1 then true else run x0 j (Bz x0 u6.toNat).toNat):=rfl
      rw [this,hk] at hl;exact hl
     refine Xy hP h (fun e he=>?_) (alf hP (Cj.1 hq)) hr' hl' (fun e he=>?_)
     .rcases List.mem_append.1 he with he|he
      .exact hm e he
      .simp at he;subst he;exact ⟨rfl,h0⟩
     .rcases List.mem_append.1 he with he|he
      .cases hc:run x0 (j+1) e.1.toNat with
       |false=>rfl
       |true=>have:=QU hc;rw [hb e he] at this;cases this
      .simp at he;subst he;exact hl
theorem U7 {x0:dH}(hP:Ze x0)(hB:x0.Objects.length<=4294967296)(ha:U4 x0):∀(n j:Nat) (u2:Bool) (u4:List Bool),j<=x0.Objects.length->x0.Objects.length-j<n->(jZ x0 n u2 j u4).1=true
 |0,j,_,_,_,h=>by omega
 |n+1,j,u2,u4,hj,hn=>by
  simp only [jZ,jF]
  by_cases hlt:j<x0.Objects.length
  .have e1:(!decide ((j:Int)<(x0.Objects.length:Int)))=false:=by rw [decide_eq_true (by omega)];rfl
   rw [e1]
   simp only [cond_false]
   obtain ⟨m,hm⟩:=ha j hlt
   obtain ⟨k,h1,h2⟩:=O_ hm
   have hw:=Xy hP (O8 hP (u4:=u4) (u2:=u2) (u3:=(j:Int))) (by simp) (by omega) (k:=k) (by simpa using h1) (by simpa using h2) (by simp)
   rw [hw]
   have e2:(!dU (mg true) 0)=false:=rfl
   simp only [e2,cond_false]
   rw [G_ (by omega) (by omega)]
   have e3:((j:Int)+1)=((j+1:Nat):Int):=by omega
   rw [e3]
   exact U7 hP hB ha n (j+1) _ _ (by omega) (by omega)
  .have e1:(!decide ((j:Int)<(x0.Objects.length:Int)))=true:=by rw [decide_eq_false (by omega)];rfl
   rw [e1];rfl
theorem ad7 {x0:dH}(hP:Ze x0)(hB:x0.Objects.length<=4294967296)(ha:U4 x0):qy x0=false:=by
 unfold qy
 dsimp only
 rw [jF,Int.toNat_natCast]
 have:=U7 hP hB ha (x0.Objects.length+1) 0 false (List.replicate x0.Objects.length false) (Nat.zero_le _) (by omega)
 have e0:((0:Nat):Int)=0:=rfl
 rw [e0] at this
 rw [this]
 rfl
theorem aln {α:Type}[Inhabited α]{l:List α}{i j:Nat}{x:α}(hi:i<l.length):(l.set i x).getD j default=if j=i then x else l.getD j default:=by
 rw [List.getD_eq_getElem?_getD,List.getElem?_set]
 by_cases h:i=j
 .subst h;simp [hi]
 .rw [if_neg h,if_neg (fun e=>h e.symm),List.getD_eq_getElem?_getD]
def zT (h:dH)(i:Nat)(o:dJ):dH:=⟨h.Objects.set i o⟩
theorem sW {h:dH}{i j:Nat}{o:dJ}(hi:i<h.Objects.length):(zT h i o).Objects.getD j default=if j=i then o else h.Objects.getD j default:=aln hi
theorem Jr {h:dH}{i:Nat}{o:dJ}:(zT h i o).Objects.length=h.Objects.length:=by simp [zT]
theorem aqB {h:dH}{i:Nat}{o:dJ}(hi:i<h.Objects.length)(hk:o.Kind=(h.Objects.getD i default).Kind)(hc:o.Calls=(h.Objects.getD i default).Calls)(hm:o.Makes=(h.Objects.getD i default).Makes):ali h (zT h i o):=by
 refine ⟨Jr.symm,fun j=>?_,fun j=>?_,fun j=>?_⟩<;>
 .rw [sW hi]
  by_cases e:j=i
  .subst e;rw [if_pos rfl];simp [hk,hc,hm]
  .rw [if_neg e]
theorem Xv.set {h:dH}(k:Xv h){i:Nat}(hi:i<h.Objects.length){o:dJ}(hk:o.Kind=(h.Objects.getD i default).Kind)(hc:o.Calls=(h.Objects.getD i default).Calls)(hm:o.Makes=(h.Objects.getD i default).Makes)
  (ho:U6 h o (i:Nat)=true) (ha:U4 (zT h i o)):Xv (zT h i o):=by
 have s:=aqB hi hk hc hm
 have asU:∀j,j<(zT h i o).Objects.length->jH (zT h i o) (j:Nat)=true:=fun j hj=>by
  rw [Jq,<- anT s,Int.toNat_natCast,sW hi]
  by_cases e:j=i
  .subst e;rw [if_pos rfl];exact ho
  .rw [if_neg e]
   have:=k.obj j (by rw [Jr] at hj;exact hj)
   rw [Jq,Int.toNat_natCast] at this
   exact this
 have hl:(zT h i o).Objects.length<=4096:=by rw [Jr];exact k.len
 exact ⟨hl,asU,ad7 (U3 asU) (by omega) ha⟩
theorem Xz {h:dH}{i:Nat}{o:dJ}(hi:i<h.Objects.length)(hp:o.fA=(h.Objects.getD i default).fA)(ha:U4 h):U4 (zT h i o):=by
 have hk:∀j,CP h j=CP (zT h i o) j:=fun j=>by
  unfold CP;rw [sW hi]
  by_cases e:j=i
  .subst e;rw [if_pos rfl,hp]
  .rw [if_neg e]
 have hr:∀j,Bz h j=Bz (zT h i o) j:=fun j=>by
  unfold Bz;rw [sW hi]
  by_cases e:j=i
  .subst e;rw [if_pos rfl,hp]
  .rw [if_neg e]
 intro j hj
 rw [Jr] at hj
 obtain ⟨n,hn⟩:=ha j hj
 exact ⟨n,by rw [<- alm hk hr];exact hn⟩
structure anU (h:dH)(o:dJ)(n:Int):Prop where
 tg:((((!(oG o.Target 0))&&(!(((((dU o.Kind 5)&&dR o.Target)&&(decide ((o.Target.Ref:Int)<n)))&&dZ h o.Target)&&(dU (h.Objects.getD (o.Target.Ref:Int).toNat default).Kind 6))))||(!(oG o.Handler 0)))||((sNe o.Text [])&&(jk o.Kind 3)))=false
 pk:((jk o.fA.Kind 1)&&(!(dR o.fA)))=false
 pin:dZ h o.fA=true
 tc:jG o.Props=0
 pv:∀p∈o.Props,dZ h p.dQ.Value=true/\dZ h p.dQ.Get=true/\dZ h p.dQ.Set=true
 kc:(bif (dU o.Kind 1) then ((!o.Calls)&&(!o.Makes)) else bif (dU o.Kind 4) then (o.Calls&&o.Makes) else o.Calls)=true
theorem FK {l:List dI}(h:jG l=0):l.length<=1024:=by
 by_cases hl:l.length<=1024
 .exact hl
 .unfold jG at h
  dsimp only at h
  rw [jF,decide_eq_true (by omega)] at h
  cases h
open Classical in
theorem ad8 {h:dH}{o:dJ}(hB:o.Props.length<=4294967296):∀(n j:Nat) (a:Bool),j<=o.Props.length->o.Props.length-j<n->gG h o n a j=if ∀p∈o.Props.drop j,dZ h p.dQ.Value=true/\dZ h p.dQ.Get=true/\dZ h p.dQ.Set=true then (true,a,default) else (false,default,false)
 |0,j,_,_,hh=>by omega
 |n+1,j,a,hj,hn=>by
  simp only [gG,jF,Int.toNat_natCast]
  by_cases hlt:j<o.Props.length
  .have e1:(!decide ((j:Int)<(o.Props.length:Int)))=false:=by rw [decide_eq_true (by omega)];rfl
   have e4:o.Props.drop j=o.Props.getD j default::o.Props.drop (j+1):=by
    rw [List.drop_eq_getElem_cons hlt,List.getD_eq_getElem?_getD,List.getElem?_eq_getElem hlt];rfl
   rw [e1,G_ (by omega) (by omega)]
   have e2:((j:Int)+1)=((j+1:Nat):Int):=by omega
   rw [e2]
   simp only [cond_false]
   rw [ad8 hB n (j+1) a (by omega) (by omega),e4]
   simp only [List.mem_cons,forall_eq_or_imp]
   generalize o.Props.getD j default=p
   cases dZ h p.dQ.Value<;>cases dZ h p.dQ.Get<;>cases dZ h p.dQ.Set<;>simp
  .have e1:(!decide ((j:Int)<(o.Props.length:Int)))=true:=by rw [decide_eq_false (by omega)];rfl
   rw [e1,if_pos (by rw [List.drop_eq_nil_of_le (by omega)];simp)]
   rfl
theorem abN {h:dH}{o:dJ}{n:Int}(hk:o.Kind=1\/o.Kind=4\/o.Kind=5):U6 h o n=true↔anU h o n:=by
 have h6:dU o.Kind 6=false:=Cj.2 (by omega)
 have h2:dU o.Kind 2=false:=Cj.2 (by omega)
 have h3:dU o.Kind 3=false:=Cj.2 (by omega)
 have hlast:(bif (dU o.Kind 1) then ((!o.Calls)&&(!o.Makes)) else bif (dU o.Kind 2) then (((!o.Calls)&&(!o.Makes))&&Bj o.Props) else bif (dU o.Kind 3) then (((!o.Calls)&&(!o.Makes))&&Bl o.Props o.Text) else bif (dU o.Kind 4) then (o.Calls&&o.Makes) else bif (dU o.Kind 5) then o.Calls else false)=(bif (dU o.Kind 1) then ((!o.Calls)&&(!o.Makes)) else bif (dU o.Kind 4) then (o.Calls&&o.Makes) else o.Calls):=by
  rw [h2,h3]
  rcases hk with e|e|e<;>rw [e]<;>rfl
 unfold U6
 rw [h6,hlast]
 simp only [cond_false]
 constructor
 .intro q
  obtain ⟨q1,q⟩:=Ef q
  obtain ⟨q2,q⟩:=Ef q
  simp only [Bool.or_eq_false_iff,Bool.not_eq_false'] at q2
  have tc:=Ii.1 q2.2
  have e:=ad8 (h:=h) (o:=o) (by have:=FK tc;omega) (o.Props.length+1) 0 false (Nat.zero_le _) (by omega)
  have e0:((0:Nat):Int)=0:=rfl
  rw [e0] at e
  rw [e] at q
  split at q<;>rename_i hc
  .exact ⟨q1,q2.1.1,q2.1.2,tc,by simpa using hc,q⟩
  .simp [mg,dU] at q
 .intro p
  have e:=ad8 (h:=h) (o:=o) (by have:=FK p.tc;omega) (o.Props.length+1) 0 false (Nat.zero_le _) (by omega)
  have e0:((0:Nat):Int)=0:=rfl
  rw [e0,if_pos (by simpa using p.pv)] at e
  rw [p.tg,e,p.pk,p.pin,Ii.2 p.tc]
  exact p.kc
end Go.Fw
end
section
namespace Go.Fw
structure HWf (h:dH):Prop where
 ps:∀o∈h.Objects,∀p∈o.Props,p.dQ.ok
 pr:∀o∈h.Objects,o.fA.ok
theorem HWf.at {h:dH}(w:HWf h)(i:Nat):(∀p∈(h.Objects.getD i default).Props,p.dQ.ok)/\(h.Objects.getD i default).fA.ok:=by
 by_cases hi:i<h.Objects.length
 .have:h.Objects.getD i default∈h.Objects:=by rw [List.getD_eq_getElem?_getD,List.getElem?_eq_getElem hi];exact List.getElem_mem hi
  exact ⟨w.ps _ this,w.pr _ this⟩
 .rw [List.getD_eq_getElem?_getD,List.getElem?_eq_none (by omega)]
  exact ⟨fun p hp=>(by cases hp),⟨⟨by decide,by decide⟩,by decide⟩⟩
theorem HWf.set {h:dH}(w:HWf h){i:Nat}{o:dJ}(h1:∀p∈o.Props,p.dQ.ok)(h2:o.fA.ok):HWf (zT h i o):=by
 refine ⟨fun x hx=>?_,fun x hx=>?_⟩
 .rcases List.mem_or_eq_of_mem_set hx with hx|hx
  .exact w.ps x hx
  .subst hx;exact h1
 .rcases List.mem_or_eq_of_mem_set hx with hx|hx
  .exact w.pr x hx
  .subst hx;exact h2
theorem QV {h:dH}{v:dL}(q:pX h v=true):dZ h v=true:=by
 unfold pX at q
 unfold dZ Eb
 dsimp only at q ⊢
 cases ho:dR v with
 |false=>rw [ho] at q;simp at q;simp [q]
 |true=>
  rw [ho] at q
  simp only [Bool.not_true,cond_false] at q
  obtain ⟨q1,q2⟩:=Ef q
  simp only [Bool.or_eq_false_iff,Bool.not_eq_false',decide_eq_false_iff_not] at q1
  rw [q1.1]
  simp only [Bool.not_true,cond_false,Bool.false_or,Bool.and_eq_true,decide_eq_true_eq]
  refine ⟨by omega,?_⟩
  generalize h.Objects.getD v.Ref.toNat default=o at q2 ⊢
  simp only [Bool.or_eq_true,Bool.and_eq_true,Bool.not_eq_true',rQ] at q2
  rcases q2 with (⟨a,b⟩|⟨⟨a,b⟩,c⟩)|⟨⟨a,b⟩,c⟩
  .rw [b,a];rfl
  .rw [b,c,a];rfl
  .rw [b,c,a];rfl
structure Asked (h:dH)(a:oP):Prop where
 i0:0<=a.Object
 i1:a.Object.toNat<h.Objects.length
 kind:(h.Objects.getD a.Object.toNat default).Kind=1\/(h.Objects.getD a.Object.toNat default).Kind=4\/(h.Objects.getD a.Object.toNat default).Kind=5
 m2:a.Method=2->nH h a.Value=true
 key:a.Method=5\/a.Method=6\/a.Method=10->vw a.Key=0
 m6:a.Method=6->rX a.dQ=0/\pX h a.dQ.Value=true/\pX h a.dQ.Get=true/\pX h a.dQ.Set=true
 mm:a.Method=1\/a.Method=2\/a.Method=3\/a.Method=4\/a.Method=5\/a.Method=6\/a.Method=10\/a.Method=11
theorem azv {α:Type}{l:List α}{i:Nat}{x y:α}(h:y∈l.set i x):y∈l\/y=x:=List.mem_or_eq_of_mem_set h
theorem anV {l:List dI}{k:dP}{d:dN}:∀p∈(lU l k d).1,p∈l\/p.dQ=d:=by
 unfold lU
 dsimp only
 intro p
 cases (jk (rZ l k) 0) with
 |true=>intro hp;cases hp
 |false=>
  cases (!rY d) with
  |true=>intro hp;cases hp
  |false=>
   cases (decide (Bg l k<0)&&dU (jT dI.enc l) 1024) with
   |true=>intro hp;cases hp
   |false=>
    cases decide (Bg l k<0) with
    |true=>
     intro hp
     simp only [cond_true,cond_false] at hp
     rcases List.mem_append.1 hp with hp|hp
     .exact .inl (List.mem_of_mem_drop (List.mem_of_mem_take hp))
     .simp at hp;subst hp;exact .inr rfl
    |false=>
     intro hp
     simp only [cond_false] at hp
     rcases azv (List.mem_of_mem_drop (List.mem_of_mem_take hp)) with hp|hp
     .exact .inl hp
     .subst hp;exact .inr rfl
theorem zin {h:dH}:dZ h (dL.mk 0 0 [] 0)=true:=by
 unfold dZ
 dsimp only
 have e1:iI (dL.mk 0 0 [] 0)=true:=by decide +kernel
 have e2:dR (dL.mk 0 0 [] 0)=false:=by decide +kernel
 rw [e1,e2];rfl
theorem FM {x0:Bool}{x1:dN}{x2:Bool}{x3:dN}(h:(gu x0 x1 x2 x3).2.1=true):ig x0 x1 x2 x3=(true,0):=by
 unfold gu at h
 dsimp only at h
 cases hc:(jk (ig x0 x1 x2 x3).2 0||!(ig x0 x1 x2 x3).1) with
 |true=>rw [hc] at h;cases h
 |false=>
  simp only [Bool.or_eq_false_iff,Bool.not_eq_false',Ii] at hc
  exact Prod.ext hc.2 hc.1
theorem alo {h:dH}{x0:Bool}{x1:dN}{x2:Bool}{x3:dN}(h1:x1.ok)(h3:x3.ok)(q:(gu x0 x1 x2 x3).2.1=true)(i1:dZ h x1.Value=true/\dZ h x1.Get=true/\dZ h x1.Set=true)(i3:dZ h x3.Value=true/\dZ h x3.Get=true/\dZ h x3.Set=true) :
  dZ h (gu x0 x1 x2 x3).1.Value=true/\dZ h (gu x0 x1 x2 x3).1.Get=true/\dZ h (gu x0 x1 x2 x3).1.Set=true:=by
 rw [aza h1 h3 (FM q)]
 dsimp only
 unfold mix lD
 dsimp only
 cases x2
 .exact i1
 .simp only [Bool.not_true,cond_false]
  cases ayW x1 x3
  .simp only [cond_false]
   refine ⟨?_,?_,?_⟩
   .cases hb x1.Has 0<;>simp [i1,i3]
   .cases hb x1.Has 2<;>simp [i1,i3]
   .cases hb x1.Has 3<;>simp [i1,i3]
  .exact i1
theorem O7.ofT {l:List dI}(hok:∀p∈l,p.dQ.ok)(h:jG l=0):O7 l:=by
 have hl:=FK h
 have:jV l=0:=by rw [<- O6 l (by omega) hok];exact h
 exact O7.of (by omega) this
theorem O7.asV {l:List dI}(hok:∀p∈l,p.dQ.ok)(h:O7 l):jG l=0:=by
 rw [O6 l h.big hok];exact h.chk
theorem Y3 {l:List dI}{k:dP}(h:(pz l k).2.1=true):∃p∈l,p.Key=k/\(pz l k).1=p.dQ:=by
 unfold pz at h ⊢
 cases hf:l.find? (isK k) with
 |none=>rw [hf] at h;cases h
 |some p=>
  have:=List.find?_some hf
  exact ⟨p,List.mem_of_find?_eq_some hf,of_decide_eq_true this,rfl⟩
theorem abO {l:List dI}{k:dP}(h:(pz l k).2.1=false):(pz l k).1=d00:=by
 unfold pz at h ⊢
 cases hf:l.find? (isK k) with
 |none=>rfl
 |some p=>rw [hf] at h;cases h
theorem aqC : d00.ok:=⟨⟨by decide,by decide⟩,⟨⟨by decide,by decide⟩,by decide⟩,⟨⟨by decide,by decide⟩,by decide⟩,⟨⟨by decide,by decide⟩,by decide⟩⟩
theorem La {l:List dI}(hok:∀p∈l,p.dQ.ok){k:dP}:(pz l k).1.ok:=by
 cases h:(pz l k).2.1 with
 |true=>obtain ⟨p,hp,-,e⟩:=Y3 h;rw [e];exact hok p hp
 |false=>rw [abO h];exact aqC
theorem aqD {h:dH}{l:List dI}(hv:∀p∈l,dZ h p.dQ.Value=true/\dZ h p.dQ.Get=true/\dZ h p.dQ.Set=true){k:dP}:dZ h (pz l k).1.Value=true/\dZ h (pz l k).1.Get=true/\dZ h (pz l k).1.Set=true:=by
 cases hf:(pz l k).2.1 with
 |true=>obtain ⟨p,hp,-,e⟩:=Y3 hf;rw [e];exact hv p hp
 |false=>rw [abO hf];exact ⟨zin,zin,zin⟩
structure Obj (h:dH)(a:oP):Prop where
 ok:Xv h
 wf:HWf h
 ak:Asked h a
 po:anU h (h.Objects.getD a.Object.toNat default) (a.Object.toNat:Nat)
 pp:O7 (h.Objects.getD a.Object.toNat default).Props
 pd:∀p∈(h.Objects.getD a.Object.toNat default).Props,p.dQ.ok
structure Left (h:dH)(a:oP)(x:dH):Prop where
 ok:Xv x
 wf:HWf x
 len:x.Objects.length=h.Objects.length
 el:∀j,j≠a.Object.toNat->x.Objects.getD j default=h.Objects.getD j default
 kd:(x.Objects.getD a.Object.toNat default).Kind=(h.Objects.getD a.Object.toNat default).Kind
theorem Left.refl {h:dH}{a:oP}(B:Obj h a):Left h a h:=⟨B.ok,B.wf,rfl,fun _ _=>rfl,rfl⟩
theorem Left.set {h:dH}{a:oP}(B:Obj h a){o:dJ}(hk:o.Kind=(h.Objects.getD a.Object.toNat default).Kind)(hc:o.Calls=(h.Objects.getD a.Object.toNat default).Calls)(hm:o.Makes=(h.Objects.getD a.Object.toNat default).Makes)
  (ho:anU h o (a.Object.toNat:Nat)) (ha:U4 (zT h a.Object.toNat o)) (h1:∀p∈o.Props,p.dQ.ok) (h2:o.fA.ok):Left h a (zT h a.Object.toNat o):=by
 refine ⟨B.ok.set B.ak.i1 hk hc hm ((abN (by rw [hk];exact B.ak.kind)).2 ho) ha,B.wf.set h1 h2,Jr,fun j hj=>?_,?_⟩
 .rw [sW B.ak.i1,if_neg hj]
 .rw [sW B.ak.i1,if_pos rfl,hk]
theorem Left.ext {h:dH}{a:oP}(B:Obj h a)(b:Bool):Left h a (zT h a.Object.toNat {h.Objects.getD a.Object.toNat default with Ext:=b}):=
 .set B rfl rfl rfl ⟨B.po.tg,B.po.pk,B.po.pin,B.po.tc,B.po.pv,B.po.kc⟩ (Xz B.ak.i1 rfl B.ok.anS) B.pd (B.wf.at _).2
theorem Left.props {h:dH}{a:oP}(B:Obj h a){l:List dI}(h1:jG l=0)(h2:∀p∈l,dZ h p.dQ.Value=true/\dZ h p.dQ.Get=true/\dZ h p.dQ.Set=true)(h3:∀p∈l,p.dQ.ok):Left h a (zT h a.Object.toNat {h.Objects.getD a.Object.toNat default with Props:=l}):=
 .set B rfl rfl rfl ⟨B.po.tg,B.po.pk,B.po.pin,h1,h2,B.po.kc⟩ (Xz B.ak.i1 rfl B.ok.anS) h3 (B.wf.at _).2
theorem Qc {h:dH}{i:Nat}(k:Xv h){o:dJ}(hi:i<h.Objects.length):∀{n:Nat} {u:Bool} {v:dL},hIn h v->kD h (i:Nat) n u v=true->(bif (dU (mg (nI h (i:Nat) n u v).1) 0) then false else (nI h (i:Nat) n u v).2.2.2.1)=false->dR v=true->∃m,run (zT h i o) m v.Ref.toNat=true
 |0,_,_,_,h,_,_=>by cases h
 |n+1,u,v,hv,hT,hq,ho=>by
  simp only [kD] at hT
  simp only [nI] at hq
  rw [ho] at hT hq
  simp only [Bool.not_true,cond_false] at hT hq
  have hin:=hv ho
  cases hr:dU v.Ref (i:Nat) with
  |true=>rw [hr] at hq;simp [mg,dU] at hq
  |false=>
   rw [hr] at hT hq
   simp only [cond_false] at hT hq
   have hne:v.Ref.toNat≠i:=by have:=Cj.1 hr;omega
   have hk:CP (zT h i o) v.Ref.toNat=CP h v.Ref.toNat:=by unfold CP;rw [sW hi,if_neg hne]
   have hR:Bz (zT h i o) v.Ref.toNat=Bz h v.Ref.toNat:=by unfold Bz;rw [sW hi,if_neg hne]
   have step:∀m,run (zT h i o) (m+1) v.Ref.toNat=(bif dU (CP h v.Ref.toNat) 1 then true else run (zT h i o) m (Bz h v.Ref.toNat).toNat):=fun m=>by
    show (bif dU (CP (zT h i o) v.Ref.toNat) 1 then true else run (zT h i o) m (Bz (zT h i o) v.Ref.toNat).toNat)=_
    rw [hk,hR]
   cases hn:dU (CP h v.Ref.toNat) 1 with
   |true=>exact ⟨1,by rw [step,hn];rfl⟩
   |false=>
    have hlt:v.Ref.toNat<h.Objects.length:=by omega
    rcases Ns (k.obj _ hlt) with h1|⟨h1,h2⟩
    .simp only [Int.toNat_natCast] at h1
     exact absurd h1 (Cj.1 hn)
    .simp only [Int.toNat_natCast] at h1 h2
     cases h6:dU (h.Objects.getD v.Ref.toNat default).Kind 6 with
     |true=>
      exfalso
      have:=k.obj _ hlt
      rw [Jq,Int.toNat_natCast] at this
      unfold U6 at this
      rw [h6] at this
      simp only [cond_true] at this
      unfold sJ at this
      dsimp only at this
      obtain ⟨hc,-⟩:=Ef this
      simp only [Bool.or_eq_false_iff,Bool.not_eq_false'] at hc
      have hc:=hc.1.1.2
      unfold oG at hc
      dsimp only at hc
      rw [Bool.and_eq_true] at hc
      have:=hc.1
      unfold CP at hn
      rw [hn] at this;cases this
     |false=>
      rw [h6] at hT hq
      simp only [cond_false] at hT hq
      obtain ⟨m,hm⟩:=Qc k hi (ad4 h2) hT hq h1
      exact ⟨m+1,by rw [step,hn];exact hm⟩
theorem ad9 {h:dH}{i:Nat}{v:dL}(k:Xv h)(hi:i<h.Objects.length)(hv:hIn h v)(hn:v.Kind=1\/dR v=true)(hb:jR h (i:Nat) v=false){o:dJ}(ho:o.fA=v):U4 (zT h i o):=by
 have kI:CP (zT h i o) i=v.Kind:=by unfold CP;rw [sW hi,if_pos rfl,ho]
 have rI:Bz (zT h i o) i=v.Ref:=by unfold Bz;rw [sW hi,if_pos rfl,ho]
 have atI:∃m,run (zT h i o) m i=true:=by
  by_cases h1:v.Kind=1
  .refine ⟨1,?_⟩
   show (bif dU (CP (zT h i o) i) 1 then true else _)=true
   rw [kI,rQ.2 h1];rfl
  .have ho':dR v=true:=by rcases hn with h|h;exact absurd h h1;exact h
   obtain ⟨m,hm⟩:=Qc (o:=o) k hi hv (ad6 (O9.2 k) hv (u3:=false) (x1:=(i:Nat))) (by unfold jR at hb;exact hb) ho'
   refine ⟨m+1,?_⟩
   show (bif dU (CP (zT h i o) i) 1 then true else run (zT h i o) m (Bz (zT h i o) i).toNat)=true
   rw [kI,rI,Cj.2 h1];exact hm
 have all:∀(n j:Nat),run h n j=true->∃m,run (zT h i o) m j=true:=by
  intro n
  induction n with
  |zero=>intro j hj;cases hj
  |succ n ih=>
   intro j hj
   by_cases e:j=i
   .subst e;exact atI
   .have hk:CP (zT h i o) j=CP h j:=by unfold CP;rw [sW hi,if_neg e]
    have hR:Bz (zT h i o) j=Bz h j:=by unfold Bz;rw [sW hi,if_neg e]
    have step:∀m,run (zT h i o) (m+1) j=(bif dU (CP h j) 1 then true else run (zT h i o) m (Bz h j).toNat):=fun m=>by
     show (bif dU (CP (zT h i o) j) 1 then true else run (zT h i o) m (Bz (zT h i o) j).toNat)=_
     rw [hk,hR]
    have hj':(bif dU (CP h j) 1 then true else run h n (Bz h j).toNat)=true:=hj
    cases hn:dU (CP h j) 1 with
    |true=>exact ⟨1,by rw [step,hn];rfl⟩
    |false=>
     rw [hn] at hj'
     obtain ⟨m,hm⟩:=ih _ hj'
     exact ⟨m+1,by rw [step,hn];exact hm⟩
 intro j hj
 rw [Jr] at hj
 obtain ⟨n,hn⟩:=k.anS j hj
 exact all n j hn
theorem U8 {h:dH}{v:dL}(q:nH h v=true):v.Kind=1\/dR v=true:=by
 unfold nH at q
 dsimp only at q
 rw [Bool.and_eq_true,Bool.or_eq_true] at q
 rcases q.1 with h|h
 .exact .inl (rQ.1 h)
 .exact .inr h
theorem ahW {h:dH}{v:dL}(q:nH h v=true):dZ h v=true:=by
 unfold nH at q
 dsimp only at q
 rw [Bool.and_eq_true] at q
 exact QV q.2
theorem Left.proto {h:dH}{a:oP}(B:Obj h a)(h2:a.Method=2)(hv:a.Value.ok)(hb:jR h a.Object a.Value=false):Left h a (zT h a.Object.toNat {h.Objects.getD a.Object.toNat default with fA:=a.Value}):=by
 have hp:=B.ak.m2 h2
 have hb':jR h (a.Object.toNat:Nat) a.Value=false:=by
  have:((a.Object.toNat:Nat):Int)=a.Object:=by have:=B.ak.i0;omega
  rw [this];exact hb
 refine .set B rfl rfl rfl ⟨B.po.tg,?_,ahW hp,B.po.tc,B.po.pv,B.po.kc⟩ (ad9 B.ok B.ak.i1 (alh hp) (U8 hp) hb' rfl) B.pd hv
 show (jk a.Value.Kind 1&&!dR a.Value)=false
 rcases U8 hp with h|h
 .rw [h];rfl
 .rw [h];simp
end Go.Fw
end
section
namespace Go.Fw
abbrev oO (h:dH)(a:oP):dJ:=h.Objects.getD a.Object.toNat default
theorem Y4 {h:dH}{a:oP}(B:Obj h a){k:dP}(hk:vw k=0):lW (oO h a).Props k=pz (oO h a).Props k:=
 B.pp.find B.pd (by rw [<- vH];exact hk)
structure ava (h:dH)(a:oP):Prop where
 pu:aqw (oO h a).Props a.Key (gu (oO h a).Ext a.dQ (pz (oO h a).Props a.Key).2.1 (pz (oO h a).Props a.Key).1).1 (lU (oO h a).Props a.Key (gu (oO h a).Ext a.dQ (pz (oO h a).Props a.Key).2.1 (pz (oO h a).Props a.Key).1).1).1
theorem Left.put {h:dH}{a:oP}(B:Obj h a)(m:a.Method=6)(hd:a.dQ.ok)(h1:(gu (oO h a).Ext a.dQ (pz (oO h a).Props a.Key).2.1 (pz (oO h a).Props a.Key).1).2.1=true)
  (h2:(lU (oO h a).Props a.Key (gu (oO h a).Ext a.dQ (pz (oO h a).Props a.Key).2.1 (pz (oO h a).Props a.Key).1).1).2=0) :
  Left h a (zT h a.Object.toNat {oO h a with Props:=(lU (oO h a).Props a.Key (gu (oO h a).Ext a.dQ (pz (oO h a).Props a.Key).2.1 (pz (oO h a).Props a.Key).1).1).1})/\ava h a:=by
 have hk:gV a.Key=0:=by rw [<- vH];exact B.ak.key (.inr (.inl m))
 have b:=azs hd (La B.pd) (FM h1)
 have pf:=ahV B.pp B.pd hk b.ok h2
 have m6:=B.ak.m6 m
 have ai:=alo hd (La B.pd) h1 ⟨QV m6.2.1,QV m6.2.2.1,QV m6.2.2.2⟩ (aqD B.po.pv (k:=a.Key))
 refine ⟨Left.props B (O7.asV pf.ok pf.tb) (fun p hp=>?_) pf.ok,⟨pf⟩⟩
 rcases anV p hp with h|h
 .exact B.po.pv p h
 .rw [h];exact ai
theorem Left.drop {h:dH}{a:oP}(B:Obj h a)(m:a.Method=10) :
  Left h a (zT h a.Object.toNat {oO h a with Props:=(xY (oO h a).Props a.Key).1}):=by
 have hk:gV a.Key=0:=by rw [<- vH];exact B.ak.key (.inr (.inr m))
 rw [afI B.pp B.pd hk]
 have d:=U0 B.pp B.pd (k:=a.Key)
 exact Left.props B (O7.asV d.ok d.tb) (fun p hp=>B.po.pv p (List.mem_filter.1 hp).1) d.ok
theorem alp {h:dH}{a:oP}(B:Obj h a)(hv:a.Value.ok)(hd:a.dQ.ok):Left h a (Pg h a).1:=by
 unfold Pg
 dsimp only
 cases m1:dU a.Method 1 with
 |true=>exact .refl B
 |false=>
 cases m2:dU a.Method 2 with
 |true=>
  simp only [cond_false,cond_true]
  cases hc:(h_ a.Value (h.Objects.getD a.Object.toNat default).fA||!(h.Objects.getD a.Object.toNat default).Ext||jR h a.Object a.Value) with
  |true=>exact .refl B
  |false=>
   simp only [Bool.or_eq_false_iff] at hc
   exact .proto B (rQ.1 m2) hv hc.2
 |false=>
 cases m3:dU a.Method 3 with
 |true=>exact .refl B
 |false=>
 cases m4:dU a.Method 4 with
 |true=>exact .ext B false
 |false=>
 cases m5:dU a.Method 5 with
 |true=>exact .refl B
 |false=>
 cases m6:dU a.Method 6 with
 |true=>
  simp only [cond_false,cond_true]
  rw [Y4 B (B.ak.key (.inr (.inl (rQ.1 m6))))]
  cases h1:(gu (oO h a).Ext a.dQ (pz (oO h a).Props a.Key).2.1 (pz (oO h a).Props a.Key).1).2.1 with
  |false=>exact .refl B
  |true=>
   simp only [Bool.not_true,cond_false]
   cases h2:jk (lU (oO h a).Props a.Key (gu (oO h a).Ext a.dQ (pz (oO h a).Props a.Key).2.1 (pz (oO h a).Props a.Key).1).1).2 0 with
   |true=>exact .refl B
   |false=>exact (Left.put B (rQ.1 m6) hd h1 (Ii.1 h2)).1
 |false=>
 cases m10:dU a.Method 10 with
 |true=>
  simp only [cond_false,cond_true]
  cases (lW (h.Objects.getD a.Object.toNat default).Props a.Key).2.1&&!(lW (h.Objects.getD a.Object.toNat default).Props a.Key).1.Configurable with
  |true=>exact .refl B
  |false=>exact .drop B (rQ.1 m10)
 |false=>exact .refl B
end Go.Fw
end
section
namespace Go.Fw
theorem XA (v:dL):kV v v=true:=by
 unfold kV
 have e:Kv v.Num v.Num=!fEq v.Num v.Num:=rfl
 have s:Dw v.Str v.Str=true:=by simp [Dw]
 have i:∀x:Int,dU x x=true:=fun x=>rQ.2 rfl
 rw [e,s,i,i]
 cases hf:fEq v.Num v.Num with
 |true=>simp [hf]
 |false=>simp;decide +kernel
theorem aoS (b:Bool):Qy b b=true:=by simp [Qy]
theorem aoT (s:List UInt8):Dw s s=true:=by simp [Dw]
theorem aoU (x:Int):dU x x=true:=rQ.2 rfl
theorem alq {l:List dI}(hB:l.length<=4294967296):∀(n j:Nat) (u:Bool),j<=l.length->l.length-j<n->iK l l n u j=(true,u,default)
 |0,j,_,_,h=>by omega
 |n+1,j,u,hj,hn=>by
  simp only [iK,jF,XA,aoS,aoT,aoU,Bool.and_self,Bool.not_true,cond_false]
  by_cases hlt:j<l.length
  .have e1:(!decide ((j:Int)<(l.length:Int)))=false:=by rw [decide_eq_true (by omega)];rfl
   rw [e1,G_ (by omega) (by omega)]
   have e2:((j:Int)+1)=((j+1:Nat):Int):=by omega
   rw [e2]
   exact alq hB n (j+1) u (by omega) (by omega)
  .have e1:(!decide ((j:Int)<(l.length:Int)))=true:=by rw [decide_eq_false (by omega)];rfl
   rw [e1];rfl
theorem alr {l:List dI}(hB:l.length<=4294967296):jW l l=true:=by
 unfold jW
 dsimp only
 have:=alq hB (l.length+1) 0 false (Nat.zero_le _) (by omega)
 have e0:((0:Nat):Int)=0:=rfl
 rw [e0] at this
 rw [this,Ii.2 rfl];rfl
theorem als {l:List dJ}(hB:l.length<=4294967296)(hp:∀o∈l,o.Props.length<=4294967296):∀(n j:Nat) (u:Bool),j<=l.length->l.length-j<n->gI l l n u j=(true,u,default)
 |0,j,_,_,h=>by omega
 |n+1,j,u,hj,hn=>by
  simp only [gI,jF,XA,aoS,aoT,aoU,Bool.and_self,Bool.not_true,cond_false,Bool.true_and,Int.toNat_natCast]
  by_cases hlt:j<l.length
  .have e1:(!decide ((j:Int)<(l.length:Int)))=false:=by rw [decide_eq_true (by omega)];rfl
   have hm:l.getD j default∈l:=by rw [List.getD_eq_getElem?_getD,List.getElem?_eq_getElem hlt];exact List.getElem_mem hlt
   rw [e1,G_ (by omega) (by omega),alr (hp _ hm)]
   have e2:((j:Int)+1)=((j+1:Nat):Int):=by omega
   rw [e2]
   exact als hB hp n (j+1) u (by omega) (by omega)
  .have e1:(!decide ((j:Int)<(l.length:Int)))=true:=by rw [decide_eq_false (by omega)];rfl
   rw [e1];rfl
theorem ad_ {h:dH}(hB:h.Objects.length<=4294967296)(hp:∀o∈h.Objects,o.Props.length<=4294967296):x9 h h=true:=by
 unfold x9 jC
 dsimp only
 have:=als hB hp (h.Objects.length+1) 0 false (Nat.zero_le _) (by omega)
 have e0:((0:Nat):Int)=0:=rfl
 rw [e0] at this
 rw [this,Ii.2 rfl];rfl
theorem aea {h:dH}{o:dJ}{n:Int}(q:U6 h o n=true):o.Props.length<=1024:=by
 unfold U6 at q
 cases h6:dU o.Kind 6 with
 |true=>
  rw [h6] at q
  simp only [cond_true] at q
  unfold sJ at q
  dsimp only at q
  obtain ⟨hc,-⟩:=Ef q
  rw [jF] at hc
  simp only [Bool.or_eq_false_iff,decide_eq_false_iff_not] at hc
  have:=hc.1.1.1.1
  omega
 |false=>
  rw [h6] at q
  simp only [cond_false] at q
  obtain ⟨-,q⟩:=Ef q
  obtain ⟨q2,q⟩:=Ef q
  simp only [Bool.or_eq_false_iff,Bool.not_eq_false'] at q2
  exact FK (Ii.1 q2.2)
theorem Xv.props {h:dH}(k:Xv h):∀o∈h.Objects,o.Props.length<=1024:=by
 intro o ho
 obtain ⟨i,hi,rfl⟩:=List.getElem_of_mem ho
 have:=k.obj i hi
 rw [Jq,Int.toNat_natCast,List.getD_eq_getElem?_getD,List.getElem?_eq_getElem hi] at this
 exact aea this
theorem Xv.same {h:dH}(k:Xv h):x9 h h=true:=ad_ (by have:=k.len;omega) fun o ho=>by have:=k.props o ho;omega
end Go.Fw
end
section
namespace Go.Fw
end Go.Fw
end
section
namespace Go.Fw
structure At (h:dH)(n:Int):Prop where
 ok:Xv h
 wf:HWf h
 i0:0<=n
 i1:n.toNat<h.Objects.length
 kind:(h.Objects.getD n.toNat default).Kind=1\/(h.Objects.getD n.toNat default).Kind=4\/(h.Objects.getD n.toNat default).Kind=5
abbrev At.o (h:dH)(n:Int):dJ:=h.Objects.getD n.toNat default
theorem At.po {h:dH}{n:Int}(A:At h n):anU h (At.o h n) (n.toNat:Nat):=by
 have:=A.ok.obj _ A.i1
 rw [Jq,Int.toNat_natCast] at this
 exact (abN A.kind).1 this
theorem At.pp {h:dH}{n:Int}(A:At h n):O7 (At.o h n).Props:=O7.ofT (A.wf.at _).1 A.po.tc
theorem At.pd {h:dH}{n:Int}(A:At h n):∀p∈(At.o h n).Props,p.dQ.ok:=(A.wf.at _).1
structure Kept (o q:dJ)(k:dP):Prop where
 shut:o.Ext=false->q.Ext=false/\q.fA=o.fA/\∀x,x∈q.Props.map (·.Key)->x∈o.Props.map (·.Key)
 fix:(pz o.Props k).2.1=true->(pz o.Props k).1.Configurable=false->(pz q.Props k).2.1=true/\(pz q.Props k).1.Configurable=false/\Qy (pz q.Props k).1.dS (pz o.Props k).1.dS=true/\(pz q.Props k).1.Has=(pz o.Props k).1.Has/\
  (bif iy (pz o.Props k).1 then (h_ (pz q.Props k).1.Get (pz o.Props k).1.Get&&h_ (pz q.Props k).1.Set (pz o.Props k).1.Set) else ((pz o.Props k).1.eH||((!(pz q.Props k).1.eH)&&h_ (pz q.Props k).1.Value (pz o.Props k).1.Value)))=true
theorem alu {d:dN}(hd:d.ok)(r:Rc d):(bif iy d then (h_ d.Get d.Get&&h_ d.Set d.Set) else (d.eH||((!d.eH)&&h_ d.Value d.Value)))=true:=by
 rw [sV hd.2.1 (Ee hd.2.1 r.v),sV hd.2.2.1 (yh (qB hd.2.2.1 r.g)),sV hd.2.2.2 (yh (qB hd.2.2.2 r.s))]
 cases iy d<;>cases d.eH<;>rfl
theorem aeb {l:List dI}(h:O7 l)(hok:∀p∈l,p.dQ.ok){k:dP}(hf:(pz l k).2.1=true):Rc (pz l k).1:=by
 obtain ⟨p,hp,-,e⟩:=Y3 hf
 rw [e];exact alb (hok p hp) (h.all p hp).2
theorem Kept.same {o:dJ}{k:dP}(h:O7 o.Props)(hok:∀p∈o.Props,p.dQ.ok){q:dJ}(hs:o.Ext=false->q.Ext=false/\q.fA=o.fA)(hp:q.Props=o.Props):Kept o q k:=by
 refine ⟨fun e=>⟨(hs e).1,(hs e).2,fun x hx=>by rw [hp] at hx;exact hx⟩,fun hf hc=>?_⟩
 rw [hp]
 exact ⟨hf,hc,yU _,rfl,alu (La hok) (aeb h hok hf)⟩
structure Stp (h:dH)(a:oP)(n:Int)(k:dP):Prop where
 at':At (Pg h a).1 n
 kind:(Pg h a).2.1.Kind=1\/(Pg h a).2.1.Kind=3
 kept:Kept (At.o h n) (At.o (Pg h a).1 n) k
 put:a.Object=n->a.Key=k->(Pg h a).2.1.Yes=true->(a.Method=6->(pz (At.o (Pg h a).1 n).Props k).2.1=true)/\(a.Method=10->(pz (At.o (Pg h a).1 n).Props k).2.1=false)
theorem At.left {h x:dH}{a:oP}{n:Int}(A:At h n)(ha0:0<=a.Object)(L:Left h a x):At x n:=by
 refine ⟨L.ok,L.wf,A.i0,by rw [L.len];exact A.i1,?_⟩
 by_cases e:n.toNat=a.Object.toNat
 .rw [e,L.kd,<- e];exact A.kind
 .rw [L.el _ e];exact A.kind
theorem alv {l:List dI}{k:dP}{d:dN}{m:List dI}(f:aqw l k d m)(hf:(pz l k).2.1=true):∀x,x∈m.map (·.Key)->x∈l.map (·.Key):=by
 intro x hx
 obtain ⟨p,hp,rfl⟩:=List.mem_map.1 hx
 obtain ⟨i,hi,rfl⟩:=List.getElem_of_mem hp
 have hl:m.length=l.length:=by have:=f.len;rw [hf] at this;exact this
 have:=f.key i (by omega)
 rw [List.getD_eq_getElem?_getD,List.getElem?_eq_getElem hi,List.getD_eq_getElem?_getD,List.getElem?_eq_getElem (by omega)] at this
 exact List.mem_map.2 ⟨l[i]'(by omega),List.getElem_mem _,this.symm⟩
theorem step {h:dH}{a:oP}{n:Int}{k:dP}(A:At h n)(B:Obj h a)(hv:a.Value.ok)(hd:a.dQ.ok):Stp h a n k:=by
 have L:=alp B hv hd
 have A':=A.left B.ak.i0 L
 by_cases hne:n.toNat=a.Object.toNat
 case neg=>
  have ho:At.o (Pg h a).1 n=At.o h n:=L.el _ hne
  refine ⟨A',?_,?_,fun e=>absurd (by rw [e]) hne⟩
  .unfold Pg
   dsimp only
   cases dU a.Method 1 with
   |true=>exact .inl rfl
   |false=>
   cases dU a.Method 2 with
   |true=>simp only [cond_false,cond_true];cases (h_ a.Value (h.Objects.getD a.Object.toNat default).fA||!(h.Objects.getD a.Object.toNat default).Ext||jR h a.Object a.Value)<;>exact .inl rfl
   |false=>
   cases dU a.Method 3 with
   |true=>exact .inl rfl
   |false=>
   cases dU a.Method 4 with
   |true=>exact .inl rfl
   |false=>
   cases dU a.Method 5 with
   |true=>exact .inl rfl
   |false=>
   cases dU a.Method 6 with
   |true=>
    simp only [cond_false,cond_true]
    generalize (gu (h.Objects.getD a.Object.toNat default).Ext a.dQ (lW (h.Objects.getD a.Object.toNat default).Props a.Key).2.1 (lW (h.Objects.getD a.Object.toNat default).Props a.Key).1)=ap
    generalize lU (h.Objects.getD a.Object.toNat default).Props a.Key ap.1=pt
    cases (!ap.2.1)<;>cases (jk pt.2 0)<;>first|exact .inl rfl|exact .inr rfl
   |false=>
   cases dU a.Method 10 with
   |true=>simp only [cond_false,cond_true];cases ((lW (h.Objects.getD a.Object.toNat default).Props a.Key).2.1&&!(lW (h.Objects.getD a.Object.toNat default).Props a.Key).1.Configurable)<;>exact .inl rfl
   |false=>exact .inl rfl
  .rw [ho];exact .same A.pp A.pd (fun e=>⟨e,rfl⟩) rfl
 case pos=>
  have hn:a.Object=n:=by have:=A.i0;have:=B.ak.i0;omega
  subst hn
  have rid:Kept (At.o h a.Object) (At.o h a.Object) k:=.same A.pp A.pd (fun e=>⟨e,rfl⟩) rfl
  have gt:∀o,At.o (zT h a.Object.toNat o) a.Object=o:=fun o=>by unfold At.o;rw [sW B.ak.i1,if_pos rfl]
  cases m1:dU a.Method 1 with
  |true=>
   have e:Pg h a=(h,⟨1,(oO h a).fA,false,false,d0,[],0,[]⟩,0):=by unfold Pg;rw [m1];rfl
   rw [e] at A'
   exact ⟨by rw [e];exact A',by rw [e];exact .inl rfl,by rw [e];exact rid,fun _ _ hy=>by rw [e] at hy;cases hy⟩
  |false=>
  cases m2:dU a.Method 2 with
  |true=>
   have e:Pg h a=(bif h_ a.Value (oO h a).fA||!(oO h a).Ext||jR h a.Object a.Value then (h,iG (h_ a.Value (oO h a).fA),0) else (zT h a.Object.toNat {oO h a with fA:=a.Value},iG true,0)):=by unfold Pg;rw [m1,m2];rfl
   have mm:=rQ.1 m2
   cases hc:(h_ a.Value (oO h a).fA||!(oO h a).Ext||jR h a.Object a.Value) with
   |true=>
    rw [hc] at e
    simp only [cond_true] at e
    rw [e] at A'
    exact ⟨by rw [e];exact A',by rw [e];exact .inl rfl,by rw [e];exact rid,fun _ _ hy=>⟨fun h=>by omega,fun h=>by omega⟩⟩
   |false=>
    rw [hc] at e
    simp only [cond_false] at e
    simp only [Bool.or_eq_false_iff,Bool.not_eq_false'] at hc
    rw [e] at A'
    refine ⟨by rw [e];exact A',by rw [e];exact .inl rfl,?_,fun _ _ hy=>⟨fun h=>by omega,fun h=>by omega⟩⟩
    rw [e]
    dsimp only
    rw [gt]
    refine .same A.pp A.pd (fun hx=>?_) rfl
    have:(oO h a).Ext=false:=hx
    rw [this] at hc;exact absurd hc.1.2 (by simp)
  |false=>
  cases m3:dU a.Method 3 with
  |true=>
   have e:Pg h a=(h,iG (oO h a).Ext,0):=by unfold Pg;rw [m1,m2,m3];rfl
   have mm:=rQ.1 m3
   rw [e] at A'
   exact ⟨by rw [e];exact A',by rw [e];exact .inl rfl,by rw [e];exact rid,fun _ _ hy=>⟨fun h=>by omega,fun h=>by omega⟩⟩
  |false=>
  cases m4:dU a.Method 4 with
  |true=>
   have e:Pg h a=(zT h a.Object.toNat {oO h a with Ext:=false},iG true,0):=by unfold Pg;rw [m1,m2,m3,m4];rfl
   have mm:=rQ.1 m4
   rw [e] at A'
   refine ⟨by rw [e];exact A',by rw [e];exact .inl rfl,?_,fun _ _ hy=>⟨fun h=>by omega,fun h=>by omega⟩⟩
   rw [e]
   dsimp only
   rw [gt]
   exact .same A.pp A.pd (fun _=>⟨rfl,rfl⟩) rfl
  |false=>
  cases m5:dU a.Method 5 with
  |true=>
   have e:Pg h a=(h,⟨1,v00,false,(lW (oO h a).Props a.Key).2.1,(lW (oO h a).Props a.Key).1,[],0,[]⟩,0):=by unfold Pg;rw [m1,m2,m3,m4,m5];rfl
   rw [e] at A'
   exact ⟨by rw [e];exact A',by rw [e];exact .inl rfl,by rw [e];exact rid,fun _ _ hy=>by rw [e] at hy;cases hy⟩
  |false=>
  cases m6:dU a.Method 6 with
  |true=>
   have mm:=rQ.1 m6
   have hk:=B.ak.key (.inr (.inl mm))
   have e:Pg h a=(bif !(gu (oO h a).Ext a.dQ (pz (oO h a).Props a.Key).2.1 (pz (oO h a).Props a.Key).1).2.1 then (h,iG false,0) else bif jk (lU (oO h a).Props a.Key (gu (oO h a).Ext a.dQ (pz (oO h a).Props a.Key).2.1 (pz (oO h a).Props a.Key).1).1).2 0 then (h,⟨3,v00,false,false,d0,[],2,[116,111,111,32,109,97,110,121]⟩,0) else (zT h a.Object.toNat {oO h a with Props:=(lU (oO h a).Props a.Key (gu (oO h a).Ext a.dQ (pz (oO h a).Props a.Key).2.1 (pz (oO h a).Props a.Key).1).1).1},iG true,0)):=by
    rw [<- Y4 B hk];unfold Pg;rw [m1,m2,m3,m4,m5,m6];rfl
   cases h1:(gu (oO h a).Ext a.dQ (pz (oO h a).Props a.Key).2.1 (pz (oO h a).Props a.Key).1).2.1 with
   |false=>
    rw [h1] at e
    simp only [Bool.not_false,cond_true] at e
    rw [e] at A'
    exact ⟨by rw [e];exact A',by rw [e];exact .inl rfl,by rw [e];exact rid,fun _ _ hy=>by rw [e] at hy;cases hy⟩
   |true=>
    cases h2:jk (lU (oO h a).Props a.Key (gu (oO h a).Ext a.dQ (pz (oO h a).Props a.Key).2.1 (pz (oO h a).Props a.Key).1).1).2 0 with
    |true=>
     rw [h1,h2] at e
     simp only [Bool.not_true,cond_false,cond_true] at e
     rw [e] at A'
     exact ⟨by rw [e];exact A',by rw [e];exact .inr rfl,by rw [e];exact rid,fun _ _ hy=>by rw [e] at hy;cases hy⟩
    |false=>
     obtain ⟨L2,⟨pf⟩⟩:=Left.put B mm hd h1 (Ii.1 h2)
     rw [h1,h2] at e
     simp only [Bool.not_true,cond_false] at e
     rw [e] at A'
     have hc:=FM h1
     refine ⟨by rw [e];exact A',by rw [e];exact .inl rfl,?_,fun _ hak hy=>⟨fun _=>?_,fun h=>by omega⟩⟩
     .rw [e]
      dsimp only
      rw [gt]
      refine ⟨fun hx=>⟨hx,rfl,fun x hm=>?_⟩,fun hf hcf=>?_⟩
      .have hx:(oO h a).Ext=false:=hx
       have hfd:(pz (oO h a).Props a.Key).2.1=true:=by
        cases hq:(pz (oO h a).Props a.Key).2.1 with
        |true=>rfl
        |false=>
         have:=(ay9 hd (La B.pd) hc).no hq
         rw [hx] at this;cases this
       exact alv pf hfd x hm
      .dsimp only
       by_cases hkk:k=a.Key
       .subst hkk
        have hf':(pz (oO h a).Props a.Key).2.1=true:=hf
        rw [pf.me]
        rw [hf'] at hc
        have s:=azH hd (La B.pd) hc hcf
        dsimp only at s
        rw [hf']
        exact ⟨rfl,s⟩
       .rw [pf.el k hkk]
        exact ⟨hf,hcf,yU _,rfl,alu (La B.pd) (aeb B.pp B.pd hf)⟩
     .rw [e]
      dsimp only
      rw [gt]
      dsimp only
      rw [<- hak,pf.me]
  |false=>
  cases m10:dU a.Method 10 with
  |true=>
   have mm:=rQ.1 m10
   have hk:=B.ak.key (.inr (.inr mm))
   have hk':gV a.Key=0:=by rw [<- vH];exact hk
   have e:Pg h a=(bif (pz (oO h a).Props a.Key).2.1&&!(pz (oO h a).Props a.Key).1.Configurable then (h,iG false,0) else (zT h a.Object.toNat {oO h a with Props:=(xY (oO h a).Props a.Key).1},iG true,0)):=by
    rw [<- Y4 B hk];unfold Pg;rw [m1,m2,m3,m4,m5,m6,m10];rfl
   cases hc:((pz (oO h a).Props a.Key).2.1&&!(pz (oO h a).Props a.Key).1.Configurable) with
   |true=>
    rw [hc] at e
    simp only [cond_true] at e
    rw [e] at A'
    exact ⟨by rw [e];exact A',by rw [e];exact .inl rfl,by rw [e];exact rid,fun _ _ hy=>by rw [e] at hy;cases hy⟩
   |false=>
    rw [hc,afI B.pp B.pd hk'] at e
    simp only [cond_false] at e
    rw [e] at A'
    have df:=U0 B.pp B.pd (k:=a.Key)
    refine ⟨by rw [e];exact A',by rw [e];exact .inl rfl,?_,fun _ hak hy=>⟨fun h=>by omega,fun _=>?_⟩⟩
    .rw [e]
     dsimp only
     rw [gt]
     refine ⟨fun hx=>⟨hx,rfl,fun x hm=>?_⟩,fun hf hcf=>?_⟩
     .obtain ⟨p,hp,rfl⟩:=List.mem_map.1 hm
      exact List.mem_map.2 ⟨p,(List.mem_filter.1 hp).1,rfl⟩
     .dsimp only
      by_cases hkk:k=a.Key
      .subst hkk
       have hf':(pz (oO h a).Props a.Key).2.1=true:=hf
       have avb:(pz (oO h a).Props a.Key).1.Configurable=false:=hcf
       rw [hf',avb] at hc;cases hc
      .rw [df.el k hkk]
       exact ⟨hf,hcf,yU _,rfl,alu (La B.pd) (aeb B.pp B.pd hf)⟩
    .rw [e]
     dsimp only
     rw [gt]
     dsimp only
     rw [<- hak,df.me]
  |false=>
   have e:Pg h a=(h,⟨1,v00,false,false,d0,(Uw (oO h a).Props).1,0,[]⟩,0):=by unfold Pg;rw [m1,m2,m3,m4,m5,m6,m10];rfl
   rw [e] at A'
   exact ⟨by rw [e];exact A',by rw [e];exact .inl rfl,by rw [e];exact rid,fun _ _ hy=>by rw [e] at hy;cases hy⟩
end Go.Fw
end
section
namespace Go.Fw
structure Qd where
 v:List Int
 deriving DecidableEq,Inhabited
def Qd.enc (v:Qd):List AV:=[.sl (List.map Bc v.v) false]
def Qd.av (v:Qd):AV:=.agg v.enc
def Qd.jY : List Kd:=[.sl]
theorem Qd.fU (v:Qd):Go.Fw.fU v.enc=true:=eP (fzs YD _) (fzn)
theorem Qd.fz (v:Qd):v.av.fz=true:=Qd.fU v
theorem Qd.len (v:Qd):v.enc.length=1:=rfl
theorem Qd.Lh (l:List Qd):jy 1 (l.map Qd.enc):=by
 intro row h
 obtain ⟨x,-,rfl⟩:=List.mem_map.1 h
 rfl
end Go.Fw
end
section
namespace Go.Fw
def lV (r:dH×Int×Int):AV:=.gW [(dH.av r.1),(.p (.int .i64 r.2.1)),(.p (.int .i64 r.2.2))]
def Bo : dL:=
 (dL.mk 1 0 [] 0)
def qI : dH:=
 let v0:dL:=Bo
 (dH.mk [(dJ.mk 1 v0 true [(dI.mk (dP.mk [97] 0) (dN.mk 51 (dL.mk 3 4619567317775286272 [] 0) (dL.mk 0 0 [] 0) (dL.mk 0 0 [] 0) true true true))] (dL.mk 0 0 [] 0) (dL.mk 0 0 [] 0) [] false false),(dJ.mk 1 (dL.mk 6 0 [] 0) true [] (dL.mk 0 0 [] 0) (dL.mk 0 0 [] 0) [] false false)])
def qJ (x0:Int)(x1:Int):dJ:=
 let v2:dL:=Bo
 (dJ.mk 6 v2 false [] (dL.mk 6 0 [] x0) (dL.mk 6 0 [] x1) [] false false)
def Nu (x0:dH)(x1:dJ):dH×Int×Int:=
 let v2:Int:=lY x0
 let v3:dH:=Ec x0
 let v4:dJ:=Iz x1
 let v5:List dJ:=v3.Objects++[v4]
 let v6:Int:=lY (dH.mk v5)
 bif (jk v2 0) then ((dH.mk []),0,v2)
 else bif (dU (jT dJ.enc x0.Objects) 4096) then ((dH.mk []),0,4)
 else bif (jk v6 0) then ((dH.mk []),0,v6)
 else ((dH.mk v5),(jT dJ.enc x0.Objects),0)
def IC : Bool:=
 let v0:dH:=qI
 let v1:dJ:=qJ 0 1
 let v2:dH×Int×Int:=Nu v0 v1
 let v3:dJ:=v2.1.Objects.getD (2:Int).toNat default
 let v4:dH:=qI
 let v5:Int:=lY v4
 (((((dU v2.2.2 0)&&(dU v2.2.1 2))&&(dU (jT dJ.enc v2.1.Objects) 3))&&(dU v3.Kind 6))&&(dU v5 0))
def wK (x0:dH):Nat->Bool->Int->(Bool×Bool×Bool)
 |0,_,_=>default
 |n+1,u1,u2=>
  let v3:dJ:=x0.Objects.getD (u2:Int).toNat default
  bif (!(decide ((u2:Int)<(jT dJ.enc x0.Objects)))) then (true,u1,default)
  else bif (decide (((jT dI.enc v3.Props):Int) > 100)) then (false,default,true)
  else wK x0 n u1 (fK .i64 u2 1)
def IE (x0:dH):Bool:=
 let r1:Bool×Bool×Bool:=wK x0 (x0.Objects.length+1) false 0
 bif (((decide (((jT dJ.enc x0.Objects):Int) > 60))&&(decide (((jT dJ.enc x0.Objects):Int)<=4096)))||(decide (((jT dJ.enc x0.Objects):Int) > 5000))) then true
 else bif (!(dU (mg r1.1) 0)) then r1.2.2
 else false
end Go.Fw
end
section
namespace Go.Fw
end Go.Fw
end
section
namespace Go.Fw
structure avY (h:dH)(o:dJ):Prop where
 pr:hIn h o.fA
 tg:hIn h o.Target
 hd:hIn h o.Handler
 ps:∀p∈o.Props,hIn h p.dQ.Value/\hIn h p.dQ.Get/\hIn h p.dQ.Set
 pl:o.Props.length<=1024
def cF (m:List Bool):Nat:=m.countP (!·)
theorem aqE {l:List Bool}{i:Nat}(hi:i<l.length)(h1:l.getD i default=false):cF (l.set i true)+1=cF l:=by
 have hg:l.getD i default=l[i]:=by simp [List.getD_eq_getElem?_getD,hi]
 rw [hg] at h1
 have:0<l.countP (!·):=List.countP_pos_iff.2 ⟨_,List.getElem_mem hi,by simp [h1]⟩
 unfold cF
 rw [List.countP_set hi,h1]
 simp;omega
structure RInv (h:dH)(m:List Bool)(t:Qd):Prop where
 ml:m.length=h.Objects.length
 rg:∀y∈t.v,0<=y/\y<h.Objects.length
 sz:t.v.length+cF m<=h.Objects.length
theorem RInv.add {h:dH}{m:List Bool}{t:Qd}(w:RInv h m t){j:Int}(h0:0<=j)(h1:j<h.Objects.length)(hn:m.getD j.toNat default=false):RInv h (m.set j.toNat true) ⟨t.v++[j]⟩:=by
 have hj:j.toNat<m.length:=by have:=w.ml;omega
 have:=aqE hj hn
 have:=w.sz
 refine ⟨by rw [List.length_set];exact w.ml,fun y hy=>?_,by simp;omega⟩
 rcases List.mem_append.1 hy with hy|hy
 .exact w.rg y hy
 .simp at hy;subst hy;exact ⟨h0,h1⟩
theorem RInv.tail {h:dH}{m:List Bool}{t:Qd}(w:RInv h m t):RInv h m ⟨t.v.drop 1⟩:=
 ⟨w.ml,fun y hy=>w.rg y (List.mem_of_mem_drop hy),by have:=w.sz;simp;omega⟩
def asW (o:dJ):List dL:=[o.fA,o.Target,o.Handler]++o.Props.flatMap fun p=>[p.dQ.Value,p.dQ.Get,p.dQ.Set]
def avc (l:List dL):List Int:=(l.filter dR).map (·.Ref)
end Go.Fw
end
section
namespace Go.Fw
open Go.Proofs
set_option maxRecDepth 100000
theorem oJ : Try.prog.follows .mixedOrders=true:=by kernel_rfl
theorem tV (x0:Nat):PC Try.prog 124 [.p (.float .f64 x0)] (.p (.int .u64 (mY x0))):=
 YE (fn:=Try.f124) (e:=Extern.MathFloatBits.float64bits) (by kernel_rfl) (by kernel_rfl) (by kernel_rfl) (by kernel_rfl) (by kernel_rfl) rfl rfl rfl rfl
theorem vI (x0:Int):PC Try.prog 123 [.p (.int .u64 x0)] (.p (.float .f64 (oC x0))):=
 YE (fn:=Try.f123) (e:=Extern.MathFloatBits.float64frombits) (by kernel_rfl) (by kernel_rfl) (by kernel_rfl) (by kernel_rfl) (by kernel_rfl) rfl rfl rfl rfl
theorem CQ (x0:Nat)(h:Ij x0):PC Try.prog 121 [.p (.float .f64 x0)] (.p (.float .f64 (iH x0))):=
 YE (fn:=Try.f121) (e:=Extern.MathFloor.toIntegral "math.archTrunc" .zero) (by kernel_rfl) (by kernel_rfl) (by kernel_rfl) (by kernel_rfl) (by kernel_rfl) rfl (ahk h) rfl rfl
end Go.Fw
end
section
namespace Go.Fw
set_option maxRecDepth 100000
set_option maxHeartbeats 4000000
open Go.Proofs
instance : UK dL.enc:=⟨dL.fU⟩
instance {x : dL}:Fz (dL.av x):=⟨dL.fz x⟩
instance : Qp dL.enc 4:=⟨dL.len⟩
instance : UK dP.enc:=⟨dP.fU⟩
instance {x : dP}:Fz (dP.av x):=⟨dP.fz x⟩
instance : Qp dP.enc 2:=⟨dP.len⟩
instance : UK dN.enc:=⟨dN.fU⟩
instance {x : dN}:Fz (dN.av x):=⟨dN.fz x⟩
instance : Qp dN.enc 16:=⟨dN.len⟩
instance : UK dI.enc:=⟨dI.fU⟩
instance {x : dI}:Fz (dI.av x):=⟨dI.fz x⟩
instance : Qp dI.enc 18:=⟨dI.len⟩
instance : UK dJ.enc:=⟨dJ.fU⟩
instance {x : dJ}:Fz (dJ.av x):=⟨dJ.fz x⟩
instance : Qp dJ.enc 18:=⟨dJ.len⟩
instance : UK dH.enc:=⟨dH.fU⟩
instance {x : dH}:Fz (dH.av x):=⟨dH.fz x⟩
instance : Qp dH.enc 1:=⟨dH.len⟩
instance : UK wG.enc:=⟨wG.fU⟩
instance {x : wG}:Fz (wG.av x):=⟨wG.fz x⟩
instance : Qp wG.enc 26:=⟨wG.len⟩
instance : UK qV.enc:=⟨qV.fU⟩
instance {x : qV}:Fz (qV.av x):=⟨qV.fz x⟩
instance : Qp qV.enc 32:=⟨qV.len⟩
instance : UK oP.enc:=⟨oP.fU⟩
instance {x : oP}:Fz (oP.av x):=⟨oP.fz x⟩
instance : Qp oP.enc 29:=⟨oP.len⟩
instance : UK qW.enc:=⟨qW.fU⟩
instance {x : qW}:Fz (qW.av x):=⟨qW.fz x⟩
instance : Qp qW.enc 87:=⟨qW.len⟩
instance : UK zH.enc:=⟨zH.fU⟩
instance {x : zH}:Fz (zH.av x):=⟨zH.fz x⟩
instance : Qp zH.enc 23:=⟨zH.len⟩
instance : UK mG.enc:=⟨mG.fU⟩
instance {x : mG}:Fz (mG.av x):=⟨mG.fz x⟩
instance : Qp mG.enc 24:=⟨mG.len⟩
instance : UK Qd.enc:=⟨Qd.fU⟩
instance {x : Qd}:Fz (Qd.av x):=⟨Qd.fz x⟩
instance : Qp Qd.enc 1:=⟨Qd.len⟩
instance : UK qX.enc:=⟨qX.fU⟩
instance {x : qX}:Fz (qX.av x):=⟨qX.fz x⟩
instance : Qp qX.enc 2:=⟨qX.len⟩
instance {r : dN×Int}:Fz (zK r):=⟨(inferInstance:YV [(dN.av r.1),(.p (.int .i64 r.2))]).h⟩
instance {r : Int×Bool}:Fz (qx r):=⟨(inferInstance:YV [(.p (.int .i64 r.1)),(.p (.bool r.2))]).h⟩
instance {r : dH×Int×Int}:Fz (lV r):=⟨(inferInstance:YV [(dH.av r.1),(.p (.int .i64 r.2.1)),(.p (.int .i64 r.2.2))]).h⟩
noncomputable def jI : oN:=xOr (ap1 124 123 121) (adq Try.prog)
theorem fE : ∀σ:List AV,fU σ=true->ny Try.prog σ jI:=ap4 (am2 tV vI CQ) aho
noncomputable def jJ : B_:=ap6 (aso Try.prog (ocT [(22,[0],18,false),(25,[0],18,false),(27,[0,0],18,false),(31,[0,0],18,false)])) (ap_ Try.prog (wcT [(100000,[(0,18)]),(100000,[(1,2)]),(100000,[(1,2)]),(100000,[(1,2)]),(100000,[(1,2)]),(100000,[(1,2)]),(88,[]),(49,[]),(52,[]),(104,[])]))
theorem fF : ∀σ:List AV,fU σ=true->lT Try.prog σ jJ:=am7 am8 anc
def Di : Md:=mdT 822752278852164963685720698573509829529663998224680964801429504
def kA : List (List Nat):=[[],[],[],[],[],[],[],[],[],[],[],[],[],[],[],[],[],[],[],[],[],[],[],[],[],[],[],[],[],[],[],[],[],[],[],[],[],[],[],[],[],[],[],[],[],[],[],[],[],[0,1,2,6,7,8,9,14,15,16,17,18,30],[],[],[0,1,2,6,7,8,9,14,15,16,17,18,30],[],[],[],[],[],[],[],[],[],[],[],[],[],[],[],[],[],[],[],[],[],[],[],[],[],[],[],[],[],[],[],[],[],[],[],[0,1,4],[],[],[],[],[],[],[],[],[],[],[],[],[],[],[],[0,1,4,5,7,8,9,16],[],[],[],[],[],[],[],[],[],[],[],[],[],[],[],[],[],[],[],[],[],[],[],[],[],[],[],[],[],[],[],[],[],[],[],[],[],[],[],[],[],[],[],[],[],[],[]]
def sT : Bh:=⟨[(46,⟨[(qM (.li 0) (V 1)),(qL (V 1) (.rlen (W 0 0)))],[],[]⟩),
 (21,⟨[],[(qM (.rlen (W 0 0)) (.li 4294967296))],[(.or (qN (V 1) (.li 0)) (qM (.rlen (W 0 0)) (.li 4096)))]⟩),
 (22,⟨[],[(qM (.rlen (W 0 0)) (.li 4294967296))],[(qM (.rlen (W 1 0)) (.rlen (W 0 0)))]⟩)],[]⟩
theorem aoV (a b:Int):aeq Try.prog 10000 3 (.p (.int .i64 a)) (.p (.int .i64 b))=some (decide (a=b)):=by
 have h:yEq Try.prog 10000 3 (.sc (.int .i64) (.var 0 [])) (.sc (.int .i64) (.var 1 []))=some (.bin .eql (.int .i64) (.var 0 []) (.var 1 [])):=by kernel_rfl
 have h2:=Oi (P:=Try.prog) (ρ:=[.p (.int .i64 a),.p (.int .i64 b)]) h
 refine h2.trans ?_
 show some (a == b)=_
 rw [ay2]
theorem alx (a b:dP):aeq Try.prog 10000 27 (.agg a.enc) (.agg b.enc)=some (decide (a=b)):=by
 have h:yEq Try.prog 10000 27 (.agg (kG 0 [] 0 dP.jY)) (.agg (kG 1 [] 0 dP.jY))=some (.and (.bin .eql .str (.var 0 [0]) (.var 1 [0])) (.bin .eql (.int .i64) (.var 0 [1]) (.var 1 [1]))):=by kernel_rfl
 have h2:=Oi (P:=Try.prog) (ρ:=[a.av,b.av]) h
 refine h2.trans ?_
 congr 1
 show (Dw a.Str b.Str&&dU a.Sym b.Sym)=decide (a=b)
 cases a;cases b
 simp [Dw,dU,Qy,Bool.decide_and,ay2]
def R65 : kR:=
 ⟨[((.lb true),(.agg [(zU (.li 1)),(zF (.lf 0)),(zS (.ls [])),(zI (.li 0))]))],
 [],[]⟩
theorem e65 : pK Try.prog jI jJ Di (Df kA 65 [] []) 3 200 65 [] 0=some R65:=by kernel_rfl
theorem JU : CT Try.prog sT 65 [] (dL.av Bo):=
 Gx oJ fE fF e65 K_ (by kernel_rfl) [] xn
  wn
  ln
  (oQ rfl)
def R44 : kR:=
 ⟨[((.lb true),(.agg [(.slc [[(zU (.li 1)),(zU (W 0 0)),(zF (W 0 1)),(zS (W 0 2)),(zI (W 0 3)),(zB (.lb true)),(.slc [[(zS (.ls [97])),(zI (.li 0)),(zU (.li 51)),(zU (.li 3)),(zF (.lf 4619567317775286272)),(zS (.ls [])),(zI (.li 0)),(zU (.li 0)),(zF (.lf 0)),(zS (.ls [])),(zI (.li 0)),(zU (.li 0)),(zF (.lf 0)),(zS (.ls [])),(zI (.li 0)),(zB (.lb true)),(zB (.lb true)),(zB (.lb true))]] false),(zU (.li 0)),(zF (.lf 0)),(zS (.ls [])),(zI (.li 0)),(zU (.li 0)),(zF (.lf 0)),(zS (.ls [])),(zI (.li 0)),(zS (.ls [])),(zB (.lb false)),(zB (.lb false))],[(zU (.li 1)),(zU (.li 6)),(zF (.lf 0)),(zS (.ls [])),(zI (.li 0)),(zB (.lb true)),(.slc [] false),(zU (.li 0)),(zF (.lf 0)),(zS (.ls [])),(zI (.li 0)),(zU (.li 0)),(zF (.lf 0)),(zS (.ls [])),(zI (.li 0)),(zS (.ls [])),(zB (.lb false)),(zB (.lb false))]] false)]))],
 [([],(.call 65 [] (.agg (cV 0 dL.jY))))],[]⟩
theorem e44 : pK Try.prog jI jJ Di (Df kA 44 [] []) 3 200 44 [] 0=some R44:=by kernel_rfl
theorem Nv : CT Try.prog sT 44 [] (dH.av qI):=
 Gx oJ fE fF e44 K_ (by kernel_rfl) [dL.av (Bo )] xn
  (wC (JU)<|wn)
  ln
  (oQ rfl)
def R45 : kR:=
 ⟨[((.lb true),(.agg [(zU (.li 6)),(zU (W 2 0)),(zF (W 2 1)),(zS (W 2 2)),(zI (W 2 3)),(zB (.lb false)),(.slc [] false),(zU (.li 6)),(zF (.lf 0)),(zS (.ls [])),(zI (V 0)),(zU (.li 6)),(zF (.lf 0)),(zS (.ls [])),(zI (V 1)),(zS (.ls [])),(zB (.lb false)),(zB (.lb false))]))],
 [([],(.call 65 [] (.agg (cV 2 dL.jY))))],[]⟩
theorem e45 : pK Try.prog jI jJ Di (Df kA 45 [] []) 3 200 45 [zI (V 0),zI (V 1)] 2=some R45:=by kernel_rfl
theorem Ph (x0:Int)(x1:Int):CT Try.prog sT 45 [eI x0,eI x1] (dJ.av (qJ x0 x1)):=
 let v2:dL:=Bo
 Gx oJ fE fF e45 K_ (by kernel_rfl) [eI x0,eI x1,dL.av v2] xn
  (wC (JU)<|wn)
  ln
  (show _=dJ.av ((dJ.mk 6 v2 false [] (dL.mk 6 0 [] x0) (dL.mk 6 0 [] x1) [] false false)) from oQ rfl)
def aoW : Lo:=
 let p0:Pc:=((qL (V 3) (.rlen (W 0 0))),true)::[]
 let p1:Pc:=((W 8 0),false)::p0
 let p2:Pc:=((W 9 1),false)::p1
 .mk [((qL (V 3) (.rlen (W 0 0))),true)] 5 3 [(zB (V 2)),(zI (V 3)),(.slc [] false)] [((.not (.not (W 8 0))),1,[(zB (V 5)),(zI (V 6)),(zL (V 7))]),((W 9 1),2,[(zB (.lb true)),(zL (V 7))]),((uE (W 11 1) (.li 1)),1,[(zB (V 5)),(zI (V 6)),(zL (V 10))]),((.lb true),0,[(zB (V 5)),(zI (W 11 4)),(zL (V 10))])] [(p0,(.tm (qM (.li 0) (V 6)))),
 (p0,(.tm (qL (V 6) (.rlen (W 0 0))))),
 (p0,(.rd (false,1) (V 4) (V 6) 0 (zB (W 8 0)))),
 (p1,(.look 3 (.mk false 1 false 1) (V 7) (zI (V 6)) (zB (.lb false)) (W 9 0) (zB (W 9 1)))),
 (p2,(.put 3 (.mk false 1 false 1) (V 7) (zI (V 6)) (zB (.lb true)) (V 10))),
 (p2,(.row (W 0 0) (V 6) (cV 11 dJ.jY)))] [] [3,2] []
def aoX : LH:=.mk [(qM (.li 0) (V 6)),(qL (V 6) (.rlen (W 0 0)))] .nl [] [([((uN (W 11 1) (.li 1)),true)],(qM (.li 0) (W 11 4))),([((uN (W 11 1) (.li 1)),true),((qL (V 6) (.rlen (W 0 0))),true),((qM (.li 0) (V 6)),true)],(qL (W 11 4) (.rlen (W 0 0))))] 0 [] []
def sZ (r:Bool×Bool×Int×List (Int×Bool)×Bool×List (Int×Bool)):Nat×List AV:=rk2 r.1 [eB r.2.1,eI r.2.2.1,eL (yQ Bc rowB) r.2.2.2.1] [eB r.2.2.2.2.1,eL (yQ Bc rowB) r.2.2.2.2.2]
theorem Eh (x0:dH)(v1:List Bool)(u2:Bool)(u3:Int)(u4:List Bool):∀(n:Nat) (u5:Bool) (u6:Int) (u7:List (Int×Bool)) (hP:Ze x0) (hB:x0.Objects.length<=4294967296) (_:jM x0 u4 n u5 u6 u7=true),Gs Try.prog sT aoW aoX [dH.av x0,eL rowB v1,eB u2,eI u3,eL rowB u4] n [eB u5,eI u6,eL (yQ Bc rowB) u7] (sZ (f_ x0 u4 n u5 u6 u7))
 |0,u5,u6,u7,_,_,hE=>absurd (show false=true from hE) Bool.false_ne_true
 |n+1,u5,u6,u7,hP,hB,hE=>
  let v8:Bool:=u4.getD (u6:Int).toNat default
  let v9:Bool×Bool:=mJ false u6 u7
  let v10:List (Int×Bool):=mM u6 true u7
  let v11:dJ:=x0.Objects.getD (u6:Int).toNat default
  have hE:(bif (!(!v8)) then true
  else bif v9.2 then true
  else bif (dU v11.fA.Kind 1) then true
  else jM x0 u4 n u5 v11.fA.Ref v10)=true:=hE
  lmk rfl [.agg (rowB v8),.agg (eB v9.1::rowB v9.2),eL (yQ Bc rowB) v10,dJ.av v11] (xp (fun h=>decide_eq_true (alf hP (aa2.1 (h.at 0 rfl))))<|xp (fun h=>decide_eq_true (aoP hP (aa2.1 (h.at 0 rfl)) (of_decide_eq_true (h.at 1 rfl)) (of_decide_eq_true (h.at 2 rfl))))<|xn) (wT <|
  wT <|
  wRd rfl <|
  aoL (f:=Bc) (g:=rowB) aoV u6 false rfl <|
  asO (f:=Bc) (g:=rowB) aoV u6 true rfl <|
  wR rfl <|
  wn) ln <|
   rcf sZ (fun g0=>rx)<|fun g0=>rcf sZ (fun g1=>rx)<|fun g1=>rcf sZ (fun g2=>rx)<|fun g2=>rl (rg (Eh x0 v1 u2 u3 u4 n _ _ _ hP hB (ak6 g2 (ak6 g1 (ak6 g0 hE)))))
def aoY : Lo:=
 let p0:Pc:=((qL (V 3) (.rlen (W 0 0))),true)::[]
 let p1:Pc:=((qE (V 5) (.li 0)),true)::p0
 .mk [] 2 3 [(zB (.lb false)),(zI (.li 0)),(zL (V 1))] [((.not (qL (V 3) (.rlen (W 0 0)))),1,[(zB (V 2)),(zL (V 4))]),((.not (qE (V 5) (.li 0))),2,[(zB (V 9)),(zL (V 4))]),((.lb true),0,[(zB (V 6)),(zI (aI (V 3) (.li 1))),(zL (V 11))])] [(p1,(.mark (.mk false 1 false 1) (V 8) (V 4) (.rlen (W 0 0)) (V 11)))] [aoW] [2,2] []
def aoZ : LH:=.mk [(qM (.li 0) (V 3)),(qE (.rlen (V 4)) (.rlen (V 1)))] (mI (.rlen (W 0 0)) (V 3)) [((.rlen (W 0 0)),1)] [] 1 [aoX] []
def yj (r:Bool×Bool×List Bool×Bool×List Bool):Nat×List AV:=rk2 r.1 [eB r.2.1,eL rowB r.2.2.1] [eB r.2.2.2.1,eL rowB r.2.2.2.2]
theorem Ei (x0:dH)(v1:List Bool):∀(n:Nat) (u2:Bool) (u3:Int) (u4:List Bool) (hP:Ze x0) (hB:x0.Objects.length<=4294967296) (k0:0<=u3),Gs Try.prog sT aoY aoZ [dH.av x0,eL rowB v1] n [eB u2,eI u3,eL rowB u4] (yj (jZ x0 n u2 u3 u4))
 |0,u2,u3,u4,_,_,_=>l0
 |n+1,u2,u3,u4,hP,hB,k0=>
  let r5:Bool×Bool×Int×List (Int×Bool)×Bool×List (Int×Bool):=f_ x0 u4 (x0.Objects.length+3) u2 u3 []
  let v11:List Bool:=MS r5.2.2.2.1 u4
  lmk rfl [eI (mg r5.1),eB r5.2.1,eI r5.2.2.1,eL (yQ Bc rowB) r5.2.2.2.1,eB r5.2.2.2.2.1,eL (yQ Bc rowB) r5.2.2.2.2.2,eL rowB v11] xn (asN (u:=r5.2.2.2.1) (l:=u4) rfl rfl (by intro h;exact abE hP (fun e he=>absurd he List.not_mem_nil) k0 (of_decide_eq_true (h.at 1 rfl)))<|wn) (lc2 (Eh x0 v1 u2 u3 u4 (x0.Objects.length+3) u2 u3 [] hP hB (O8 hP)) (hn:=Int.natCast_pos.2 (Nat.succ_pos _)) <|
  ln) <|
   rcf yj (fun g0=>rx)<|fun g0=>rcf yj (fun g1=>rx)<|fun g1=>rl (rg (Ei x0 v1 n _ _ _ hP hB (aqy hB k0 g0)))
def R47 : kR:=
 ⟨[((.not (qE (V 2) (.li 0))),(zB (V 5))),((.lb true),(zB (.lb false)))],
 [([],(.mk (.rlen (W 0 0)) (.rlen (W 0 0)) [(zB (.lb false))] (V 1)))],[aoY]⟩
def H47 : LH:=.mk [] (.li 0) [] [] 0 [aoZ] []
theorem e47 : pK Try.prog jI jJ Di (Df kA 47 [4,2,6,5,8,16] [(0,(.mk [1,3,15] (.mk [(2,(.sc .bool)),(16,(.sc kI))] [] [(5,1)] 11 []) [(.normal,(.mk [(2,(.sc .bool))] [] [(5,1)] 11 [])),(.ret,(.mk [(2,(.sc .bool))] [] [(5,1)] 11 []))])),(2,(.mk [1,3,4,5,15,16] (.mk [(2,(.sc .bool)),(6,(.sc kI))] [] [(14,(.map (.mk false 1 false 1)))] 18 []) [(.normal,(.mk [(2,(.sc .bool)),(6,(.sc kI))] [] [(14,(.map (.mk false 1 false 1)))] 18 [])),(.ret,(.mk [(2,(.sc .bool))] [] [(14,(.map (.mk false 1 false 1)))] 18 []))]))]) 3 200 47 [.agg (cV 0 dH.jY)] 1=some R47:=by kernel_rfl
theorem VD (x0:dH)(hP:Ze x0)(hB:x0.Objects.length<=4294967296):CT Try.prog sT 47 [dH.av x0] (eB (qy x0)):=
 let v1:List Bool:=List.replicate ((jT dJ.enc x0.Objects):Int).toNat false
 let r2:Bool×Bool×List Bool×Bool×List Bool:=jZ x0 (x0.Objects.length+1) false 0 v1
 Gx oJ fE fF e47 H47 (by kernel_rfl) [dH.av x0,eL rowB v1,eI (mg r2.1),eB r2.2.1,eL rowB r2.2.2.1,eB r2.2.2.2.1,eL rowB r2.2.2.2.2] xn
  (wMk (f:=rowB) false rfl<|wn)
  (lc2 (Ei x0 v1 (x0.Objects.length+1) false 0 v1 hP hB (Int.le_refl _)) <|
  ln)
  (nO (fun r=>.p (.bool r)) rfl rfl (oQ rfl))
def avd : kR:=
 ⟨[((.lb true),(zF (V 1)))],
 [([],(.call 121 [(zF (V 0))] (zF (V 1))))],[]⟩
theorem ave : pK Try.prog jI jJ Di (Df kA 112 [] []) 3 200 112 [zF (V 0)] 1=some avd:=by kernel_rfl
theorem VE (x0:Nat)(h0:Ij x0):CT Try.prog sT 112 [eF x0] (eF (Fj x0)):=
 let v1:Nat:=iH x0
 Gx oJ fE fF ave K_ (by kernel_rfl) [eF x0,eF v1] xn
  (wCp (by intro h;exact ctP (CQ x0 h0))<|wn)
  ln
  (oQ rfl)
def avf : kR:=
 ⟨[((.lb true),(zF (V 2)))],
 [([],(.call 124 [(zF (V 0))] (.sc (.int .u64) (V 1)))),
 ([],(.call 123 [(.sc (.int .u64) (.bin .andNot (.int .u64) (V 1) (.li 9223372036854775808)))] (zF (V 2))))],[]⟩
theorem avg : pK Try.prog jI jJ Di (Df kA 113 [] []) 3 200 113 [zF (V 0)] 1=some avf:=by kernel_rfl
theorem abP (x0:Nat):CT Try.prog sT 113 [eF x0] (eF (MW x0)):=
 let v1:Int:=mY x0
 let v2:Nat:=oC (nK .u64 v1 9223372036854775808)
 Gx oJ fE fF avg K_ (by kernel_rfl) [eF x0,.p (.int .u64 v1),eF v2] xn
  (wC (ctP (tV x0)) <|
  wC (ctP (vI (nK .u64 v1 9223372036854775808))) <|
  wn)
  ln
  (oQ rfl)
def avh : kR:=
 ⟨[((.lb true),(zB (qL (.conv .i64 (V 1)) (.li 0))))],
 [([],(.call 124 [(zF (V 0))] (.sc (.int .u64) (V 1))))],[]⟩
theorem avi : pK Try.prog jI jJ Di (Df kA 114 [] []) 3 200 114 [zF (V 0)] 1=some avh:=by kernel_rfl
theorem Qr (x0:Nat):CT Try.prog sT 114 [eF x0] (eB (zM x0)):=
 let v1:Int:=mY x0
 Gx oJ fE fF avi K_ (by kernel_rfl) [eF x0,.p (.int .u64 v1)] xn
  (wC (ctP (tV x0))<|wn)
  ln
  (oQ rfl)
def avj : kR:=
 let p0:Pc:=((.bin .neq .jL (V 0) (V 0)),false)::[]
 let p1:Pc:=((.bin .eql .jL (V 1) (V 0)),true)::p0
 let p2:Pc:=((.and (.bin .eql .jL (V 1) (V 0)) (.bin .leq .jL (V 2) (.lf 4845873199050653695))),true)::p0
 let p3:Pc:=((.bin .neq .jL (V 0) (.lf 0)),false)::p2
 ⟨[((.lb true),(zB (.or (.bin .neq .jL (V 0) (V 0)) (.and (.and (.bin .eql .jL (V 1) (V 0)) (.bin .leq .jL (V 2) (.lf 4845873199050653695))) (.or (.bin .neq .jL (V 0) (.lf 0)) (.not (V 3)))))))],
 [(p0,(.call 112 [(zF (V 0))] (zF (V 1)))),
 (p1,(.call 113 [(zF (V 0))] (zF (V 2)))),
 (p3,(.call 114 [(zF (V 0))] (zB (V 3))))],[]⟩
theorem avk : pK Try.prog jI jJ Di (Df kA 103 [] []) 3 200 103 [zF (V 0)] 1=some avj:=by kernel_rfl
theorem Lc (x0:Nat):CT Try.prog sT 103 [eF x0] (eB (uG x0)):=
 let v1:Nat:=Fj x0
 let v2:Nat:=MW x0
 let v3:Bool:=zM x0
 Gx oJ fE fF avk K_ (by kernel_rfl) [eF x0,eF v1,eF v2,eB v3] xn
  (wCp (by intro h;exact VE x0 (auI (h.at 0 rfl))) <|
  wC (abP x0) <|
  wC (Qr x0) <|
  wn)
  ln
  (oQ rfl)
def R84 : kR:=
 let p0:Pc:=((qG (.slen (W 0 2)) (.li 4096)),false)::[]
 let p1:Pc:=((qL (W 0 3) (.li 0)),false)::p0
 let p2:Pc:=((.bin .gtr kU (W 0 0) (.li 8)),false)::p1
 let p3:Pc:=((uE (W 0 0) (.li 2)),true)::p2
 let p4:Pc:=((.bin .neq .jL (W 0 1) (.lf 4607182418800017408)),true)::p3
 let p5:Pc:=((.bin .neq .jL (W 0 1) (.lf 0)),false)::p4
 let p6:Pc:=((uE (W 0 0) (.li 2)),false)::p2
 let p7:Pc:=((uE (W 0 0) (.li 3)),true)::p6
 let p8:Pc:=((.and (uE (W 0 0) (.li 2)) (.and (.bin .neq .jL (W 0 1) (.lf 4607182418800017408)) (.or (.bin .neq .jL (W 0 1) (.lf 0)) (.not (V 1))))),false)::p2
 let p9:Pc:=((.and (.not (uE (W 0 0) (.li 2))) (.and (uE (W 0 0) (.li 3)) (.not (V 2)))),false)::p8
 let p10:Pc:=((.and (uE (W 0 0) (W 0 0)) (.and (.or (uE (W 0 0) (.li 2)) (.or (uE (W 0 0) (.li 3)) (.bin .eql .jL (W 0 1) (.lf 0)))) (.and (.ite (uE (W 0 0) (.li 2)) (sE (W 0 2) (.ls [])) (.ite (uE (W 0 0) (.li 3)) (sE (W 0 2) (.ls [])) (.or (uE (W 0 0) (.li 4)) (sE (W 0 2) (.ls []))))) (.ite (uE (W 0 0) (.li 2)) (qE (W 0 3) (.li 0)) (.ite (uE (W 0 0) (.li 3)) (qE (W 0 3) (.li 0)) (.ite (uE (W 0 0) (.li 4)) (qE (W 0 3) (.li 0)) (.or (.or (uE (W 0 0) (.li 5)) (.or (uE (W 0 0) (.li 6)) (.or (uE (W 0 0) (.li 7)) (uE (W 0 0) (.li 8))))) (qE (W 0 3) (.li 0))))))))),true)::p9
 ⟨[((.or (.or (.bin .gtr kU (W 0 0) (.li 8)) (qL (W 0 3) (.li 0))) (qG (.slen (W 0 2)) (.li 4096))),(zB (.lb false))),((.and (uE (W 0 0) (.li 2)) (.and (.bin .neq .jL (W 0 1) (.lf 4607182418800017408)) (.or (.bin .neq .jL (W 0 1) (.lf 0)) (.not (V 1))))),(zB (.lb false))),((.and (.not (uE (W 0 0) (.li 2))) (.and (uE (W 0 0) (.li 3)) (.not (V 2)))),(zB (.lb false))),((.lb true),(zB (.and (.and (uE (W 0 0) (W 0 0)) (.and (.or (uE (W 0 0) (.li 2)) (.or (uE (W 0 0) (.li 3)) (.bin .eql .jL (W 0 1) (.lf 0)))) (.and (.ite (uE (W 0 0) (.li 2)) (sE (W 0 2) (.ls [])) (.ite (uE (W 0 0) (.li 3)) (sE (W 0 2) (.ls [])) (.or (uE (W 0 0) (.li 4)) (sE (W 0 2) (.ls []))))) (.ite (uE (W 0 0) (.li 2)) (qE (W 0 3) (.li 0)) (.ite (uE (W 0 0) (.li 3)) (qE (W 0 3) (.li 0)) (.ite (uE (W 0 0) (.li 4)) (qE (W 0 3) (.li 0)) (.or (.or (uE (W 0 0) (.li 5)) (.or (uE (W 0 0) (.li 6)) (.or (uE (W 0 0) (.li 7)) (uE (W 0 0) (.li 8))))) (qE (W 0 3) (.li 0))))))))) (V 3))))],
 [(p5,(.call 103 [(zF (W 0 1))] (zB (V 1)))),
 (p7,(.call 103 [(zF (W 0 1))] (zB (V 2)))),
 (p10,(.call 103 [(zF (.ite (uE (W 0 0) (.li 2)) (.lf 0) (.ite (uE (W 0 0) (.li 3)) (.lf 0) (W 0 1))))] (zB (V 3))))],[]⟩
theorem e84 : pK Try.prog jI jJ Di (Df kA 84 [] []) 3 200 84 [.agg (cV 0 dL.jY)] 1=some R84:=by kernel_rfl
theorem zV (x0:dL):CT Try.prog sT 84 [dL.av x0] (eB (iI x0)):=
 let v1:Bool:=uG x0.Num
 let v2:Bool:=uG x0.Num
 let v3:Bool:=uG (bif (dU x0.Kind 2) then 0 else (bif (dU x0.Kind 3) then 0 else x0.Num))
 Gx oJ fE fF e84 K_ (by kernel_rfl) [dL.av x0,eB v1,eB v2,eB v3] xn
  (wC (Lc x0.Num) <|
  wC (Lc x0.Num) <|
  wC (Lc (bif (dU x0.Kind 2) then 0 else (bif (dU x0.Kind 3) then 0 else x0.Num))) <|
  wn)
  ln
  (nO (fun r=>.p (.bool r)) rfl rfl (nO (fun r=>.p (.bool r)) rfl rfl (nO (fun r=>.p (.bool r)) rfl rfl (oQ rfl))))
def R68 : kR:=
 let p0:Pc:=((uE (W 0 0) (V 1)),true)::[]
 ⟨[((.lb true),(zB (.and (uE (W 0 0) (V 1)) (V 2))))],
 [(p0,(.call 84 [(.agg (cV 0 dL.jY))] (zB (V 2))))],[]⟩
theorem e68 : pK Try.prog jI jJ Di (Df kA 68 [] []) 3 200 68 [.agg (cV 0 dL.jY),zU (V 1)] 2=some R68:=by kernel_rfl
theorem Bq (x0:dL)(x1:Int):CT Try.prog sT 68 [dL.av x0,eU x1] (eB (oG x0 x1)):=
 let v2:Bool:=iI x0
 Gx oJ fE fF e68 K_ (by kernel_rfl) [dL.av x0,eU x1,eB v2] xn
  (wC (zV x0)<|wn)
  ln
  (oQ rfl)
def R60 : kR:=
 ⟨[((.lb true),(zB (.and (.bin .geq kU (W 0 0) (.li 6)) (.bin .leq kU (W 0 0) (.li 8)))))],
 [],[]⟩
theorem e60 : pK Try.prog jI jJ Di (Df kA 60 [] []) 3 200 60 [.agg (cV 0 dL.jY)] 1=some R60:=by kernel_rfl
theorem qZ (x0:dL):CT Try.prog sT 60 [dL.av x0] (eB (dR x0)):=
 Gx oJ fE fF e60 K_ (by kernel_rfl) [dL.av x0] xn
  wn
  ln
  (oQ rfl)
def R85 : kR:=
 ⟨[((W 0 17),(zU (.li 8))),((W 0 16),(zU (.li 7))),((.lb true),(zU (.li 6)))],
 [],[]⟩
theorem e85 : pK Try.prog jI jJ Di (Df kA 85 [] []) 3 200 85 [.agg (cV 0 dJ.jY)] 1=some R85:=by kernel_rfl
theorem Y5 (x0:dJ):CT Try.prog sT 85 [dJ.av x0] (eU (Eb x0)):=
 Gx oJ fE fF e85 K_ (by kernel_rfl) [dJ.av x0] xn
  wn
  ln
  (nO (fun r=>.p (.int .u8 r)) rfl rfl (nO (fun r=>.p (.int .u8 r)) rfl rfl (oQ rfl)))
def R67 : kR:=
 let p0:Pc:=((V 2),true)::[]
 let p1:Pc:=((.not (V 3)),false)::p0
 let p2:Pc:=((qL (W 1 3) (.rlen (W 0 0))),true)::p1
 ⟨[((.not (V 2)),(zB (.lb false))),((.lb true),(zB (.or (.not (V 3)) (.and (qL (W 1 3) (.rlen (W 0 0))) (uE (V 5) (W 1 0))))))],
 [([],(.call 84 [(.agg (cV 1 dL.jY))] (zB (V 2)))),
 (p0,(.call 60 [(.agg (cV 1 dL.jY))] (zB (V 3)))),
 (p2,(.row (W 0 0) (W 1 3) (cV 4 dJ.jY))),
 (p2,(.call 85 [(.agg (cV 4 dJ.jY))] (zU (V 5))))],[]⟩
def H67 : LH:=.mk [] (.li 0) [] [([((V 2),true)],(qM (.li 0) (W 1 3)))] 0 [] []
theorem e67 : pK Try.prog jI jJ Di (Df kA 67 [] []) 3 200 67 [.agg (cV 0 dH.jY),.agg (cV 1 dL.jY)] 2=some R67:=by kernel_rfl
theorem yu (x0:dH)(x1:dL):CT Try.prog sT 67 [dH.av x0,dL.av x1] (eB (dZ x0 x1)):=
 let v2:Bool:=iI x1
 let v3:Bool:=dR x1
 let v4:dJ:=x0.Objects.getD (x1.Ref:Int).toNat default
 let v5:Int:=Eb v4
 Gx oJ fE fF e67 H67 (by kernel_rfl) [dH.av x0,dL.av x1,eB v2,eB v3,dJ.av v4,eU v5] (xp (fun h=>decide_eq_true (QT ( (h.at 0 rfl))))<|xn)
  (wC (zV x1) <|
  wC (qZ x1) <|
  wR rfl <|
  wC (Y5 v4) <|
  wn)
  ln
  (nO (fun r=>.p (.bool r)) rfl rfl (oQ rfl))
def ao0 : Lo:=
 let p0:Pc:=((.and (W 1 17) (.not (W 1 16))),false)::[]
 let p1:Pc:=((sN (W 1 15) (.ls [])),false)::p0
 let p2:Pc:=((V 3),true)::p1
 let p3:Pc:=((W 1 5),false)::p2
 let p4:Pc:=((qG (.rlen (W 1 6)) (.li 0)),false)::p3
 let p5:Pc:=((.and (V 4) (V 5)),false)::p4
 let p6:Pc:=((qL (V 7) (.li 2)),true)::p5
 let p7:Pc:=((.not (V 10)),false)::p6
 .mk [((.and (V 4) (V 5)),false),((qG (.rlen (W 1 6)) (.li 0)),false),((W 1 5),false),((V 3),true),((sN (W 1 15) (.ls [])),false),((.and (W 1 17) (.not (W 1 16))),false)] 6 3 [(zB (.lb false)),(zI (.li 0)),(.slc [[(zU (W 1 7)),(zF (W 1 8)),(zS (W 1 9)),(zI (W 1 10))],[(zU (W 1 11)),(zF (W 1 12)),(zS (W 1 13)),(zI (W 1 14))]] false)] [((.not (qL (V 7) (.li 2))),1,[(zB (V 6)),(zL (V 8))]),((.or (.or (.not (V 10)) (.not (V 11))) (qH (W 9 3) (V 2))),2,[(zB (.lb false)),(zL (V 8))]),((.lb true),0,[(zB (V 6)),(zI (aI (V 7) (.li 1))),(zL (V 8))])] [(p6,(.tm (qM (.li 0) (V 7)))),
 (p6,(.rd (true,4) (V 8) (V 7) 0 (.agg (cV 9 dL.jY)))),
 (p6,(.call 60 [(.agg (cV 9 dL.jY))] (zB (V 10)))),
 (p7,(.call 67 [(.agg [(zL (W 0 0))]),(.agg (cV 9 dL.jY))] (zB (V 11))))] [] [2,2] []
def ao1 : LH:=.mk [(qM (.rlen (W 1 6)) (V 7)),(qE (.rlen (V 8)) (.li 2))] (mI (.li 2) (V 7)) [((.li 2),1)] [] 3 [] []
def yw (r:Bool×Bool×List dL×Bool×List dL):Nat×List AV:=rk2 r.1 [eB r.2.1,eL dL.enc r.2.2.1] [eB r.2.2.2.1,eL dL.enc r.2.2.2.2]
theorem Ej (x0:dH)(x1:dJ)(x2:Int)(v3:Bool)(v4:Bool)(v5:Bool):∀(n:Nat) (u6:Bool) (u7:Int) (u8:List dL),Gs Try.prog sT ao0 ao1 [dH.av x0,dJ.av x1,eI x2,eB v3,eB v4,eB v5] n [eB u6,eI u7,eL dL.enc u8] (yw (jO x0 x2 n u6 u7 u8))
 |0,u6,u7,u8=>l0
 |n+1,u6,u7,u8=>
  let v9:dL:=u8.getD (u7:Int).toNat default
  let v10:Bool:=dR v9
  let v11:Bool:=dZ x0 v9
  lmk rfl [dL.av v9,eB v10,eB v11] xn (wT <|
  wRd rfl <|
  wC (qZ v9) <|
  wC (yu x0 v9) <|
  wn) ln <|
   rc yw rx<|rc yw rx<|rl (rg (Ej x0 x1 x2 v3 v4 v5 n _ _ _))
def R66 : kR:=
 let p0:Pc:=((.or (qG (.rlen (W 1 6)) (.li 0)) (W 1 5)),false)::[]
 let p1:Pc:=((.and (W 1 17) (.not (W 1 16))),false)::[]
 let p2:Pc:=((sN (W 1 15) (.ls [])),false)::p1
 let p3:Pc:=((V 3),true)::p2
 let p4:Pc:=((W 1 5),false)::p3
 let p5:Pc:=((qG (.rlen (W 1 6)) (.li 0)),false)::p4
 let p6:Pc:=((V 4),true)::p5
 let p7:Pc:=((.and (V 4) (V 5)),false)::p5
 let p8:Pc:=((qE (V 6) (.li 0)),true)::p7
 ⟨[((.or (.or (.or (.or (qG (.rlen (W 1 6)) (.li 0)) (W 1 5)) (.not (V 3))) (sN (W 1 15) (.ls []))) (.and (W 1 17) (.not (W 1 16)))),(zB (.lb false))),((.and (V 4) (V 5)),(zB (.lb true))),((.not (qE (V 6) (.li 0))),(zB (V 9))),((.lb true),(zB (.and (.bin .eql .bool (W 11 16) (W 1 16)) (.bin .eql .bool (W 11 17) (W 1 17)))))],
 [(p0,(.call 68 [(.agg (cW 1 1 dL.jY)),(zU (.li 1))] (zB (V 3)))),
 (p5,(.call 68 [(.agg (cW 1 7 dL.jY)),(zU (.li 1))] (zB (V 4)))),
 (p6,(.call 68 [(.agg (cW 1 11 dL.jY)),(zU (.li 1))] (zB (V 5)))),
 (p8,(.row (W 0 0) (W 1 10) (cV 11 dJ.jY)))],[ao0]⟩
def H66 : LH:=.mk [] (.li 0) [] [([((qE (V 6) (.li 0)),true)],(qM (.li 0) (W 1 10))),([((qE (V 6) (.li 0)),true)],(qL (W 1 10) (.rlen (W 0 0))))] 0 [ao1] []
theorem e66 : pK Try.prog jI jJ Di (Df kA 66 [61,60,62,63,66,68,67,69,52,6] [(0,(.mk [2,3,4,50,51] (.mk [(6,(.sc .bool)),(52,(.sc kI))] [] [(43,4)] 46 []) [(.normal,(.mk [(6,(.sc .bool))] [] [(43,4)] 46 [])),(.ret,(.mk [(6,(.sc .bool))] [] [(43,4)] 46 []))]))]) 3 200 66 [.agg (cV 0 dH.jY),.agg (cV 1 dJ.jY),zI (V 2)] 3=some R66:=by kernel_rfl
theorem VF (x0:dH)(x1:dJ)(x2:Int):CT Try.prog sT 66 [dH.av x0,dJ.av x1,eI x2] (eB (sJ x0 x1 x2)):=
 let v3:Bool:=oG x1.fA 1
 let v4:Bool:=oG x1.Target 1
 let v5:Bool:=oG x1.Handler 1
 let r6:Bool×Bool×List dL×Bool×List dL:=jO x0 x2 ((2:Int).toNat+1) false 0 [x1.Target,x1.Handler]
 let v11:dJ:=x0.Objects.getD (x1.Target.Ref:Int).toNat default
 Gx oJ fE fF e66 H66 (by kernel_rfl) [dH.av x0,dJ.av x1,eI x2,eB v3,eB v4,eB v5,eI (mg r6.1),eB r6.2.1,eL dL.enc r6.2.2.1,eB r6.2.2.2.1,eL dL.enc r6.2.2.2.2,dJ.av v11] (xp (fun h=>decide_eq_true (ald (rQ.1 (h.at 0 rfl))))<|xp (fun h=>decide_eq_true (ale (rQ.1 (h.at 0 rfl))))<|xn)
  (wC (Bq x1.fA 1) <|
  wC (Bq x1.Target 1) <|
  wC (Bq x1.Handler 1) <|
  wR rfl <|
  wn)
  (lc2 (Ej x0 x1 x2 v3 v4 v5 ((2:Int).toNat+1) false 0 [x1.Target,x1.Handler]) <|
  ln)
  (nO (fun r=>.p (.bool r)) rfl rfl (nO (fun r=>.p (.bool r)) rfl rfl (nO (fun r=>.p (.bool r)) rfl rfl (oQ rfl))))
def R86 : kR:=
 ⟨[((.or (.or (qL (W 0 1) (.li 0)) (qG (.slen (W 0 0)) (.li 4096))) (.and (qG (W 0 1) (.li 0)) (sN (W 0 0) (.ls [])))),(zI (.li 9))),((.lb true),(zI (.li 0)))],
 [],[]⟩
theorem e86 : pK Try.prog jI jJ Di (Df kA 86 [] []) 3 200 86 [.agg (cV 0 dP.jY)] 1=some R86:=by kernel_rfl
theorem Y6 (x0:dP):CT Try.prog sT 86 [dP.av x0] (eI (vw x0)):=
 Gx oJ fE fF e86 K_ (by kernel_rfl) [dP.av x0] xn
  wn
  ln
  (nO (fun r=>.p (.int .i64 r)) rfl rfl (oQ rfl))
def R80 : kR:=
 ⟨[((.lb true),(zB (uN (.bin .and kU (W 0 0) (.li 3)) (.li 0))))],
 [],[]⟩
theorem e80 : pK Try.prog jI jJ Di (Df kA 80 [] []) 3 200 80 [.agg (cV 0 dN.jY)] 1=some R80:=by kernel_rfl
theorem IG (x0:dN):CT Try.prog sT 80 [dN.av x0] (eB (kE x0)):=
 Gx oJ fE fF e80 K_ (by kernel_rfl) [dN.av x0] xn
  wn
  ln
  (oQ rfl)
def R81 : kR:=
 ⟨[((.lb true),(zB (uN (.bin .and kU (W 0 0) (.li 12)) (.li 0))))],
 [],[]⟩
theorem e81 : pK Try.prog jI jJ Di (Df kA 81 [] []) 3 200 81 [.agg (cV 0 dN.jY)] 1=some R81:=by kernel_rfl
theorem Em (x0:dN):CT Try.prog sT 81 [dN.av x0] (eB (iy x0)):=
 Gx oJ fE fF e81 K_ (by kernel_rfl) [dN.av x0] xn
  wn
  ln
  (oQ rfl)
def avl : kR:=
 ⟨[((.lb true),(zB (.or (uE (W 0 0) (.li 7)) (uE (W 0 0) (.li 8)))))],
 [],[]⟩
theorem avm : pK Try.prog jI jJ Di (Df kA 111 [] []) 3 200 111 [.agg (cV 0 dL.jY)] 1=some avl:=by kernel_rfl
theorem U9 (x0:dL):CT Try.prog sT 111 [dL.av x0] (eB (Io x0)):=
 Gx oJ fE fF avm K_ (by kernel_rfl) [dL.av x0] xn
  wn
  ln
  (oQ rfl)
def avn : kR:=
 let p0:Pc:=((V 1),true)::[]
 let p1:Pc:=((uE (W 0 0) (.li 0)),false)::p0
 ⟨[((.lb true),(zB (.and (V 1) (.or (uE (W 0 0) (.li 0)) (V 2)))))],
 [([],(.call 84 [(.agg (cV 0 dL.jY))] (zB (V 1)))),
 (p1,(.call 111 [(.agg (cV 0 dL.jY))] (zB (V 2))))],[]⟩
theorem avo : pK Try.prog jI jJ Di (Df kA 101 [] []) 3 200 101 [.agg (cV 0 dL.jY)] 1=some avn:=by kernel_rfl
theorem II (x0:dL):CT Try.prog sT 101 [dL.av x0] (eB (lC x0)):=
 let v1:Bool:=iI x0
 let v2:Bool:=Io x0
 Gx oJ fE fF avo K_ (by kernel_rfl) [dL.av x0,eB v1,eB v2] xn
  (wC (zV x0) <|
  wC (U9 x0) <|
  wn)
  ln
  (oQ rfl)
def R78 : kR:=
 let p0:Pc:=((uN (.bin .andNot kU (W 0 0) (.li 63)) (.li 0)),false)::[]
 let p1:Pc:=((V 1),true)::p0
 let p2:Pc:=((.or (uN (.bin .andNot kU (W 0 0) (.li 63)) (.li 0)) (.and (V 1) (V 2))),false)::[]
 let p3:Pc:=((.or (.or (uN (.bin .andNot kU (W 0 0) (.li 63)) (.li 0)) (.and (V 1) (V 2))) (.not (V 3))),false)::[]
 let p4:Pc:=((.or (.or (.or (uN (.bin .andNot kU (W 0 0) (.li 63)) (.li 0)) (.and (V 1) (V 2))) (.not (V 3))) (.not (V 4))),false)::[]
 ⟨[((.or (.or (.or (.or (uN (.bin .andNot kU (W 0 0) (.li 63)) (.li 0)) (.and (V 1) (V 2))) (.not (V 3))) (.not (V 4))) (.not (V 5))),(zI (.li 90))),((.or (.or (.and (uN (.bin .and kU (.com .u8 (W 0 0)) (.li 1)) (.li 0)) (.not (.and (uE (W 0 1) (.li 0)) (.and (.bin .eql .jL (W 0 2) (.lf 0)) (.and (sE (W 0 3) (.ls [])) (qE (W 0 4) (.li 0))))))) (.and (uN (.bin .and kU (.com .u8 (W 0 0)) (.li 4)) (.li 0)) (.not (.and (uE (W 0 5) (.li 0)) (.and (.bin .eql .jL (W 0 6) (.lf 0)) (.and (sE (W 0 7) (.ls [])) (qE (W 0 8) (.li 0)))))))) (.and (uN (.bin .and kU (.com .u8 (W 0 0)) (.li 8)) (.li 0)) (.not (.and (uE (W 0 9) (.li 0)) (.and (.bin .eql .jL (W 0 10) (.lf 0)) (.and (sE (W 0 11) (.ls [])) (qE (W 0 12) (.li 0)))))))),(zI (.li 90))),((.or (.or (.and (uN (.bin .and kU (.com .u8 (W 0 0)) (.li 2)) (.li 0)) (W 0 13)) (.and (uN (.bin .and kU (.com .u8 (W 0 0)) (.li 16)) (.li 0)) (W 0 14))) (.and (uN (.bin .and kU (.com .u8 (W 0 0)) (.li 32)) (.li 0)) (W 0 15))),(zI (.li 90))),((.lb true),(zI (.li 0)))],
 [(p0,(.call 80 [(.agg (cV 0 dN.jY))] (zB (V 1)))),
 (p1,(.call 81 [(.agg (cV 0 dN.jY))] (zB (V 2)))),
 (p2,(.call 84 [(.agg (cW 0 1 dL.jY))] (zB (V 3)))),
 (p3,(.call 101 [(.agg (cW 0 5 dL.jY))] (zB (V 4)))),
 (p4,(.call 101 [(.agg (cW 0 9 dL.jY))] (zB (V 5))))],[]⟩
theorem e78 : pK Try.prog jI jJ Di (Df kA 78 [] []) 3 200 78 [.agg (cV 0 dN.jY)] 1=some R78:=by kernel_rfl
theorem VG (x0:dN):CT Try.prog sT 78 [dN.av x0] (eI (rX x0)):=
 let v1:Bool:=kE x0
 let v2:Bool:=iy x0
 let v3:Bool:=iI x0.Value
 let v4:Bool:=lC x0.Get
 let v5:Bool:=lC x0.Set
 Gx oJ fE fF e78 K_ (by kernel_rfl) [dN.av x0,eB v1,eB v2,eB v3,eB v4,eB v5] xn
  (wC (IG x0) <|
  wC (Em x0) <|
  wC (zV x0.Value) <|
  wC (II x0.Get) <|
  wC (II x0.Set) <|
  wn)
  ln
  (nO (fun r=>.p (.int .i64 r)) rfl rfl (nO (fun r=>.p (.int .i64 r)) rfl rfl (nO (fun r=>.p (.int .i64 r)) rfl rfl (oQ rfl))))
def R79 : kR:=
 ⟨[((.lb true),(.agg [(zU (.ite (V 1) (.bin .or kU (W 0 0) (.li 60)) (.bin .or kU (W 0 0) (.li 51)))),(zU (W 0 1)),(zF (W 0 2)),(zS (W 0 3)),(zI (W 0 4)),(zU (W 0 5)),(zF (W 0 6)),(zS (W 0 7)),(zI (W 0 8)),(zU (W 0 9)),(zF (W 0 10)),(zS (W 0 11)),(zI (W 0 12)),(zB (W 0 13)),(zB (W 0 14)),(zB (W 0 15))]))],
 [([],(.call 81 [(.agg (cV 0 dN.jY))] (zB (V 1))))],[]⟩
theorem e79 : pK Try.prog jI jJ Di (Df kA 79 [] []) 3 200 79 [.agg (cV 0 dN.jY)] 1=some R79:=by kernel_rfl
theorem VH (x0:dN):CT Try.prog sT 79 [dN.av x0] (dN.av (kS x0)):=
 let v1:Bool:=iy x0
 Gx oJ fE fF e79 K_ (by kernel_rfl) [dN.av x0,eB v1] xn
  (wC (Em x0)<|wn)
  ln
  (oQ rfl)
def R61 : kR:=
 let p0:Pc:=((qN (V 1) (.li 0)),false)::[]
 ⟨[((qN (V 1) (.li 0)),(.gW [(.agg [(zU (.li 0)),(zU (.li 0)),(zF (.lf 0)),(zS (.ls [])),(zI (.li 0)),(zU (.li 0)),(zF (.lf 0)),(zS (.ls [])),(zI (.li 0)),(zU (.li 0)),(zF (.lf 0)),(zS (.ls [])),(zI (.li 0)),(zB (.lb false)),(zB (.lb false)),(zB (.lb false))]),(zI (V 1))])),((.lb true),(.gW [(.agg (cV 2 dN.jY)),(zI (.li 0))]))],
 [([],(.call 78 [(.agg (cV 0 dN.jY))] (zI (V 1)))),
 (p0,(.call 79 [(.agg (cV 0 dN.jY))] (.agg (cV 2 dN.jY))))],[]⟩
theorem e61 : pK Try.prog jI jJ Di (Df kA 61 [] []) 3 200 61 [.agg (cV 0 dN.jY)] 1=some R61:=by kernel_rfl
theorem Pj (x0:dN):CT Try.prog sT 61 [dN.av x0] (zK (yF x0)):=
 let v1:Int:=rX x0
 let v2:dN:=kS x0
 Gx oJ fE fF e61 K_ (by kernel_rfl) [dN.av x0,eI v1,dN.av v2] xn
  (wC (VG x0) <|
  wC (VH x0) <|
  wn)
  ln
  (nO zK rfl rfl (oQ rfl))
def R87 : kR:=
 ⟨[((.lb true),(zB (.and (qE (W 1 1) (.li 0)) (uE (.var 1 [0,0]) (W 0 0)))))],
 [([],(.call 61 [(.agg (cV 0 dN.jY))] (.gW [(.agg (kG 1 [0] 0 dN.jY)),(zI (W 1 1))])))],[]⟩
theorem e87 : pK Try.prog jI jJ Di (Df kA 87 [] []) 3 200 87 [.agg (cV 0 dN.jY)] 1=some R87:=by kernel_rfl
theorem U_ (x0:dN):CT Try.prog sT 87 [dN.av x0] (eB (rY x0)):=
 let v1:dN×Int:=yF x0
 Gx oJ fE fF e87 K_ (by kernel_rfl) [dN.av x0,zK v1] xn
  (wC (Pj x0)<|wn)
  ln
  (oQ rfl)
def ao2 : Lo:=
 let p0:Pc:=((qG (.rlen (V 0)) (.li 1024)),false)::[]
 let p1:Pc:=((qL (V 2) (.rlen (V 0))),true)::p0
 let p2:Pc:=((qN (V 5) (.li 0)),false)::p1
 let p3:Pc:=((V 6),true)::p2
 let p4:Pc:=((qG (W 7 1) (.li 0)),false)::p3
 .mk [((qG (.rlen (V 0)) (.li 1024)),false)] 1 3 [(zI (.li 0)),(zI (.li 0)),(.slc [] false)] [((.not (qL (V 2) (.rlen (V 0)))),1,[(zI (V 1)),(zL (V 3))]),((qN (V 5) (.li 0)),2,[(zI (V 5)),(zL (V 3))]),((.not (V 6)),2,[(zI (.li 90)),(zL (V 3))]),((qG (W 7 1) (.li 0)),2,[(zI (.li 100)),(zL (V 3))]),((.lb true),0,[(zI (V 1)),(zI (aI (V 2) (.li 1))),(zL (V 8))])] [(p1,(.row (V 0) (V 2) (cV 4 dI.jY))),
 (p1,(.call 86 [(.agg [(zS (W 4 0)),(zI (W 4 1))])] (zI (V 5)))),
 (p2,(.call 87 [(.agg (cW 4 2 dN.jY))] (zB (V 6)))),
 (p3,(.look 27 (.mk true 2 false 1) (V 3) (.agg [(zS (W 4 0)),(zI (W 4 1))]) (zI (.li 0)) (W 7 0) (zI (W 7 1)))),
 (p4,(.put 27 (.mk true 2 false 1) (V 3) (.agg [(zS (W 4 0)),(zI (W 4 1))]) (zI (aI (V 2) (.li 1))) (V 8)))] [] [2,2] [(V 0)]
def ao3 : LH:=.mk [(qM (.li 0) (V 1)),(qM (V 1) (V 2))] (mI (.rlen (V 0)) (V 2)) [((.rlen (V 0)),1)] [] 0 [] []
def oK (r:Bool×Int×List (dP×Int)×Int×List (dP×Int)):Nat×List AV:=rk2 r.1 [eI r.2.1,eL (yQ dP.enc Bc) r.2.2.1] [eI r.2.2.2.1,eL (yQ dP.enc Bc) r.2.2.2.2]
theorem CU (x0:List dI):∀(n:Nat) (u1:Int) (u2:Int) (u3:List (dP×Int)),Gs Try.prog sT ao2 ao3 [eL dI.enc x0] n [eI u1,eI u2,eL (yQ dP.enc Bc) u3] (oK (nD x0 n u1 u2 u3))
 |0,u1,u2,u3=>l0
 |n+1,u1,u2,u3=>
  let v4:dI:=x0.getD (u2:Int).toNat default
  let v5:Int:=vw v4.Key
  let v6:Bool:=rY v4.dQ
  let v7:Bool×Int:=mJ 0 v4.Key u3
  let v8:List (dP×Int):=mM v4.Key (fK .i64 u2 1) u3
  lmk rfl [dI.av v4,eI v5,eB v6,.agg (eB v7.1::Bc v7.2),eL (yQ dP.enc Bc) v8] xn (wR rfl <|
  wC (Y6 v4.Key) <|
  wC (U_ v4.dQ) <|
  aoL (f:=dP.enc) (g:=Bc) alx v4.Key 0 rfl <|
  asO (f:=dP.enc) (g:=Bc) alx v4.Key (fK .i64 u2 1) rfl <|
  wn) ln <|
   rc oK rx<|rc oK rx<|rc oK rx<|rc oK rx<|rl (rg (CU x0 n _ _ _))
def R69 : kR:=
 ⟨[((qG (.rlen (V 0)) (.li 1024)),(zI (.li 4))),((.not (qE (V 1) (.li 0))),(zI (V 4))),((.lb true),(zI (.li 0)))],
 [],[ao2]⟩
def H69 : LH:=.mk [] (.li 0) [] [] 0 [ao3] []
theorem e69 : pK Try.prog jI jJ Di (Df kA 69 [15,4,6,2] [(0,(.mk [3,13,14] (.mk [(2,(.sc kI)),(15,(.sc kI))] [] [(6,(.map (.mk true 2 false 1)))] 11 []) [(.normal,(.mk [(2,(.sc kI))] [] [(6,(.map (.mk true 2 false 1)))] 11 [])),(.ret,(.mk [(2,(.sc kI))] [] [(6,(.map (.mk true 2 false 1)))] 11 []))]))]) 3 200 69 [zL (V 0)] 1=some R69:=by kernel_rfl
theorem Va (x0:List dI):CT Try.prog sT 69 [eL dI.enc x0] (eI (jG x0)):=
 let r1:Bool×Int×List (dP×Int)×Int×List (dP×Int):=nD x0 (x0.length+1) 0 0 []
 Gx oJ fE fF e69 H69 (by kernel_rfl) [eL dI.enc x0,eI (mg r1.1),eI r1.2.1,eL (yQ dP.enc Bc) r1.2.2.1,eI r1.2.2.2.1,eL (yQ dP.enc Bc) r1.2.2.2.2] xn
  wn
  (lc2 (CU x0 (x0.length+1) 0 0 []) <|
  ln)
  (nO (fun r=>.p (.int .i64 r)) rfl rfl (nO (fun r=>.p (.int .i64 r)) rfl rfl (oQ rfl)))
def R59 : kR:=
 ⟨[((.lb true),(.agg [(zS (V 0)),(zI (.li 0))]))],
 [],[]⟩
theorem e59 : pK Try.prog jI jJ Di (Df kA 59 [] []) 3 200 59 [zS (V 0)] 1=some R59:=by kernel_rfl
theorem XB (x0:List UInt8):CT Try.prog sT 59 [eS x0] (dP.av (UL x0)):=
 Gx oJ fE fF e59 K_ (by kernel_rfl) [eS x0] xn
  wn
  ln
  (oQ rfl)
def ao4 : Lo:=
 let p0:Pc:=((.and (qG (.slen (W 0 0)) (.li 1)) (uE (.byte (W 0 0) (.li 0)) (.li 48))),false)::[]
 let p1:Pc:=((qG (.slen (W 0 0)) (.li 4)),false)::p0
 let p2:Pc:=((sE (W 0 0) (.ls [])),false)::p1
 let p3:Pc:=((qG (W 0 1) (.li 0)),false)::p2
 let p4:Pc:=((qL (V 4) (.slen (W 0 0))),true)::p3
 let p5:Pc:=((.bin .lss kU (.byte (W 0 0) (V 4)) (.li 48)),false)::p4
 let p6:Pc:=((.bin .gtr kU (.byte (W 0 0) (V 4)) (.li 57)),false)::p4
 let p7:Pc:=((.bin .lss kU (.byte (W 0 0) (V 4)) (.li 48)),false)::p6
 .mk [((qG (W 0 1) (.li 0)),false),((sE (W 0 0) (.ls [])),false),((qG (.slen (W 0 0)) (.li 4)),false),((.and (qG (.slen (W 0 0)) (.li 1)) (uE (.byte (W 0 0) (.li 0)) (.li 48))),false)] 1 4 [(zI (.li 0)),(zB (.lb false)),(zI (.li 0)),(zI (.li 0))] [((.not (qL (V 4) (.slen (W 0 0)))),1,[(zI (V 1)),(zB (V 2)),(zI (V 3))]),((.or (.bin .lss kU (.byte (W 0 0) (V 4)) (.li 48)) (.bin .gtr kU (.byte (W 0 0) (V 4)) (.li 57))),2,[(zI (.li 0)),(zB (.lb false))]),((.lb true),0,[(zI (V 1)),(zB (V 2)),(zI (aI (.bin .mul kI (V 3) (.li 10)) (.conv .i64 (.bin .sub kU (.byte (W 0 0) (V 4)) (.li 48))))),(zI (aI (V 4) (.li 1)))])] [(p4,(.tm (qM (.li 0) (V 4)))),
 (p5,(.tm (qM (.li 0) (V 4)))),
 (p7,(.tm (qM (.li 0) (V 4))))] [] [3,2] []
def ao5 : LH:=.mk [(qM (.li 0) (V 4))] (mI (.slen (W 0 0)) (V 4)) [((.slen (W 0 0)),1)] [] 1 [] []
def y7 (r:Bool×Int×Bool×Int×Int×Bool):Nat×List AV:=rk2 r.1 [eI r.2.1,eB r.2.2.1,eI r.2.2.2.1] [eI r.2.2.2.2.1,eB r.2.2.2.2.2]
theorem F6 (x0:dP):∀(n:Nat) (u1:Int) (u2:Bool) (u3:Int) (u4:Int),Gs Try.prog sT ao4 ao5 [dP.av x0] n [eI u1,eB u2,eI u3,eI u4] (y7 (zO x0 n u1 u2 u3 u4))
 |0,u1,u2,u3,u4=>l0
 |n+1,u1,u2,u3,u4=>
  lmk rfl [] xn (wT <|
  wT <|
  wT <|
  wn) ln <|
   rc y7 rx<|rc y7 rx<|rl (rg (F6 x0 n _ _ _ _))
def R90 : kR:=
 let p0:Pc:=((.or (.or (qG (W 0 1) (.li 0)) (sE (W 0 0) (.ls []))) (qG (.slen (W 0 0)) (.li 4))),false)::[]
 let p1:Pc:=((qG (.slen (W 0 0)) (.li 1)),true)::p0
 ⟨[((.or (.or (.or (qG (W 0 1) (.li 0)) (sE (W 0 0) (.ls []))) (qG (.slen (W 0 0)) (.li 4))) (.and (qG (.slen (W 0 0)) (.li 1)) (uE (.byte (W 0 0) (.li 0)) (.li 48)))),(.gW [(zI (.li 0)),(zB (.lb false))])),((.not (qE (V 1) (.li 0))),(.gW [(zI (V 5)),(zB (V 6))])),((qH (V 4) (.li 1024)),(.gW [(zI (.li 0)),(zB (.lb false))])),((.lb true),(.gW [(zI (V 4)),(zB (.lb true))]))],
 [(p1,(.tm (qL (.li 0) (.slen (W 0 0)))))],[ao4]⟩
def H90 : LH:=.mk [] (.li 0) [] [] 0 [ao5] []
theorem e90 : pK Try.prog jI jJ Di (Df kA 90 [44,46,45,47,48,35,5,4,2,3] [(0,(.mk [1,34] (.mk [(2,(.sc kI)),(3,(.sc .bool)),(4,(.sc kI)),(35,(.sc kI))] [] [] 34 []) [(.normal,(.mk [(2,(.sc kI)),(3,(.sc .bool)),(4,(.sc kI))] [] [] 34 [])),(.ret,(.mk [(2,(.sc kI)),(3,(.sc .bool))] [] [] 34 []))]))]) 3 200 90 [.agg (cV 0 dP.jY)] 1=some R90:=by kernel_rfl
theorem Nw (x0:dP):CT Try.prog sT 90 [dP.av x0] (qx (vF x0)):=
 let r1:Bool×Int×Bool×Int×Int×Bool:=zO x0 (((sLen x0.Str):Int).toNat+1) 0 false 0 0
 Gx oJ fE fF e90 H90 (by kernel_rfl) [dP.av x0,eI (mg r1.1),eI r1.2.1,eB r1.2.2.1,eI r1.2.2.2.1,eI r1.2.2.2.2.1,eB r1.2.2.2.2.2] xn
  (wT<|wn)
  (lc2 (F6 x0 (((sLen x0.Str):Int).toNat+1) 0 false 0 0) <|
  ln)
  (nO qx rfl rfl (nO qx rfl rfl (nO qx rfl rfl (oQ rfl))))
def XC : Lo:=
 let p0:Pc:=((qL (V 3) (.rlen (V 1))),true)::[]
 let p1:Pc:=((W 5 1),true)::p0
 .mk [] 2 2 [(zI (.li 0)),(zI (.li 0))] [((.not (qL (V 3) (.rlen (V 1)))),1,[(zI (V 2))]),((.and (W 5 1) (qH (W 5 0) (.ZJ (V 0)))),2,[(zI (V 3))]),((.lb true),0,[(zI (V 2)),(zI (aI (V 3) (.li 1)))])] [(p0,(.row (V 1) (V 3) (cV 4 dI.jY))),
 (p0,(.call 90 [(.agg [(zS (W 4 0)),(zI (W 4 1))])] (.gW [(zI (W 5 0)),(zB (W 5 1))]))),
 (p1,(.num .i64 (V 0) (.ZJ (V 0))))] [] [1,1] [(V 1)]
def XD : LH:=.mk [(qM (.li 0) (V 3))] (mI (.rlen (V 1)) (V 3)) [((.rlen (V 1)),1)] [] 0 [] []
def kJ (r:Bool×Int×Int):Nat×List AV:=rk2 r.1 [eI r.2.1] [eI r.2.2]
theorem o_ (x0:Nat)(x1:List dI):∀(n:Nat) (u2:Int) (u3:Int) (h0:ad3 x0=true),Gs Try.prog sT XC XD [eF x0,eL dI.enc x1] n [eI u2,eI u3] (kJ (jQ x0 x1 n u2 u3))
 |0,u2,u3,_=>l0
 |n+1,u2,u3,h0=>
  let v4:dI:=x1.getD (u3:Int).toNat default
  let v5:Int×Bool:=vF v4.Key
  lmk rfl [dI.av v4,qx v5] xn (wR rfl <|
  wC (Nw v4.Key) <|
  wX (fun _ _=>alc h0) <|
  wn) ln <|
   rc kJ rx<|rc kJ rx<|rl (rg (o_ x0 x1 n _ _ h0))
def anW : kR:=
 ⟨[((.not (qE (V 2) (.li 0))),(.gW [(zI (V 4))])),((.lb true),(.gW [(zI (.li (-1)))]))],
 [],[XC]⟩
def anX : LH:=.mk [] (.li 0) [] [] 0 [XD] []
theorem anY : Ur Try.prog jI jJ Di (Df kA 104 [8,5,4] [(0,(.mk [0,1,7] (.mk [(4,(.sc kI)),(8,(.sc kI))] [] [] 26 []) [(.normal,(.mk [(4,(.sc kI))] [] [] 26 [])),(.ret,(.mk [(4,(.sc kI))] [] [] 26 []))]))]) 3 200 104 [(zL (V 1)),(.fn 89 [] [(.op 21 1 (.li 0) 0)])] 2 [(21,(.rows 1 [[(zF (V 0))]]))] [] 22=some anW:=by kernel_rfl
theorem yV (x0:Nat)(x1:List dI)(h0:ad3 x0=true):CTw Try.prog sT 104 [(.sl (List.map dI.enc x1) false),(.fn (.func 89) [] [(.op 21 1 0 0)])] [(21,.rows 1 [[(.p (.float .f64 x0))]])] 22 (.p (.int .i64 (nP x0 x1))) [(21,.rows 1 [[(.p (.float .f64 x0))]])]:=
 let r2:Bool×Int×Int:=jQ x0 x1 (x1.length+1) 0 0
 mkW (cs:=[]) oJ fE fF anY anX (by kernel_rfl) [eF x0,eL dI.enc x1,eI (mg r2.1),eI r2.2.1,eI r2.2.2] xn
  wn
  (lc2 (o_ x0 x1 (x1.length+1) 0 0 h0) <|
  ln)
  (nO (fun r=>.gW [(.p (.int .i64 r))]) rfl rfl (oQ rfl))
def aqF : kR:=
 ⟨[((.lb true),(.gW [(zB (qH (V 2) (.li 0)))]))],
 [([],(.BQ 104 [(zL (V 1)),(.fn 89 [] [(.op 21 1 (.li 0) 0)])] [(21,(.rows 1 [[(zF (V 0))]]))] 22 (zI (V 2)) [(21,(.rows 1 [[(zF (V 0))]]))]))],[]⟩
theorem aqG : Ur Try.prog jI jJ Di (Df kA 88 [] []) 3 200 88 [(zL (V 1)),(.fn 89 [] [(.op 21 1 (.li 0) 0)])] 2 [(21,(.rows 1 [[(zF (V 0))]]))] [] 22=some aqF:=by kernel_rfl
theorem wL (x0:Nat)(x1:List dI)(h0:ad3 x0=true):CTw Try.prog sT 88 [(.sl (List.map dI.enc x1) false),(.fn (.func 89) [] [(.op 21 1 0 0)])] [(21,.rows 1 [[(.p (.float .f64 x0))]])] 22 (.p (.bool (lX x0 x1))) [(21,.rows 1 [[(.p (.float .f64 x0))]])]:=
 let w2:Int:=nP x0 x1
 let r2:Int:=w2
 mkW (cs:=[]) oJ fE fF aqG K_ (by kernel_rfl) [eF x0,eL dI.enc x1,eI r2] xn
  (wWp (by intro h;exact yV x0 x1 h0)<|wn)
  ln
  (oQ rfl)
def R70 : kR:=
 let p0:Pc:=((qE (.rlen (V 0)) (.li 0)),false)::[]
 let p1:Pc:=((qE (W 1 1) (W 2 1)),true)::[]
 let p2:Pc:=((sE (W 1 0) (W 2 0)),true)::p1
 let p3:Pc:=((qE (.rlen (V 0)) (.li 0)),false)::p2
 let p4:Pc:=((.bin .leq .jL (W 3 4) (.lf 4652218415073722368)),true)::p3
 let p5:Pc:=((.bin .geq .jL (W 3 4) (.lf 0)),true)::p4
 let p6:Pc:=((uN (W 3 3) (.li 3)),false)::p5
 let p7:Pc:=((W 3 17),false)::p6
 let p8:Pc:=((W 3 16),false)::p7
 let p9:Pc:=((V 4),true)::p8
 ⟨[((.or (qE (.rlen (V 0)) (.li 0)) (.not (.and (sE (W 1 0) (W 2 0)) (qE (W 1 1) (W 2 1))))),(zB (.lb false))),((.or (.or (.or (.or (.not (V 4)) (W 3 16)) (W 3 17)) (uN (W 3 3) (.li 3))) (.not (.and (.bin .geq .jL (W 3 4) (.lf 0)) (.bin .leq .jL (W 3 4) (.lf 4652218415073722368))))),(zB (.lb false))),((.lb true),(zB (.not (V 5))))],
 [(p0,(.row (V 0) (.li 0) (cV 1 dI.jY))),
 (p0,(.call 59 [(zS (.ls [108,101,110,103,116,104]))] (.agg [(zS (W 2 0)),(zI (W 2 1))]))),
 (p3,(.row (V 0) (.li 0) (cV 3 dI.jY))),
 (p3,(.call 80 [(.agg (cW 3 2 dN.jY))] (zB (V 4)))),
 (p9,(.BQ 88 [(zL (V 0)),(.fn 89 [] [(.op 21 1 (.li 0) 0)])] [(21,(.rows 1 [[(zF (W 3 4))]]))] 22 (zB (V 5)) [(21,(.rows 1 [[(zF (W 3 4))]]))]))],[]⟩
theorem e70 : pK Try.prog jI jJ Di (Df kA 70 [] []) 3 200 70 [zL (V 0)] 1=some R70:=by kernel_rfl
theorem VI (x0:List dI):CT Try.prog sT 70 [eL dI.enc x0] (eB (Bj x0)):=
 let v1:dI:=x0.getD (0:Int).toNat default
 let v2:dP:=UL [108,101,110,103,116,104]
 let v3:dI:=x0.getD (0:Int).toNat default
 let v4:Bool:=kE v3.dQ
 let w5:Bool:=lX v3.dQ.Value.Num x0
 let r5:Bool:=w5
 Gx oJ fE fF e70 K_ (by kernel_rfl) [eL dI.enc x0,dI.av v1,dP.av v2,dI.av v3,eB v4,eB r5] xn
  (wR rfl <|
  wC (XB [108,101,110,103,116,104]) <|
  wR rfl <|
  wC (IG v3.dQ) <|
  wWp (by intro h;exact wL v3.dQ.Value.Num x0 (anP (h.at 4 rfl) (h.at 5 rfl))) <|
  wn)
  ln
  (nO (fun r=>.p (.bool r)) rfl rfl (nO (fun r=>.p (.bool r)) rfl rfl (oQ rfl)))
def abQ : Lo:=
 let p0:Pc:=((qL (V 3) (.rlen (V 0))),true)::[]
 let p1:Pc:=((.and (W 5 1) (qL (W 5 0) (.slen (V 1)))),false)::p0
 .mk [] 2 2 [(zI (.li 0)),(zI (.li 0))] [((.not (qL (V 3) (.rlen (V 0)))),1,[(zI (V 2))]),((.or (.and (W 5 1) (qL (W 5 0) (.slen (V 1)))) (.and (sE (W 4 0) (W 6 0)) (qE (W 4 1) (W 6 1)))),2,[(zI (V 3))]),((.lb true),0,[(zI (V 2)),(zI (aI (V 3) (.li 1)))])] [(p0,(.row (V 0) (V 3) (cV 4 dI.jY))),
 (p0,(.call 90 [(.agg [(zS (W 4 0)),(zI (W 4 1))])] (.gW [(zI (W 5 0)),(zB (W 5 1))]))),
 (p1,(.call 59 [(zS (.ls [108,101,110,103,116,104]))] (.agg [(zS (W 6 0)),(zI (W 6 1))])))] [] [1,1] [(V 0)]
def abR : LH:=.mk [(qM (.li 0) (V 3))] (mI (.rlen (V 0)) (V 3)) [((.rlen (V 0)),1)] [] 0 [] []
def lF (r:Bool×Int×Int):Nat×List AV:=rk2 r.1 [eI r.2.1] [eI r.2.2]
theorem pY (x0:List dI)(x1:List UInt8):∀(n:Nat) (u2:Int) (u3:Int),Gs Try.prog sT abQ abR [eL dI.enc x0,eS x1] n [eI u2,eI u3] (lF (ku x0 x1 n u2 u3))
 |0,u2,u3=>l0
 |n+1,u2,u3=>
  let v4:dI:=x0.getD (u3:Int).toNat default
  let v5:Int×Bool:=vF v4.Key
  let v6:dP:=UL [108,101,110,103,116,104]
  lmk rfl [dI.av v4,qx v5,dP.av v6] xn (wR rfl <|
  wC (Nw v4.Key) <|
  wC (XB [108,101,110,103,116,104]) <|
  wn) ln <|
   rc lF rx<|rc lF rx<|rl (rg (pY x0 x1 n _ _))
def aqH : kR:=
 ⟨[((.not (qE (V 2) (.li 0))),(.gW [(zI (V 4))])),((.lb true),(.gW [(zI (.li (-1)))]))],
 [],[abQ]⟩
def aqI : LH:=.mk [] (.li 0) [] [] 0 [abR] []
theorem aqJ : Ur Try.prog jI jJ Di (Df kA 104 [8,5,4] [(0,(.mk [0,1,7] (.mk [(4,(.sc kI)),(8,(.sc kI))] [] [] 4 []) [(.normal,(.mk [(4,(.sc kI))] [] [] 4 [])),(.ret,(.mk [(4,(.sc kI))] [] [] 4 []))]))]) 3 200 104 [(zL (V 0)),(.fn 91 [] [(.vp [(zS (V 1))] 0)])] 2 [] [] 0=some aqH:=by kernel_rfl
theorem zW (x0:List dI)(x1:List UInt8):CTw Try.prog sT 104 [(.sl (List.map dI.enc x0) false),(.fn (.func 91) [] [(.vp [(.str x1)] 0)])] [] 0 (.p (.int .i64 (pR x0 x1))) []:=
 let r2:Bool×Int×Int:=ku x0 x1 (x0.length+1) 0 0
 mkW (cs:=[]) oJ fE fF aqJ aqI (by kernel_rfl) [eL dI.enc x0,eS x1,eI (mg r2.1),eI r2.2.1,eI r2.2.2] xn
  wn
  (lc2 (pY x0 x1 (x0.length+1) 0 0) <|
  ln)
  (nO (fun r=>.gW [(.p (.int .i64 r))]) rfl rfl (oQ rfl))
def asX : kR:=
 ⟨[((.lb true),(.gW [(zB (qH (V 2) (.li 0)))]))],
 [([],(.BQ 104 [(zL (V 0)),(.fn 91 [] [(.vp [(zS (V 1))] 0)])] [] 0 (zI (V 2)) []))],[]⟩
theorem asY : Ur Try.prog jI jJ Di (Df kA 88 [] []) 3 200 88 [(zL (V 0)),(.fn 91 [] [(.vp [(zS (V 1))] 0)])] 2 [] [] 0=some asX:=by kernel_rfl
theorem yx (x0:List dI)(x1:List UInt8):CTw Try.prog sT 88 [(.sl (List.map dI.enc x0) false),(.fn (.func 91) [] [(.vp [(.str x1)] 0)])] [] 0 (.p (.bool (nG x0 x1))) []:=
 let w2:Int:=pR x0 x1
 let r2:Int:=w2
 mkW (cs:=[]) oJ fE fF asY K_ (by kernel_rfl) [eL dI.enc x0,eS x1,eI r2] xn
  (wW (zW x0 x1)<|wn)
  ln
  (oQ rfl)
def R71 : kR:=
 let p0:Pc:=((qM (.slen (V 1)) (.li 4096)),true)::[]
 ⟨[((.lb true),(zB (.and (qM (.slen (V 1)) (.li 4096)) (.not (V 2)))))],
 [(p0,(.call 88 [(zL (V 0)),(.fn 91 [] [(.vp [(zS (V 1))] 0)])] (zB (V 2))))],[]⟩
theorem e71 : pK Try.prog jI jJ Di (Df kA 71 [] []) 3 200 71 [zL (V 0),zS (V 1)] 2=some R71:=by kernel_rfl
theorem VJ (x0:List dI)(x1:List UInt8):CT Try.prog sT 71 [eL dI.enc x0,eS x1] (eB (Bl x0 x1)):=
 let w2:Bool:=nG x0 x1
 let r2:Bool:=w2
 Gx oJ fE fF e71 K_ (by kernel_rfl) [eL dI.enc x0,eS x1,eB r2] xn
  (wC (ctW rfl (yx x0 x1))<|wn)
  ln
  (oQ rfl)
def aly : Lo:=
 let p0:Pc:=((uE (W 2 0) (.li 6)),false)::[]
 let p1:Pc:=((.and (sN (W 2 15) (.ls [])) (uN (W 2 0) (.li 3))),false)::p0
 let p2:Pc:=((V 8),true)::p1
 let p3:Pc:=((.and (.not (V 7)) (.not (.and (.and (.and (.and (uE (W 2 0) (.li 5)) (V 4)) (qL (W 2 10) (V 1))) (V 5)) (uE (W 6 0) (.li 6))))),false)::p2
 let p4:Pc:=((qN (V 11) (.li 0)),false)::p3
 let p5:Pc:=((V 10),true)::p4
 let p6:Pc:=((.and (uN (W 2 1) (.li 1)) (.not (V 9))),false)::p5
 let p7:Pc:=((qL (V 13) (.rlen (W 2 6))),true)::p6
 let p8:Pc:=((.not (V 15)),false)::p7
 let p9:Pc:=((.or (.not (V 15)) (.not (V 16))),false)::p7
 .mk [((.and (uN (W 2 1) (.li 1)) (.not (V 9))),false),((V 10),true),((qN (V 11) (.li 0)),false),((.and (.not (V 7)) (.not (.and (.and (.and (.and (uE (W 2 0) (.li 5)) (V 4)) (qL (W 2 10) (V 1))) (V 5)) (uE (W 6 0) (.li 6))))),false),((V 8),true),((.and (sN (W 2 15) (.ls [])) (uN (W 2 0) (.li 3))),false),((uE (W 2 0) (.li 6)),false)] 12 2 [(zB (.lb false)),(zI (.li 0))] [((.not (qL (V 13) (.rlen (W 2 6)))),1,[(zB (V 12))]),((.or (.or (.not (V 15)) (.not (V 16))) (.not (V 17))),2,[(zB (.lb false))]),((.lb true),0,[(zB (V 12)),(zI (aI (V 13) (.li 1)))])] [(p7,(.row (W 2 6) (V 13) (cV 14 dI.jY))),
 (p7,(.call 67 [(.agg [(zL (W 0 0))]),(.agg (cW 14 3 dL.jY))] (zB (V 15)))),
 (p8,(.call 67 [(.agg [(zL (W 0 0))]),(.agg (cW 14 7 dL.jY))] (zB (V 16)))),
 (p9,(.call 67 [(.agg [(zL (W 0 0))]),(.agg (cW 14 11 dL.jY))] (zB (V 17))))] [] [1,1] [(W 2 6)]
def alz : LH:=.mk [(qM (V 11) (V 13))] (mI (.rlen (W 2 6)) (V 13)) [((.rlen (W 2 6)),1)] [] 10 [] []
def uP (r:Bool×Bool×Bool):Nat×List AV:=rk2 r.1 [eB r.2.1] [eB r.2.2]
theorem Bv (x0:dH)(x1:Int)(v2:dJ)(v3:Bool)(v4:Bool)(v5:Bool)(v6:dJ)(v7:Bool)(v8:Bool)(v9:Bool)(v10:Bool)(v11:Int):∀(n:Nat) (u12:Bool) (u13:Int),Gs Try.prog sT aly alz [dH.av x0,eI x1,dJ.av v2,eB v3,eB v4,eB v5,dJ.av v6,eB v7,eB v8,eB v9,eB v10,eI v11] n [eB u12,eI u13] (uP (gG x0 v2 n u12 u13))
 |0,u12,u13=>l0
 |n+1,u12,u13=>
  let v14:dI:=v2.Props.getD (u13:Int).toNat default
  let v15:Bool:=dZ x0 v14.dQ.Value
  let v16:Bool:=dZ x0 v14.dQ.Get
  let v17:Bool:=dZ x0 v14.dQ.Set
  lmk rfl [dI.av v14,eB v15,eB v16,eB v17] xn (wR rfl <|
  wC (yu x0 v14.dQ.Value) <|
  wC (yu x0 v14.dQ.Get) <|
  wC (yu x0 v14.dQ.Set) <|
  wn) ln <|
   rc uP rx<|rc uP rx<|rl (rg (Bv x0 x1 v2 v3 v4 v5 v6 v7 v8 v9 v10 v11 n _ _))
def R46 : kR:=
 let p0:Pc:=((uE (W 2 0) (.li 6)),true)::[]
 let p1:Pc:=((uE (W 2 0) (.li 6)),false)::[]
 let p2:Pc:=((uE (W 2 0) (.li 5)),true)::p1
 let p3:Pc:=((.and (.and (uE (W 2 0) (.li 5)) (V 4)) (qL (W 2 10) (V 1))),true)::p1
 let p4:Pc:=((.and (.and (.and (uE (W 2 0) (.li 5)) (V 4)) (qL (W 2 10) (V 1))) (V 5)),true)::p1
 let p5:Pc:=((.and (.not (V 7)) (.not (.and (.and (.and (.and (uE (W 2 0) (.li 5)) (V 4)) (qL (W 2 10) (V 1))) (V 5)) (uE (W 6 0) (.li 6))))),false)::p1
 let p6:Pc:=((.and (sN (W 2 15) (.ls [])) (uN (W 2 0) (.li 3))),false)::p1
 let p7:Pc:=((V 8),true)::p6
 let p8:Pc:=((.and (.not (V 7)) (.not (.and (.and (.and (.and (uE (W 2 0) (.li 5)) (V 4)) (qL (W 2 10) (V 1))) (V 5)) (uE (W 6 0) (.li 6))))),false)::p7
 let p9:Pc:=((uN (W 2 1) (.li 1)),true)::p8
 let p10:Pc:=((.and (uN (W 2 1) (.li 1)) (.not (V 9))),false)::p8
 let p11:Pc:=((.or (.and (uN (W 2 1) (.li 1)) (.not (V 9))) (.not (V 10))),false)::p8
 let p12:Pc:=((qN (V 11) (.li 0)),false)::p8
 let p13:Pc:=((V 10),true)::p12
 let p14:Pc:=((.and (uN (W 2 1) (.li 1)) (.not (V 9))),false)::p13
 let p15:Pc:=((qE (V 12) (.li 0)),true)::p14
 let p16:Pc:=((uE (W 2 0) (.li 1)),false)::p15
 let p17:Pc:=((uE (W 2 0) (.li 2)),true)::p16
 let p18:Pc:=((.and (.not (W 2 16)) (.not (W 2 17))),true)::p17
 let p19:Pc:=((uE (W 2 0) (.li 2)),false)::p16
 let p20:Pc:=((uE (W 2 0) (.li 3)),true)::p19
 let p21:Pc:=((.and (.not (W 2 16)) (.not (W 2 17))),true)::p20
 ⟨[((uE (W 2 0) (.li 6)),(zB (V 3))),((.or (.or (.and (.not (V 7)) (.not (.and (.and (.and (.and (uE (W 2 0) (.li 5)) (V 4)) (qL (W 2 10) (V 1))) (V 5)) (uE (W 6 0) (.li 6))))) (.not (V 8))) (.and (sN (W 2 15) (.ls [])) (uN (W 2 0) (.li 3)))),(zB (.lb false))),((.or (.or (.and (uN (W 2 1) (.li 1)) (.not (V 9))) (.not (V 10))) (qN (V 11) (.li 0))),(zB (.lb false))),((.not (qE (V 12) (.li 0))),(zB (V 14))),((uE (W 2 0) (.li 1)),(zB (.and (.not (W 2 16)) (.not (W 2 17))))),((uE (W 2 0) (.li 2)),(zB (.and (.and (.not (W 2 16)) (.not (W 2 17))) (V 15)))),((uE (W 2 0) (.li 3)),(zB (.and (.and (.not (W 2 16)) (.not (W 2 17))) (V 16)))),((uE (W 2 0) (.li 4)),(zB (.and (W 2 16) (W 2 17)))),((uE (W 2 0) (.li 5)),(zB (W 2 16))),((.lb true),(zB (.lb false)))],
 [([],(.row (W 0 0) (V 1) (cV 2 dJ.jY))),
 (p0,(.call 66 [(.agg [(zL (W 0 0))]),(.agg (cV 2 dJ.jY)),(zI (V 1))] (zB (V 3)))),
 (p2,(.call 60 [(.agg (cW 2 7 dL.jY))] (zB (V 4)))),
 (p3,(.call 67 [(.agg [(zL (W 0 0))]),(.agg (cW 2 7 dL.jY))] (zB (V 5)))),
 (p4,(.row (W 0 0) (W 2 10) (cV 6 dJ.jY))),
 (p1,(.call 68 [(.agg (cW 2 7 dL.jY)),(zU (.li 0))] (zB (V 7)))),
 (p5,(.call 68 [(.agg (cW 2 11 dL.jY)),(zU (.li 0))] (zB (V 8)))),
 (p9,(.call 60 [(.agg (cW 2 1 dL.jY))] (zB (V 9)))),
 (p10,(.call 67 [(.agg [(zL (W 0 0))]),(.agg (cW 2 1 dL.jY))] (zB (V 10)))),
 (p11,(.call 69 [(zL (W 2 6))] (zI (V 11)))),
 (p18,(.call 70 [(zL (W 2 6))] (zB (V 15)))),
 (p21,(.call 71 [(zL (W 2 6)),(zS (W 2 15))] (zB (V 16))))],[aly]⟩
def H46 : LH:=.mk [] (.li 0) [] [([((V 5),true)],(qM (.li 0) (W 2 10))),([((V 5),true),((V 4),true)],(qL (W 2 10) (.rlen (W 0 0))))] 0 [alz] []
theorem e46 : pK Try.prog jI jJ Di (Df kA 46 [115,116,117,114,118,119,123,124,125,122,126,127,103,4] [(0,(.mk [2,5,101,102] (.mk [(4,(.sc .bool)),(103,(.sc kI))] [] [] 96 []) [(.normal,(.mk [(4,(.sc .bool))] [] [] 96 [])),(.ret,(.mk [(4,(.sc .bool))] [] [] 96 []))]))]) 3 200 46 [.agg (cV 0 dH.jY),zI (V 1)] 2=some R46:=by kernel_rfl
theorem Vb (x0:dH)(x1:Int):CT Try.prog sT 46 [dH.av x0,eI x1] (eB (jH x0 x1)):=
 let v2:dJ:=x0.Objects.getD (x1:Int).toNat default
 let v3:Bool:=sJ x0 v2 x1
 let v4:Bool:=dR v2.Target
 let v5:Bool:=dZ x0 v2.Target
 let v6:dJ:=x0.Objects.getD (v2.Target.Ref:Int).toNat default
 let v7:Bool:=oG v2.Target 0
 let v8:Bool:=oG v2.Handler 0
 let v9:Bool:=dR v2.fA
 let v10:Bool:=dZ x0 v2.fA
 let v11:Int:=jG v2.Props
 let r12:Bool×Bool×Bool:=gG x0 v2 (v2.Props.length+1) false 0
 let v15:Bool:=Bj v2.Props
 let v16:Bool:=Bl v2.Props v2.Text
 Gx oJ fE fF e46 H46 (by kernel_rfl) [dH.av x0,eI x1,dJ.av v2,eB v3,eB v4,eB v5,dJ.av v6,eB v7,eB v8,eB v9,eB v10,eI v11,eI (mg r12.1),eB r12.2.1,eB r12.2.2,eB v15,eB v16] (xp (fun h=>decide_eq_true (afJ ( (h.at 0 rfl))))<|xp (fun h=>decide_eq_true (afK ( (h.at 0 rfl)) ( (h.at 1 rfl))))<|xn)
  (wR rfl <|
  wC (VF x0 v2 x1) <|
  wC (qZ v2.Target) <|
  wC (yu x0 v2.Target) <|
  wR rfl <|
  wC (Bq v2.Target 0) <|
  wC (Bq v2.Handler 0) <|
  wC (qZ v2.fA) <|
  wC (yu x0 v2.fA) <|
  wC (Va v2.Props) <|
  wC (VI v2.Props) <|
  wC (VJ v2.Props v2.Text) <|
  wn)
  (lc2 (Bv x0 x1 v2 v3 v4 v5 v6 v7 v8 v9 v10 v11 (v2.Props.length+1) false 0) <|
  ln)
  (nO (fun r=>.p (.bool r)) rfl rfl (nO (fun r=>.p (.bool r)) rfl rfl (nO (fun r=>.p (.bool r)) rfl rfl (nO (fun r=>.p (.bool r)) rfl rfl (nO (fun r=>.p (.bool r)) rfl rfl (nO (fun r=>.p (.bool r)) rfl rfl (nO (fun r=>.p (.bool r)) rfl rfl (nO (fun r=>.p (.bool r)) rfl rfl (nO (fun r=>.p (.bool r)) rfl rfl (oQ rfl))))))))))
def ao6 : Lo:=
 let p0:Pc:=((qG (.rlen (W 0 0)) (.li 4096)),false)::[]
 let p1:Pc:=((qL (V 2) (.rlen (W 0 0))),true)::p0
 .mk [((qG (.rlen (W 0 0)) (.li 4096)),false)] 1 2 [(zI (.li 0)),(zI (.li 0))] [((.not (qL (V 2) (.rlen (W 0 0)))),1,[(zI (V 1))]),((.not (V 3)),2,[(zI (.li 9))]),((.lb true),0,[(zI (V 1)),(zI (aI (V 2) (.li 1)))])] [(p1,(.call 46 [(.agg [(zL (W 0 0))]),(zI (V 2))] (zB (V 3))))] [] [1,1] []
def ao7 : LH:=.mk [(qM (.li 0) (V 2))] (mI (.rlen (W 0 0)) (V 2)) [((.rlen (W 0 0)),1)] [] 0 [] []
def yA (r:Bool×Int×Int):Nat×List AV:=rk2 r.1 [eI r.2.1] [eI r.2.2]
theorem En (x0:dH):∀(n:Nat) (u1:Int) (u2:Int),Gs Try.prog sT ao6 ao7 [dH.av x0] n [eI u1,eI u2] (yA (o7 x0 n u1 u2))
 |0,u1,u2=>l0
 |n+1,u1,u2=>
  let v3:Bool:=jH x0 u2
  lmk rfl [eB v3] xn (wC (Vb x0 u2)<|wn) ln <|
   rc yA rx<|rc yA rx<|rl (rg (En x0 n _ _))
def R21 : kR:=
 let p0:Pc:=((qG (.rlen (W 0 0)) (.li 4096)),false)::[]
 let p1:Pc:=((qE (V 1) (.li 0)),true)::p0
 ⟨[((qG (.rlen (W 0 0)) (.li 4096)),(zI (.li 9))),((.not (qE (V 1) (.li 0))),(zI (V 3))),((V 4),(zI (.li 9))),((.lb true),(zI (.li 0)))],
 [(p1,(.call 47 [(.agg [(zL (W 0 0))])] (zB (V 4))))],[ao6]⟩
def H21 : LH:=.mk [] (.li 0) [] [] 0 [ao7] []
theorem e21 : pK Try.prog jI jJ Di (Df kA 21 [3,11,2] [(0,(.mk [1,10] (.mk [(2,(.sc kI)),(11,(.sc kI))] [] [] 10 []) [(.normal,(.mk [(2,(.sc kI))] [] [] 10 [])),(.ret,(.mk [(2,(.sc kI))] [] [] 10 []))]))]) 3 200 21 [.agg (cV 0 dH.jY)] 1=some R21:=by kernel_rfl
theorem yH (x0:dH):CT Try.prog sT 21 [dH.av x0] (eI (lY x0)):=
 let r1:Bool×Int×Int:=o7 x0 (x0.Objects.length+1) 0 0
 let v4:Bool:=qy x0
 Gx oJ fE fF e21 H21 (by kernel_rfl) [dH.av x0,eI (mg r1.1),eI r1.2.1,eI r1.2.2,eB v4] xn
  (wCp (by intro h;exact VD x0 (anQ (abG (h.at 1 rfl)) (rQ.1 (h.at 0 rfl))) (abG (h.at 1 rfl)))<|wn)
  (lc2 (En x0 (x0.Objects.length+1) 0 0) <|
  ln)
  (nO (fun r=>.p (.int .i64 r)) rfl rfl (nO (fun r=>.p (.int .i64 r)) rfl rfl (nO (fun r=>.p (.int .i64 r)) rfl rfl (oQ rfl))))
theorem VK (x0:dH):PC Try.prog 21 [dH.av x0] (eI (lY x0)):=(yH x0 trivial).1
def R48 : kR:=
 ⟨[((.lb true),(.agg (cV 0 dJ.jY)))],
 [([],(.under [] (.Lh 18 (W 0 6)))),
 ([],(.under [] (.len2 0 (W 0 6))))],[]⟩
theorem e48 : pK Try.prog jI jJ Di (Df kA 48 [] []) 3 200 48 [.agg (cV 0 dJ.jY)] 1=some R48:=by kernel_rfl
theorem Qe (x0:dJ):CT Try.prog sT 48 [dJ.av x0] (dJ.av (Iz x0)):=
 Gx oJ fE fF e48 K_ (by kernel_rfl) [dJ.av x0] xn
  (wU (asM (f:=dI.enc) rfl wn) <|
  wU (asL wn) <|
  wn)
  ln
  (oQ rfl)
def ao8 : Lo:=
 let p0:Pc:=((qL (V 3) (.rlen (W 0 0))),true)::[]
 .mk [] 3 2 [(zI (.li 0)),(zL (V 2))] [((.not (qL (V 3) (.rlen (W 0 0)))),1,[(zL (V 4))]),((.lb true),0,[(zI (aI (V 3) (.li 1))),(zL (V 7))])] [(p0,(.tm (qM (.li 0) (V 3)))),
 (p0,(.rd (true,18) (V 4) (V 3) 0 (.agg (cV 5 dJ.jY)))),
 (p0,(.call 48 [(.agg (cV 5 dJ.jY))] (.agg (cV 6 dJ.jY)))),
 (p0,(.tm (qM (.li 0) (V 3)))),
 (p0,(.st (V 4) (V 3) 0 [(zU (W 6 0)),(zU (W 6 1)),(zF (W 6 2)),(zS (W 6 3)),(zI (W 6 4)),(zB (W 6 5)),(zL (W 6 6)),(zU (W 6 7)),(zF (W 6 8)),(zS (W 6 9)),(zI (W 6 10)),(zU (W 6 11)),(zF (W 6 12)),(zS (W 6 13)),(zI (W 6 14)),(zS (W 6 15)),(zB (W 6 16)),(zB (W 6 17))] (V 7)))] [] [1] []
def ao9 : LH:=.mk [(qM (.li 0) (V 3)),(qE (.rlen (V 4)) (.rlen (V 2)))] (mI (.rlen (W 0 0)) (V 3)) [((.rlen (W 0 0)),1)] [] 3 [] [[(qE (.rlen (V 3)) (.rlen (V 2)))]]
def F7 (r:List dJ):Nat×List AV:=(0,[eL dJ.enc r])
theorem F8 (x0:dH)(v1:List dJ)(v2:List dJ):∀(n:Nat) (u3:Int) (u4:List dJ),Gs Try.prog sT ao8 ao9 [dH.av x0,eL dJ.enc v1,eL dJ.enc v2] n [eI u3,eL dJ.enc u4] (F7 (oH x0 n u3 u4))
 |0,u3,u4=>l0
 |n+1,u3,u4=>
  let v5:dJ:=u4.getD (u3:Int).toNat default
  let v6:dJ:=Iz v5
  let v7:List dJ:=u4.set (u3:Int).toNat v6
  lmk rfl [dJ.av v5,dJ.av v6,eL dJ.enc v7] xn (wT <|
  wRd rfl <|
  wC (Qe v5) <|
  wT <|
  wSt (f:=dJ.enc) v6 rfl <|
  wn) ln <|
   rc F7 rx<|rl (rg (F8 x0 v1 v2 n _ _))
def H22 : LH:=.mk [] (.li 0) [] [] 0 [ao9] []
def avp : kR:=
 ⟨[((.lb true),(.agg [(zL (V 3))]))],
 [([],(.mk (.rlen (W 0 0)) (.rlen (W 0 0)) [(zU (.li 0)),(zU (.li 0)),(zF (.lf 0)),(zS (.ls [])),(zI (.li 0)),(zB (.lb false)),(zL .nl),(zU (.li 0)),(zF (.lf 0)),(zS (.ls [])),(zI (.li 0)),(zU (.li 0)),(zF (.lf 0)),(zS (.ls [])),(zI (.li 0)),(zS (.ls [])),(zB (.lb false)),(zB (.lb false))] (V 1))),
 ([],(.Lh 18 (W 0 0))),
 ([],(.cpy (V 1) (.rlen (W 0 0)) (W 0 0) (V 2))),
 ([],(.tm (qE (.rlen (W 0 0)) (.rlen (V 3)))))],[ao8]⟩
theorem avq : ahr Try.prog jI jJ Di (Df kA 22 [4,15] [(0,(.mk [2,3,14] (.mk [(15,(.sc kI))] [] [(5,18)] 14 []) [(.normal,(.mk [] [] [(5,18)] 14 []))]))]) 3 200 22 [.agg (cV 0 dH.jY)] 1 [0] 18=some avp:=by kernel_rfl
theorem Qs (x0:dH):CTo Try.prog sT 22 [dH.av x0] (dH.av (IB x0)) [0] 18:=
 let v1:List dJ:=List.replicate ((jT dJ.enc x0.Objects):Int).toNat (dJ.mk 0 (dL.mk 0 0 [] 0) false [] (dL.mk 0 0 [] 0) (dL.mk 0 0 [] 0) [] false false)
 let v2:List dJ:=x0.Objects.take ((jT dJ.enc x0.Objects):Int).toNat++v1.drop (min x0.Objects.length ((jT dJ.enc x0.Objects):Int).toNat)
 let r3:List dJ:=oH x0 (x0.Objects.length+1) 0 v2
 let v4:List dJ:=(r3.drop (0)).take (((jT dJ.enc x0.Objects):Int).toNat-0)
 mkO oJ fE fF avq H22 (by kernel_rfl) [dH.av x0,eL dJ.enc v1,eL dJ.enc v2,eL dJ.enc r3,eL dJ.enc v4] xn
  (wMk (f:=dJ.enc) (dJ.mk 0 (dL.mk 0 0 [] 0) false [] (dL.mk 0 0 [] 0) (dL.mk 0 0 [] 0) [] false false) rfl <|
  asM (f:=dJ.enc) rfl <|
  au6 (f:=dJ.enc) rfl rfl <|
  wT <|
  wn)
  (lc1 (F8 x0 v1 v2 (x0.Objects.length+1) 0 v2) <|
  ln)
  (oQ rfl)
theorem VL (x0:dH):CTo Try.prog sT 22 [dH.av x0] (dH.av (Ec x0)) [0] 18:=
 anH (congrArg dH.av (U5 x0)) (Qs x0)
def R27 : kR:=
 let p0:Pc:=((qN (V 2) (.li 0)),false)::[]
 let p1:Pc:=((qE (.rlen (W 0 0)) (.li 4096)),false)::p0
 ⟨[((qN (V 2) (.li 0)),(.gW [(.agg [(.slc [] false)]),(zI (.li 0)),(zI (V 2))])),((qE (.rlen (W 0 0)) (.li 4096)),(.gW [(.agg [(.slc [] false)]),(zI (.li 0)),(zI (.li 4))])),((qN (V 6) (.li 0)),(.gW [(.agg [(.slc [] false)]),(zI (.li 0)),(zI (V 6))])),((.lb true),(.gW [(.agg [(zL (V 5))]),(zI (.rlen (W 0 0))),(zI (.li 0))]))],
 [([],(.call 21 [(.agg [(zL (W 0 0))])] (zI (V 2)))),
 (p1,(.PL 22 [(.agg [(zL (W 0 0))])] (.agg [(zL (W 3 0))]) [0] 18 false)),
 (p1,(.call 48 [(.agg (cV 1 dJ.jY))] (.agg (cV 4 dJ.jY)))),
 (p1,(.app 18 (W 3 0) [[(zU (W 4 0)),(zU (W 4 1)),(zF (W 4 2)),(zS (W 4 3)),(zI (W 4 4)),(zB (W 4 5)),(zL (W 4 6)),(zU (W 4 7)),(zF (W 4 8)),(zS (W 4 9)),(zI (W 4 10)),(zU (W 4 11)),(zF (W 4 12)),(zS (W 4 13)),(zI (W 4 14)),(zS (W 4 15)),(zB (W 4 16)),(zB (W 4 17))]] (V 5))),
 (p1,(.call 21 [(.agg [(zL (V 5))])] (zI (V 6))))],[]⟩
theorem e27 : pK Try.prog jI jJ (mdW [22] Di) (Df kA 27 [] []) 3 200 27 [.agg (cV 0 dH.jY),.agg (cV 1 dJ.jY)] 2=some R27:=by kernel_rfl
theorem abS (x0:dH)(x1:dJ):CT Try.prog sT 27 [dH.av x0,dJ.av x1] (lV (Nu x0 x1)):=
 let v2:Int:=lY x0
 let v3:dH:=Ec x0
 let v4:dJ:=Iz x1
 let v5:List dJ:=v3.Objects++[v4]
 let v6:Int:=lY (dH.mk v5)
 Gx oJ fE fF e27 K_ (by kernel_rfl) [dH.av x0,dJ.av x1,eI v2,dH.av v3,dJ.av v4,eL dJ.enc v5,eI v6] xn
  (wC (yH x0) <|
  wO (VL x0) <|
  wC (Qe x1) <|
  au5 (f:=dJ.enc) [v4] rfl <|
  wC (yH (dH.mk v5)) <|
  wn)
  ln
  (nO lV rfl rfl (nO lV rfl rfl (nO lV rfl rfl (oQ rfl))))
def R19 : kR:=
 let p0:Pc:=((.and (.and (qE (W 2 2) (.li 0)) (qE (W 2 1) (.li 2))) (qE (.rlen (.var 2 [0,0])) (.li 3))),true)::[]
 let p1:Pc:=((.and (.and (.and (qE (W 2 2) (.li 0)) (qE (W 2 1) (.li 2))) (qE (.rlen (.var 2 [0,0])) (.li 3))) (uE (W 3 0) (.li 6))),true)::[]
 ⟨[((.lb true),(zB (.and (.and (.and (.and (qE (W 2 2) (.li 0)) (qE (W 2 1) (.li 2))) (qE (.rlen (.var 2 [0,0])) (.li 3))) (uE (W 3 0) (.li 6))) (qE (V 5) (.li 0)))))],
 [([],(.call 44 [] (.agg [(zL (W 0 0))]))),
 ([],(.call 45 [(zI (.li 0)),(zI (.li 1))] (.agg (cV 1 dJ.jY)))),
 ([],(.call 27 [(.agg [(zL (W 0 0))]),(.agg (cV 1 dJ.jY))] (.gW [(.agg [(zL (.var 2 [0,0]))]),(zI (W 2 1)),(zI (W 2 2))]))),
 (p0,(.row (.var 2 [0,0]) (.li 2) (cV 3 dJ.jY))),
 (p1,(.call 44 [] (.agg [(zL (W 4 0))]))),
 (p1,(.call 21 [(.agg [(zL (W 4 0))])] (zI (V 5))))],[]⟩
theorem e19 : pK Try.prog jI jJ Di (Df kA 19 [] []) 3 200 19 [] 0=some R19:=by kernel_rfl
theorem Vd : CT Try.prog sT 19 [] (eB IC):=
 Gx oJ fE fF e19 K_ (by kernel_rfl) [dH.av (qI ),dJ.av (qJ 0 1),lV (Nu (qI ) (qJ 0 1)),dJ.av ((Nu (qI ) (qJ 0 1)).1.Objects.getD (2:Int).toNat default),dH.av (qI ),eI (lY (qI ))] xn
  (wC (Nv) <|
  wC (Ph 0 1) <|
  wC (abS (qI ) (qJ 0 1)) <|
  wR rfl <|
  wC (Nv) <|
  wC (yH (qI )) <|
  wn)
  ln
  (oQ rfl)
theorem Ve : PC Try.prog 19 [] (eB IC):=(Vd trivial).1
def ao_ : Lo:=
 let p0:Pc:=((qG (.rlen (W 0 0)) (.li 5000)),false)::[]
 let p1:Pc:=((.and (qG (.rlen (W 0 0)) (.li 60)) (qM (.rlen (W 0 0)) (.li 4096))),false)::p0
 let p2:Pc:=((qL (V 2) (.rlen (W 0 0))),true)::p1
 .mk [((.and (qG (.rlen (W 0 0)) (.li 60)) (qM (.rlen (W 0 0)) (.li 4096))),false),((qG (.rlen (W 0 0)) (.li 5000)),false)] 1 2 [(zB (.lb false)),(zI (.li 0))] [((.not (qL (V 2) (.rlen (W 0 0)))),1,[(zB (V 1))]),((qG (.rlen (W 3 6)) (.li 100)),2,[(zB (.lb true))]),((.lb true),0,[(zB (V 1)),(zI (aI (V 2) (.li 1)))])] [(p2,(.row (W 0 0) (V 2) (cV 3 dJ.jY)))] [] [1,1] []
def apa : LH:=.mk [(qM (.li 0) (V 2))] (mI (.rlen (W 0 0)) (V 2)) [((.rlen (W 0 0)),1)] [] 0 [] []
def wM (r:Bool×Bool×Bool):Nat×List AV:=rk2 r.1 [eB r.2.1] [eB r.2.2]
theorem CV (x0:dH):∀(n:Nat) (u1:Bool) (u2:Int),Gs Try.prog sT ao_ apa [dH.av x0] n [eB u1,eI u2] (wM (wK x0 n u1 u2))
 |0,u1,u2=>l0
 |n+1,u1,u2=>
  let v3:dJ:=x0.Objects.getD (u2:Int).toNat default
  lmk rfl [dJ.av v3] xn (wR rfl<|wn) ln <|
   rc wM rx<|rc wM rx<|rl (rg (CV x0 n _ _))
def R20 : kR:=
 ⟨[((.or (.and (qG (.rlen (W 0 0)) (.li 60)) (qM (.rlen (W 0 0)) (.li 4096))) (qG (.rlen (W 0 0)) (.li 5000))),(zB (.lb true))),((.not (qE (V 1) (.li 0))),(zB (V 3))),((.lb true),(zB (.lb false)))],
 [],[ao_]⟩
def H20 : LH:=.mk [] (.li 0) [] [] 0 [apa] []
theorem e20 : pK Try.prog jI jJ Di (Df kA 20 [3,2] [(0,(.mk [1] (.mk [(2,(.sc .bool)),(3,(.sc kI))] [] [] 19 []) [(.normal,(.mk [(2,(.sc .bool))] [] [] 19 [])),(.ret,(.mk [(2,(.sc .bool))] [] [] 19 []))]))]) 3 200 20 [.agg (cV 0 dH.jY)] 1=some R20:=by kernel_rfl
theorem Vf (x0:dH):CT Try.prog sT 20 [dH.av x0] (eB (IE x0)):=
 let r1:Bool×Bool×Bool:=wK x0 (x0.Objects.length+1) false 0
 Gx oJ fE fF e20 H20 (by kernel_rfl) [dH.av x0,eI (mg r1.1),eB r1.2.1,eB r1.2.2] xn
  wn
  (lc2 (CV x0 (x0.Objects.length+1) false 0) <|
  ln)
  (nO (fun r=>.p (.bool r)) rfl rfl (nO (fun r=>.p (.bool r)) rfl rfl (oQ rfl)))
theorem Vg (x0:dH):PC Try.prog 20 [dH.av x0] (eB (IE x0)):=(Vf x0 trivial).1
def R51 : kR:=
 ⟨[((.lb true),(zB (.and (uE (W 0 0) (W 1 0)) (.and (.bin .eql .jL (.ite (.and (.bin .neq .jL (W 0 1) (W 0 1)) (.bin .neq .jL (W 1 1) (W 1 1))) (.lf 0) (W 0 1)) (.ite (.and (.bin .neq .jL (W 0 1) (W 0 1)) (.bin .neq .jL (W 1 1) (W 1 1))) (.lf 0) (W 1 1))) (.and (sE (W 0 2) (W 1 2)) (qE (W 0 3) (W 1 3)))))))],
 [],[]⟩
theorem e51 : pK Try.prog jI jJ Di (Df kA 51 [] []) 3 200 51 [.agg (cV 0 dL.jY),.agg (cV 1 dL.jY)] 2=some R51:=by kernel_rfl
theorem tq (x0:dL)(x1:dL):CT Try.prog sT 51 [dL.av x0,dL.av x1] (eB (kV x0 x1)):=
 Gx oJ fE fF e51 K_ (by kernel_rfl) [dL.av x0,dL.av x1] xn
  wn
  ln
  (oQ rfl)
def afM : Lo:=
 let p0:Pc:=((qN (.rlen (V 0)) (.rlen (V 1))),false)::[]
 let p1:Pc:=((qL (V 3) (.rlen (V 0))),true)::p0
 let p2:Pc:=((.and (.and (.and (.and (.and (sE (W 4 0) (W 5 0)) (qE (W 4 1) (W 5 1))) (uE (W 4 2) (W 5 2))) (.bin .eql .bool (W 4 15) (W 5 15))) (.bin .eql .bool (W 4 16) (W 5 16))) (.bin .eql .bool (W 4 17) (W 5 17))),true)::p1
 let p3:Pc:=((.and (.and (.and (.and (.and (.and (sE (W 4 0) (W 5 0)) (qE (W 4 1) (W 5 1))) (uE (W 4 2) (W 5 2))) (.bin .eql .bool (W 4 15) (W 5 15))) (.bin .eql .bool (W 4 16) (W 5 16))) (.bin .eql .bool (W 4 17) (W 5 17))) (V 6)),true)::p1
 let p4:Pc:=((.and (.and (.and (.and (.and (.and (.and (sE (W 4 0) (W 5 0)) (qE (W 4 1) (W 5 1))) (uE (W 4 2) (W 5 2))) (.bin .eql .bool (W 4 15) (W 5 15))) (.bin .eql .bool (W 4 16) (W 5 16))) (.bin .eql .bool (W 4 17) (W 5 17))) (V 6)) (V 7)),true)::p1
 .mk [((qN (.rlen (V 0)) (.rlen (V 1))),false)] 2 2 [(zB (.lb false)),(zI (.li 0))] [((.not (qL (V 3) (.rlen (V 0)))),1,[(zB (V 2))]),((.not (.and (.and (.and (.and (.and (.and (.and (.and (sE (W 4 0) (W 5 0)) (qE (W 4 1) (W 5 1))) (uE (W 4 2) (W 5 2))) (.bin .eql .bool (W 4 15) (W 5 15))) (.bin .eql .bool (W 4 16) (W 5 16))) (.bin .eql .bool (W 4 17) (W 5 17))) (V 6)) (V 7)) (V 8))),2,[(zB (.lb false))]),((.lb true),0,[(zB (V 2)),(zI (aI (V 3) (.li 1)))])] [(p1,(.row (V 0) (V 3) (cV 4 dI.jY))),
 (p1,(.row (V 1) (V 3) (cV 5 dI.jY))),
 (p2,(.call 51 [(.agg (cW 4 3 dL.jY)),(.agg (cW 5 3 dL.jY))] (zB (V 6)))),
 (p3,(.call 51 [(.agg (cW 4 7 dL.jY)),(.agg (cW 5 7 dL.jY))] (zB (V 7)))),
 (p4,(.call 51 [(.agg (cW 4 11 dL.jY)),(.agg (cW 5 11 dL.jY))] (zB (V 8))))] [] [1,1] [(V 1),(V 0)]
def afN : LH:=.mk [(qM (.li 0) (V 3))] (mI (.rlen (V 0)) (V 3)) [((.rlen (V 0)),1)] [] 0 [] []
def lG (r:Bool×Bool×Bool):Nat×List AV:=rk2 r.1 [eB r.2.1] [eB r.2.2]
theorem qg (x0:List dI)(x1:List dI):∀(n:Nat) (u2:Bool) (u3:Int),Gs Try.prog sT afM afN [eL dI.enc x0,eL dI.enc x1] n [eB u2,eI u3] (lG (iK x0 x1 n u2 u3))
 |0,u2,u3=>l0
 |n+1,u2,u3=>
  let v4:dI:=x0.getD (u3:Int).toNat default
  let v5:dI:=x1.getD (u3:Int).toNat default
  let v6:Bool:=kV v4.dQ.Value v5.dQ.Value
  let v7:Bool:=kV v4.dQ.Get v5.dQ.Get
  let v8:Bool:=kV v4.dQ.Set v5.dQ.Set
  lmk rfl [dI.av v4,dI.av v5,eB v6,eB v7,eB v8] xn (wR rfl <|
  wR rfl <|
  wC (tq v4.dQ.Value v5.dQ.Value) <|
  wC (tq v4.dQ.Get v5.dQ.Get) <|
  wC (tq v4.dQ.Set v5.dQ.Set) <|
  wn) ln <|
   rc lG rx<|rc lG rx<|rl (rg (qg x0 x1 n _ _))
def asZ : kR:=
 ⟨[((qN (.rlen (V 0)) (.rlen (V 1))),(.gW [(zB (.lb false))])),((.not (qE (V 2) (.li 0))),(.gW [(zB (V 4))])),((.lb true),(.gW [(zB (.lb true))]))],
 [],[afM]⟩
def as3 : LH:=.mk [] (.li 0) [] [] 0 [afN] []
theorem as4 : Ur Try.prog jI jJ Di (Df kA 52 [7,17,6] [(0,(.mk [1,2,15,16] (.mk [(6,(.sc .bool)),(17,(.sc kI))] [] [] 9 []) [(.normal,(.mk [(6,(.sc .bool))] [] [] 9 [])),(.ret,(.mk [(6,(.sc .bool))] [] [] 9 []))]))]) 3 200 52 [(zL (V 0)),(zL (V 1)),(.fn 53 [] [])] 2 [] [] 0=some asZ:=by kernel_rfl
theorem zX (x0:List dI)(x1:List dI):CTw Try.prog sT 52 [(.sl (List.map dI.enc x0) false),(.sl (List.map dI.enc x1) false),(.fn (.func 53) [] [])] [] 0 (.p (.bool (jW x0 x1))) []:=
 let r2:Bool×Bool×Bool:=iK x0 x1 (x0.length+1) false 0
 mkW (cs:=[]) oJ fE fF as4 as3 (by kernel_rfl) [eL dI.enc x0,eL dI.enc x1,eI (mg r2.1),eB r2.2.1,eB r2.2.2] xn
  wn
  (lc2 (qg x0 x1 (x0.length+1) false 0) <|
  ln)
  (nO (fun r=>.gW [(.p (.bool r))]) rfl rfl (nO (fun r=>.gW [(.p (.bool r))]) rfl rfl (oQ rfl)))
def afO : Lo:=
 let p0:Pc:=((qN (.rlen (V 0)) (.rlen (V 1))),false)::[]
 let p1:Pc:=((qL (V 3) (.rlen (V 0))),true)::p0
 let p2:Pc:=((uE (W 4 0) (W 5 0)),true)::p1
 let p3:Pc:=((.and (.and (uE (W 4 0) (W 5 0)) (V 6)) (.bin .eql .bool (W 4 5) (W 5 5))),true)::p1
 let p4:Pc:=((.and (.and (.and (uE (W 4 0) (W 5 0)) (V 6)) (.bin .eql .bool (W 4 5) (W 5 5))) (V 7)),true)::p1
 let p5:Pc:=((.and (.and (.and (.and (.and (.and (.and (uE (W 4 0) (W 5 0)) (V 6)) (.bin .eql .bool (W 4 5) (W 5 5))) (V 7)) (V 8)) (sE (W 4 15) (W 5 15))) (.bin .eql .bool (W 4 16) (W 5 16))) (.bin .eql .bool (W 4 17) (W 5 17))),true)::p1
 .mk [((qN (.rlen (V 0)) (.rlen (V 1))),false)] 2 2 [(zB (.lb false)),(zI (.li 0))] [((.not (qL (V 3) (.rlen (V 0)))),1,[(zB (V 2))]),((.not (.and (.and (.and (.and (.and (.and (.and (.and (uE (W 4 0) (W 5 0)) (V 6)) (.bin .eql .bool (W 4 5) (W 5 5))) (V 7)) (V 8)) (sE (W 4 15) (W 5 15))) (.bin .eql .bool (W 4 16) (W 5 16))) (.bin .eql .bool (W 4 17) (W 5 17))) (V 9))),2,[(zB (.lb false))]),((.lb true),0,[(zB (V 2)),(zI (aI (V 3) (.li 1)))])] [(p1,(.row (V 0) (V 3) (cV 4 dJ.jY))),
 (p1,(.row (V 1) (V 3) (cV 5 dJ.jY))),
 (p2,(.call 51 [(.agg (cW 4 1 dL.jY)),(.agg (cW 5 1 dL.jY))] (zB (V 6)))),
 (p3,(.call 51 [(.agg (cW 4 7 dL.jY)),(.agg (cW 5 7 dL.jY))] (zB (V 7)))),
 (p4,(.call 51 [(.agg (cW 4 11 dL.jY)),(.agg (cW 5 11 dL.jY))] (zB (V 8)))),
 (p5,(.call 52 [(zL (W 4 6)),(zL (W 5 6)),(.fn 53 [] [])] (zB (V 9))))] [] [1,1] [(V 1),(V 0)]
def afP : LH:=.mk [(qM (.li 0) (V 3))] (mI (.rlen (V 0)) (V 3)) [((.rlen (V 0)),1)] [] 0 [] []
def kK (r:Bool×Bool×Bool):Nat×List AV:=rk2 r.1 [eB r.2.1] [eB r.2.2]
theorem pq (x0:List dJ)(x1:List dJ):∀(n:Nat) (u2:Bool) (u3:Int),Gs Try.prog sT afO afP [eL dJ.enc x0,eL dJ.enc x1] n [eB u2,eI u3] (kK (gI x0 x1 n u2 u3))
 |0,u2,u3=>l0
 |n+1,u2,u3=>
  let v4:dJ:=x0.getD (u3:Int).toNat default
  let v5:dJ:=x1.getD (u3:Int).toNat default
  let v6:Bool:=kV v4.fA v5.fA
  let v7:Bool:=kV v4.Target v5.Target
  let v8:Bool:=kV v4.Handler v5.Handler
  let w9:Bool:=jW v4.Props v5.Props
  let r9:Bool:=w9
  lmk rfl [dJ.av v4,dJ.av v5,eB v6,eB v7,eB v8,eB r9] xn (wR rfl <|
  wR rfl <|
  wC (tq v4.fA v5.fA) <|
  wC (tq v4.Target v5.Target) <|
  wC (tq v4.Handler v5.Handler) <|
  wC (ctW rfl (zX v4.Props v5.Props)) <|
  wn) ln <|
   rc kK rx<|rc kK rx<|rl (rg (pq x0 x1 n _ _))
def as5 : kR:=
 ⟨[((qN (.rlen (V 0)) (.rlen (V 1))),(.gW [(zB (.lb false))])),((.not (qE (V 2) (.li 0))),(.gW [(zB (V 4))])),((.lb true),(.gW [(zB (.lb true))]))],
 [],[afO]⟩
def as6 : LH:=.mk [] (.li 0) [] [] 0 [afP] []
theorem as7 : Ur Try.prog jI jJ Di (Df kA 49 [7,17,6] [(0,(.mk [1,2,15,16] (.mk [(6,(.sc .bool)),(17,(.sc kI))] [] [] 9 []) [(.normal,(.mk [(6,(.sc .bool))] [] [] 9 [])),(.ret,(.mk [(6,(.sc .bool))] [] [] 9 []))]))]) 3 200 49 [(zL (V 0)),(zL (V 1)),(.fn 50 [] [])] 2 [] [] 0=some as5:=by kernel_rfl
theorem yX (x0:List dJ)(x1:List dJ):CTw Try.prog sT 49 [(.sl (List.map dJ.enc x0) false),(.sl (List.map dJ.enc x1) false),(.fn (.func 50) [] [])] [] 0 (.p (.bool (jC x0 x1))) []:=
 let r2:Bool×Bool×Bool:=gI x0 x1 (x0.length+1) false 0
 mkW (cs:=[]) oJ fE fF as7 as6 (by kernel_rfl) [eL dJ.enc x0,eL dJ.enc x1,eI (mg r2.1),eB r2.2.1,eB r2.2.2] xn
  wn
  (lc2 (pq x0 x1 (x0.length+1) false 0) <|
  ln)
  (nO (fun r=>.gW [(.p (.bool r))]) rfl rfl (nO (fun r=>.gW [(.p (.bool r))]) rfl rfl (oQ rfl)))
def R24 : kR:=
 ⟨[((.lb true),(zB (V 2)))],
 [([],(.BQ 49 [(zL (W 0 0)),(zL (W 1 0)),(.fn 50 [] [])] [] 0 (zB (V 2)) []))],[]⟩
theorem e24 : pK Try.prog jI jJ Di (Df kA 24 [] []) 3 200 24 [.agg (cV 0 dH.jY),.agg (cV 1 dH.jY)] 2=some R24:=by kernel_rfl
theorem Y7 (x0:dH)(x1:dH):CT Try.prog sT 24 [dH.av x0,dH.av x1] (eB (x9 x0 x1)):=
 let w2:Bool:=jC x0.Objects x1.Objects
 let r2:Bool:=w2
 Gx oJ fE fF e24 K_ (by kernel_rfl) [dH.av x0,dH.av x1,eB r2] xn
  (wW (yX x0.Objects x1.Objects)<|wn)
  ln
  (oQ rfl)
theorem Ny (x0:dH)(x1:dH):PC Try.prog 24 [dH.av x0,dH.av x1] (eB (x9 x0 x1)):=(Y7 x0 x1 trivial).1
end Go.Fw
end
section
namespace Go.Fw
def Lead (h:dH)(i j:Nat):Prop:=(j:Int)∈avc (asW (h.Objects.getD i default))
inductive Rch (h:dH)(from':List Int):Nat->Prop
 |base {i:Nat} (hi:(i:Int)∈from'):Rch h from' i
 |step {i j:Nat} (hi:Rch h from' i) (hj:Lead h i j):Rch h from' j
def Mk (m:List Bool)(k:Nat):Prop:=m.getD k default=true
structure ax2 (h:dH)(f:List Int)(m:List Bool)(t:Qd):Prop where
 r:RInv h m t
 fr:∀k:Nat,(k:Int)∈f->Mk m k
 rc:∀k,Mk m k->Rch h f k
 td:∀k:Nat,(k:Int)∈t.v->Mk m k
 cl:∀i j,Mk m i->Lead h i j->Mk m j\/(i:Int)∈t.v
end Go.Fw
end
section
namespace Go.Fw
theorem anZ : IC=true:=by decide +kernel
end Go.Fw
end
section
namespace Go.Fw
variable [iT]
abbrev CK :=AV->AH->Nat->Prop
def CW (P:Program)(f:FuncId)(az:List AV)(ah:AH)(nx:Nat)(K:CK):Prop:=
 ∀base w E vs,dM base w E ah (fun b=>nx<=b)->Zg w E.fix->fG w E az vs->
  ∀(o:Oper) (a:Act),execOp a.eval o=callFunc f vs.toArray->∀(next:Act->World->Prop) (Q:Exit->Act->World->Prop),
   (∀v w' E' r dV nx',K r dV nx'->Step base w E w' E'->dM base w' E' dV (fun b=>nx'<=b)->Rep w' E' r v->next (a.put o.dst v) w')->o.wp P a w next Q
section
variable {P : Program} {fr:jB} {ah:AH} {nx:Nat} {Q:AQ}
theorem CW.mono {f:FuncId}{az:List AV}{K K':CK}(h:CW P f az ah nx K)(hk:∀r ah nx,K r ah nx->K' r ah nx):CW P f az ah nx K':=
 fun base w E vs hh hG hr o a he next Q hn=>h base w E vs hh hG hr o a he next Q fun v w' E' r dV nx' hK=>hn v w' E' r dV nx' (hk _ _ _ hK)
theorem abT {f:FuncId}{fn:Func}{c:Code}{args:List AV}{K:CK}(hf:P.funcs[f]?=some fn)(hb:fn.body=some c)(hname:fn.name≠ "runtime.NumGoroutine") (hn:args.length<=fn.ntmps)
  (h:AW P c (wE fn.ntmps args) ah nx (fun e fr dV nx'=>(e=.normal\/e=.ret)/\yM P fr dV fn.results.toList fun l=>K (one l) dV nx')):CW P f args ah nx K:=by
 intro base w E vs hh hG hrep o a he next Q hnext
 have iE:Le base w E (wE fn.ntmps args) ah nx {tmps:=vs.toArray++Array.replicate (fn.ntmps-vs.toArray.size) undef,defers:=[]}:=⟨hh,DX hG hrep hn,rfl⟩
 have hcall:(callFunc f vs.toArray).run P w=.ok (.enter f vs.toArray) w:=by
  have e1:(fn.name == "runtime.NumGoroutine")=false:=by simpa using hname
  have e2:fn.body.isNone=false:=by rw [hb];rfl
  simp only [callFunc,Sem.run_bind,run_program,Result.andThen_ok,hf,e1,aQ,if_false,e2,Sem.run_pure]
 unfold Oper.wp
 rw [he,hcall]
 have ado:Calls P f vs.toArray w fun e w'=>∃r dV nx' v E',K r dV nx'/\e=.returned v/\Step base w E w' E'/\dM base w' E' dV (fun b=>nx'<=b)/\Rep w' E' r v:=by
  refine calls_of_wp hf hb (wp_mono (h base w E _ iE) fun e a' w' hp=>?_)
  obtain ⟨E',fr',dV,nx',⟨he',hres⟩,hs',hst⟩:=hp
  obtain ⟨az,vs',hK,hrun,aer⟩:=og hs' hres
  have hres':(results fn a'.tmps).run P w'=.ok (if h:vs'.toArray.size=1 then vs'.toArray[0] else .tuple vs'.toArray) w':=by
   have e:results fn a'.tmps=(do
     let vs <- fn.results.mapM (LQ a'.tmps)
     pure (if h:vs.size=1 then vs[0] else .tuple vs)):=by
    unfold results
    congr 1
   rw [e,Array.mapM_eq_mapM_toList,Sem.run_bind,Sem.run_map,hrun]
   rfl
  have hv:=Qx aer
  rcases he' with rfl|rfl
  .exact ⟨hs'.defers,_,hres',one az,dV,nx',_,E',hK,rfl,hst,hs'.heap,hv⟩
  .exact ⟨hs'.defers,_,hres',one az,dV,nx',_,E',hK,rfl,hst,hs'.heap,hv⟩
 refine ado.mono fun e w' hq=>?_
 obtain ⟨r,dV,nx',v,E',hK,rfl,q1,q2,q3⟩:=hq
 exact hnext v w' E' r dV nx' hK q1 q2 q3
def OW (P:Program)(ops:Array Oper)(i:Nat)(fr:jB)(ah:AH)(nx:Nat)(Q:AQ):Prop:=
 ∀base w E a,Le base w E fr ah nx a->∀QQ:Exit->Act->World->Prop,(∀a' w',y9 base w E Q .normal a' w'->QQ .normal a' w')->wpOps P ops QQ (List.range' i (ops.size-i)) a w
theorem as8 {id:Nat}{ops:Array Oper}(h:OW P ops 0 fr ah nx Q):AW P (.region id ops false) fr ah nx Q:=by
 intro base w E a hs
 refine wp_region ?_
 simpa [List.range_eq_range'] using h base w E a hs (y9 base w E Q) (fun _ _ h=>h)
theorem aqK {ops:Array Oper}{i:Nat}(hi:ops.size<=i)(h:Q .normal fr ah nx):OW P ops i fr ah nx Q:=by
 intro base w E a hs QQ hQ
 rw [Nat.sub_eq_zero_of_le hi]
 exact hQ _ _ ⟨E,fr,ah,nx,h,hs,Step.refl _ _ _⟩
theorem alA {ops:Array Oper}{i:Nat}{o:Oper}{K:mP->Prop}(ho:ops[i]?=some o)(hK:∀r,K r->OW P ops (i+1) (lH fr o.dst r.v) (lZ ah r.wr) (nx+1) Q)
  (h:jc ops fr o fun wt=>VN wt (Qi P nx fr ah o.op K) (OW P ops (i+1) (lH fr o.dst (.p undef)) ah nx Q)):OW P ops i fr ah nx Q:=by
 intro base w E a hs QQ hQ
 have hlt:=(bF.1 ho).1
 rw [show ops.size-i=(ops.size-(i+1))+1 by omega,List.range'_succ,wpOps_cons]
 unfold wpOp
 rw [ho]
 dsimp only
 obtain ⟨wt,hk,hw⟩:=jU hs.fr h
 cases wt with
 |true=>
  rw [uy,if_pos rfl] at hk
  rw [if_pos hw]
  refine .inl (J9 hs.heap (dF _) hs.fr hk (fun r v w' E' hr hst hh' hv=>?_))
  exact hK r hr base w' E' (a.put o.dst v) ⟨hh'.weaken fun b hb=>⟨by omega,by omega⟩,(hs.fr.mono hst.ext).put o.dst hv,by rw [ayq];exact hs.defers⟩ QQ
   fun a' w'' hp=>hQ a' w'' (hp.mono hst fun _ _ _ h=>h)
 |false=>
  rw [uy,if_neg (by simp)] at hk
  rw [if_neg (by rw [hw];simp)]
  exact hk base w E (a.put o.dst undef) ⟨hs.heap,hs.fr.put o.dst (.p rfl),by rw [ayq];exact hs.defers⟩ QQ hQ
theorem as9 {ops:Array Oper}{i:Nat}{o:Oper}(ho:ops[i]?=some o)
 (h:jc ops fr o fun wt=>VN wt (Qi P nx fr ah o.op fun r=>OW P ops (i+1) (lH fr o.dst r.v) (lZ ah r.wr) (nx+1) Q) (OW P ops (i+1) (lH fr o.dst (.p undef)) ah nx Q)):OW P ops i fr ah nx Q:=alA ho (fun _ h=>h) h
theorem an0 {ops:Array Oper}{i:Nat}{o:Oper}{f:FuncId}{args:Array Operand}{ts:Array TypeId}{az:List AV}(ho:ops[i]?=some o)(hg:o.guard=none)(hop:o.op=.call ⟨.value (.func f),args,ts⟩)
  (hev:Q9 fr args.toList=some az) (h:CW P f az ah nx fun r dV nx'=>OW P ops (i+1) (lH fr o.dst r) dV nx' Q):OW P ops i fr ah nx Q:=by
 intro base w E a hs QQ hQ
 have hlt:=(bF.1 ho).1
 rw [show ops.size-i=(ops.size-(i+1))+1 by omega,List.range'_succ,wpOps_cons]
 unfold wpOp
 rw [ho]
 dsimp only
 rw [if_pos (by unfold Region.wanted;rw [hg])]
 have rl:=pF hs.fr hev
 refine .inl (h base w E _ hs.heap hs.fr.Gg rl o a ?_ _ _ fun v w' E' r dV nx' hK hst hh' hv=>?_)
 .have e:args.map a.eval=(args.toList.map a.eval).toArray:=by apply Array.ext';simp
  simp [execOp,hop,resolve,invoke,Deferred.ofValue,Act.eval,e]
 .exact hK base w' E' (a.put o.dst v) ⟨hh',(hs.fr.mono hst.ext).put o.dst hv,by rw [ayq];exact hs.defers⟩ QQ fun a' w'' hp=>hQ a' w'' (hp.mono hst fun _ _ _ h=>h)
end
end Go.Fw
end
section
namespace Go.Fw
variable [iT]
abbrev MT :=List (Nat×AV)
def JB : MT->Nat->Option AV
 |[],_=>none
 |x::r,t=>match Nat.beq x.1 t with|true=>some x.2|false=>JB r t
def NI (M:MT):Operand->Option AV
 | .tmp t=>JB M t
 | .const v=>ofV v
 | .func f=>some (.fn (.func f) [] [])
 | .global _=>none
def Y8 (M:MT):List Operand->Option (List AV)
 |[]=>some []
 |x::r=>match NI M x with
  |some a=>(match Y8 M r with|some l=>some (a::l)|none=>none)
  |none=>none
def an1 {α:Type}(M:MT):List (α×Operand)->Option (List (α×AV))
 |[]=>some []
 |x::r=>match NI M x.2 with
  |some a=>(match an1 M r with|some l=>some ((x.1,a)::l)|none=>none)
  |none=>none
def uQ (M:MT)(d:Option Tmp)(a:AV):MT:=match d with|some t=>(t,a)::M|none=>M
def vJ (N:Nat):Option Tmp->Bool
 |none=>true
 |some t=>Nat.blt t N
def gB (ops:Array Oper)(M:MT):Option (Nat×Bool)->Bool
 |none=>true
 |some (j,want)=>match (ops[j]?).bind (·.dst) with
  |some t=>(match JB M t with|some (.p (.bool b))=>b == want|_=>false)
  |none=>false
def gN (ops:Array Oper)(M:MT):Option (Nat×Bool)->Bool
 |none=>false
 |some (j,want)=>match (ops[j]?).bind (·.dst) with
  |some t=>(match JB M t with|some (.p (.bool b))=>!(b == want)|_=>false)
  |none=>false
structure FA (N:Nat)(M:MT)(fr:jB):Prop where
 len:fr.length=N
 get:∀t a,JB M t=some a->fV fr t=some a
def ML (M:MT):MT->Prop
 |[]=>True
 |x::r=>JB M x.1=some x.2/\ML M r
theorem ML.get {M:MT}:∀{M':MT} {t:Nat} {a:AV},ML M M'->JB M' t=some a->JB M t=some a
 |[],t,a,_,h=>by cases h
 |x::r,t,a,hl,h=>by
  simp only [JB] at h
  split at h
  .rename_i hb
   obtain rfl:=ay hb
   simp only [aj] at h;subst h
   exact hl.1
  .exact ML.get hl.2 h
theorem FA.le {N:Nat}{M M':MT}{fr:jB}(h:FA N M fr)(hl:ML M M'):FA N M' fr:=⟨h.len,fun t a ht=>h.get t a (hl.get ht)⟩
theorem FA.put {N:Nat}{M:MT}{fr:jB}{d:Option Tmp}{a:AV}(h:FA N M fr)(hd:vJ N d=true):FA N (uQ M d a) (lH fr d a):=by
 cases d with
 |none=>exact h
 |some t=>
  have hlt:t<N:=by simpa [vJ] using hd
  refine ⟨by simp [lH,fB,h.len],fun j x hj=>?_⟩
  simp only [uQ,JB] at hj
  simp only [lH,lM,h.len]
  split at hj
  .rename_i hb
   obtain rfl:=ay hb
   rw [if_pos ⟨rfl,hlt⟩];exact hj
  .rename_i hb
   rw [if_neg (fun e=>by rw [e.1] at hb;simp at hb)]
   exact h.get j x hj
theorem kC {N:Nat}{M:MT}{fr:jB}(h:FA N M fr){x:Operand}{a:AV}(hx:NI M x=some a):ev fr x=some a:=by
 cases x with
 |tmp t=>exact h.get t a hx
 |const v=>exact hx
 |func f=>exact hx
 |global g=>cases hx
theorem FN {N:Nat}{M:MT}{fr:jB}(h:FA N M fr):∀{l:List Operand} {az:List AV},Y8 M l=some az->Q9 fr l=some az
 |[],az,e=>e
 |x::r,az,e=>by
  simp only [Y8] at e
  split at e
  .rename_i a ha
   split at e
   .rename_i l hl
    simp only [aj] at e;subst e
    simp [Q9,kC h ha,FN h hl]
   .cases e
  .cases e
theorem afQ {α:Type}{N:Nat}{M:MT}{fr:jB}(h:FA N M fr):∀{l:List (α×Operand)} {az:List (α×AV)},an1 M l=some az->Q8 fr l=some az
 |[],az,e=>e
 |x::r,az,e=>by
  simp only [an1] at e
  split at e
  .rename_i a ha
   split at e
   .rename_i l hl
    simp only [aj] at e;subst e
    obtain ⟨i,x⟩:=x
    simp [Q8,kC h ha,afQ h hl]
   .cases e
  .cases e
abbrev MQ :=Exit->MT->AH->Nat->Prop
def lft (N:Nat)(Q:MQ):AQ:=fun e fr ah nx=>∃M,FA N M fr/\Q e M ah nx
def Qg (P:Program)(c:Code)(N:Nat)(M:MT)(ah:AH)(nx:Nat)(Q:MQ):Prop:=∀fr,FA N M fr->AW P c fr ah nx (lft N Q)
def Eo (P:Program)(ops:Array Oper)(i N:Nat)(M:MT)(ah:AH)(nx:Nat)(Q:MQ):Prop:=∀fr,FA N M fr->OW P ops i fr ah nx (lft N Q)
def alB (K:MT->AH->Nat->Prop)(Q:MQ):MQ
 | .normal,M,ah,nx=>K M ah nx
 |e,M,ah,nx=>Q e M ah nx
def MIn (id:Nat)(Q:MQ):MQ
 | .exit id',M,ah,nx=>(match Nat.beq id' id with|true=>Q .normal M ah nx|false=>Q (.exit id') M ah nx)
 |e,M,ah,nx=>Q e M ah nx
section
variable {P : Program} {N:Nat} {M:MT} {ah:AH} {nx:Nat} {Q:MQ}
theorem Pm {c:Code}(M':MT)(hl:ML M M')(h:Qg P c N M' ah nx Q):Qg P c N M ah nx Q:=fun fr hf=>h fr (hf.le hl)
theorem Qg.mono {c:Code}{Q':MQ}(h:Qg P c N M ah nx Q)(hq:∀e M ah nx,Q e M ah nx->Q' e M ah nx):Qg P c N M ah nx Q':=
 fun fr hf=>(h fr hf).mono fun e fr ah nx ⟨M,h1,h2⟩=>⟨M,h1,hq _ _ _ _ h2⟩
theorem iV {x y:Code}(h:Qg P x N M ah nx (alB (fun M ah nx=>Qg P y N M ah nx Q) Q)):Qg P (.seq x y) N M ah nx Q:=by
 intro fr hf
 refine n_ ((h fr hf).mono fun e fr ah nx hq=>?_)
 obtain ⟨M',h1,h2⟩:=hq
 cases e with
 |normal=>exact h2 fr h1
 |_=>exact ⟨M',h1,h2⟩
theorem Nz {x y:Code}(K:MT->AH->Nat->Prop)(h:Qg P x N M ah nx (alB K Q))(hk:∀M ah nx,K M ah nx->Qg P y N M ah nx Q):Qg P (.seq x y) N M ah nx Q:=
 iV (h.mono fun e M ah nx hq=>by cases e<;>first|exact hk _ _ _ hq|exact hq)
theorem IJ (h:Q .normal M ah nx):Qg P .skip N M ah nx Q:=fun fr hf=>LM ⟨M,hf,h⟩
theorem Vh {id:Nat}(h:Q (.exit id) M ah nx):Qg P (.exit id) N M ah nx Q:=fun fr hf=>aeF ⟨M,hf,h⟩
theorem NC (h:Q .ret M ah nx):Qg P .ret N M ah nx Q:=fun fr hf=>G8 ⟨M,hf,h⟩
theorem Ep {c:Operand}{x y:Code}{t:Bool}(hc:NI M c=some (.p (.bool t)))(h1:t=true->Qg P x N M ah nx Q)(h2:t=false->Qg P y N M ah nx Q):Qg P (.cond c x y) N M ah nx Q:=by
 intro fr hf
 refine LP t (kC hf hc) ?_
 cases t with
 |true=>exact h1 rfl fr hf
 |false=>exact h2 rfl fr hf
theorem Aj {id:Nat}{c:Code}(h:Qg P c N M ah nx (MIn id Q)):Qg P (.block id c) N M ah nx Q:=by
 intro fr hf
 refine Sj ((h fr hf).mono fun e fr ah nx hq=>?_)
 obtain ⟨M',h1,h2⟩:=hq
 cases e with
 |exit id'=>
  simp only [MIn] at h2
  simp only [AIn]
  split at h2
  .rename_i hb;rw [if_pos (ay hb)];exact ⟨M',h1,h2⟩
  .rename_i hb;rw [if_neg (fun e=>by rw [e] at hb;simp at hb)];exact ⟨M',h1,h2⟩
 |_=>exact ⟨M',h1,h2⟩
theorem Vj {c:Code}(I:Nat->MT->AH->Nat->Prop)(n0:Nat)(M0:MT)(hl:ML M M0)(h0:I n0 M0 ah nx)
  (round:∀n M ah nx,I n M ah nx->Qg P c N M ah nx (alB (fun M ah nx=>∃m,m<n/\∃M',ML M M'/\I m M' ah nx) Q)):Qg P (.loop c) N M ah nx Q:=by
 intro fr hf
 refine aeG (fun n fr ah nx=>∃M,FA N M fr/\I n M ah nx) n0 fr (C_.refl fr) ⟨M0,hf.le hl,h0⟩ fun n fr ah nx hI K hK=>?_
 obtain ⟨M1,h1,h2⟩:=hI
 refine (round n M1 ah nx h2 fr h1).mono fun e fr ah nx hq=>?_
 obtain ⟨M2,q1,q2⟩:=hq
 cases e with
 |normal=>
  obtain ⟨m,hm,M3,hl3,h3⟩:=q2
  exact hK _ _ _ ⟨m,hm,fr,C_.refl fr,M3,q1.le hl3,h3⟩
 |_=>exact ⟨M2,q1,q2⟩
theorem fH {id:Nat}{ops:Array Oper}(h:Eo P ops 0 N M ah nx Q):Qg P (.region id ops false) N M ah nx Q:=fun fr hf=>as8 (h fr hf)
variable {ops : Array Oper} {i:Nat} {d:Option Tmp} {ty:TypeId} {pos:String} {NJ:Array Edge} {g:Option (Nat×Bool)}
theorem iW (hi:Nat.ble ops.size i=true)(h:Q .normal M ah nx):Eo P ops i N M ah nx Q:=fun fr hf=>aqK (aF hi) ⟨M,hf,h⟩
theorem tX {op:Op}(ho:ops[i]?=some ⟨d,op,ty,pos,NJ,g⟩)(hg:gB ops M g=true)(hd:vJ N d=true)
  (h:∀fr,FA N M fr->Qi P nx fr ah op fun r=>Eo P ops (i+1) N (uQ M d r.v) (lZ ah r.wr) (nx+1) Q):Eo P ops i N M ah nx Q:=by
 intro fr hf
 refine alA ho (K:=fun r=>Eo P ops (i+1) N (uQ M d r.v) (lZ ah r.wr) (nx+1) Q) (fun r hr=>hr _ (hf.put hd)) ?_
 have key:=h fr hf
 unfold jc
 cases g with
 |none=>exact key
 |some jw=>
  obtain ⟨j,want⟩:=jw
  simp only [gB] at hg
  split at hg
  .rename_i t ht
   split at hg
   .rename_i b hb
    refine dG.2 ⟨t,ht,dG.2 ⟨_,hf.get _ _ hb,?_⟩⟩
    show VN (b == want) _ _
    rw [hg];exact key
   .cases hg
  .cases hg
theorem aec {op:Op}(ho:ops[i]?=some ⟨d,op,ty,pos,NJ,g⟩)(hg:gN ops M g=true)(hd:vJ N d=true)(h:Eo P ops (i+1) N (uQ M d (.p undef)) ah nx Q):Eo P ops i N M ah nx Q:=by
 intro fr hf
 refine as9 ho ?_
 unfold jc
 cases g with
 |none=>cases hg
 |some jw=>
  obtain ⟨j,want⟩:=jw
  simp only [gN] at hg
  split at hg
  .rename_i t ht
   split at hg
   .rename_i b hb
    refine dG.2 ⟨t,ht,dG.2 ⟨_,hf.get _ _ hb,?_⟩⟩
    show VN (b == want) _ _
    rw [show (b == want)=false by simpa using hg]
    exact h _ (hf.put hd)
   .cases hg
  .cases hg
theorem nJ {x:Operand}{a:AV}(ho:ops[i]?=some ⟨d,.move x,ty,pos,NJ,g⟩)(hg:gB ops M g=true)(hd:vJ N d=true)(hx:NI M x=some a)(h:Eo P ops (i+1) N (uQ M d a) ah (nx+1) Q):Eo P ops i N M ah nx Q:=
 tX ho hg hd fun fr hf=>dG.2 ⟨a,kC hf hx,h⟩
theorem Dj {x:Operand}{a:AV}(ho:ops[i]?=some ⟨d,.assign x,ty,pos,NJ,g⟩)(hg:gB ops M g=true)(hd:vJ N d=true)(hx:NI M x=some a)(h:Eo P ops (i+1) N (uQ M d a) ah (nx+1) Q):Eo P ops i N M ah nx Q:=
 tX ho hg hd fun fr hf=>dG.2 ⟨a,kC hf hx,h⟩
theorem abU {c x y:Operand}{t:Bool}{a:AV}(ho:ops[i]?=some ⟨d,.pick c x y,ty,pos,NJ,g⟩)(hg:gB ops M g=true)(hd:vJ N d=true)(hc:NI M c=some (.p (.bool t)))
  (hx:NI M (match t with|true=>x|false=>y)=some a) (h:Eo P ops (i+1) N (uQ M d a) ah (nx+1) Q):Eo P ops i N M ah nx Q:=
 tX ho hg hd fun fr hf=>dG.2 ⟨_,kC hf hc,by
  show VN t _ _
  cases t with
  |true=>exact dG.2 ⟨a,kC hf hx,h⟩
  |false=>exact dG.2 ⟨a,kC hf hx,h⟩⟩
theorem ay4 {t:Bool×Nat}{row:List AV}{off:Nat}{v:AV}{k:AV->Prop}(h:apart t row off fun x=>x=v)(hk:k v):apart t row off k:=by
 unfold apart at h ⊢
 split
 .rename_i ht;rw [if_pos ht] at h;exact ⟨h.1,by rw [h.2];exact hk⟩
 .rename_i ht
  rw [if_neg ht] at h
  obtain ⟨a,h1,h2⟩:=dG.1 h
  exact dG.2 ⟨a,h1,by rw [h2];exact hk⟩
theorem pG {t:TypeId}{x:Operand}{b sz j off:Nat}{rs:List (List AV)}{row:List AV}{tt:Bool×Nat}{v:AV}(ho:ops[i]?=some ⟨d,.load t x,ty,pos,NJ,g⟩)(hg:gB ops M g=true)(hd:vJ N d=true)(hx:NI M x=some (.op b sz j off))
  (ht:xg P t=some tt) (hb:ah b=some (.rows sz rs)) (hr:rs[j]?=some row) (hp:apart tt row off fun x=>x=v) (h:Eo P ops (i+1) N (uQ M d v) ah (nx+1) Q):Eo P ops i N M ah nx Q:=
 tX ho hg hd fun fr hf=>dG.2 ⟨_,kC hf hx,dG.2 ⟨tt,ht,by dsimp only;rw [hb];exact ⟨rfl,dG.2 ⟨row,hr,ay4 hp h⟩⟩⟩⟩
theorem IK {t:TypeId}{x y:Operand}{b sz j off:Nat}{rs:List (List AV)}{row:List AV}{tt:Bool×Nat}{v:AV}(ho:ops[i]?=some ⟨d,.store t x y,ty,pos,NJ,g⟩)(hg:gB ops M g=true)(hd:vJ N d=true)(hx:NI M x=some (.op b sz j off))(hy:NI M y=some v)
  (ht:xg P t=some tt) (hb:ah b=some (.rows sz rs)) (hv:v.BA=true) (hl:v.cells.length=tt.2) (hr:rs[j]?=some row) (hfit:off+tt.2<=row.length)
  (h:Eo P ops (i+1) N (uQ M d (.p undef)) (upd ah b (some (.rows sz (rs.set j (lay row off v.cells))))) (nx+1) Q):Eo P ops i N M ah nx Q:=
 tX ho hg hd fun fr hf=>dG.2 ⟨_,kC hf hx,dG.2 ⟨_,kC hf hy,dG.2 ⟨tt,ht,by dsimp only;rw [hb];exact ⟨rfl,hv,hl,dG.2 ⟨row,hr,hfit,h⟩⟩⟩⟩⟩
theorem yI {s:TypeId}{x:Operand}{k b sz j off:Nat}{f:Nat×Bool×Nat}(ho:ops[i]?=some ⟨d,.fieldAddr s x k,ty,pos,NJ,g⟩)(hg:gB ops M g=true)(hd:vJ N d=true)(hx:NI M x=some (.op b sz j off))
  (hf:JD P s k=some f) (h0:Nat.beq f.2.2 0=false) (h:Eo P ops (i+1) N (uQ M d (.op b sz j (off+f.1))) ah (nx+1) Q):Eo P ops i N M ah nx Q:=
 tX ho hg hd fun fr hfr=>dG.2 ⟨_,kC hfr hx,dG.2 ⟨f,hf,fun e=>by rw [e] at h0;simp at h0,h⟩⟩
theorem Js {t:TypeId}{x y:Operand}{b sz off len:Nat}{kk:IntKind}{n:Int}{e:Nat×Nat}(ho:ops[i]?=some ⟨d,.indexAddr t x y,ty,pos,NJ,g⟩)(hg:gB ops M g=true)(hd:vJ N d=true)
  (hx:NI M x=some (.os b sz off len)) (hy:NI M y=some (.p (.int kk n))) (he:iP P t=some e) (h0:0<=n) (hn:n.toNat<len) (hs:sz=e.1) (h:Eo P ops (i+1) N (uQ M d (.op b sz (off+n.toNat) 0)) ah (nx+1) Q):Eo P ops i N M ah nx Q:=
 tX ho hg hd fun fr hfr=>dG.2 ⟨_,kC hfr hx,dG.2 ⟨_,kC hfr hy,dG.2 ⟨e,he,h0,hn,hs,h⟩⟩⟩
theorem FP {o:BinOp}{t ty2:TypeId}{x y:Operand}{a b v:AV}(ho:ops[i]?=some ⟨d,.binOp o t x y ty2,ty,pos,NJ,g⟩)(hg:gB ops M g=true)(hd:vJ N d=true)(hx:NI M x=some a)(hy:NI M y=some b)
  (hv:∀K:AV->Prop,K v->Gf P o t (isC x||isC y) a b K) (h:Eo P ops (i+1) N (uQ M d v) ah (nx+1) Q):Eo P ops i N M ah nx Q:=
 tX ho hg hd fun fr hfr=>dG.2 ⟨_,kC hfr hx,dG.2 ⟨_,kC hfr hy,.inl (hv _ h)⟩⟩
theorem aqL {o:UnOp}{t:TypeId}{x:Operand}{a v:AV}(ho:ops[i]?=some ⟨d,.unOp o t x,ty,pos,NJ,g⟩)(hg:gB ops M g=true)(hd:vJ N d=true)(hx:NI M x=some a)
  (hv:∀K:AV->Prop,K v->aUn o a K) (h:Eo P ops (i+1) N (uQ M d v) ah (nx+1) Q):Eo P ops i N M ah nx Q:=
 tX ho hg hd fun fr hfr=>dG.2 ⟨_,kC hfr hx,hv _ h⟩
theorem QW {args:Array Operand}{ts:Array TypeId}{a v:AV}{t:TypeId}(ho:ops[i]?=some ⟨d,.call ⟨.builtin .len,args,ts⟩,ty,pos,NJ,g⟩)(hg:gB ops M g=true)(hd:vJ N d=true)(hx:Y8 M args.toList=some [a])(ht:ts[0]?=some t)
  (hv:∀K:mP->Prop,K (.val v)->Ll P ah t a K) (h:Eo P ops (i+1) N (uQ M d v) ah (nx+1) Q):Eo P ops i N M ah nx Q:=
 tX ho hg hd fun fr hfr=>dG.2 ⟨_,FN hfr hx,dG.2 ⟨t,ht,hv _ h⟩⟩
theorem alC {t e:TypeId}{rows:List (List AV)}{full:Bool}(hu:P.underlying t=some (.slice e)):∀K:mP->Prop,K (.val (.p (.int .i64 rows.length)))->Ll P ah t (.sl rows full) K:=fun K h=>by unfold Ll;rw [hu];exact h
theorem aed {t e:TypeId}{b sz off len:Nat}(hu:P.underlying t=some (.slice e)):∀K:mP->Prop,K (.val (.p (.int .i64 len)))->Ll P ah t (.os b sz off len) K:=fun K h=>by unfold Ll;rw [hu];exact h
theorem Y9 {t:TypeId}{parts:Array (Nat×Operand)}{ps:List (Nat×AV)}{z cs:List AV}{pl:Nat->Option (Nat×Nat)}(ho:ops[i]?=some ⟨d,.build t parts,ty,pos,NJ,g⟩)(hg:gB ops M g=true)(hd:vJ N d=true)(hx:an1 M parts.toList=some ps)
  (hz:ays P t=some z) (hp:ayC P t=some pl) (hf:FT pl z ps=some cs) (h:Eo P ops (i+1) N (uQ M d (.agg cs)) ah (nx+1) Q):Eo P ops i N M ah nx Q:=
 tX ho hg hd fun fr hfr=>dG.2 ⟨_,afQ hfr hx,dG.2 ⟨z,hz,dG.2 ⟨pl,hp,dG.2 ⟨cs,hf,h⟩⟩⟩⟩
theorem QX {t:TypeId}{x:Operand}{v:AV}(ho:ops[i]?=some ⟨d,.box t x,ty,pos,NJ,g⟩)(hg:gB ops M g=true)(hd:vJ N d=true)(hx:NI M x=some v)(hb:v.BA=true)
  (h:Eo P ops (i+1) N (uQ M d (.op nx v.cells.length 0 0)) (upd ah nx (some (.rows v.cells.length [v.cells]))) (nx+1) Q):Eo P ops i N M ah nx Q:=
 tX ho hg hd fun fr hfr=>dG.2 ⟨_,kC hfr hx,hb,h⟩
theorem QY {t:TypeId}{z:List AV}(ho:ops[i]?=some ⟨d,.alloc t,ty,pos,NJ,g⟩)(hg:gB ops M g=true)(hd:vJ N d=true)(hz:ays P t=some z)(ha:azj P t=false)
  (h:Eo P ops (i+1) N (uQ M d (.op nx z.length 0 0)) (upd ah nx (some (.rows z.length [z]))) (nx+1) Q):Eo P ops i N M ah nx Q:=
 tX ho hg hd fun fr hfr=>.inl (dG.2 ⟨z,hz,by rw [ha];exact h⟩)
theorem aee {f:FuncId}{args:Array Operand}{ts:Array TypeId}{az P9 Xh:List AV}{r:AV}(ho:ops[i]?=some ⟨d,.call ⟨.value (.func f),args,ts⟩,ty,pos,NJ,g⟩)(hg:gB ops M g=true)(hd:vJ N d=true)
  (hx:Y8 M args.toList=some az) (hf:lI (nR ah ayw) az=some P9) (hw:∀w E vs,fG w E P9 vs->fG w E Xh vs) (hp:PC P f Xh r) (hc:iO az=true\/r.flat=true) (h:Eo P ops (i+1) N (uQ M d r) ah (nx+1) Q):Eo P ops i N M ah nx Q:=
 tX ho hg hd fun fr hfr=>dG.2 ⟨_,FN hfr hx,dG.2 ⟨P9,hf,Xh,r,hw,hp,.inl ⟨hc.imp id .inl,h⟩⟩⟩
theorem Vk {f:FuncId}{args:Array Operand}{ts:Array TypeId}{az:List AV}(ho:ops[i]?=some ⟨d,.call ⟨.value (.func f),args,ts⟩,ty,pos,NJ,none⟩)(hd:vJ N d=true)
  (hx:Y8 M args.toList=some az) (h:CW P f az ah nx fun r dV nx'=>Eo P ops (i+1) N (uQ M d r) dV nx' Q):Eo P ops i N M ah nx Q:=
 fun fr hfr=>an0 ho rfl rfl (FN hfr hx) (h.mono fun r dV nx' hk=>hk _ (hfr.put hd))
def AL (args:List AV):MT->Prop
 |[]=>True
 |x::r=>args[x.1]?=some x.2/\AL args r
theorem AL.get {args:List AV}:∀{M:MT} {t:Nat} {a:AV},AL args M->JB M t=some a->args[t]?=some a
 |[],t,a,_,h=>by cases h
 |x::r,t,a,hl,h=>by
  simp only [JB] at h
  split at h
  .rename_i hb
   obtain rfl:=ay hb
   simp only [aj] at h;subst h
   exact hl.1
  .exact AL.get hl.2 h
theorem abV {args:List AV}{n:Nat}{t:Nat}{a:AV}(hM:AL args M)(h:JB M t=some a):fV (args.map some++List.replicate n none) t=some a:=by
 have h0:=hM.get h
 have key:∀(l:List AV) (t:Nat),l[t]?=some a->fV (l.map some++List.replicate n none) t=some a:=by
  intro l
  induction l with
  |nil=>intro t h;simp at h
  |cons x l ih=>
   intro t h
   cases t with
   |zero=>simp at h;subst h;rfl
   |succ t=>exact ih t (by simpa using h)
 exact key args t h0
theorem aqM {f:FuncId}{fn:Func}{c:Code}{args:List AV}{r:AV}{M:MT}{Q:MQ}(hf:P.funcs[f]?=some fn)(hb:fn.body=some c)(hname:fn.name≠ "runtime.NumGoroutine") (hn:args.length<=fn.ntmps)
  (hM:AL args M) (h:Qg P c fn.ntmps M (fun _=>none) 0 Q)
  (hq:∀e M fr ah nx,FA fn.ntmps M fr->Q e M ah nx->arw P fn r e fr ah nx):PC P f args r:=
 ZG hf hb hname hn ((h _ ⟨by simp [hn],fun t a ht=>abV hM ht⟩).mono fun e fr ah nx ⟨M',h1,h2⟩=>hq e M' fr ah nx h1 h2)
theorem aef {f:FuncId}{fn:Func}{c:Code}{args:List AV}{M:MT}{Q:MQ}{K:CK}{ah:AH}{nx:Nat}(hf:P.funcs[f]?=some fn)(hb:fn.body=some c)(hname:fn.name≠ "runtime.NumGoroutine") (hn:args.length<=fn.ntmps)
  (hM:AL args M) (h:Qg P c fn.ntmps M ah nx Q)
  (hq:∀e M fr ah nx,FA fn.ntmps M fr->Q e M ah nx->(e=.normal\/e=.ret)/\yM P fr ah fn.results.toList fun l=>K (one l) ah nx):CW P f args ah nx K:=
 abT hf hb hname hn ((h _ ⟨wF hn,fun t a ht=>abV hM ht⟩).mono fun e fr ah nx ⟨M',h1,h2⟩=>hq e M' fr ah nx h1 h2)
def XE (P:Program)(ops:Array Oper)(K:List Nat)(t_ i N:Nat)(M:MT)(ah:AH)(Q:MQ):Prop:=
 ∀fr fs,FA N M fr->(∀f∈fs,zl.wr f=[])->BD P ops (some K) t_ i (ops.toList.drop i) fr ah fs fun fr' dV=>lft N Q .normal fr' dV (t_+ops.size)
theorem alD {id:Nat}(hm:P.follows .mixedOrders=true)(K:List Nat)(hM:ayu ops.toList []=K)(he:uz ops=true)(hsl:vO ops K=true)(h:XE P ops K nx 0 N M ah Q):Qg P (.region id ops true) N M ah nx Q:=
 fun fr hf=>al9 hm K hM he hsl (h fr [] hf (fun f hf=>by cases hf))
variable {K : List Nat} {t_:Nat}
theorem an2 (hi:Nat.ble ops.size i=true)(h:Q .normal M ah (t_+ops.size)):XE P ops K t_ i N M ah Q:=by
 intro fr fs hf hfs
 have:=aF hi
 rw [List.drop_eq_nil_of_le (by simpa using this)]
 exact ⟨M,hf,h⟩
theorem alE {o:Oper}(ho:ops[i]?=some o):ops.toList.drop i=o::ops.toList.drop (i+1):=by
 obtain ⟨hlt,he⟩:=bF.1 ho
 rw [List.drop_eq_getElem_cons (by simpa using hlt)]
 simp [he]
theorem IL {op:Op}{v:AV}{rd:List Nat}(ho:ops[i]?=some ⟨d,op,ty,pos,NJ,g⟩)(hg:gB ops M g=true)(hd:vJ N d=true)
  (h:∀fr,FA N M fr->∀K:mP->Prop,K ⟨v,[],rd⟩->Qi P (t_+i) fr ah op K) (hk:XE P ops K t_ (i+1) N (uQ M d v) ah Q):XE P ops K t_ i N M ah Q:=by
 intro fr fs hf hfs
 rw [alE ho]
 unfold BD
 have key:=h fr hf (fun r=>ayG (some K) fs i r.rd (r.wr.map (·.1))/\BD P ops (some K) t_ (i+1) (ops.toList.drop (i+1)) (lH fr d r.v) (lZ ah r.wr) (LD (some K) fs i r.rd (r.wr.map (·.1))) fun fr' dV=>lft N Q .normal fr' dV (t_+ops.size))
  ⟨fun f hf=>.inr ⟨fun b hb=>(by rw [hfs f hf] at hb;cases hb),fun b hb=>(by simp)⟩,hk _ _ (hf.put hd) (fun f hf=>by
   unfold LD at hf
   dsimp only at hf
   split at hf
   .exact hfs f hf
   .rcases bD.1 hf with rfl|hf
    .rfl
    .exact hfs f hf)⟩
 unfold jc
 cases g with
 |none=>exact key
 |some jw=>
  obtain ⟨j,want⟩:=jw
  simp only [gB] at hg
  split at hg
  .rename_i t ht
   split at hg
   .rename_i b hb
    refine dG.2 ⟨t,ht,dG.2 ⟨_,hf.get _ _ hb,?_⟩⟩
    show VN (b == want) _ _
    rw [hg];exact key
   .cases hg
  .cases hg
theorem aeg {x:Operand}{a:AV}(ho:ops[i]?=some ⟨d,.move x,ty,pos,NJ,g⟩)(hg:gB ops M g=true)(hd:vJ N d=true)(hx:NI M x=some a)(h:XE P ops K t_ (i+1) N (uQ M d a) ah Q):XE P ops K t_ i N M ah Q:=
 IL ho hg hd (fun fr hf K hK=>dG.2 ⟨a,kC hf hx,hK⟩) h
theorem aqN {x:Operand}{a:AV}(ho:ops[i]?=some ⟨d,.assign x,ty,pos,NJ,g⟩)(hg:gB ops M g=true)(hd:vJ N d=true)(hx:NI M x=some a)(h:XE P ops K t_ (i+1) N (uQ M d a) ah Q):XE P ops K t_ i N M ah Q:=
 IL ho hg hd (fun fr hf K hK=>dG.2 ⟨a,kC hf hx,hK⟩) h
theorem abW {c x y:Operand}{t:Bool}{a:AV}(ho:ops[i]?=some ⟨d,.pick c x y,ty,pos,NJ,g⟩)(hg:gB ops M g=true)(hd:vJ N d=true)(hc:NI M c=some (.p (.bool t)))
  (hx:NI M (match t with|true=>x|false=>y)=some a) (h:XE P ops K t_ (i+1) N (uQ M d a) ah Q):XE P ops K t_ i N M ah Q:=
 IL ho hg hd (fun fr hf K hK=>dG.2 ⟨_,kC hf hc,by
  show VN t _ _
  cases t with
  |true=>exact dG.2 ⟨a,kC hf hx,hK⟩
  |false=>exact dG.2 ⟨a,kC hf hx,hK⟩⟩) h
theorem afR {o:BinOp}{t ty2:TypeId}{x y:Operand}{a b v:AV}(ho:ops[i]?=some ⟨d,.binOp o t x y ty2,ty,pos,NJ,g⟩)(hg:gB ops M g=true)(hd:vJ N d=true)(hx:NI M x=some a)(hy:NI M y=some b)
  (hv:∀K:AV->Prop,K v->Gf P o t (isC x||isC y) a b K) (h:XE P ops K t_ (i+1) N (uQ M d v) ah Q):XE P ops K t_ i N M ah Q:=
 IL ho hg hd (fun fr hf K hK=>dG.2 ⟨_,kC hf hx,dG.2 ⟨_,kC hf hy,.inl (hv _ hK)⟩⟩) h
theorem an3 {s:TypeId}{x:Operand}{k b sz j off:Nat}{f:Nat×Bool×Nat}(ho:ops[i]?=some ⟨d,.fieldAddr s x k,ty,pos,NJ,g⟩)(hg:gB ops M g=true)(hd:vJ N d=true)(hx:NI M x=some (.op b sz j off))
  (hf:JD P s k=some f) (h0:Nat.beq f.2.2 0=false) (h:XE P ops K t_ (i+1) N (uQ M d (.op b sz j (off+f.1))) ah Q):XE P ops K t_ i N M ah Q:=
 IL ho hg hd (fun fr hfr K hK=>dG.2 ⟨_,kC hfr hx,dG.2 ⟨f,hf,fun e=>by rw [e] at h0;simp at h0,hK⟩⟩) h
theorem ND {t:TypeId}{x:Operand}{b sz j off:Nat}{rs:List (List AV)}{row:List AV}{tt:Bool×Nat}{v:AV}(ho:ops[i]?=some ⟨d,.load t x,ty,pos,NJ,g⟩)(hg:gB ops M g=true)(hd:vJ N d=true)(hx:NI M x=some (.op b sz j off))
  (ht:xg P t=some tt) (hb:ah b=some (.rows sz rs)) (hr:rs[j]?=some row) (hp:apart tt row off fun x=>x=v) (h:XE P ops K t_ (i+1) N (uQ M d v) ah Q):XE P ops K t_ i N M ah Q:=
 IL (rd:=[b]) ho hg hd (fun fr hf K hK=>dG.2 ⟨_,kC hf hx,dG.2 ⟨tt,ht,by dsimp only;rw [hb];exact ⟨rfl,dG.2 ⟨row,hr,ay4 hp hK⟩⟩⟩⟩) h
theorem an4 {args:Array Operand}{ts:Array TypeId}{a v:AV}{t:TypeId}(ho:ops[i]?=some ⟨d,.call ⟨.builtin .len,args,ts⟩,ty,pos,NJ,g⟩)(hg:gB ops M g=true)(hd:vJ N d=true)(hx:Y8 M args.toList=some [a])(ht:ts[0]?=some t)
  (hv:∀K:mP->Prop,K (.val v)->Ll P ah t a K) (h:XE P ops K t_ (i+1) N (uQ M d v) ah Q):XE P ops K t_ i N M ah Q:=
 IL ho hg hd (fun fr hf K hK=>dG.2 ⟨_,FN hf hx,dG.2 ⟨t,ht,hv _ hK⟩⟩) h
theorem alF {f:FuncId}{args:Array Operand}{ts:Array TypeId}{az P9 Xh:List AV}{r:AV}(ho:ops[i]?=some ⟨d,.call ⟨.value (.func f),args,ts⟩,ty,pos,NJ,g⟩)(hg:gB ops M g=true)(hd:vJ N d=true)
  (hx:Y8 M args.toList=some az) (hf:lI (nR ah ayw) az=some P9) (hw:∀w E vs,fG w E P9 vs->fG w E Xh vs) (hp:PC P f Xh r) (hc:iO az=true\/r.flat=true) (h:XE P ops K t_ (i+1) N (uQ M d r) ah Q):XE P ops K t_ i N M ah Q:=
 IL ho hg hd (fun fr hfr K hK=>dG.2 ⟨_,FN hfr hx,dG.2 ⟨P9,hf,Xh,r,hw,hp,.inl ⟨hc.imp id .inl,hK⟩⟩⟩) h
theorem Qh {t el:TypeId}{e:Nat×Nat}(hu:P.underlying t=some (.slice el))(he:iP P t=some e):∃inf,P.info? el=some inf/\inf.size=e.1/\inf.bytes=e.2:=by
 unfold iP at he
 rw [hu] at he
 dsimp only at he
 cases hi:P.info? el with
 |none=>rw [hi] at he;cases he
 |some inf=>
  rw [hi] at he
  simp only [Option.map_some,aj] at he
  subst he
  exact ⟨inf,rfl,rfl,rfl⟩
theorem an5 {t el:TypeId}{x y:Operand}{k1 k2:IntKind}{l c:Int}{e:Nat×Nat}{z:List AV}(ho:ops[i]?=some ⟨d,.makeSlice t x y,ty,pos,NJ,g⟩)(hg:gB ops M g=true)(hd:vJ N d=true)(hx:NI M x=some (.p (.int k1 l)))(hy:NI M y=some (.p (.int k2 c)))
  (hu:P.underlying t=some (.slice el)) (he:iP P t=some e) (hz:ays P el=some z) (hzl:z.length=e.1) (h0:0<=l) (hlc:l<=c) (hc:c<=4294967296) (hb:e.2<=4096)
  (h:Eo P ops (i+1) N (uQ M d (.os nx e.1 0 l.toNat)) (upd ah nx (some (.rows e.1 (List.replicate l.toNat (z.map Ju))))) (nx+1) Q):Eo P ops i N M ah nx Q:=
 tX ho hg hd fun fr hfr=>dG.2 ⟨_,kC hfr hx,dG.2 ⟨_,kC hfr hy,by
  obtain ⟨inf,hi,h1,h2⟩:=Qh hu he
  unfold qh
  rw [hu]
  refine dG.2 ⟨inf,hi,dG.2 ⟨z,hz,by rw [h1];exact hzl,h0,hlc,hc,by rw [h2];exact hb,?_⟩⟩
  rw [h1];exact h⟩⟩
theorem an6 {args:Array Operand}{ts:Array TypeId}{t:TypeId}{e:Nat×Nat}{b off len:Nat}{rs ys:List (List AV)}{f:Bool}(ho:ops[i]?=some ⟨d,.call ⟨.builtin .copy,args,ts⟩,ty,pos,NJ,g⟩)(hg:gB ops M g=true)(hd:vJ N d=true)
  (hx:Y8 M args.toList=some [.os b e.1 off len,.sl ys f]) (ht:ts[0]?=some t) (he:iP P t=some e) (h2:e.1≠0) (hy:jy e.1 ys) (hb:ah b=some (.rows e.1 rs)) (hl:off+len<=rs.length)
  (h:Eo P ops (i+1) N (uQ M d (.p (.int .i64 (min ys.length len:Nat)))) (upd ah b (some (.rows e.1 (rs.take off++ys.take len++rs.drop (off+min ys.length len))))) (nx+1) Q):Eo P ops i N M ah nx Q:=
 tX ho hg hd fun fr hfr=>dG.2 ⟨_,FN hfr hx,dG.2 ⟨t,ht,dG.2 ⟨e,he,h2,by
  refine ⟨hy,?_⟩
  show e.1=e.1/\(match ah b with|some (.rows sz' rs)=>e.1=sz'/\off+len<=rs.length/\_|_=>False)
  rw [hb]
  exact ⟨rfl,rfl,hl,h⟩⟩⟩⟩
theorem alG {f:FuncId}{fn:Func}{t e:TypeId}{s:Nat×Nat}{z:List AV}(hfn:P.funcs[f]?=some fn)(hc:rU fn=some t)(hu:P.underlying t=some (.slice e))(he:iP P t=some s)(hz:ays P e=some z)(hzl:z.length=s.1)(hby:s.2<=4096)(hsz:s.1≠0)
  {rows:List (List AV)} {fl:Bool} (hr:jy s.1 rows) (hl:rows.length<=4294967296):CW P f [.sl rows fl] ah nx fun r dV nx'=>r=.os (nx+5) s.1 0 rows.length/\nx'=nx+7/\dV (nx+5)=some (.rows s.1 rows)/\∀b,b<nx->dV b=ah b:=by
 obtain ⟨inf,hi,h1,h2⟩:=Qh hu he
 obtain ⟨c,hb,hg,hn,hres,hw⟩:=akg (nx:=nx) (ah:=ah) (rd:=[]) hfn hc hu hi hz (by rw [h1];exact hzl) (by rw [h2];exact hby) (by rw [h1];exact hsz) (ap5 (rows:=rows) (full:=fl)) (fun dV K _ hK=>⟨by rw [h1];exact hr,hK⟩) hl
 refine abT hfn hb (by simpa [kN] using hg) (by rw [hn];simp) ?_
 rw [hn]
 refine hw _ fun fr dV h3 h4=>⟨.inr rfl,?_⟩
 rw [hres]
 refine dG.2 ⟨_,h3,?_⟩
 rw [h1]
 refine ⟨rfl,rfl,?_,fun b hb=>?_⟩
 .rw [h4,if_pos rfl,h1]
 .rw [h4,if_neg (by omega),if_neg (by omega)]
end
end Go.Fw
end
section
namespace Go.Fw
open Go.Proofs
set_option maxRecDepth 100000
theorem abX : Try.prog.underlying 44=some (.slice 54):=by kernel_rfl
theorem apb : Try.prog.underlying 52=some (.slice 64):=by kernel_rfl
theorem Es : xg Try.prog 46=some (true,1):=by kernel_rfl
theorem Vl : xg Try.prog 44=some (false,1):=by kernel_rfl
theorem afS : xg Try.prog 52=some (false,1):=by kernel_rfl
theorem XF : xg Try.prog 54=some (true,18):=by kernel_rfl
theorem ata : xg Try.prog 64=some (true,18):=by kernel_rfl
theorem FQ : JD Try.prog 46 0=some (0,false,1):=by kernel_rfl
theorem QZ : JD Try.prog 54 3=some (6,false,1):=by kernel_rfl
theorem aqO : (iP Try.prog 44).map (fun e=>(e.1,Nat.ble e.2 4096))=some (18,true):=by kernel_rfl
theorem aqP : (iP Try.prog 52).map (fun e=>(e.1,Nat.ble e.2 4096))=some (18,true):=by kernel_rfl
theorem apc : ∃b,iP Try.prog 44=some (18,b)/\b<=4096:=by
 have h:=aqO
 simp only [aA,aK] at h
 obtain ⟨⟨a,b⟩,h1,rfl,h2⟩:=h
 exact ⟨b,h1,aF h2⟩
theorem apd : ∃b,iP Try.prog 52=some (18,b)/\b<=4096:=by
 have h:=aqP
 simp only [aA,aK] at h
 obtain ⟨⟨a,b⟩,h1,rfl,h2⟩:=h
 exact ⟨b,h1,aF h2⟩
def ahX : List AV:=[.p (.int .u8 0),.p (.float .f64 0),.str [],.p (.int .i64 0)]
def alH : List AV:=[.p (.int .u8 0)]++ahX++[.p (.bool false),.sl [] true]++ahX++ahX++[.str [],.p (.bool false),.p (.bool false)]
def alI : List AV:=[.str [],.p (.int .i64 0),.p (.int .u8 0)]++ahX++ahX++ahX++[.p (.bool false),.p (.bool false),.p (.bool false)]
theorem afT : ays Try.prog 46=some [.sl [] true]:=by kernel_rfl
theorem alJ : ays Try.prog 54=some alH:=by kernel_rfl
theorem ape : ays Try.prog 64=some alI:=by kernel_rfl
theorem alK : azj Try.prog 46=false:=by kernel_rfl
theorem atb : azj Try.prog 54=false:=by kernel_rfl
theorem aqQ : ∃pl,ayC Try.prog 46=some pl/\∀b n:Nat,FT pl [.sl [] true] [(0,.os b 18 0 n)]=some [.os b 18 0 n]:=⟨_,rfl,fun b n=>rfl⟩
theorem aqR : ∃pl,ayC Try.prog 64=some pl:=⟨_,rfl⟩
def uw : List AV:=.p (.int .u8 77)::alH.tail
theorem aqS : ∃pl,ayC Try.prog 54=some pl/\FT pl alH [(0,.p (.int .u8 77))]=some uw:=⟨_,rfl,rfl⟩
theorem alL {m:Nat}(h:m<4294967296):IntKind.wrap .i64 ((m:Int)+1)=((m+1:Nat):Int):=by
 have:=aow (i:=(m:Int)) (by omega) (by omega)
 unfold fK at this
 rw [this];omega
def Qu (o:dJ)(id:Nat):List AV:=o.enc.set 6 (.os id 18 0 (o.Props.map dI.enc).length)
theorem azn (o:dJ)(hk:o.Props.length<=4294967296)(ah:AH)(nx:Nat):CW Try.prog 48 [o.av] ah nx (fun r dV nx'=>∃id,r=.agg (Qu o id)/\nx<=id/\id<nx'/\dV id=some (.rows 18 (o.Props.map dI.enc))/\∀b,b<nx->dV b=ah b):=by
 obtain ⟨b52,aqT,atc⟩:=apd
 refine aef (M:=[(0,o.av)]) (Q:=fun e M dV nx'=>(e=.normal\/e=.ret)/\∃b2 id,JB M 2=some (.op b2 18 0 0)/\dV b2=some (.rows 18 [Qu o id])/\nx<=id/\id<nx'/\dV id=some (.rows 18 (o.Props.map dI.enc))/\∀b,b<nx->dV b=ah b)
  Try.func48 rfl (by decide) (aF rfl) ⟨rfl,trivial⟩ ?_ ?_
 .refine iV (fH ?_)
  refine QX rfl rfl rfl rfl rfl ?_
  refine QY rfl rfl rfl alJ atb (iW rfl ?_)
  refine iV (fH ?_)
  refine yI rfl rfl rfl rfl QZ rfl ?_
  refine pG rfl rfl rfl rfl afS (rs:=[o.enc]) (by rw [ayp (by omega)];exact gX rfl) rfl (v:=.sl (o.Props.map dI.enc) false) rfl ?_
  refine Vk rfl rfl rfl ((alG (fl:=false) Try.func72 (t:=52) (e:=64) (by kernel_rfl) apb aqT ape rfl atc (Nat.succ_ne_zero 17) (dI.Lh _) (by simpa using hk)).mono fun r Vm n1 hr=>?_)
  obtain ⟨rfl,rfl,hb1,hold⟩:=hr
  refine yI rfl rfl rfl rfl QZ rfl ?_
  have hn:Vm nx=some (.rows 18 [o.enc]):=by rw [hold nx (by omega),ayp (by omega)];exact gX rfl
  have hn1:Vm (nx+1)=some (.rows 18 [alH]):=by rw [hold _ (by omega)];exact gX rfl
  refine IK rfl rfl rfl rfl rfl afS hn rfl rfl rfl (aF rfl) (iW rfl ?_)
  refine iV (fH ?_)
  refine pG rfl rfl rfl rfl XF (sz:=18) (rs:=[Qu o (nx+1+1+1+1+5)]) (row:=Qu o (nx+1+1+1+1+5)) (by rw [gX rfl];rfl) rfl (v:=.agg (Qu o (nx+1+1+1+1+5))) ⟨dF 18,rfl⟩ ?_
  refine IK rfl rfl rfl rfl rfl XF (rs:=[alH]) (by rw [ayp (by omega)];exact hn1) rfl rfl rfl (dF 18) (iW rfl ?_)
  refine NC ⟨.inr rfl,nx+1,nx+1+1+1+1+5,rfl,gX rfl,by omega,by omega,?_,fun b hb=>?_⟩
  .rw [ayp (by omega),ayp (by omega)];exact hb1
  .rw [ayp (by omega),ayp (by omega),hold b (by omega),ayp (by omega),ayp (by omega)]
 .intro e M fr dV nx' hf hq
  obtain ⟨he,b2,id,h2,hb2,h3,h4,h5,h6⟩:=hq
  refine ⟨he,dG.2 ⟨_,hf.get _ _ h2,dG.2 ⟨_,XF,?_⟩⟩⟩
  dsimp only
  rw [hb2]
  exact ⟨rfl,dG.2 ⟨Qu o id,rfl,⟨dF 18,id,rfl,h3,h4,h5,h6⟩⟩⟩
def wS (e:dJ×Nat):List AV:=Qu e.1 e.2
structure JC (F:List (dJ×Nat))(R:List dJ)(b:Nat)(ah:AH)(n0 nx:Nat):Prop where
 out:ah b=some (.rows 18 (F.map wS++R.map dJ.enc))
 lo:n0<=b
 hi:b<nx
 blk:∀e∈F,ah e.2=some (.rows 18 (e.1.Props.map dI.enc))/\n0<=e.2/\e.2<nx/\e.2≠b
 nd:(F.map (·.2)).Nodup
theorem JC.frame {F:List (dJ×Nat)}{R:List dJ}{b n0 nx nx':Nat}{ah dV:AH}(h:JC F R b ah n0 nx)(hn:nx<=nx')(ha:∀j,n0<=j->j<nx->dV j=ah j):JC F R b dV n0 nx':=
 ⟨by rw [ha b h.lo h.hi];exact h.out,h.lo,b_ h.hi hn,fun e he=>⟨by rw [ha _ (h.blk e he).2.1 (h.blk e he).2.2.1];exact (h.blk e he).1,(h.blk e he).2.1,b_ (h.blk e he).2.2.1 hn,(h.blk e he).2.2.2⟩,h.nd⟩
theorem JC.keep {F:List (dJ×Nat)}{R:List dJ}{b n0 nx nx':Nat}{ah dV:AH}(h:JC F R b ah n0 nx)(hn:nx<=nx')(hb:dV b=ah b)(ha:∀e∈F,dV e.2=ah e.2):JC F R b dV n0 nx':=
 ⟨by rw [hb];exact h.out,h.lo,b_ h.hi hn,fun e he=>⟨by rw [ha e he];exact (h.blk e he).1,(h.blk e he).2.1,b_ (h.blk e he).2.2.1 hn,(h.blk e he).2.2.2⟩,h.nd⟩
theorem abY {α:Type}(A:List α)(x y:α)(B:List α):(A++x::B).set A.length y=A++y::B:=by
 induction A with
 |nil=>rfl
 |cons a A ih=>simp [ih]
theorem abZ {α:Type}(A:List α)(x:α)(B:List α):(A++x::B)[A.length]?=some x:=by simp
def tnM (n b2 b k:Nat):MT:=[(2,.op b2 1 0 0),(3,.os b 18 0 n),(14,.p (.int .i64 n)),(15,.p (.int .i64 k))]
def tnI (l:List dJ)(b2 b n0:Nat)(kP:AH):Nat->MT->AH->Nat->Prop:=fun c M ah nx=>
 ∃k F,c=l.length+1-k/\k<=l.length/\M=tnM l.length b2 b k/\JC F (l.drop k) b ah n0 nx/\F.map (·.1)=l.take k/\b2<b/\ah b2=some (.rows 1 [[.sl [] true]])/\∀j,j<n0->ah j=kP j
def tnK (h:dH)(kP:AH)(nx0:Nat):CK:=fun r ah nx=>∃F b,r=.agg [.os b 18 0 F.length]/\JC F [] b ah nx0 nx/\F.map (·.1)=h.Objects/\∀j,j<nx0->ah j=kP j
theorem ab1 {l:List dJ}(hb:Fe [AV.sl (l.map dJ.enc) false]):(∀o∈l,o.Props.length<=4294967296)/\l.length<=4294967296:=by
 obtain ⟨⟨h1,h2⟩,-⟩:=hb
 refine ⟨fun o ho=>?_,by simpa using h1⟩
 have h3:=WS h2 o.enc (aV.2 ⟨o,ho,rfl⟩)
 have h4:=Ud h3 (.sl (o.Props.map dI.enc) false) (by simp [dJ.enc])
 have h5:(o.Props.map dI.enc).length<=4294967296:=h4.1
 simpa using h5
theorem XG (h:dH)(hb:Fe [AV.sl (h.Objects.map dJ.enc) false])(ah:AH)(nx:Nat):CW Try.prog 22 [h.av] ah nx (tnK h ah nx):=by
 obtain ⟨b44,ab2,atd⟩:=apc
 obtain ⟨hob,hlb⟩:=ab1 hb
 obtain ⟨ax7,ate,atf⟩:=aqQ
 obtain ⟨l⟩:=h
 dsimp only at hob hlb hb
 refine aef (M:=[(0,dH.av ⟨l⟩)]) (Q:=fun e M dV nx'=>(e=.normal\/e=.ret)/\∃b2 F b,JB M 2=some (.op b2 1 0 0)/\dV b2=some (.rows 1 [[.os b 18 0 F.length]])/\JC F [] b dV nx nx'/\F.map (·.1)=l/\∀j,j<nx->dV j=ah j)
  Try.func22 rfl (by decide) (aF rfl) ⟨rfl,trivial⟩ ?_ ?_
 .refine iV (fH ?_)
  refine QX rfl rfl rfl rfl rfl ?_
  refine QY rfl rfl rfl afT alK (iW rfl ?_)
  refine iV (fH ?_)
  refine yI rfl rfl rfl rfl FQ rfl ?_
  refine pG rfl rfl rfl rfl Vl (rs:=[[.sl (l.map dJ.enc) false]]) (by rw [ayp (by omega)];exact gX rfl) rfl (v:=.sl (l.map dJ.enc) false) rfl ?_
  refine QW rfl rfl rfl rfl rfl (alC abX) ?_
  refine an5 rfl rfl rfl rfl rfl abX ab2 alJ rfl (by omega) (Int.le_refl _) (by simp;omega) atd ?_
  refine Dj rfl rfl rfl rfl (iW rfl ?_)
  refine iV (fH ?_)
  refine nJ rfl rfl rfl rfl (yI rfl rfl rfl rfl FQ rfl ?_)
  refine pG rfl rfl rfl rfl Vl (rs:=[[.sl (l.map dJ.enc) false]]) (by rw [ayp (by omega),ayp (by omega)];exact gX rfl) rfl (v:=.sl (l.map dJ.enc) false) rfl ?_
  refine an6 rfl rfl rfl rfl rfl ab2 (Nat.succ_ne_zero 17) (dJ.Lh _) (gX rfl) (by simp) (iW rfl ?_)
  refine iV (iV (fH ?_))
  refine nJ rfl rfl rfl rfl (QW rfl rfl rfl rfl rfl (aed abX) (nJ rfl rfl rfl rfl (iW rfl ?_)))
  refine Aj (Vj (tnI l (nx+1) (nx+5) nx ah) (l.length+1) (tnM l.length (nx+1) (nx+5) 0) ⟨rfl,?_,?_,rfl,trivial⟩ ⟨0,[],rfl,dD _,rfl,⟨?_,by omega,by omega,(fun e he=>by cases he),List.nodup_nil⟩,rfl,by omega,?_,fun j hj=>?_⟩ fun c M Vm n1 hI=>?_)
  .show some (AV.os (nx+1+1+1+1+1) 18 0 (((l.map dJ.enc).length:Nat):Int).toNat)=_;simp
  .show some (AV.p (.int .i64 ((((l.map dJ.enc).length:Nat):Int).toNat:Nat)))=_;simp
  .rw [gX (by omega)];simp [List.take_of_length_le,List.drop_eq_nil_of_le]
  .rw [ayp (by omega),ayp (by omega)];exact gX rfl
  .rw [ayp (by omega),ayp (by omega),ayp (by omega),ayp (by omega)]
  .obtain ⟨k,F,hc,hk,rfl,hF,hFe,hlt,h2,hold⟩:=hI
   refine iV (fH ?_)
   refine FP rfl rfl rfl rfl rfl (fun K h=>⟨rfl,h⟩) (iW rfl ?_)
   refine iV (Ep rfl (fun h=>IJ ?_) fun h=>Vh ?_)
   .have hk':k<l.length:=by simpa using h
    clear h
    obtain ⟨o,ho⟩:∃o,l[k]?=some o:=⟨l[k],by simp [hk']⟩
    have hdrop:l.drop k=o::l.drop (k+1):=by
     rw [List.drop_eq_getElem_cons hk']
     rw [aX hk'] at ho
     cases ho;rfl
    have htake:l.take (k+1)=l.take k++[o]:=by rw [List.take_add_one,ho];rfl
    have hFl:F.length=k:=by
     have:=congrArg List.length hFe
     simpa [Nat.min_eq_left hk] using this
    have hout:=hF.out
    rw [hdrop,aY] at hout
    have hrow:(F.map wS++o.enc::(l.drop (k+1)).map dJ.enc)[0+(k:Int).toNat]?=some o.enc:=by
     have:=abZ (F.map wS) o.enc ((l.drop (k+1)).map dJ.enc)
     rw [dw,hFl] at this
     simpa using this
    have hlo:=hF.lo
    have hhi:=hF.hi
    refine iV (Aj (iV (fH ?_)))
    refine nJ rfl rfl rfl rfl (Dj rfl rfl rfl rfl (iW rfl ?_))
    refine fH ?_
    refine nJ rfl rfl rfl rfl (nJ rfl rfl rfl rfl (nJ rfl rfl rfl rfl (nJ rfl rfl rfl rfl ?_)))
    refine Js rfl rfl rfl rfl rfl ab2 (by omega) (by omega) rfl ?_
    refine pG rfl rfl rfl rfl XF hout hrow (v:=o.av) ⟨dF 18,rfl⟩ ?_
    refine Vk rfl rfl rfl ((azn o (hob o (aH ho)) _ _).mono fun r ah2 n2 hr=>?_)
    obtain ⟨id,rfl,g1,g2,g3,g4⟩:=hr
    refine Js rfl rfl rfl rfl rfl ab2 (by omega) (by omega) rfl ?_
    refine IK rfl rfl rfl rfl rfl XF (by rw [g4 _ (by omega)];exact hout) rfl rfl hrow (dF 18) (iW rfl ?_)
    refine fH ?_
    refine FP rfl rfl rfl rfl rfl (fun K h=>⟨rfl,h⟩) (nJ rfl rfl rfl rfl (iW rfl ?_))
    have hset:(F.map wS++o.enc::(l.drop (k+1)).map dJ.enc).set (0+(k:Int).toNat) (lay o.enc 0 (AV.agg (Qu o id)).cells)=(F++[(o,id)]).map wS++(l.drop (k+1)).map dJ.enc:=by
     have e1:lay o.enc 0 (AV.agg (Qu o id)).cells=wS (o,id):=rfl
     have:=abY (F.map wS) o.enc (wS (o,id)) ((l.drop (k+1)).map dJ.enc)
     rw [dw,hFl] at this
     rw [e1,show 0+(k:Int).toNat=k by simp,this]
     simp
    refine ⟨l.length+1-(k+1),by omega,tnM l.length (nx+1) (nx+5) (k+1),⟨rfl,rfl,rfl,?_,trivial⟩,k+1,F++[(o,id)],rfl,by omega,rfl,⟨?_,by omega,by omega,fun e he=>?_,?_⟩,?_,by omega,?_,fun j hj=>?_⟩
    .show some (AV.p (.int .i64 (IntKind.wrap .i64 ((k:Int)+1))))=_
     rw [alL (by omega)]
    .rw [gX rfl,hset]
    .rcases aJ.1 he with he|he
     .have h1:=hF.blk e he
      refine ⟨?_,h1.2.1,by omega,h1.2.2.2⟩
      rw [ayp h1.2.2.2,g4 _ (by omega)]
      exact h1.1
     .obtain rfl:=bU.1 he
      refine ⟨?_,by show nx<=id;omega,by show id<_;omega,by show id≠_;omega⟩
      show upd _ _ _ id=_
      rw [ayp (by omega)]
      exact g3
    .rw [List.map_append,List.nodup_append]
     refine ⟨hF.nd,by simp,fun a ha b hb=>?_⟩
     simp at hb;subst hb
     obtain ⟨e,he,rfl⟩:=aV.1 ha
     have:=(hF.blk e he).2.2.1
     omega
    .rw [htake,<- hFe];simp
    .rw [ayp (by omega),g4 _ (by omega)];exact h2
    .rw [ayp (by omega),g4 _ (by omega)];exact hold j hj
   .have hk2:k=l.length:=by
     have:¬k<l.length:=by simpa using h
     omega
    subst hk2
    rw [List.take_length] at hFe
    rw [List.drop_length] at hF
    have hFl:l.length=F.length:=by rw [<- hFe,dw]
    have hlo:=hF.lo
    have hhi:=hF.hi
    refine iV (fH ?_)
    refine nJ rfl rfl rfl rfl ?_
    refine Y9 rfl rfl rfl rfl afT ate (atf _ _) ?_
    refine IK rfl rfl rfl rfl rfl Es h2 rfl rfl rfl (dF 1) (iW rfl ?_)
    refine NC ⟨.inr rfl,nx+1,F,nx+5,rfl,?_,hF.keep (by omega) (ayp (by omega)) (fun e he=>ayp fun hc=>?_),hFe,fun j hj=>?_⟩
    .rw [gX rfl,<- hFl];rfl
    .have:=(hF.blk e he).1
     rw [hc,h2] at this
     simp at this
    .rw [ayp (by omega)];exact hold j hj
 .intro e M fr dV nx' hf hq
  obtain ⟨he,b2,F,b,h2,hb2,h3,h4,h5⟩:=hq
  refine ⟨he,dG.2 ⟨_,hf.get _ _ h2,dG.2 ⟨_,Es,?_⟩⟩⟩
  dsimp only
  rw [hb2]
  exact ⟨rfl,dG.2 ⟨_,rfl,⟨dF 1,F,b,rfl,h3,h4,h5⟩⟩⟩
def spM (b1 k:Nat):MT:=[(1,.op b1 1 0 0),(2,.p (.int .i64 k))]
def aqU (b1 k m:Nat):MT:=(3,.p (.int .i64 m))::spM b1 k
def Oth (F:List (dJ×Nat))(b nx:Nat)(kP ah:AH):Prop:=∀j,j<nx->j≠b->(∀e∈F,j≠e.2)->ah j=kP j
def spI (F:List (dJ×Nat))(b b1 nx:Nat)(kP:AH):Nat->MT->AH->Nat->Prop:=fun c M ah nx'=>
 ∃k,c=F.length+1-k/\k<=F.length/\M=spM b1 k/\ah b1=some (.rows 1 [[.os b 18 0 F.length]])/\ah b=some (.rows 18 (List.replicate k uw++(F.drop k).map wS))/\
  (∀e∈F.drop k,ah e.2=some (.rows 18 (e.1.Props.map dI.enc)))/\Oth F b nx kP ah/\b1<nx'
def avt (F:List (dJ×Nat))(b b1 nx k:Nat)(e:dJ×Nat)(kP:AH):Nat->MT->AH->Nat->Prop:=fun c M ah nx'=>
 ∃m rs,c=e.1.Props.length+1-m/\m<=e.1.Props.length/\M=aqU b1 k m/\ah b1=some (.rows 1 [[.os b 18 0 F.length]])/\ah b=some (.rows 18 (List.replicate k uw++(F.drop k).map wS))/\
  ah e.2=some (.rows 18 rs)/\rs.length=e.1.Props.length/\jy 18 rs/\(∀e∈F.drop (k+1),ah e.2=some (.rows 18 (e.1.Props.map dI.enc)))/\Oth F b nx kP ah/\b1<nx'
theorem aeh {F:List (dJ×Nat)}{b n0 mF:Nat}{ah:AH}{nx:Nat}(hF:JC F [] b ah n0 mF)(hm:mF<=nx)(hp:∀e∈F,e.1.Props.length<=4294967296)(hl:F.length<=4294967296) :
  CW Try.prog 23 [.agg [.os b 18 0 F.length]] ah nx (fun r dV nx'=>dV b=some (.rows 18 (List.replicate F.length uw))/\Oth F b nx ah dV/\nx<=nx'):=by
 obtain ⟨b44,ab2,atd⟩:=apc
 obtain ⟨b52,aqT,atc⟩:=apd
 obtain ⟨ax9,atg,ath⟩:=aqS
 obtain ⟨ax_,ati⟩:=aqR
 have hhi:=hF.hi
 generalize hah:ah=alM
 rw [hah] at hF
 refine aef (M:=[(0,.agg [.os b 18 0 F.length])]) (Q:=fun e M dV nx'=>(e=.normal\/e=.ret)/\dV b=some (.rows 18 (List.replicate F.length uw))/\Oth F b nx alM dV/\nx<=nx')
  Try.func23 rfl (by decide) (aF rfl) ⟨rfl,trivial⟩ ?_ (fun e M fr dV nx' hf hq=>⟨hq.1,hq.2⟩)
 refine iV (fH ?_)
 refine QX rfl rfl rfl rfl rfl (iW rfl ?_)
 refine iV (fH ?_)
 refine Dj rfl rfl rfl rfl (iW rfl ?_)
 refine Aj (Vj (spI F b nx nx alM) (F.length+1) (spM nx 0) ⟨rfl,rfl,trivial⟩ ⟨0,rfl,dD _,rfl,gX rfl,?_,fun e he=>?_,fun j hj _ _=>ayp (by omega),by omega⟩ fun c M Vm n1 hI=>?_)
 .rw [ayp (by omega)];simpa using hF.out
 .have:=hF.blk e (by simpa using he)
  rw [ayp (by omega)];exact this.1
 .obtain ⟨k,hc,hk,rfl,h1,hb,hblk,hoth,hb1⟩:=hI
  refine iV (iV (fH ?_))
  refine nJ rfl rfl rfl rfl (yI rfl rfl rfl rfl FQ rfl ?_)
  refine pG rfl rfl rfl rfl Vl h1 rfl (v:=.os b 18 0 F.length) rfl ?_
  refine QW rfl rfl rfl rfl rfl (aed abX) (FP rfl rfl rfl rfl rfl (fun K h=>⟨rfl,h⟩) (iW rfl ?_))
  refine Ep rfl (fun h=>IJ ?_) fun h=>Vh ?_
  .have hk':k<F.length:=by simpa using h
   clear h
   obtain ⟨e,he⟩:∃e,F[k]?=some e:=⟨F[k],by simp [hk']⟩
   have heF:=aH he
   have hdrop:F.drop k=e::F.drop (k+1):=by
    rw [List.drop_eq_getElem_cons hk']
    rw [aX hk'] at he
    cases he;rfl
   have avv:=hp e heF
   have hFe:=hF.blk e heF
   rw [hdrop,aY] at hb
   have hrow:(List.replicate k uw++wS e::(F.drop (k+1)).map wS)[0+(k:Int).toNat]?=some (wS e):=by
    have:=abZ (List.replicate k uw) (wS e) ((F.drop (k+1)).map wS)
    rw [List.length_replicate] at this
    simpa using this
   have hdist:∀e'∈F.drop (k+1),e'.2≠e.2:=by
    intro e' he' hc'
    obtain ⟨i,hi⟩:=bG.1 he'
    rw [List.getElem?_drop] at hi
    have q1:(F.map (·.2))[k]?=some e.2:=by simp [he]
    have q2:(F.map (·.2))[k+1+i]?=some e.2:=by simp [hi,hc']
    obtain ⟨l1,g1⟩:=aB.1 q1
    obtain ⟨l2,g2⟩:=aB.1 q2
    have:=(List.getElem_inj hF.nd).1 (g1.trans g2.symm)
    omega
   have hsub:∀e'∈F.drop (k+1),e'∈F:=fun e' he'=>List.mem_of_mem_drop he'
   refine Nz (fun M ah nx'=>ML M (spM nx k)/\ah nx=some (.rows 1 [[.os b 18 0 F.length]])/\ah b=some (.rows 18 (List.replicate (k+1) uw++(F.drop (k+1)).map wS))/\
    (∀e∈F.drop (k+1),ah e.2=some (.rows 18 (e.1.Props.map dI.enc)))/\Oth F b nx alM ah/\nx<nx') (Aj ?_) fun M ah nx' hK=>?_
   .refine Nz (fun M ah nx'=>ML M (spM nx k)/\ah nx=some (.rows 1 [[.os b 18 0 F.length]])/\ah b=some (.rows 18 (List.replicate k uw++wS e::(F.drop (k+1)).map wS))/\
     (∀e∈F.drop (k+1),ah e.2=some (.rows 18 (e.1.Props.map dI.enc)))/\Oth F b nx alM ah/\nx<nx') (iV (fH ?_)) fun M ah nx' hK=>?_
    .refine Dj rfl rfl rfl rfl (iW rfl ?_)
     refine Aj (Vj (avt F b nx nx k e alM) (e.1.Props.length+1) (aqU nx k 0) ⟨rfl,rfl,rfl,trivial⟩ ⟨0,e.1.Props.map dI.enc,rfl,dD _,rfl,h1,?_,hblk e (by rw [hdrop];exact bf),by simp,dI.Lh _,fun e' he'=>hblk e' (by rw [hdrop];exact aO _ he'),hoth,by omega⟩ fun c M ah2 n2 hI=>?_)
     .rw [hdrop,aY];exact hb
     .obtain ⟨m,rs,hc,hm,rfl,h1,hb,hrs,hrl,atj,hblk,hoth,hb1⟩:=hI
      rw [hdrop,aY] at hb
      refine iV (iV (fH ?_))
      refine nJ rfl rfl rfl rfl (yI rfl rfl rfl rfl FQ rfl ?_)
      refine pG rfl rfl rfl rfl Vl h1 rfl (v:=.os b 18 0 F.length) rfl ?_
      refine nJ rfl rfl rfl rfl (Js rfl rfl rfl rfl rfl ab2 (by omega) (by omega) rfl ?_)
      refine yI rfl rfl rfl rfl QZ rfl ?_
      refine pG rfl rfl rfl rfl afS hb hrow (v:=.os e.2 18 0 (e.1.Props.map dI.enc).length) rfl ?_
      refine QW rfl rfl rfl rfl rfl (aed apb) (FP rfl rfl rfl rfl rfl (fun K h=>⟨rfl,h⟩) (iW rfl ?_))
      refine Ep rfl (fun h=>IJ ?_) fun h=>Vh ?_
      .have hm':m<e.1.Props.length:=by simpa using h
       clear h
       obtain ⟨row,hro⟩:∃row,rs[m]?=some row:=⟨rs[m]'(by omega),by simp [show m<rs.length by omega]⟩
       have atl:=atj row (aH hro)
       refine iV (Aj (fH ?_))
       refine yI rfl rfl rfl rfl FQ rfl ?_
       refine pG rfl rfl rfl rfl Vl h1 rfl (v:=.os b 18 0 F.length) rfl ?_
       refine nJ rfl rfl rfl rfl (Js rfl rfl rfl rfl rfl ab2 (by omega) (by omega) rfl ?_)
       refine yI rfl rfl rfl rfl QZ rfl ?_
       refine pG rfl rfl rfl rfl afS hb hrow (v:=.os e.2 18 0 (e.1.Props.map dI.enc).length) rfl ?_
       refine nJ rfl rfl rfl rfl ?_
       refine Y9 rfl rfl rfl rfl ape ati (cs:=alI) rfl ?_
       refine Js rfl rfl rfl rfl rfl aqT (by omega) (by simpa using hm') rfl ?_
       refine IK rfl rfl rfl rfl rfl ata hrs rfl rfl (row:=row) (by simpa using hro) (by show 0+18<=row.length;omega) (iW rfl ?_)
       refine fH ?_
       refine nJ rfl rfl rfl rfl (FP rfl rfl rfl rfl rfl (fun K h=>⟨rfl,h⟩) (Dj rfl rfl rfl rfl (iW rfl ?_)))
       refine ⟨e.1.Props.length+1-(m+1),by omega,aqU nx k (m+1),⟨?_,rfl,rfl,trivial⟩,m+1,_,rfl,by omega,rfl,?_,?_,gX rfl,?_,?_,fun e' he'=>?_,fun j hj hjb hje=>?_,by omega⟩
       .show some (AV.p (.int .i64 (IntKind.wrap .i64 ((m:Int)+1))))=_
        rw [alL (by omega)]
       .rw [ayp (by omega)];exact h1
       .rw [ayp hFe.2.2.2.symm,hdrop,aY];exact hb
       .simpa using hrl
       .intro r hr
        rcases List.mem_or_eq_of_mem_set hr with hr|rfl
        .exact atj r hr
        .have:(lay row 0 (AV.agg alI).cells).length=row.length:=EJ (by show 0+18<=_;omega)
         rw [this];exact atl
       .rw [ayp (hdist e' he')];exact hblk e' he'
       .rw [ayp (hje e heF)];exact hoth j hj hjb hje
      .refine ⟨⟨rfl,rfl,trivial⟩,h1,hb,hblk,hoth,by omega⟩
    .obtain ⟨hM,w1,w2,w3,w4,w5⟩:=hK
     refine Pm _ hM (fH ?_)
     refine yI rfl rfl rfl rfl FQ rfl ?_
     refine pG rfl rfl rfl rfl Vl w1 rfl (v:=.os b 18 0 F.length) rfl ?_
     refine nJ rfl rfl rfl rfl ?_
     refine Y9 rfl rfl rfl rfl alJ atg ath ?_
     refine Js rfl rfl rfl rfl rfl ab2 (by omega) (by omega) rfl ?_
     refine IK rfl rfl rfl rfl rfl XF w2 rfl rfl hrow (dF 18) (iW rfl ?_)
     refine ⟨⟨rfl,rfl,trivial⟩,by rw [ayp (by omega)];exact w1,?_,fun e' he'=>?_,fun j hj hjb hje=>?_,by omega⟩
     .have:=abY (List.replicate k uw) (wS e) uw ((F.drop (k+1)).map wS)
      rw [List.length_replicate] at this
      rw [gX rfl,show 0+(k:Int).toNat=k by simp,show lay (wS e) 0 (AV.agg uw).cells=uw from rfl,this,List.replicate_succ']
      simp
     .rw [ayp (hF.blk e' (hsub e' he')).2.2.2];exact w3 e' he'
     .rw [ayp hjb];exact w4 j hj hjb hje
   .obtain ⟨hM,w1,w2,w3,w4,w5⟩:=hK
    refine Pm _ hM (fH ?_)
    refine nJ rfl rfl rfl rfl (FP rfl rfl rfl rfl rfl (fun K h=>⟨rfl,h⟩) (Dj rfl rfl rfl rfl (iW rfl ?_)))
    refine ⟨F.length+1-(k+1),by omega,spM nx (k+1),⟨rfl,?_,trivial⟩,k+1,rfl,by omega,rfl,w1,w2,w3,w4,by omega⟩
    show some (AV.p (.int .i64 (IntKind.wrap .i64 ((k:Int)+1))))=_
    rw [alL (by omega)]
  .have hk2:k=F.length:=by
    have:¬k<F.length:=by simpa using h
    omega
   subst hk2
   rw [List.drop_length] at hb
   exact ⟨.inl rfl,by simpa using hb,hoth,by omega⟩
end Go.Fw
end
section
namespace Go.Fw
open Go.Proofs
set_option maxRecDepth 100000
def g77 : dJ:=⟨77,⟨0,0,[],0⟩,false,[],⟨0,0,[],0⟩,⟨0,0,[],0⟩,[],false,false⟩
theorem apf {h:dH}{o:dJ}:∀{n:Nat} {u:Bool} {i:Int},(gG h o n u i).1=false->(gG h o n u i).2.2=false
 |0,_,_,_=>rfl
 |n+1,u,i,hf=>by
  simp only [gG] at hf ⊢
  cases h1:(!(decide ((i:Int)<(jT dI.enc o.Props)))) with
  |true=>rw [h1] at hf;cases hf
  |false=>
   rw [h1] at hf
   simp only [cond_false] at hf ⊢
   cases h2:(((!dZ h (o.Props.getD i.toNat default).dQ.Value)||(!dZ h (o.Props.getD i.toNat default).dQ.Get))||(!dZ h (o.Props.getD i.toNat default).dQ.Set)) with
   |true=>rfl
   |false=>rw [h2] at hf;simp only [cond_false] at hf ⊢;exact apf hf
theorem atm {h:dH}(k:Xv h){o:dJ}(ho:o∈h.Objects):o.Kind≠77:=by
 obtain ⟨i,hi,rfl⟩:=List.getElem_of_mem ho
 have q:=k.obj i hi
 rw [Jq,aW,aC,aX hi] at q
 intro hk
 simp only [Option.getD_some] at q
 unfold U6 at q
 rw [hk] at q
 simp only [show dU (77:Int) 6=false from rfl,show dU (77:Int) 1=false from rfl,show dU (77:Int) 2=false from rfl,show dU (77:Int) 3=false from rfl,show dU (77:Int) 4=false from rfl,show dU (77:Int) 5=false from rfl,cond_false] at q
 obtain ⟨-,q⟩:=Ef q
 obtain ⟨-,q⟩:=Ef q
 revert q
 cases h12:(gG h h.Objects[i] (h.Objects[i].Props.length+1) false 0).1
 .rw [apf h12];intro q;cases q
 .intro q;cases q
theorem aqV {h:dH}(k:Xv h):x9 ⟨List.replicate h.Objects.length g77⟩ h=decide (h.Objects.length=0):=by
 unfold x9 jC
 simp only [jF,List.length_replicate,Ii.2 rfl,cond_false]
 unfold gI
 simp only [jF,List.length_replicate]
 by_cases hl:h.Objects.length=0
 .rw [hl];rfl
 .rw [decide_eq_true (p:=((0:Int)<(h.Objects.length:Int))) (by omega),decide_eq_false (p:=h.Objects.length=0) hl]
  have hm:h.Objects.getD 0 default∈h.Objects:=by rw [aC,aX (by omega)];exact List.getElem_mem _
  have hg:(List.replicate h.Objects.length g77).getD 0 default=g77:=by simp [aC,List.getElem?_replicate,show 0<h.Objects.length by omega]
  have hne:=atm k hm
  simp only [Int.toNat_zero,hg]
  rw [show dU g77.Kind (h.Objects.getD 0 default).Kind=false from Cj.2 fun e=>hne e.symm]
  rfl
theorem alN {ah:AH}{o:dJ}{id:Nat}(h:jE ah (.os id 18 0 (o.Props.map dI.enc).length)=some (.sl (o.Props.map dI.enc) false)):lI ah (Qu o id)=some o.enc:=by
 have e1:Qu o id=o.enc.take 6++(.os id 18 0 (o.Props.map dI.enc).length::o.enc.drop 7):=rfl
 have hf:=dJ.fU o
 have h1:lI ah (o.enc.take 6)=some (o.enc.take 6):=vU (Ad.2 fun x hx=>Ad.1 hf x (bK hx))
 have h2:lI ah (o.enc.drop 7)=some (o.enc.drop 7):=vU (Ad.2 fun x hx=>Ad.1 hf x (List.mem_of_mem_drop hx))
 rw [e1,KI,h1]
 simp only [lI,h,h2,Option.bind_some,Option.map_some]
 rfl
theorem ab3 {ah:AH}:∀{F:List (dJ×Nat)},(∀e∈F,jE ah (.os e.2 18 0 (e.1.Props.map dI.enc).length)=some (.sl (e.1.Props.map dI.enc) false))->lK ah (F.map wS)=some ((F.map (·.1)).map dJ.enc)
 |[],_=>rfl
 |e::r,h=>by
  simp only [aY,lK,wS,alN (h e bf),Option.bind_some]
  rw [ab3 fun e he=>h e (aO _ he)]
  rfl
theorem Y_ {e:dJ×Nat}{F:List (dJ×Nat)}(h:e∈F):fJ (F.map wS)=false:=by
 cases hc:fJ (F.map wS) with
 |false=>rfl
 |true=>
  have:=zA.1 (ug.1 hc (wS e) (aV.2 ⟨e,h,rfl⟩)) (.os e.2 18 0 (e.1.Props.map dI.enc).length) (by simp [wS,Qu,dJ.enc])
  simp [AV.clean] at this
theorem alO {F:List (dJ×Nat)}{b n0 nx:Nat}{ah:AH}(h:JC F [] b ah n0 nx):jE (nR ah ayw) (.os b 18 0 F.length)=some (.sl ((F.map (·.1)).map dJ.enc) false):=by
 have hin:∀n,∀e∈F,jE (nR ah n) (.os e.2 18 0 (e.1.Props.map dI.enc).length)=some (.sl (e.1.Props.map dI.enc) false):=fun n e he=>by
  have hpc:fJ (e.1.Props.map dI.enc)=true:=gQ (Ui dI.fU)
  have h1:=IW (h.blk e he).1 hpc n
  simp [jE,h1,hpc,List.take_of_length_le]
 have hr:=ab3 (hin 2)
 have hb:nR ah ayw b=some (.rows 18 ((F.map (·.1)).map dJ.enc)):=by
  show nR ah (2+1) b=_
  have ho:=h.out
  rw [List.map_nil,cO] at ho
  simp only [nR,ho]
  cases hF:F with
  |nil=>rfl
  |cons e r=>
   rw [hF] at hr
   rw [Y_ (e:=e) bf]
   simp only [cond_false]
   have hr':lK (nR ah 2) ((e::r).map wS)=some (((e::r).map (·.1)).map dJ.enc):=hr
   simp only [nR] at hr'
   rw [hr'];rfl
 have hc:fJ ((F.map (·.1)).map dJ.enc)=true:=gQ (Ui dJ.fU)
 show (match nR ah ayw b with|some (.rows sz' rs)=>if 18=sz'/\0+F.length<=rs.length/\fJ rs=true then some (AV.sl ((rs.drop 0).take F.length) false) else none|_=>none)=_
 rw [hb]
 dsimp only
 rw [if_pos ⟨rfl,by simp,hc⟩]
 simp [List.take_of_length_le]
theorem ab4 {ah:AH}(h:dH):lI ah [h.av]=some [h.av]:=vU (by simp only [fU,dH.fz];rfl)
theorem apg {ah:AH}(h:dH):jE ah h.av=some h.av:=acO (dH.fz h)
theorem ab5 {ah:AH}{a x b y:AV}(h:jE ah a=some x)(h2:jE ah b=some y):lI ah [.agg [a],b]=some [.agg [x],y]:=by
 have e:jE ah (.agg [a])=some (.agg [x]):=by
  show (lI ah [a]).map AV.agg=_
  have:lI ah [a]=some [x]:=by simp only [lI,h,Option.bind_some,Option.map_some]
  rw [this];rfl
 simp only [lI,e,h2,Option.bind_some,Option.map_some]
theorem ahY : iO uw=true:=rfl
theorem ahZ (n:Nat):fJ (List.replicate n uw)=true:=ug.2 fun x hx=>by rw [(List.mem_replicate.1 hx).2];exact ahY
theorem alP : tu uw g77.enc:=by
 refine .cons (Weak.refl _) rfl (.cons (Weak.refl _) rfl (.cons (Weak.refl _) rfl (.cons (Weak.refl _) rfl (.cons (Weak.refl _) rfl (.cons (Weak.refl _) rfl (.cons (Weak.sl .nil true) rfl (tu.refl _)))))))
theorem ab6 : ∀n:Nat,oM (List.replicate n uw) ((List.replicate n g77).map dJ.enc)
 |0=>.nil
 |n+1=>.cons alP (ab6 n)
theorem alQ (n:Nat)(h:dH):∀w E vs,fG w E [.agg [.sl (List.replicate n uw) false],h.av] vs->fG w E [dH.av ⟨List.replicate n g77⟩,h.av] vs:=fun w E vs hr=>
 fG.weak (show List.length [AV.agg [.sl (List.replicate n uw) false],h.av]=List.length [dH.av ⟨List.replicate n g77⟩,h.av] from rfl) (fun i a b ha hb=>(tu.get (.cons (Weak.agg (.cons (Weak.sl (ab6 n) false) rfl .nil)) rfl (tu.refl [h.av])) i a b ha hb).1) hr
theorem atn (a b:Bool):aeq Try.prog 10000 4 (.p (.bool a)) (.p (.bool b))=some (a == b):=by kernel_rfl
theorem aqW {c:Bool}(a:Bool):∀K:AV->Prop,K (.p (.bool true))->Gf Try.prog .eql 4 c (.p (.bool a)) (.p (.bool a)) K:=fun K h=>
 ⟨trivial,dG.2 ⟨_,atn a a,by simpa using h⟩⟩
def F9 (_:dH):Bool:=true
theorem aei (h:dH)(hb:Fe [AV.sl (h.Objects.map dJ.enc) false]):∃c,Try.f6.body=some c/\Qg Try.prog c 39 [(0,h.av)] (fun _=>none) 0 (fun e M ah nx=>(e=.normal\/e=.ret)/\JB M 2=some (.p (.bool true))):=by
 refine ⟨_,rfl,?_⟩
 obtain ⟨hob,hlb⟩:=ab1 hb
 refine iV (fH ?_)
 refine QX rfl rfl rfl rfl rfl ?_
 refine Dj rfl rfl rfl rfl (iW rfl ?_)
 refine iV (fH ?_)
 refine aee rfl rfl rfl rfl (P9:=[]) rfl (fun _ _ _ h=>h) Ve (.inr rfl) ?_
 rw [anZ]
 refine Dj rfl rfl rfl rfl (iW rfl ?_)
 refine iV (iV (fH ?_))
 refine nJ rfl rfl rfl rfl (aqL rfl rfl rfl rfl (fun K h=>h) (iW rfl ?_))
 refine (Ep rfl (fun h=>by cases h) fun _=>IJ ?_)
 have hbox:upd (fun _=>none) 0 (some (qO.rows 1 [h.enc])) 0=some (qO.rows 1 [h.enc]):=gX rfl
 refine iV (iV (fH ?_))
 refine pG rfl rfl rfl rfl Es hbox rfl (v:=h.av) ⟨dF 1,rfl⟩ ?_
 refine aee rfl rfl rfl rfl (ab4 h) (fun _ _ _ h=>h) (Vg h) (.inr rfl) ?_
 cases hL:IE h with
 |true=>
  refine nJ rfl rfl rfl rfl ?_
  refine aec rfl rfl rfl (aec rfl rfl rfl (aec rfl rfl rfl ?_))
  refine abU rfl rfl rfl rfl rfl (iW rfl ?_)
  refine (Ep rfl (fun _=>?_) fun h=>by cases h)
  refine iV (fH ?_)
  refine nJ rfl rfl rfl rfl (Dj rfl rfl rfl rfl (iW rfl ?_))
  exact NC ⟨.inr rfl,rfl⟩
 |false=>
 refine nJ rfl rfl rfl rfl ?_
 refine pG rfl rfl rfl rfl Es hbox rfl (v:=h.av) ⟨dF 1,rfl⟩ ?_
 refine aee rfl rfl rfl rfl (ab4 h) (fun _ _ _ h=>h) (VK h) (.inr rfl) ?_
 refine FP rfl rfl rfl rfl rfl (fun K h=>⟨rfl,h⟩) ?_
 refine abU rfl rfl rfl rfl rfl (iW rfl ?_)
 refine (Ep rfl (fun _=>?_) fun hc=>IJ ?_)
 .refine iV (fH ?_)
  refine nJ rfl rfl rfl rfl (Dj rfl rfl rfl rfl (iW rfl ?_))
  exact NC ⟨.inr rfl,rfl⟩
 have hC:lY h=0:=by simpa using hc
 have hk:Xv h:=O9.1 hC
 refine Pm [(0,h.av),(1,.op 0 1 0 0),(3,.p (.bool true))] ⟨rfl,rfl,rfl,trivial⟩ ?_
 refine Nz (fun M ah nx=>∃F b b4,ML M [(0,h.av),(1,.op 0 1 0 0),(3,.p (.bool true)),(4,.op b4 1 0 0)]/\JC F [] b ah 1 b4/\F.map (·.1)=h.Objects/\ah b4=some (.rows 1 [[.os b 18 0 F.length]])/\b4<nx/\ah 0=some (.rows 1 [h.enc])) (fH ?_) fun M ah nx hK=>?_
 .refine pG rfl rfl rfl rfl Es hbox rfl (v:=h.av) ⟨dF 1,rfl⟩ ?_
  refine Vk rfl rfl rfl ((XG h hb _ _).mono fun r Vm n1 hr=>?_)
  obtain ⟨F,b,rfl,hF,hFe,hold⟩:=hr
  have g1:=hF.lo
  have g2:=hF.hi
  have ato:Vm 0=some (qO.rows 1 [h.enc]):=(hold 0 (by omega)).trans hbox
  refine QY rfl rfl rfl afT alK ?_
  refine IK rfl rfl rfl rfl rfl Es (gX rfl) rfl rfl rfl (dF 1) (iW rfl ?_)
  have hF':JC F [] b Vm 1 n1:=⟨hF.out,by omega,hF.hi,fun e he=>⟨(hF.blk e he).1,by have:=(hF.blk e he).2.1;omega,(hF.blk e he).2.2⟩,hF.nd⟩
  refine ⟨F,b,n1,⟨rfl,rfl,rfl,rfl,trivial⟩,hF'.frame (dF _) fun j _ hj=>?_,hFe,gX rfl,by omega,?_⟩
  .rw [ayp (by omega),ayp (by omega)]
  .rw [ayp (by omega),ayp (by omega)];exact ato
 obtain ⟨F,b,b4,hM,hF,hFe,h4,hb4,hbox⟩:=hK
 refine Pm _ hM ?_
 clear hM
 refine Nz (fun M ah nx=>∃F2 b2 b5 n2,ML M [(0,h.av),(1,.op 0 1 0 0),(3,.p (.bool true)),(4,.op b4 1 0 0),(5,.op b5 1 0 0)]/\JC F [] b ah 1 b4/\ah b4=some (.rows 1 [[.os b 18 0 F.length]])/\b4<n2/\ah 0=some (.rows 1 [h.enc])/\
  JC F2 [] b2 ah n2 b5/\F2.map (·.1)=h.Objects/\ah b5=some (.rows 1 [[.os b2 18 0 F2.length]])/\b5<nx) (fH ?_) fun M ah nx hK=>?_
 .refine pG rfl rfl rfl rfl Es hbox rfl (v:=h.av) ⟨dF 1,rfl⟩ ?_
  refine Vk rfl rfl rfl ((XG h hb _ _).mono fun r Vm n1 hr=>?_)
  obtain ⟨F2,b2,rfl,hF2,aqX,hold⟩:=hr
  have g1:=hF2.lo
  have g2:=hF2.hi
  refine QY rfl rfl rfl afT alK ?_
  refine IK rfl rfl rfl rfl rfl Es (gX rfl) rfl rfl rfl (dF 1) (iW rfl ?_)
  refine ⟨F2,b2,n1,nx+1,⟨rfl,rfl,rfl,rfl,rfl,trivial⟩,hF.frame (dF _) fun j _ hj=>?_,?_,by omega,?_,hF2.frame (dF _) fun j _ hj=>?_,aqX,gX rfl,by omega⟩
  .rw [ayp (by omega),ayp (by omega)];exact hold j (by omega)
  .rw [ayp (by omega),ayp (by omega),hold _ (by omega)];exact h4
  .rw [ayp (by omega),ayp (by omega),hold _ (by omega)];exact hbox
  .rw [ayp (by omega),ayp (by omega)]
 obtain ⟨F2,b2,b5,n2,hM,hF,h4,hn2,hbox,hF2,aqX,h5,hb5⟩:=hK
 refine Pm _ hM ?_
 clear hM
 have g1:=hF2.lo
 have g2:=hF2.hi
 have g3:=hF.hi
 have hFl:F.length=h.Objects.length:=by rw [<- hFe,dw]
 have hps:∀e∈F,e.1.Props.length<=4294967296:=fun e he=>hob _ (by rw [<- hFe];exact List.mem_map_of_mem he)
 refine Nz (fun M ah nx=>ML M [(0,h.av),(1,.op 0 1 0 0),(3,.p (.bool true)),(4,.op b4 1 0 0),(5,.op b5 1 0 0)]/\ah b=some (.rows 18 (List.replicate F.length uw))/\ah b4=some (.rows 1 [[.os b 18 0 F.length]])/\ah 0=some (.rows 1 [h.enc])/\
  JC F2 [] b2 ah n2 b5/\ah b5=some (.rows 1 [[.os b2 18 0 F2.length]])) (fH ?_) fun M ah nx hK=>?_
 .refine pG rfl rfl rfl rfl Es h4 rfl (v:=.agg [.os b 18 0 F.length]) ⟨dF 1,rfl⟩ ?_
  refine Vk rfl rfl rfl ((aeh hF (nx:=nx+1) (by omega) hps (by omega)).mono fun r Vm n1 hr=>?_)
  obtain ⟨q1,q2,q3⟩:=hr
  refine iW rfl ?_
  have hlo:∀e∈F,1<=e.2/\e.2<b4:=fun e he=>⟨(hF.blk e he).2.1,(hF.blk e he).2.2.1⟩
  have hb1:=hF.lo
  refine ⟨⟨rfl,rfl,rfl,rfl,rfl,trivial⟩,q1,?_,?_,hF2.frame (dF _) fun j hj hj'=>?_,?_⟩
  .rw [q2 b4 (by omega) (by omega) fun e he=>by have:=hlo e he;omega];exact h4
  .rw [q2 0 (by omega) (by omega) fun e he=>by have:=hlo e he;omega];exact hbox
  .exact q2 j (by omega) (by omega) fun e he=>by have:=hlo e he;omega
  .rw [q2 b5 (by omega) (by omega) fun e he=>by have:=hlo e he;omega];exact h5
 obtain ⟨hM,hsp,h4,hbox,hF2,h5⟩:=hK
 refine Pm _ hM ?_
 clear hM
 refine iV (alD oJ _ rfl (by kernel_rfl) (by kernel_rfl) ?_)
 refine aeg rfl rfl rfl rfl (aeg rfl rfl rfl rfl ?_)
 refine ND rfl rfl rfl rfl Es h5 rfl (v:=.agg [.os b2 18 0 F2.length]) ⟨dF 1,rfl⟩ ?_
 refine ND rfl rfl rfl rfl Es hbox rfl (v:=h.av) ⟨dF 1,rfl⟩ ?_
 have hfz:=alO hF2
 rw [aqX] at hfz
 have hp:=Ny h h
 rw [hk.same] at hp
 refine alF rfl rfl rfl rfl (P9:=[h.av,h.av]) (ab5 hfz (apg h)) (fun _ _ _ h=>h) hp (.inr rfl) ?_
 clear hp
 refine abW rfl rfl rfl rfl rfl (aeg rfl rfl rfl rfl ?_)
 refine an3 rfl rfl rfl rfl FQ rfl ?_
 refine ND rfl rfl rfl rfl Vl hbox rfl (v:=.sl (h.Objects.map dJ.enc) false) rfl ?_
 refine an4 rfl rfl rfl rfl rfl (alC abX) ?_
 refine afR rfl rfl rfl rfl rfl (fun K h=>⟨rfl,h⟩) ?_
 refine ND rfl rfl rfl rfl Es h4 rfl (v:=.agg [.os b 18 0 F.length]) ⟨dF 1,rfl⟩ ?_
 refine ND rfl rfl rfl rfl Es hbox rfl (v:=h.av) ⟨dF 1,rfl⟩ ?_
 have atp:=EK hsp (ahZ _) (List.length_replicate ..)
 have hp:=Ny ⟨List.replicate h.Objects.length g77⟩ h
 rw [aqV hk] at hp
 rw [hFl] at atp ⊢
 refine alF rfl rfl rfl rfl (P9:=[.agg [.sl (List.replicate h.Objects.length uw) false],h.av]) (ab5 atp (apg h)) (alQ _ h) hp (.inr rfl) ?_
 have e0:((((h.Objects.map dJ.enc).length:Nat):Int) == 0)=decide (h.Objects.length=0):=by
  rw [dw]
  by_cases hz:h.Objects.length=0
  .rw [hz];rfl
  .rw [decide_eq_false hz];exact beq_false_of_ne (by omega)
 rw [e0]
 refine afR rfl rfl rfl rfl rfl (aqW _) ?_
 refine abW rfl rfl rfl rfl rfl (aqN rfl rfl rfl rfl (an2 rfl ?_))
 exact NC ⟨.inr rfl,rfl⟩
theorem Ld (h:dH):PC Try.prog 6 [h.av] (eB (F9 h)):=ajI fun hb=>by
 obtain ⟨c,hc,hw⟩:=aei h hb.1
 refine aqM (M:=[(0,h.av)]) Try.func6 hc (by decide) (aF rfl) ⟨rfl,trivial⟩ hw fun e M fr ah nx hf hq=>⟨hq.1,?_⟩
 exact dG.2 ⟨_,hf.get _ _ hq.2,rfl⟩
end Go.Fw
end
section
namespace Go.Fw
open Go.Proofs
set_option maxRecDepth 100000
theorem Jt : Rd Try.prog 30 dL.enc dL.wf:=
 (Ai Try.underlying30 (by kernel_rfl) (iZ (m:=1) rfl (by kernel_rfl) (Ut Try.underlying5) (iZ (m:=1) rfl (by kernel_rfl) (akq Try.underlying28) (iZ (m:=1) rfl (by kernel_rfl) (adw Try.underlying9) (iZ (m:=1) rfl (by kernel_rfl) (Ut Try.underlying3) (Jh)))))).to (fun x=>dL.mk x.1 x.2.1 x.2.2.1 x.2.2.2.1) (fun _=>rfl) (fun _ h=>⟨h.1,h.2.1,h.2.2.1,h.2.2.2.1⟩)
theorem an8 : Rd Try.prog 27 dP.enc dP.wf:=
 (Ai Try.underlying27 (by kernel_rfl) (iZ (m:=1) rfl (by kernel_rfl) (adw Try.underlying9) (iZ (m:=1) rfl (by kernel_rfl) (Ut Try.underlying3) (Jh)))).to (fun x=>dP.mk x.1 x.2.1) (fun _=>rfl) (fun _ h=>⟨h.1,h.2.1⟩)
theorem alR : Rd Try.prog 32 dN.enc dN.wf:=
 (Ai Try.underlying32 (by kernel_rfl) (iZ (m:=1) rfl (by kernel_rfl) (Ut Try.underlying5) (iZ (m:=4) rfl (by kernel_rfl) Jt (iZ (m:=4) rfl (by kernel_rfl) Jt (iZ (m:=4) rfl (by kernel_rfl) Jt (iZ (m:=1) rfl (by kernel_rfl) (Jg Try.underlying4) (iZ (m:=1) rfl (by kernel_rfl) (Jg Try.underlying4) (iZ (m:=1) rfl (by kernel_rfl) (Jg Try.underlying4) (Jh))))))))).to (fun x=>dN.mk x.1 x.2.1 x.2.2.1 x.2.2.2.1 x.2.2.2.2.1 x.2.2.2.2.2.1 x.2.2.2.2.2.2.1) (fun _=>rfl) (fun _ h=>⟨h.1,h.2.1,h.2.2.1,h.2.2.2.1⟩)
theorem alS : Rd Try.prog 64 dI.enc dI.wf:=
 (Ai Try.underlying64 (by kernel_rfl) (iZ (m:=2) rfl (by kernel_rfl) an8 (iZ (m:=16) rfl (by kernel_rfl) alR (Jh)))).to (fun x=>dI.mk x.1 x.2.1) (fun _=>rfl) (fun _ h=>⟨h.1,h.2.1⟩)
theorem an9 : Rd Try.prog 54 dJ.enc dJ.wf:=
 (Ai Try.underlying54 (by kernel_rfl) (iZ (m:=1) rfl (by kernel_rfl) (Ut Try.underlying5) (iZ (m:=4) rfl (by kernel_rfl) Jt (iZ (m:=1) rfl (by kernel_rfl) (Jg Try.underlying4) (iZ (m:=1) rfl (by kernel_rfl) (aa9 (m:=18) Try.underlying52 (by kernel_rfl) (by decide) (fun _=>rfl) alS) (iZ (m:=4) rfl (by kernel_rfl) Jt (iZ (m:=4) rfl (by kernel_rfl) Jt (iZ (m:=1) rfl (by kernel_rfl) (adw Try.underlying9) (iZ (m:=1) rfl (by kernel_rfl) (Jg Try.underlying4) (iZ (m:=1) rfl (by kernel_rfl) (Jg Try.underlying4) (Jh))))))))))).to (fun x=>dJ.mk x.1 x.2.1 x.2.2.1 x.2.2.2.1 x.2.2.2.2.1 x.2.2.2.2.2.1 x.2.2.2.2.2.2.1 x.2.2.2.2.2.2.2.1 x.2.2.2.2.2.2.2.2.1) (fun _=>rfl) (fun _ h=>⟨h.1,h.2.1,h.2.2.2.1,h.2.2.2.2.1,h.2.2.2.2.2.1,h.2.2.2.2.2.2.1⟩)
theorem alT : Rd Try.prog 46 dH.enc dH.wf:=
 (Ai Try.underlying46 (by kernel_rfl) (iZ (m:=1) rfl (by kernel_rfl) (aa9 (m:=18) Try.underlying44 (by kernel_rfl) (by decide) (fun _=>rfl) an9) (Jh))).to (fun x=>dH.mk x.1) (fun _=>rfl) (fun _ h=>⟨h.1⟩)
end Go.Fw
end
