
import Derived.Test.YtookhagokgenhaaGreatFwH
set_option linter.unusedVariables false
set_option linter.unusedSimpArgs false
set_option linter.unusedSectionVars false
set_option linter.unnecessarySimpa false
section
namespace Go.Fw
structure At (h:dK)(n:Int):Prop where
 ok:HOk h
 wf:HWf h
 i0:0<=n
 i1:n.toNat<h.Objects.length
 kind:(h.Objects.getD n.toNat default).Kind=1\/(h.Objects.getD n.toNat default).Kind=4\/(h.Objects.getD n.toNat default).Kind=5
abbrev At.o (h:dK)(n:Int):dM:=h.Objects.getD n.toNat default
theorem At.po {h:dK}{n:Int}(A:At h n):amx h (At.o h n) (n.toNat:Nat):=by
 have:=A.ok.obj _ A.i1
 rw [JE,Int.toNat_natCast] at this
 exact (UA A.kind).1 this
theorem At.pp {h:dK}{n:Int}(A:At h n):NH (At.o h n).Props:=NH.ofT (A.wf.at _).1 A.po.tc
theorem At.pd {h:dK}{n:Int}(A:At h n):∀p∈(At.o h n).Props,p.dR.ok:=(A.wf.at _).1
structure Kept (o q:dM)(k:dH):Prop where
 shut:o.Ext=false->q.Ext=false/\q.eY=o.eY/\∀x,x∈q.Props.map (·.Key)->x∈o.Props.map (·.Key)
 fix:(pW o.Props k).2.1=true->(pW o.Props k).1.Configurable=false->(pW q.Props k).2.1=true/\(pW q.Props k).1.Configurable=false/\NV (pW q.Props k).1.dY (pW o.Props k).1.dY=true/\(pW q.Props k).1.Has=(pW o.Props k).1.Has/\
  (bif iD (pW o.Props k).1 then (fB (pW q.Props k).1.Get (pW o.Props k).1.Get&&fB (pW q.Props k).1.Set (pW o.Props k).1.Set) else ((pW o.Props k).1.eP||((!(pW q.Props k).1.eP)&&fB (pW q.Props k).1.Value (pW o.Props k).1.Value)))=true
theorem akm {d:dI}(hd:d.ok)(r:Rc d):(bif iD d then (fB d.Get d.Get&&fB d.Set d.Set) else (d.eP||((!d.eP)&&fB d.Value d.Value)))=true:=by
 rw [tZ hd.2.1 (Ew hd.2.1 r.v),tZ hd.2.2.1 (yJ (rH hd.2.2.1 r.g)),tZ hd.2.2.2 (yJ (rH hd.2.2.2 r.s))]
 cases iD d<;>cases d.eP<;>rfl
theorem adv {l:List dL}(h:NH l)(hok:∀p∈l,p.dR.ok){k:dH}(hf:(pW l k).2.1=true):Rc (pW l k).1:=by
 obtain ⟨p,hp,-,e⟩:=Yt hf
 rw [e];exact ajS (hok p hp) (h.all p hp).2
theorem Kept.same {o:dM}{k:dH}(h:NH o.Props)(hok:∀p∈o.Props,p.dR.ok){q:dM}(hs:o.Ext=false->q.Ext=false/\q.eY=o.eY)(hp:q.Props=o.Props):Kept o q k:=by
 refine ⟨fun e=>⟨(hs e).1,(hs e).2,fun x hx=>by rw [hp] at hx;exact hx⟩,fun hf hc=>?_⟩
 rw [hp]
 exact ⟨hf,hc,zq _,rfl,akm (Lr hok) (adv h hok hf)⟩
structure Stp (h:dK)(a:iI)(n:Int)(k:dH):Prop where
 at':At (GY h a).1 n
 kind:(GY h a).2.1.Kind=1\/(GY h a).2.1.Kind=3
 kept:Kept (At.o h n) (At.o (GY h a).1 n) k
 put:a.Object=n->a.Key=k->(GY h a).2.1.Yes=true->(a.Method=6->(pW (At.o (GY h a).1 n).Props k).2.1=true)/\(a.Method=10->(pW (At.o (GY h a).1 n).Props k).2.1=false)
theorem At.left {h x:dK}{a:iI}{n:Int}(A:At h n)(ha0:0<=a.Object)(L:Left h a x):At x n:=by
 refine ⟨L.ok,L.wf,A.i0,by rw [L.len];exact A.i1,?_⟩
 by_cases e:n.toNat=a.Object.toNat
 .rw [e,L.kd,<- e];exact A.kind
 .rw [L.el _ e];exact A.kind
theorem akn {l:List dL}{k:dH}{d:dI}{m:List dL}(f:ao3 l k d m)(hf:(pW l k).2.1=true):∀x,x∈m.map (·.Key)->x∈l.map (·.Key):=by
 intro x hx
 obtain ⟨p,hp,rfl⟩:=List.mem_map.1 hx
 obtain ⟨i,hi,rfl⟩:=List.getElem_of_mem hp
 have hl:m.length=l.length:=by have:=f.len;rw [hf] at this;exact this
 have:=f.key i (by omega)
 rw [List.getD_eq_getElem?_getD,List.getElem?_eq_getElem hi,List.getD_eq_getElem?_getD,List.getElem?_eq_getElem (by omega)] at this
 exact List.mem_map.2 ⟨l[i]'(by omega),List.getElem_mem _,this.symm⟩
theorem step {h:dK}{a:iI}{n:Int}{k:dH}(A:At h n)(B:Obj h a)(hv:a.Value.ok)(hd:a.dR.ok):Stp h a n k:=by
 have L:=aki B hv hd
 have A':=A.left B.ak.i0 L
 by_cases hne:n.toNat=a.Object.toNat
 case neg=>
  have ho:At.o (GY h a).1 n=At.o h n:=L.el _ hne
  refine ⟨A',?_,?_,fun e=>absurd (by rw [e]) hne⟩
  .unfold GY
   dsimp only
   cases dS a.Method 1 with
   |true=>exact .inl rfl
   |false=>
   cases dS a.Method 2 with
   |true=>simp only [cond_false,cond_true];cases (fB a.Value (h.Objects.getD a.Object.toNat default).eY||!(h.Objects.getD a.Object.toNat default).Ext||iH h a.Object a.Value)<;>exact .inl rfl
   |false=>
   cases dS a.Method 3 with
   |true=>exact .inl rfl
   |false=>
   cases dS a.Method 4 with
   |true=>exact .inl rfl
   |false=>
   cases dS a.Method 5 with
   |true=>exact .inl rfl
   |false=>
   cases dS a.Method 6 with
   |true=>
    simp only [cond_false,cond_true]
    generalize (fG (h.Objects.getD a.Object.toNat default).Ext a.dR (fA (h.Objects.getD a.Object.toNat default).Props a.Key).2.1 (fA (h.Objects.getD a.Object.toNat default).Props a.Key).1)=ap
    generalize jY (h.Objects.getD a.Object.toNat default).Props a.Key ap.1=pt
    cases (!ap.2.1)<;>cases (iK pt.2 0)<;>first|exact .inl rfl|exact .inr rfl
   |false=>
   cases dS a.Method 10 with
   |true=>simp only [cond_false,cond_true];cases ((fA (h.Objects.getD a.Object.toNat default).Props a.Key).2.1&&!(fA (h.Objects.getD a.Object.toNat default).Props a.Key).1.Configurable)<;>exact .inl rfl
   |false=>exact .inl rfl
  .rw [ho];exact .same A.pp A.pd (fun e=>⟨e,rfl⟩) rfl
 case pos=>
  have hn:a.Object=n:=by have:=A.i0;have:=B.ak.i0;omega
  subst hn
  have rid:Kept (At.o h a.Object) (At.o h a.Object) k:=.same A.pp A.pd (fun e=>⟨e,rfl⟩) rfl
  have gt:∀o,At.o (zx h a.Object.toNat o) a.Object=o:=fun o=>by unfold At.o;rw [sD B.ak.i1,if_pos rfl]
  cases m1:dS a.Method 1 with
  |true=>
   have e:GY h a=(h,⟨1,(oO h a).eY,false,false,d0,[],0,[]⟩,0):=by unfold GY;rw [m1];rfl
   rw [e] at A'
   exact ⟨by rw [e];exact A',by rw [e];exact .inl rfl,by rw [e];exact rid,fun _ _ hy=>by rw [e] at hy;cases hy⟩
  |false=>
  cases m2:dS a.Method 2 with
  |true=>
   have e:GY h a=(bif fB a.Value (oO h a).eY||!(oO h a).Ext||iH h a.Object a.Value then (h,dX (fB a.Value (oO h a).eY),0) else (zx h a.Object.toNat {oO h a with eY:=a.Value},dX true,0)):=by unfold GY;rw [m1,m2];rfl
   have mm:=nO.1 m2
   cases hc:(fB a.Value (oO h a).eY||!(oO h a).Ext||iH h a.Object a.Value) with
   |true=>
    rw [hc] at e
    simp only [cond_true] at e
    rw [e] at A'
    exact ⟨by rw [e];exact A',by rw [e];exact .inl rfl,by rw [e];exact rid,fun _ _ hy=>⟨fun h=>by omega,fun h=>by omega⟩⟩
   |false=>
    rw [hc] at e
    simp only [cond_false] at e
    simp only [Bool.or_eq_false_iff,Bool.not_eq_false'] at hc
    rw [e] at A'
    refine ⟨by rw [e];exact A',by rw [e];exact .inl rfl,?_,fun _ _ hy=>⟨fun h=>by omega,fun h=>by omega⟩⟩
    rw [e]
    dsimp only
    rw [gt]
    refine .same A.pp A.pd (fun hx=>?_) rfl
    have:(oO h a).Ext=false:=hx
    rw [this] at hc;exact absurd hc.1.2 (by simp)
  |false=>
  cases m3:dS a.Method 3 with
  |true=>
   have e:GY h a=(h,dX (oO h a).Ext,0):=by unfold GY;rw [m1,m2,m3];rfl
   have mm:=nO.1 m3
   rw [e] at A'
   exact ⟨by rw [e];exact A',by rw [e];exact .inl rfl,by rw [e];exact rid,fun _ _ hy=>⟨fun h=>by omega,fun h=>by omega⟩⟩
  |false=>
  cases m4:dS a.Method 4 with
  |true=>
   have e:GY h a=(zx h a.Object.toNat {oO h a with Ext:=false},dX true,0):=by unfold GY;rw [m1,m2,m3,m4];rfl
   have mm:=nO.1 m4
   rw [e] at A'
   refine ⟨by rw [e];exact A',by rw [e];exact .inl rfl,?_,fun _ _ hy=>⟨fun h=>by omega,fun h=>by omega⟩⟩
   rw [e]
   dsimp only
   rw [gt]
   exact .same A.pp A.pd (fun _=>⟨rfl,rfl⟩) rfl
  |false=>
  cases m5:dS a.Method 5 with
  |true=>
   have e:GY h a=(h,⟨1,v00,false,(fA (oO h a).Props a.Key).2.1,(fA (oO h a).Props a.Key).1,[],0,[]⟩,0):=by unfold GY;rw [m1,m2,m3,m4,m5];rfl
   rw [e] at A'
   exact ⟨by rw [e];exact A',by rw [e];exact .inl rfl,by rw [e];exact rid,fun _ _ hy=>by rw [e] at hy;cases hy⟩
  |false=>
  cases m6:dS a.Method 6 with
  |true=>
   have mm:=nO.1 m6
   have hk:=B.ak.key (.inr (.inl mm))
   have e:GY h a=(bif !(fG (oO h a).Ext a.dR (pW (oO h a).Props a.Key).2.1 (pW (oO h a).Props a.Key).1).2.1 then (h,dX false,0) else bif iK (jY (oO h a).Props a.Key (fG (oO h a).Ext a.dR (pW (oO h a).Props a.Key).2.1 (pW (oO h a).Props a.Key).1).1).2 0 then (h,⟨3,v00,false,false,d0,[],2,[116,111,111,32,109,97,110,121]⟩,0) else (zx h a.Object.toNat {oO h a with Props:=(jY (oO h a).Props a.Key (fG (oO h a).Ext a.dR (pW (oO h a).Props a.Key).2.1 (pW (oO h a).Props a.Key).1).1).1},dX true,0)):=by
    rw [<- Yu B hk];unfold GY;rw [m1,m2,m3,m4,m5,m6];rfl
   cases h1:(fG (oO h a).Ext a.dR (pW (oO h a).Props a.Key).2.1 (pW (oO h a).Props a.Key).1).2.1 with
   |false=>
    rw [h1] at e
    simp only [Bool.not_false,cond_true] at e
    rw [e] at A'
    exact ⟨by rw [e];exact A',by rw [e];exact .inl rfl,by rw [e];exact rid,fun _ _ hy=>by rw [e] at hy;cases hy⟩
   |true=>
    cases h2:iK (jY (oO h a).Props a.Key (fG (oO h a).Ext a.dR (pW (oO h a).Props a.Key).2.1 (pW (oO h a).Props a.Key).1).1).2 0 with
    |true=>
     rw [h1,h2] at e
     simp only [Bool.not_true,cond_false,cond_true] at e
     rw [e] at A'
     exact ⟨by rw [e];exact A',by rw [e];exact .inr rfl,by rw [e];exact rid,fun _ _ hy=>by rw [e] at hy;cases hy⟩
    |false=>
     obtain ⟨L2,⟨pf⟩⟩:=Left.put B mm hd h1 (uF.1 h2)
     rw [h1,h2] at e
     simp only [Bool.not_true,cond_false] at e
     rw [e] at A'
     have hc:=Gg h1
     refine ⟨by rw [e];exact A',by rw [e];exact .inl rfl,?_,fun _ hak hy=>⟨fun _=>?_,fun h=>by omega⟩⟩
     .rw [e]
      dsimp only
      rw [gt]
      refine ⟨fun hx=>⟨hx,rfl,fun x hm=>?_⟩,fun hf hcf=>?_⟩
      .have hx:(oO h a).Ext=false:=hx
       have hfd:(pW (oO h a).Props a.Key).2.1=true:=by
        cases hq:(pW (oO h a).Props a.Key).2.1 with
        |true=>rfl
        |false=>
         have:=(axx hd (Lr B.pd) hc).no hq
         rw [hx] at this;cases this
       exact akn pf hfd x hm
      .dsimp only
       by_cases hkk:k=a.Key
       .subst hkk
        have hf':(pW (oO h a).Props a.Key).2.1=true:=hf
        rw [pf.me]
        rw [hf'] at hc
        have s:=ax1 hd (Lr B.pd) hc hcf
        dsimp only at s
        rw [hf']
        exact ⟨rfl,s⟩
       .rw [pf.el k hkk]
        exact ⟨hf,hcf,zq _,rfl,akm (Lr B.pd) (adv B.pp B.pd hf)⟩
     .rw [e]
      dsimp only
      rw [gt]
      dsimp only
      rw [<- hak,pf.me]
  |false=>
  cases m10:dS a.Method 10 with
  |true=>
   have mm:=nO.1 m10
   have hk:=B.ak.key (.inr (.inr mm))
   have hk':iG a.Key=0:=by rw [<- vW];exact hk
   have e:GY h a=(bif (pW (oO h a).Props a.Key).2.1&&!(pW (oO h a).Props a.Key).1.Configurable then (h,dX false,0) else (zx h a.Object.toNat {oO h a with Props:=(rC (oO h a).Props a.Key).1},dX true,0)):=by
    rw [<- Yu B hk];unfold GY;rw [m1,m2,m3,m4,m5,m6,m10];rfl
   cases hc:((pW (oO h a).Props a.Key).2.1&&!(pW (oO h a).Props a.Key).1.Configurable) with
   |true=>
    rw [hc] at e
    simp only [cond_true] at e
    rw [e] at A'
    exact ⟨by rw [e];exact A',by rw [e];exact .inl rfl,by rw [e];exact rid,fun _ _ hy=>by rw [e] at hy;cases hy⟩
   |false=>
    rw [hc,aeO B.pp B.pd hk'] at e
    simp only [cond_false] at e
    rw [e] at A'
    have df:=Uj B.pp B.pd (k:=a.Key)
    refine ⟨by rw [e];exact A',by rw [e];exact .inl rfl,?_,fun _ hak hy=>⟨fun h=>by omega,fun _=>?_⟩⟩
    .rw [e]
     dsimp only
     rw [gt]
     refine ⟨fun hx=>⟨hx,rfl,fun x hm=>?_⟩,fun hf hcf=>?_⟩
     .obtain ⟨p,hp,rfl⟩:=List.mem_map.1 hm
      exact List.mem_map.2 ⟨p,(List.mem_filter.1 hp).1,rfl⟩
     .dsimp only
      by_cases hkk:k=a.Key
      .subst hkk
       have hf':(pW (oO h a).Props a.Key).2.1=true:=hf
       have atM:(pW (oO h a).Props a.Key).1.Configurable=false:=hcf
       rw [hf',atM] at hc;cases hc
      .rw [df.el k hkk]
       exact ⟨hf,hcf,zq _,rfl,akm (Lr B.pd) (adv B.pp B.pd hf)⟩
    .rw [e]
     dsimp only
     rw [gt]
     dsimp only
     rw [<- hak,df.me]
  |false=>
   have e:GY h a=(h,⟨1,v00,false,false,d0,(pJ (oO h a).Props).1,0,[]⟩,0):=by unfold GY;rw [m1,m2,m3,m4,m5,m6,m10];rfl
   rw [e] at A'
   exact ⟨by rw [e];exact A',by rw [e];exact .inl rfl,by rw [e];exact rid,fun _ _ hy=>by rw [e] at hy;cases hy⟩
end Go.Fw
end
