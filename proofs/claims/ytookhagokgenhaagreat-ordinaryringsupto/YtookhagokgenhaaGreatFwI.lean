
import Derived.Test.YtookhagokgenhaaGreatFwH
set_option linter.unusedVariables false
set_option linter.unusedSimpArgs false
set_option linter.unusedSectionVars false
set_option linter.unnecessarySimpa false
section
namespace Go.Fw
structure At (h:dK)(n:Int):Prop where
 ok:HOk h
 wf:HWf h
 i0:0<=n
 i1:n.toNat<h.Objects.length
 kind:(h.Objects.getD n.toNat default).Kind=1\/(h.Objects.getD n.toNat default).Kind=4\/(h.Objects.getD n.toNat default).Kind=5
abbrev At.o (h:dK)(n:Int):dN:=h.Objects.getD n.toNat default
theorem At.po {h:dK}{n:Int}(A:At h n):anN h (At.o h n) (n.toNat:Nat):=by
 have:=A.ok.obj _ A.i1
 rw [Kz,Int.toNat_natCast] at this
 exact (Vq A.kind).1 this
theorem At.pp {h:dK}{n:Int}(A:At h n):La (At.o h n).Props:=La.ofT (A.wf.at _).1 A.po.tc
theorem At.pd {h:dK}{n:Int}(A:At h n):∀p∈(At.o h n).Props,p.dS.ok:=(A.wf.at _).1
structure Kept (o q:dN)(k:dI):Prop where
 shut:o.Ext=false->q.Ext=false/\q.fB=o.fB/\∀x,x∈q.Props.map (·.Key)->x∈o.Props.map (·.Key)
 fix:(kZ o.Props k).2.1=true->(kZ o.Props k).1.Configurable=false->(kZ q.Props k).2.1=true/\(kZ q.Props k).1.Configurable=false/\JL (kZ q.Props k).1.dV (kZ o.Props k).1.dV=true/\(kZ q.Props k).1.Has=(kZ o.Props k).1.Has/\
  (bif gW (kZ o.Props k).1 then (eH (kZ q.Props k).1.Get (kZ o.Props k).1.Get&&eH (kZ q.Props k).1.Set (kZ o.Props k).1.Set) else ((kZ o.Props k).1.eG||((!(kZ q.Props k).1.eG)&&eH (kZ q.Props k).1.Value (kZ o.Props k).1.Value)))=true
theorem alA {d:dJ}(hd:d.ok)(r:Rc d):(bif gW d then (eH d.Get d.Get&&eH d.Set d.Set) else (d.eG||((!d.eG)&&eH d.Value d.Value)))=true:=by
 rw [sS hd.2.1 (E8 hd.2.1 r.v),sS hd.2.2.1 (zq (sD hd.2.2.1 r.g)),sS hd.2.2.2 (zq (sD hd.2.2.2 r.s))]
 cases gW d<;>cases d.eG<;>rfl
theorem Vs {l:List dM}(h:La l)(hok:∀p∈l,p.dS.ok){k:dI}(hf:(kZ l k).2.1=true):Rc (kZ l k).1:=by
 obtain ⟨p,hp,-,e⟩:=RH hf
 rw [e];exact ak3 (hok p hp) (h.all p hp).2
theorem Kept.same {o:dN}{k:dI}(h:La o.Props)(hok:∀p∈o.Props,p.dS.ok){q:dN}(hs:o.Ext=false->q.Ext=false/\q.fB=o.fB)(hp:q.Props=o.Props):Kept o q k:=by
 refine ⟨fun e=>⟨(hs e).1,(hs e).2,fun x hx=>by rw [hp] at hx;exact hx⟩,fun hf hc=>?_⟩
 rw [hp]
 exact ⟨hf,hc,Aa _,rfl,alA (GX hok) (Vs h hok hf)⟩
structure Stp (h:dK)(a:gK)(n:Int)(k:dI):Prop where
 at':At (xw h a).1 n
 kind:(xw h a).2.1.Kind=1\/(xw h a).2.1.Kind=3
 kept:Kept (At.o h n) (At.o (xw h a).1 n) k
 put:a.Object=n->a.Key=k->(xw h a).2.1.Yes=true->(a.Method=6->(kZ (At.o (xw h a).1 n).Props k).2.1=true)/\(a.Method=10->(kZ (At.o (xw h a).1 n).Props k).2.1=false)
theorem At.left {h x:dK}{a:gK}{n:Int}(A:At h n)(ha0:0<=a.Object)(L:Left h a x):At x n:=by
 refine ⟨L.ok,L.wf,A.i0,by rw [L.len];exact A.i1,?_⟩
 by_cases e:n.toNat=a.Object.toNat
 .rw [e,L.kd,<- e];exact A.kind
 .rw [L.el _ e];exact A.kind
theorem alB {l:List dM}{k:dI}{d:dJ}{m:List dM}(f:aqn l k d m)(hf:(kZ l k).2.1=true):∀x,x∈m.map (·.Key)->x∈l.map (·.Key):=by
 intro x hx
 obtain ⟨p,hp,rfl⟩:=List.mem_map.1 hx
 obtain ⟨i,hi,rfl⟩:=List.getElem_of_mem hp
 have hl:m.length=l.length:=by have:=f.len;rw [hf] at this;exact this
 have:=f.key i (by omega)
 rw [List.getD_eq_getElem?_getD,List.getElem?_eq_getElem hi,List.getD_eq_getElem?_getD,List.getElem?_eq_getElem (by omega)] at this
 exact List.mem_map.2 ⟨l[i]'(by omega),List.getElem_mem _,this.symm⟩
theorem step {h:dK}{a:gK}{n:Int}{k:dI}(A:At h n)(B:Obj h a)(hv:a.Value.ok)(hd:a.dS.ok):Stp h a n k:=by
 have L:=alu B hv hd
 have A':=A.left B.ak.i0 L
 by_cases hne:n.toNat=a.Object.toNat
 case neg=>
  have ho:At.o (xw h a).1 n=At.o h n:=L.el _ hne
  refine ⟨A',?_,?_,fun e=>absurd (by rw [e]) hne⟩
  .unfold xw
   dsimp only
   cases dW a.Method 1 with
   |true=>exact .inl rfl
   |false=>
   cases dW a.Method 2 with
   |true=>simp only [cond_false,cond_true];cases (eH a.Value (h.Objects.getD a.Object.toNat default).fB||!(h.Objects.getD a.Object.toNat default).Ext||iQ h a.Object a.Value)<;>exact .inl rfl
   |false=>
   cases dW a.Method 3 with
   |true=>exact .inl rfl
   |false=>
   cases dW a.Method 4 with
   |true=>exact .inl rfl
   |false=>
   cases dW a.Method 5 with
   |true=>exact .inl rfl
   |false=>
   cases dW a.Method 6 with
   |true=>
    simp only [cond_false,cond_true]
    generalize (gG (h.Objects.getD a.Object.toNat default).Ext a.dS (fK (h.Objects.getD a.Object.toNat default).Props a.Key).2.1 (fK (h.Objects.getD a.Object.toNat default).Props a.Key).1)=ap
    generalize ku (h.Objects.getD a.Object.toNat default).Props a.Key ap.1=pt
    cases (!ap.2.1)<;>cases (je pt.2 0)<;>first|exact .inl rfl|exact .inr rfl
   |false=>
   cases dW a.Method 10 with
   |true=>simp only [cond_false,cond_true];cases ((fK (h.Objects.getD a.Object.toNat default).Props a.Key).2.1&&!(fK (h.Objects.getD a.Object.toNat default).Props a.Key).1.Configurable)<;>exact .inl rfl
   |false=>exact .inl rfl
  .rw [ho];exact .same A.pp A.pd (fun e=>⟨e,rfl⟩) rfl
 case pos=>
  have hn:a.Object=n:=by have:=A.i0;have:=B.ak.i0;omega
  subst hn
  have rid:Kept (At.o h a.Object) (At.o h a.Object) k:=.same A.pp A.pd (fun e=>⟨e,rfl⟩) rfl
  have gt:∀o,At.o (AY h a.Object.toNat o) a.Object=o:=fun o=>by unfold At.o;rw [uX B.ak.i1,if_pos rfl]
  cases m1:dW a.Method 1 with
  |true=>
   have e:xw h a=(h,⟨1,(oO h a).fB,false,false,d0,[],0,[]⟩,0):=by unfold xw;rw [m1];rfl
   rw [e] at A'
   exact ⟨by rw [e];exact A',by rw [e];exact .inl rfl,by rw [e];exact rid,fun _ _ hy=>by rw [e] at hy;cases hy⟩
  |false=>
  cases m2:dW a.Method 2 with
  |true=>
   have e:xw h a=(bif eH a.Value (oO h a).fB||!(oO h a).Ext||iQ h a.Object a.Value then (h,eu (eH a.Value (oO h a).fB),0) else (AY h a.Object.toNat {oO h a with fB:=a.Value},eu true,0)):=by unfold xw;rw [m1,m2];rfl
   have mm:=mD.1 m2
   cases hc:(eH a.Value (oO h a).fB||!(oO h a).Ext||iQ h a.Object a.Value) with
   |true=>
    rw [hc] at e
    simp only [cond_true] at e
    rw [e] at A'
    exact ⟨by rw [e];exact A',by rw [e];exact .inl rfl,by rw [e];exact rid,fun _ _ hy=>⟨fun h=>by omega,fun h=>by omega⟩⟩
   |false=>
    rw [hc] at e
    simp only [cond_false] at e
    simp only [Bool.or_eq_false_iff,Bool.not_eq_false'] at hc
    rw [e] at A'
    refine ⟨by rw [e];exact A',by rw [e];exact .inl rfl,?_,fun _ _ hy=>⟨fun h=>by omega,fun h=>by omega⟩⟩
    rw [e]
    dsimp only
    rw [gt]
    refine .same A.pp A.pd (fun hx=>?_) rfl
    have:(oO h a).Ext=false:=hx
    rw [this] at hc;exact absurd hc.1.2 (by simp)
  |false=>
  cases m3:dW a.Method 3 with
  |true=>
   have e:xw h a=(h,eu (oO h a).Ext,0):=by unfold xw;rw [m1,m2,m3];rfl
   have mm:=mD.1 m3
   rw [e] at A'
   exact ⟨by rw [e];exact A',by rw [e];exact .inl rfl,by rw [e];exact rid,fun _ _ hy=>⟨fun h=>by omega,fun h=>by omega⟩⟩
  |false=>
  cases m4:dW a.Method 4 with
  |true=>
   have e:xw h a=(AY h a.Object.toNat {oO h a with Ext:=false},eu true,0):=by unfold xw;rw [m1,m2,m3,m4];rfl
   have mm:=mD.1 m4
   rw [e] at A'
   refine ⟨by rw [e];exact A',by rw [e];exact .inl rfl,?_,fun _ _ hy=>⟨fun h=>by omega,fun h=>by omega⟩⟩
   rw [e]
   dsimp only
   rw [gt]
   exact .same A.pp A.pd (fun _=>⟨rfl,rfl⟩) rfl
  |false=>
  cases m5:dW a.Method 5 with
  |true=>
   have e:xw h a=(h,⟨1,v00,false,(fK (oO h a).Props a.Key).2.1,(fK (oO h a).Props a.Key).1,[],0,[]⟩,0):=by unfold xw;rw [m1,m2,m3,m4,m5];rfl
   rw [e] at A'
   exact ⟨by rw [e];exact A',by rw [e];exact .inl rfl,by rw [e];exact rid,fun _ _ hy=>by rw [e] at hy;cases hy⟩
  |false=>
  cases m6:dW a.Method 6 with
  |true=>
   have mm:=mD.1 m6
   have hk:=B.ak.key (.inr (.inl mm))
   have e:xw h a=(bif !(gG (oO h a).Ext a.dS (kZ (oO h a).Props a.Key).2.1 (kZ (oO h a).Props a.Key).1).2.1 then (h,eu false,0) else bif je (ku (oO h a).Props a.Key (gG (oO h a).Ext a.dS (kZ (oO h a).Props a.Key).2.1 (kZ (oO h a).Props a.Key).1).1).2 0 then (h,⟨3,v00,false,false,d0,[],2,[116,111,111,32,109,97,110,121]⟩,0) else (AY h a.Object.toNat {oO h a with Props:=(ku (oO h a).Props a.Key (gG (oO h a).Ext a.dS (kZ (oO h a).Props a.Key).2.1 (kZ (oO h a).Props a.Key).1).1).1},eu true,0)):=by
    rw [<- Zk B hk];unfold xw;rw [m1,m2,m3,m4,m5,m6];rfl
   cases h1:(gG (oO h a).Ext a.dS (kZ (oO h a).Props a.Key).2.1 (kZ (oO h a).Props a.Key).1).2.1 with
   |false=>
    rw [h1] at e
    simp only [Bool.not_false,cond_true] at e
    rw [e] at A'
    exact ⟨by rw [e];exact A',by rw [e];exact .inl rfl,by rw [e];exact rid,fun _ _ hy=>by rw [e] at hy;cases hy⟩
   |true=>
    cases h2:je (ku (oO h a).Props a.Key (gG (oO h a).Ext a.dS (kZ (oO h a).Props a.Key).2.1 (kZ (oO h a).Props a.Key).1).1).2 0 with
    |true=>
     rw [h1,h2] at e
     simp only [Bool.not_true,cond_false,cond_true] at e
     rw [e] at A'
     exact ⟨by rw [e];exact A',by rw [e];exact .inr rfl,by rw [e];exact rid,fun _ _ hy=>by rw [e] at hy;cases hy⟩
    |false=>
     obtain ⟨L2,⟨pf⟩⟩:=Left.put B mm hd h1 (qC.1 h2)
     rw [h1,h2] at e
     simp only [Bool.not_true,cond_false] at e
     rw [e] at A'
     have hc:=GV h1
     refine ⟨by rw [e];exact A',by rw [e];exact .inl rfl,?_,fun _ hak hy=>⟨fun _=>?_,fun h=>by omega⟩⟩
     .rw [e]
      dsimp only
      rw [gt]
      refine ⟨fun hx=>⟨hx,rfl,fun x hm=>?_⟩,fun hf hcf=>?_⟩
      .have hx:(oO h a).Ext=false:=hx
       have hfd:(kZ (oO h a).Props a.Key).2.1=true:=by
        cases hq:(kZ (oO h a).Props a.Key).2.1 with
        |true=>rfl
        |false=>
         have:=(ayV hd (GX B.pd) hc).no hq
         rw [hx] at this;cases this
       exact alB pf hfd x hm
      .dsimp only
       by_cases hkk:k=a.Key
       .subst hkk
        have hf':(kZ (oO h a).Props a.Key).2.1=true:=hf
        rw [pf.me]
        rw [hf'] at hc
        have s:=azq hd (GX B.pd) hc hcf
        dsimp only at s
        rw [hf']
        exact ⟨rfl,s⟩
       .rw [pf.el k hkk]
        exact ⟨hf,hcf,Aa _,rfl,alA (GX B.pd) (Vs B.pp B.pd hf)⟩
     .rw [e]
      dsimp only
      rw [gt]
      dsimp only
      rw [<- hak,pf.me]
  |false=>
  cases m10:dW a.Method 10 with
  |true=>
   have mm:=mD.1 m10
   have hk:=B.ak.key (.inr (.inr mm))
   have hk':iY a.Key=0:=by rw [<- uz];exact hk
   have e:xw h a=(bif (kZ (oO h a).Props a.Key).2.1&&!(kZ (oO h a).Props a.Key).1.Configurable then (h,eu false,0) else (AY h a.Object.toNat {oO h a with Props:=(rV (oO h a).Props a.Key).1},eu true,0)):=by
    rw [<- Zk B hk];unfold xw;rw [m1,m2,m3,m4,m5,m6,m10];rfl
   cases hc:((kZ (oO h a).Props a.Key).2.1&&!(kZ (oO h a).Props a.Key).1.Configurable) with
   |true=>
    rw [hc] at e
    simp only [cond_true] at e
    rw [e] at A'
    exact ⟨by rw [e];exact A',by rw [e];exact .inl rfl,by rw [e];exact rid,fun _ _ hy=>by rw [e] at hy;cases hy⟩
   |false=>
    rw [hc,afI B.pp B.pd hk'] at e
    simp only [cond_false] at e
    rw [e] at A'
    have df:=U_ B.pp B.pd (k:=a.Key)
    refine ⟨by rw [e];exact A',by rw [e];exact .inl rfl,?_,fun _ hak hy=>⟨fun h=>by omega,fun _=>?_⟩⟩
    .rw [e]
     dsimp only
     rw [gt]
     refine ⟨fun hx=>⟨hx,rfl,fun x hm=>?_⟩,fun hf hcf=>?_⟩
     .obtain ⟨p,hp,rfl⟩:=List.mem_map.1 hm
      exact List.mem_map.2 ⟨p,(List.mem_filter.1 hp).1,rfl⟩
     .dsimp only
      by_cases hkk:k=a.Key
      .subst hkk
       have hf':(kZ (oO h a).Props a.Key).2.1=true:=hf
       have avf:(kZ (oO h a).Props a.Key).1.Configurable=false:=hcf
       rw [hf',avf] at hc;cases hc
      .rw [df.el k hkk]
       exact ⟨hf,hcf,Aa _,rfl,alA (GX B.pd) (Vs B.pp B.pd hf)⟩
    .rw [e]
     dsimp only
     rw [gt]
     dsimp only
     rw [<- hak,df.me]
  |false=>
   have e:xw h a=(h,⟨1,v00,false,false,d0,(kH (oO h a).Props).1,0,[]⟩,0):=by unfold xw;rw [m1,m2,m3,m4,m5,m6,m10];rfl
   rw [e] at A'
   exact ⟨by rw [e];exact A',by rw [e];exact .inl rfl,by rw [e];exact rid,fun _ _ hy=>by rw [e] at hy;cases hy⟩
end Go.Fw
end
