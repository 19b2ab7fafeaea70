
import Derived.Test.YtookhagokgenhaaGreatFwH
set_option linter.unusedVariables false
set_option linter.unusedSimpArgs false
set_option linter.unusedSectionVars false
set_option linter.unnecessarySimpa false
section
namespace Go.Fw
theorem ael {d:dJ}(h:og d=true):lq d=0/\(jD d).Has=d.Has:=by
 unfold og vJ at h
 dsimp only at h
 cases hc:je (lq d) 0 with
 |true=>
  rw [hc] at h
  simp only [cond_true,Bool.and_eq_true] at h
  have h1:=mD.1 h.1
  exact absurd h1 (EI.1 hc)
 |false=>
  rw [hc] at h
  simp only [cond_false,Bool.and_eq_true] at h
  exact ⟨qC.1 hc,mD.1 h.2⟩
theorem ahW {l:List dM}(h:La l)(hok:∀p∈l,p.dS.ok){k:dI}(hf:(kZ l k).2.1=true):lq (kZ l k).1=0/\(jD (kZ l k).1).Has=(kZ l k).1.Has:=by
 obtain ⟨p,hp,-,e⟩:=RH hf
 rw [e]
 exact ael (by rw [akZ (hok p hp)];exact (h.all p hp).2)
theorem apt {l:List dM}(h:La l)(hok:∀p∈l,p.dS.ok){k:dI}{x:Bool}{d:dJ}(hd:lq d=0):(iP x d (kZ l k).2.1 (kZ l k).1).2=0:=by
 have ha:zi d (kZ l k).2.1 (kZ l k).1=0:=by
  unfold zi
  dsimp only
  rw [qC.2 hd]
  simp only [cond_false]
  cases hf:(kZ l k).2.1 with
  |false=>rfl
  |true=>
   obtain ⟨h1,h2⟩:=ahW h hok hf
   rw [qC.2 h1,qC.2 h2.symm];rfl
 unfold iP
 dsimp only
 rw [qC.2 ha]
 cases (kZ l k).2.1<;>rfl
theorem aqY {x0:Bool}{x1:dJ}{x2:Bool}{x3:dJ}(h:(iP x0 x1 x2 x3).2=0):(gG x0 x1 x2 x3).2.2=0:=by
 unfold gG
 dsimp only
 rw [h]
 cases (je 0 0||!(iP x0 x1 x2 x3).1)<;>cases x2<;>rfl
theorem ahY {l:List dM}(h:l.Pairwise (fun p q=>p.Key≠q.Key)){p:dM}(hp:p∈l):kZ l p.Key=(p.dS,true,0):=by
 obtain ⟨i,h1,h2⟩:=aiy h p hp
 unfold kZ
 rw [Rz,h1]
 dsimp only
 rw [h2]
theorem ayN {α:Type}[Inhabited α]{l:List α}{i:Nat}(hi:i<l.length):l.getD i default∈l:=by
 rw [List.getD_eq_getElem?_getD,List.getElem?_eq_getElem hi];exact List.getElem_mem hi
theorem apu {l:List dM}{k:dI}{d:dJ}{m:List dM}(h:La l)(f:aqn l k d m){i:Nat}(hi:i<l.length)(hk:(l.getD i default).Key≠k):(m.getD i default).dS=(l.getD i default).dS:=by
 have h1:=ahY h.one (ayN hi)
 have hm:i<m.length:=by
  have:=f.len
  cases hc:(kZ l k).2.1<;>rw [hc] at this<;>simp at this<;>omega
 have h2:=ahY f.tb.one (ayN hm)
 rw [f.key i hi,f.el _ hk,h1] at h2
 simpa using h2.symm
theorem afQ (a b:dI):(BF a.Str b.Str&&dW a.Sym b.Sym)=decide (a=b):=by
 cases a;cases b
 simp [BF,dW,Bool.decide_and,ayy]
theorem afT {k:dI}{v7 v8:dN}(h:La v7.Props)(hd:∀p∈v7.Props,p.dS.ok){d:dJ}(f:aqn v7.Props k d v8.Props):∀(n j:Nat) (u:Bool),j<=v7.Props.length->v7.Props.length-j<n->(Y1 k v7 v8 n u j j).1=true
 |0,j,_,_,hh=>by omega
 |n+1,j,u,hj,hn=>by
  have hl:=h.len
  have hm:v7.Props.length<=v8.Props.length:=by
   have:=f.len
   cases hc:(kZ v7.Props k).2.1<;>rw [hc] at this<;>simp at this<;>omega
  simp only [Y1,iZ,afQ,Int.toNat_natCast]
  by_cases hlt:j<v7.Props.length
  .have e1:(!decide ((j:Int)<(v7.Props.length:Int)))=false:=by rw [decide_eq_true (by omega)];rfl
   have e2:decide ((j:Int)<(v8.Props.length:Int))=true:=decide_eq_true (by omega)
   have e3:decide ((j:Int)>=(v8.Props.length:Int))=false:=decide_eq_false (by omega)
   have hadd:dZ .i64 (j:Int) 1=((j+1:Nat):Int):=by rw [oM (by omega) (by omega)];omega
   have hkey:=f.key j hlt
   rw [e1,e2,e3,hkey,hadd]
   simp only [cond_false,Bool.true_and,Bool.false_or]
   by_cases hk:(v7.Props.getD j default).Key=k
   .have:decide ((v7.Props.getD j default).Key=k)=true:=decide_eq_true hk
    rw [this]
    simp only [Bool.not_true,Bool.false_and,Bool.and_false,cond_false]
    exact afT h hd f n (j+1) u (by omega) (by omega)
   .have:decide ((v7.Props.getD j default).Key=k)=false:=decide_eq_false hk
    have hds:=apu h f hlt hk
    have hp:=ayN hlt
    rw [this,hds,agp (hd _ hp) (ak3 (hd _ hp) (h.all _ hp).2)]
    simp only [Bool.not_false,Bool.true_and,Bool.false_and,Bool.and_false,cond_false,decide_true,Bool.not_true,Bool.or_self]
    exact afT h hd f n (j+1) u (by omega) (by omega)
  .have e1:(!decide ((j:Int)<(v7.Props.length:Int)))=true:=by rw [decide_eq_false (by omega)];rfl
   rw [e1];rfl
theorem afV {x0 x1:dK}{n:Nat}(hk:HOk x0)(hl:x1.Objects.length=x0.Objects.length)(he:∀j,j≠n->x1.Objects.getD j default=x0.Objects.getD j default):∀(m j:Nat) (u:Bool),j<=x0.Objects.length->x0.Objects.length-j<m->(H7 x0 x1 (n:Nat) m u j)=(true,u,default)
 |0,j,_,_,hh=>by omega
 |m+1,j,u,hj,hn=>by
  have hlen:=hk.len
  simp only [H7,iZ]
  by_cases hlt:j<x0.Objects.length
  .have e1:(!decide ((j:Int)<(x0.Objects.length:Int)))=false:=by rw [decide_eq_true (by omega)];rfl
   have hadd:dZ .i64 (j:Int) 1=((j+1:Nat):Int):=by rw [oM (by omega) (by omega)];omega
   rw [e1,hadd]
   simp only [cond_false,Int.toNat_natCast]
   have one:∀{l:List dN},j<l.length->(l.drop j).take (j+1-j)=[l.getD j default]:=fun {l} h=>by
    rw [show j+1-j=1 by omega,List.drop_eq_getElem_cons h,List.getD_eq_getElem?_getD,List.getElem?_eq_getElem h];rfl
   rw [one hlt,one (by omega)]
   by_cases hjn:j=n
   .subst hjn
    rw [qC.2 rfl]
    simp only [Bool.false_and,cond_false]
    exact afV hk hl he m (j+1) u (by omega) (by omega)
   .rw [he j hjn]
    have:PW ⟨[x0.Objects.getD j default]⟩ ⟨[x0.Objects.getD j default]⟩=true:=aej (by simp) fun o ho=>by
     simp at ho;subst ho
     have:=hk.props _ (ayN hlt);simp at this ⊢;omega
    rw [this]
    simp only [Bool.not_true,Bool.and_false,cond_false]
    exact afV hk hl he m (j+1) u (by omega) (by omega)
  .have e1:(!decide ((j:Int)<(x0.Objects.length:Int)))=true:=by rw [decide_eq_false (by omega)];rfl
   rw [e1];rfl
theorem ahd {x0:dK}{x1:Int}{x2:dI}{x3:dJ}(w:HWf x0)(hd:x3.ok):lM x0 x1 x2 x3=true:=by
 unfold lM
 dsimp only
 rw [anP]
 generalize ha:(gK.mk 6 x1 x2 x3 (dL.mk 0 0 [] 0) (dL.mk 0 0 [] 0) [])=a
 have ao:a.Object=x1:=by rw [<- ha]
 have am:a.Method=6:=by rw [<- ha]
 have ak:a.Key=x2:=by rw [<- ha]
 have ad:a.dS=x3:=by rw [<- ha]
 simp only [Bool.not_true,cond_false]
 cases Dz x0 with
 |true=>rfl
 |false=>
 simp only [cond_false]
 by_cases e:(jI x0 a).2.2=0
 .rw [qC.2 e]
  have B:=Obj.mk' w e
  have hC0:=(abK e).1
  have D:=ala (abK e).1 (abK e).2
  have i0:0<=x1:=by rw [<- ao];exact B.ak.i0
  have i1:x1.toNat<x0.Objects.length:=by rw [<- ao];exact B.ak.i1
  have hk:lG x2=0:=by rw [<- ak];exact B.ak.key (.inr (.inl am))
  have hoo:x0.Objects.getD x1.toNat default=oO x0 a:=by rw [<- ao]
  have hF:=Zk B hk
  have hdc:lq x3=0:=by rw [<- ad];exact (B.ak.m6 am).1
  have hce:=apt B.pp B.pd (k:=x2) (x:=(oO x0 a).Ext) hdc
  have hae:=aqY hce
  have hB:xw x0 a=(bif !(gG (oO x0 a).Ext x3 (kZ (oO x0 a).Props x2).2.1 (kZ (oO x0 a).Props x2).1).2.1 then (x0,eu false,0) else bif je (ku (oO x0 a).Props x2 (gG (oO x0 a).Ext x3 (kZ (oO x0 a).Props x2).2.1 (kZ (oO x0 a).Props x2).1).1).2 0 then (x0,⟨3,v00,false,false,d0,[],2,[116,111,111,32,109,97,110,121]⟩,0) else (AY x0 a.Object.toNat {oO x0 a with Props:=(ku (oO x0 a).Props x2 (gG (oO x0 a).Ext x3 (kZ (oO x0 a).Props x2).2.1 (kZ (oO x0 a).Props x2).1).1).1},eu true,0)):=by
   rw [<- hF];subst ha;rfl
  rw [D,ag9 hC0 i0 i1,hoo,hF,ao3,hae]
  simp only [qC.2 rfl,Bool.false_or,Bool.or_self,cond_false]
  rw [hB]
  cases h1:(gG (oO x0 a).Ext x3 (kZ (oO x0 a).Props x2).2.1 (kZ (oO x0 a).Props x2).1).2.1 with
  |false=>
   simp only [Bool.not_false,cond_true,eu,JL,BEq.rfl,Bool.not_true,Bool.and_false,Bool.false_or,cond_false,Bool.and_false]
   rw [ag9 hC0 i0 i1,hoo,hF,ao3,qC.2 rfl]
   simp [je,B.ok.same]
  |true=>
   simp only [Bool.not_true,cond_false]
   cases h2:je (ku (oO x0 a).Props x2 (gG (oO x0 a).Ext x3 (kZ (oO x0 a).Props x2).2.1 (kZ (oO x0 a).Props x2).1).1).2 0 with
   |true=>
    simp only [cond_true]
    rw [ag9 hC0 i0 i1,hoo,hF,ao3,qC.2 rfl]
    simp [je,dW,B.ok.same]
   |false=>
    obtain ⟨L,⟨pf⟩⟩:=Left.put B am (by rw [ad];exact hd) (by rw [ad,ak];exact h1) (by rw [ad,ak];exact qC.1 h2)
    rw [ad,ak] at L pf
    generalize hm:(ku (oO x0 a).Props x2 (gG (oO x0 a).Ext x3 (kZ (oO x0 a).Props x2).2.1 (kZ (oO x0 a).Props x2).1).1).1=m at L pf
    have hC:=w_.2 L.ok
    have gt:(AY x0 a.Object.toNat {oO x0 a with Props:=m}).Objects.getD x1.toNat default={oO x0 a with Props:=m}:=by rw [uX B.ak.i1,if_pos (by rw [ao])]
    have j1:x1.toNat<(AY x0 a.Object.toNat {oO x0 a with Props:=m}).Objects.length:=by rw [L.len];exact i1
    have hFm:fK m x2=kZ m x2:=pf.tb.find pf.ok (by rw [<- uz];exact hk)
    have b:=ay_ hd (GX B.pd (k:=x2)) (GV h1)
    simp only [cond_false]
    rw [ag9 hC i0 j1,gt,hFm,pf.me,iZ,iZ,L.len]
    have hot:adT x0 (AY x0 a.Object.toNat {oO x0 a with Props:=m}) x1 x2=true:=by
     unfold adT
     dsimp only
     have ho4:=afV (n:=a.Object.toNat) B.ok L.len L.el (x0.Objects.length+1) 0 false (Nat.zero_le _) (by omega)
     have e0:((0:Nat):Int)=0:=rfl
     have ea:((a.Object.toNat:Nat):Int)=x1:=by rw [ao];omega
     rw [e0,ea] at ho4
     rw [ho4,hoo,gt]
     have ho9:=afT (k:=x2) (v7:=oO x0 a) (v8:={oO x0 a with Props:=m}) B.pp B.pd pf ((oO x0 a).Props.length+1) 0 false (Nat.zero_le _) (by omega)
     rw [e0] at ho9
     dsimp only
     rw [ho9,iZ,iZ]
     have hl:(oO x0 a).Props.length<=1024:=B.pp.len
     have hml:m.length<=(oO x0 a).Props.length+1:=by
      have:m.length=bif (kZ (oO x0 a).Props x2).2.1 then (oO x0 a).Props.length else (oO x0 a).Props.length+1:=pf.len
      cases hc:(kZ (oO x0 a).Props x2).2.1<;>rw [hc] at this<;>simp only [cond_true,cond_false] at this<;>omega
     rw [oM (by omega) (by omega)]
     have:decide ((m.length:Int)<=((oO x0 a).Props.length:Int)+1)=true:=decide_eq_true (by omega)
     rw [this];rfl
    rw [hot,agp b.ok b.rc]
    simp [eu,JL,je,dW]
 .rw [EI.2 e];rfl
end Go.Fw
end
section
namespace Go.Fw
structure At (h:dK)(n:Int):Prop where
 ok:HOk h
 wf:HWf h
 i0:0<=n
 i1:n.toNat<h.Objects.length
 kind:(h.Objects.getD n.toNat default).Kind=1\/(h.Objects.getD n.toNat default).Kind=4\/(h.Objects.getD n.toNat default).Kind=5
abbrev At.o (h:dK)(n:Int):dN:=h.Objects.getD n.toNat default
theorem At.po {h:dK}{n:Int}(A:At h n):anN h (At.o h n) (n.toNat:Nat):=by
 have:=A.ok.obj _ A.i1
 rw [Kz,Int.toNat_natCast] at this
 exact (Vq A.kind).1 this
theorem At.pp {h:dK}{n:Int}(A:At h n):La (At.o h n).Props:=La.ofT (A.wf.at _).1 A.po.tc
theorem At.pd {h:dK}{n:Int}(A:At h n):∀p∈(At.o h n).Props,p.dS.ok:=(A.wf.at _).1
structure Kept (o q:dN)(k:dI):Prop where
 shut:o.Ext=false->q.Ext=false/\q.fB=o.fB/\∀x,x∈q.Props.map (·.Key)->x∈o.Props.map (·.Key)
 fix:(kZ o.Props k).2.1=true->(kZ o.Props k).1.Configurable=false->(kZ q.Props k).2.1=true/\(kZ q.Props k).1.Configurable=false/\JL (kZ q.Props k).1.dV (kZ o.Props k).1.dV=true/\(kZ q.Props k).1.Has=(kZ o.Props k).1.Has/\
  (bif gW (kZ o.Props k).1 then (eH (kZ q.Props k).1.Get (kZ o.Props k).1.Get&&eH (kZ q.Props k).1.Set (kZ o.Props k).1.Set) else ((kZ o.Props k).1.eG||((!(kZ q.Props k).1.eG)&&eH (kZ q.Props k).1.Value (kZ o.Props k).1.Value)))=true
theorem alA {d:dJ}(hd:d.ok)(r:Rc d):(bif gW d then (eH d.Get d.Get&&eH d.Set d.Set) else (d.eG||((!d.eG)&&eH d.Value d.Value)))=true:=by
 rw [sS hd.2.1 (E8 hd.2.1 r.v),sS hd.2.2.1 (zq (sD hd.2.2.1 r.g)),sS hd.2.2.2 (zq (sD hd.2.2.2 r.s))]
 cases gW d<;>cases d.eG<;>rfl
theorem Vs {l:List dM}(h:La l)(hok:∀p∈l,p.dS.ok){k:dI}(hf:(kZ l k).2.1=true):Rc (kZ l k).1:=by
 obtain ⟨p,hp,-,e⟩:=RH hf
 rw [e];exact ak3 (hok p hp) (h.all p hp).2
theorem Kept.same {o:dN}{k:dI}(h:La o.Props)(hok:∀p∈o.Props,p.dS.ok){q:dN}(hs:o.Ext=false->q.Ext=false/\q.fB=o.fB)(hp:q.Props=o.Props):Kept o q k:=by
 refine ⟨fun e=>⟨(hs e).1,(hs e).2,fun x hx=>by rw [hp] at hx;exact hx⟩,fun hf hc=>?_⟩
 rw [hp]
 exact ⟨hf,hc,Aa _,rfl,alA (GX hok) (Vs h hok hf)⟩
structure Stp (h:dK)(a:gK)(n:Int)(k:dI):Prop where
 at':At (xw h a).1 n
 kind:(xw h a).2.1.Kind=1\/(xw h a).2.1.Kind=3
 kept:Kept (At.o h n) (At.o (xw h a).1 n) k
 put:a.Object=n->a.Key=k->(xw h a).2.1.Yes=true->(a.Method=6->(kZ (At.o (xw h a).1 n).Props k).2.1=true)/\(a.Method=10->(kZ (At.o (xw h a).1 n).Props k).2.1=false)
theorem At.left {h x:dK}{a:gK}{n:Int}(A:At h n)(ha0:0<=a.Object)(L:Left h a x):At x n:=by
 refine ⟨L.ok,L.wf,A.i0,by rw [L.len];exact A.i1,?_⟩
 by_cases e:n.toNat=a.Object.toNat
 .rw [e,L.kd,<- e];exact A.kind
 .rw [L.el _ e];exact A.kind
theorem alB {l:List dM}{k:dI}{d:dJ}{m:List dM}(f:aqn l k d m)(hf:(kZ l k).2.1=true):∀x,x∈m.map (·.Key)->x∈l.map (·.Key):=by
 intro x hx
 obtain ⟨p,hp,rfl⟩:=List.mem_map.1 hx
 obtain ⟨i,hi,rfl⟩:=List.getElem_of_mem hp
 have hl:m.length=l.length:=by have:=f.len;rw [hf] at this;exact this
 have:=f.key i (by omega)
 rw [List.getD_eq_getElem?_getD,List.getElem?_eq_getElem hi,List.getD_eq_getElem?_getD,List.getElem?_eq_getElem (by omega)] at this
 exact List.mem_map.2 ⟨l[i]'(by omega),List.getElem_mem _,this.symm⟩
theorem step {h:dK}{a:gK}{n:Int}{k:dI}(A:At h n)(B:Obj h a)(hv:a.Value.ok)(hd:a.dS.ok):Stp h a n k:=by
 have L:=alu B hv hd
 have A':=A.left B.ak.i0 L
 by_cases hne:n.toNat=a.Object.toNat
 case neg=>
  have ho:At.o (xw h a).1 n=At.o h n:=L.el _ hne
  refine ⟨A',?_,?_,fun e=>absurd (by rw [e]) hne⟩
  .unfold xw
   dsimp only
   cases dW a.Method 1 with
   |true=>exact .inl rfl
   |false=>
   cases dW a.Method 2 with
   |true=>simp only [cond_false,cond_true];cases (eH a.Value (h.Objects.getD a.Object.toNat default).fB||!(h.Objects.getD a.Object.toNat default).Ext||iQ h a.Object a.Value)<;>exact .inl rfl
   |false=>
   cases dW a.Method 3 with
   |true=>exact .inl rfl
   |false=>
   cases dW a.Method 4 with
   |true=>exact .inl rfl
   |false=>
   cases dW a.Method 5 with
   |true=>exact .inl rfl
   |false=>
   cases dW a.Method 6 with
   |true=>
    simp only [cond_false,cond_true]
    generalize (gG (h.Objects.getD a.Object.toNat default).Ext a.dS (fK (h.Objects.getD a.Object.toNat default).Props a.Key).2.1 (fK (h.Objects.getD a.Object.toNat default).Props a.Key).1)=ap
    generalize ku (h.Objects.getD a.Object.toNat default).Props a.Key ap.1=pt
    cases (!ap.2.1)<;>cases (je pt.2 0)<;>first|exact .inl rfl|exact .inr rfl
   |false=>
   cases dW a.Method 10 with
   |true=>simp only [cond_false,cond_true];cases ((fK (h.Objects.getD a.Object.toNat default).Props a.Key).2.1&&!(fK (h.Objects.getD a.Object.toNat default).Props a.Key).1.Configurable)<;>exact .inl rfl
   |false=>exact .inl rfl
  .rw [ho];exact .same A.pp A.pd (fun e=>⟨e,rfl⟩) rfl
 case pos=>
  have hn:a.Object=n:=by have:=A.i0;have:=B.ak.i0;omega
  subst hn
  have rid:Kept (At.o h a.Object) (At.o h a.Object) k:=.same A.pp A.pd (fun e=>⟨e,rfl⟩) rfl
  have gt:∀o,At.o (AY h a.Object.toNat o) a.Object=o:=fun o=>by unfold At.o;rw [uX B.ak.i1,if_pos rfl]
  cases m1:dW a.Method 1 with
  |true=>
   have e:xw h a=(h,⟨1,(oO h a).fB,false,false,d0,[],0,[]⟩,0):=by unfold xw;rw [m1];rfl
   rw [e] at A'
   exact ⟨by rw [e];exact A',by rw [e];exact .inl rfl,by rw [e];exact rid,fun _ _ hy=>by rw [e] at hy;cases hy⟩
  |false=>
  cases m2:dW a.Method 2 with
  |true=>
   have e:xw h a=(bif eH a.Value (oO h a).fB||!(oO h a).Ext||iQ h a.Object a.Value then (h,eu (eH a.Value (oO h a).fB),0) else (AY h a.Object.toNat {oO h a with fB:=a.Value},eu true,0)):=by unfold xw;rw [m1,m2];rfl
   have mm:=mD.1 m2
   cases hc:(eH a.Value (oO h a).fB||!(oO h a).Ext||iQ h a.Object a.Value) with
   |true=>
    rw [hc] at e
    simp only [cond_true] at e
    rw [e] at A'
    exact ⟨by rw [e];exact A',by rw [e];exact .inl rfl,by rw [e];exact rid,fun _ _ hy=>⟨fun h=>by omega,fun h=>by omega⟩⟩
   |false=>
    rw [hc] at e
    simp only [cond_false] at e
    simp only [Bool.or_eq_false_iff,Bool.not_eq_false'] at hc
    rw [e] at A'
    refine ⟨by rw [e];exact A',by rw [e];exact .inl rfl,?_,fun _ _ hy=>⟨fun h=>by omega,fun h=>by omega⟩⟩
    rw [e]
    dsimp only
    rw [gt]
    refine .same A.pp A.pd (fun hx=>?_) rfl
    have:(oO h a).Ext=false:=hx
    rw [this] at hc;exact absurd hc.1.2 (by simp)
  |false=>
  cases m3:dW a.Method 3 with
  |true=>
   have e:xw h a=(h,eu (oO h a).Ext,0):=by unfold xw;rw [m1,m2,m3];rfl
   have mm:=mD.1 m3
   rw [e] at A'
   exact ⟨by rw [e];exact A',by rw [e];exact .inl rfl,by rw [e];exact rid,fun _ _ hy=>⟨fun h=>by omega,fun h=>by omega⟩⟩
  |false=>
  cases m4:dW a.Method 4 with
  |true=>
   have e:xw h a=(AY h a.Object.toNat {oO h a with Ext:=false},eu true,0):=by unfold xw;rw [m1,m2,m3,m4];rfl
   have mm:=mD.1 m4
   rw [e] at A'
   refine ⟨by rw [e];exact A',by rw [e];exact .inl rfl,?_,fun _ _ hy=>⟨fun h=>by omega,fun h=>by omega⟩⟩
   rw [e]
   dsimp only
   rw [gt]
   exact .same A.pp A.pd (fun _=>⟨rfl,rfl⟩) rfl
  |false=>
  cases m5:dW a.Method 5 with
  |true=>
   have e:xw h a=(h,⟨1,v00,false,(fK (oO h a).Props a.Key).2.1,(fK (oO h a).Props a.Key).1,[],0,[]⟩,0):=by unfold xw;rw [m1,m2,m3,m4,m5];rfl
   rw [e] at A'
   exact ⟨by rw [e];exact A',by rw [e];exact .inl rfl,by rw [e];exact rid,fun _ _ hy=>by rw [e] at hy;cases hy⟩
  |false=>
  cases m6:dW a.Method 6 with
  |true=>
   have mm:=mD.1 m6
   have hk:=B.ak.key (.inr (.inl mm))
   have e:xw h a=(bif !(gG (oO h a).Ext a.dS (kZ (oO h a).Props a.Key).2.1 (kZ (oO h a).Props a.Key).1).2.1 then (h,eu false,0) else bif je (ku (oO h a).Props a.Key (gG (oO h a).Ext a.dS (kZ (oO h a).Props a.Key).2.1 (kZ (oO h a).Props a.Key).1).1).2 0 then (h,⟨3,v00,false,false,d0,[],2,[116,111,111,32,109,97,110,121]⟩,0) else (AY h a.Object.toNat {oO h a with Props:=(ku (oO h a).Props a.Key (gG (oO h a).Ext a.dS (kZ (oO h a).Props a.Key).2.1 (kZ (oO h a).Props a.Key).1).1).1},eu true,0)):=by
    rw [<- Zk B hk];unfold xw;rw [m1,m2,m3,m4,m5,m6];rfl
   cases h1:(gG (oO h a).Ext a.dS (kZ (oO h a).Props a.Key).2.1 (kZ (oO h a).Props a.Key).1).2.1 with
   |false=>
    rw [h1] at e
    simp only [Bool.not_false,cond_true] at e
    rw [e] at A'
    exact ⟨by rw [e];exact A',by rw [e];exact .inl rfl,by rw [e];exact rid,fun _ _ hy=>by rw [e] at hy;cases hy⟩
   |true=>
    cases h2:je (ku (oO h a).Props a.Key (gG (oO h a).Ext a.dS (kZ (oO h a).Props a.Key).2.1 (kZ (oO h a).Props a.Key).1).1).2 0 with
    |true=>
     rw [h1,h2] at e
     simp only [Bool.not_true,cond_false,cond_true] at e
     rw [e] at A'
     exact ⟨by rw [e];exact A',by rw [e];exact .inr rfl,by rw [e];exact rid,fun _ _ hy=>by rw [e] at hy;cases hy⟩
    |false=>
     obtain ⟨L2,⟨pf⟩⟩:=Left.put B mm hd h1 (qC.1 h2)
     rw [h1,h2] at e
     simp only [Bool.not_true,cond_false] at e
     rw [e] at A'
     have hc:=GV h1
     refine ⟨by rw [e];exact A',by rw [e];exact .inl rfl,?_,fun _ hak hy=>⟨fun _=>?_,fun h=>by omega⟩⟩
     .rw [e]
      dsimp only
      rw [gt]
      refine ⟨fun hx=>⟨hx,rfl,fun x hm=>?_⟩,fun hf hcf=>?_⟩
      .have hx:(oO h a).Ext=false:=hx
       have hfd:(kZ (oO h a).Props a.Key).2.1=true:=by
        cases hq:(kZ (oO h a).Props a.Key).2.1 with
        |true=>rfl
        |false=>
         have:=(ayV hd (GX B.pd) hc).no hq
         rw [hx] at this;cases this
       exact alB pf hfd x hm
      .dsimp only
       by_cases hkk:k=a.Key
       .subst hkk
        have hf':(kZ (oO h a).Props a.Key).2.1=true:=hf
        rw [pf.me]
        rw [hf'] at hc
        have s:=azq hd (GX B.pd) hc hcf
        dsimp only at s
        rw [hf']
        exact ⟨rfl,s⟩
       .rw [pf.el k hkk]
        exact ⟨hf,hcf,Aa _,rfl,alA (GX B.pd) (Vs B.pp B.pd hf)⟩
     .rw [e]
      dsimp only
      rw [gt]
      dsimp only
      rw [<- hak,pf.me]
  |false=>
  cases m10:dW a.Method 10 with
  |true=>
   have mm:=mD.1 m10
   have hk:=B.ak.key (.inr (.inr mm))
   have hk':iY a.Key=0:=by rw [<- uz];exact hk
   have e:xw h a=(bif (kZ (oO h a).Props a.Key).2.1&&!(kZ (oO h a).Props a.Key).1.Configurable then (h,eu false,0) else (AY h a.Object.toNat {oO h a with Props:=(rV (oO h a).Props a.Key).1},eu true,0)):=by
    rw [<- Zk B hk];unfold xw;rw [m1,m2,m3,m4,m5,m6,m10];rfl
   cases hc:((kZ (oO h a).Props a.Key).2.1&&!(kZ (oO h a).Props a.Key).1.Configurable) with
   |true=>
    rw [hc] at e
    simp only [cond_true] at e
    rw [e] at A'
    exact ⟨by rw [e];exact A',by rw [e];exact .inl rfl,by rw [e];exact rid,fun _ _ hy=>by rw [e] at hy;cases hy⟩
   |false=>
    rw [hc,afI B.pp B.pd hk'] at e
    simp only [cond_false] at e
    rw [e] at A'
    have df:=U_ B.pp B.pd (k:=a.Key)
    refine ⟨by rw [e];exact A',by rw [e];exact .inl rfl,?_,fun _ hak hy=>⟨fun h=>by omega,fun _=>?_⟩⟩
    .rw [e]
     dsimp only
     rw [gt]
     refine ⟨fun hx=>⟨hx,rfl,fun x hm=>?_⟩,fun hf hcf=>?_⟩
     .obtain ⟨p,hp,rfl⟩:=List.mem_map.1 hm
      exact List.mem_map.2 ⟨p,(List.mem_filter.1 hp).1,rfl⟩
     .dsimp only
      by_cases hkk:k=a.Key
      .subst hkk
       have hf':(kZ (oO h a).Props a.Key).2.1=true:=hf
       have avf:(kZ (oO h a).Props a.Key).1.Configurable=false:=hcf
       rw [hf',avf] at hc;cases hc
      .rw [df.el k hkk]
       exact ⟨hf,hcf,Aa _,rfl,alA (GX B.pd) (Vs B.pp B.pd hf)⟩
    .rw [e]
     dsimp only
     rw [gt]
     dsimp only
     rw [<- hak,df.me]
  |false=>
   have e:xw h a=(h,⟨1,v00,false,false,d0,(kH (oO h a).Props).1,0,[]⟩,0):=by unfold xw;rw [m1,m2,m3,m4,m5,m6,m10];rfl
   rw [e] at A'
   exact ⟨by rw [e];exact A',by rw [e];exact .inl rfl,by rw [e];exact rid,fun _ _ hy=>by rw [e] at hy;cases hy⟩
end Go.Fw
end
