
import Derived.Test.YtookhagokgenhaaFwD
import Derived.Lib.ReflectliteSlice
import Derived.Laws.Externs
import Derived.Test.YtookhagokgenhaaFwA
import Derived.Test.YtookhagokgenhaaFwB
import Derived.WideKeyArgs
import Derived.Below
import Derived.RowKit
import Derived.OpenShut
import Derived.ChangeMaps5
import Derived.ChangeSame
import Derived.ProofKit
import Derived.JoinedCond
set_option linter.unusedVariables false
set_option linter.unusedSimpArgs false
set_option linter.unusedSectionVars false
set_option linter.unnecessarySimpa false
section
namespace Go.Fw
variable [jY]
section
variable {P : Program} {ρ:List AV} {X:qO} {inl:Gv} {yB:FuncId->Bool}
def KOk (P:Program)(ρ:List AV)(N:Nat)(k:Pc->t_->Nat->Option Az)(A:mg->AH->Nat->AQ->Prop):Prop:=
 ∀pc st nv x,k pc st nv=some x->Pc.holds ρ pc->jD P ρ x.sd->RJ P ρ x.aw->∀fr ah nx,JY ρ N st fr ah nx->A fr ah nx (IZ ρ N x.outs)
theorem ni {a b:List (Pc×Side)}(h:jD P ρ (a++b)):jD P ρ a:=fun x hx=>h x (by simp [hx])
theorem pX {a b:List (Pc×Side)}(h:jD P ρ (a++b)):jD P ρ b:=fun x hx=>h x (by simp [hx])
theorem ZH {a b:List Lo}(h:RJ P ρ (a++b)):RJ P ρ a:=(aa_.1 h).1
theorem ZI {a b:List Lo}(h:RJ P ρ (a++b)):RJ P ρ b:=(aa_.1 h).2
theorem GI {k:Pc->t_->Nat->Option Az}(hk:∀pc st nv x,k pc st nv=some x->x.outs≠[]):∀{l:List Out} {pc:Pc} {nv:Nat} {x:Az},GH k pc l nv=some x->x.outs≠[]
 |[],pc,nv,x,h=>by simp [GH] at h
 |[o],pc,nv,x,h=>by
  simp only [GH] at h
  cases hn:isN o.e
  .simp only [hn,cond_false,Option.some.injEq] at h;subst h;simp
  .simp only [hn,cond_true] at h;exact hk _ _ _ _ h
 |o::o'::r,pc,nv,x,h=>by
  simp only [GH] at h
  cases hn:isN o.e
  .simp only [hn,cond_false] at h
   split at h
   .cases h
   .simp only [Option.some.injEq] at h;subst h;simp
  .simp only [hn,cond_true] at h
   split at h
   .cases h
   .rename_i y hy
    split at h
    .cases h
    .rename_i z hz
     simp only [Option.some.injEq] at h;subst h
     have:=GI hk hz
     simp [this]
theorem KZ {N:Nat}{k:Pc->t_->Nat->Option Az}{A:mg->AH->Nat->AQ->Prop}(hA:∀fr ah nx (Q Q':AQ),(∀e fr ah nx,Q e fr ah nx->Q' e fr ah nx)->A fr ah nx Q->A fr ah nx Q')
  (hne:∀pc st nv x,k pc st nv=some x->x.outs≠[]) (hk:KOk P ρ N k A):∀{l:List Out} {pc:Pc} {nv:Nat} {x:Az},GH k pc l nv=some x->Pc.holds ρ pc->jD P ρ x.sd->RJ P ρ x.aw->
  ∀e fr ah nx,IZ ρ N l e fr ah nx->VD (fun fr ah nx=>A fr ah nx (IZ ρ N x.outs)) (IZ ρ N x.outs) e fr ah nx
 |[],pc,nv,x,h,hp,hs,ha,e,fr,ah,nx,hsel=>by simp [GH] at h
 |[o],pc,nv,x,h,hp,hs,ha,e,fr,ah,nx,hsel=>by
  obtain ⟨st,h1,h2⟩:=hsel
  simp only [sel,Option.some.injEq,Prod.mk.injEq] at h1
  obtain ⟨rfl,rfl⟩:=h1
  simp only [GH] at h
  cases hn:isN o.e
  .simp only [hn,cond_false,Option.some.injEq] at h;subst h
   have hQ:IZ ρ N [o] o.e fr ah nx:=⟨o.st,rfl,h2⟩
   revert hQ hn
   generalize o.e=e
   intro hn hQ
   cases e<;>first|(simp [isN] at hn;done)|exact hQ
  .simp only [hn,cond_true] at h
   rw [aa8 hn]
   exact hk _ _ _ _ h hp hs ha fr ah nx h2
 |o::o'::r,pc,nv,x,h,hp,hs,ha,e,fr,ah,nx,hsel=>by
  obtain ⟨st,h1,h2⟩:=hsel
  simp only [sel] at h1
  simp only [GH] at h
  cases hn:isN o.e
  .simp only [hn,cond_false] at h
   split at h
   .cases h
   .rename_i y hy
    simp only [Option.some.injEq] at h;subst h
    have ap6:=GI hne hy
    cases hg:(o.g.den ρ).B
    .rw [hg] at h1
     have ih:=KZ hA hne hk hy (gq hg hp) hs ha e fr ah nx ⟨st,h1,h2⟩
     have lift:∀e fr ah nx,IZ ρ N y.outs e fr ah nx->IZ ρ N (o::y.outs) e fr ah nx:=by
      intro e fr ah nx ⟨st,q1,q2⟩
      obtain ⟨z,s,hz⟩:=List.exists_cons_of_ne_nil ap6
      rw [hz] at q1 ⊢
      exact ⟨st,by simp [sel,hg,q1],q2⟩
     cases e with
     |normal=>exact hA _ _ _ _ _ lift ih
     |_=>exact lift _ _ _ _ ih
    .rw [hg] at h1
     simp only [cond_true,Option.some.injEq,Prod.mk.injEq] at h1
     obtain ⟨rfl,rfl⟩:=h1
     obtain ⟨z,s,hz⟩:=List.exists_cons_of_ne_nil ap6
     have hQ:IZ ρ N (o::y.outs) o.e fr ah nx:=⟨o.st,by rw [hz];simp [sel,hg],h2⟩
     revert hQ hn
     generalize hoe:o.e=e
     intro hn hQ
     cases e<;>first|(simp [isN] at hn;done)|exact hQ
  .simp only [hn,cond_true] at h
   split at h
   .cases h
   .rename_i y hy
    split at h
    .cases h
    .rename_i z hz
     simp only [Option.some.injEq] at h;subst h
     have awJ:=GI hne hz
     cases hg:(o.g.den ρ).B
     .rw [hg] at h1
      have ih:=KZ hA hne hk hz (gq hg hp) (pX hs) (ZI ha) e fr ah nx ⟨st,h1,h2⟩
      have lift:∀e fr ah nx,IZ ρ N z.outs e fr ah nx->IZ ρ N (B_ o.g y.outs++z.outs) e fr ah nx:=by
       intro e fr ah nx ⟨st,q1,q2⟩
       exact ⟨st,by rw [Ar awJ,hg];simpa using q1,q2⟩
      cases e with
      |normal=>exact hA _ _ _ _ _ lift ih
      |_=>exact lift _ _ _ _ ih
     .rw [hg] at h1
      simp only [cond_true,Option.some.injEq,Prod.mk.injEq] at h1
      obtain ⟨rfl,rfl⟩:=h1
      rw [aa8 hn]
      refine hA _ _ _ _ _ (fun e fr ah nx ⟨st,q1,q2⟩=>⟨st,?_,q2⟩) (hk _ _ _ _ hy (gq hg hp) (ni hs) (ZH ha) fr ah nx h2)
      have ap6:y.outs≠[]:=aub q1
      rw [Ar awJ,hg]
      simpa [ap6] using q1
theorem adt {l:List (Tm×RQ)}:sel ρ (l.map fun x=>(⟨x.1,.normal,⟨x.2.tr,x.2.th,x.2.nx⟩⟩:Out))=(tJ ρ l).map fun R=>(Exit.normal,(⟨R.tr,R.th,R.nx⟩:t_)):=by
 induction l with
 |nil=>rfl
 |cons x l ih=>
  cases l with
  |nil=>rfl
  |cons y r=>
   simp only [List.map_cons,sel,tJ] at ih ⊢
   rw [ih]
   cases (x.1.den ρ).B<;>rfl
theorem ap7 (l:Nat)(e:Exit):swE l (swE l e)=e:=by
 cases e with
 |normal=>simp [swE]
 |goto m=>
  simp only [swE]
  cases h:Nat.beq m l
  .simp [swE,h]
  .simp only [cond_true,swE]
   rw [Nat.eq_of_beq_eq_true h]
 |_=>rfl
theorem ah5 {l:Nat}:∀{o:List Out},sel ρ (swO l o)=(sel ρ o).map fun x=>(swE l x.1,x.2)
 |[]=>rfl
 |[x]=>rfl
 |x::y::r=>by
  have ih:=ah5 (l:=l) (o:=y::r)
  simp only [swO,List.map_cons,sel] at ih ⊢
  rw [ih]
  cases (x.g.den ρ).B<;>rfl
theorem IZ.sw {N l:Nat}{o:List Out}{e:Exit}{fr:mg}{ah:AH}{nx:Nat}(h:IZ ρ N o e fr ah nx):IZ ρ N (swO l o) (swE l e) fr ah nx:=by
 obtain ⟨st,h1,h2⟩:=h
 exact ⟨st,by rw [ah5,h1];rfl,h2⟩
theorem K_ : ∀{o:List Out} {x:Exit×t_},RN o=none->sel ρ o=some x->∀l,x.1≠.goto l
 |[],x,h,hs,l=>by simp [sel] at hs
 |[y],x,h,hs,l=>by
  simp only [sel,Option.some.injEq] at hs;subst hs
  simp only [RN] at h
  split at h
  .cases h
  .rename_i hn;exact hn l
 |y::z::r,x,h,hs,l=>by
  rw [RN] at h
  split at h
  .cases h
  .rename_i hn
   simp only [sel] at hs
   cases hb:(y.g.den ρ).B
   .rw [hb] at hs;exact K_ h hs l
   .rw [hb] at hs;simp only [cond_true,Option.some.injEq] at hs;subst hs;exact hn l
theorem abd {run:Pc->t_->Nat->Code->Option Az}{c:Code}(hne:∀pc st nv c x,run pc st nv c=some x->x.outs≠[]):∀{n:Nat} {pc:Pc} {outs:List Out} {nv:Nat} {y:Az},outs≠[]->adi run c n pc outs nv=some y->y.outs≠[]
 |0,pc,outs,nv,y,_,h=>by simp [adi] at h
 |n+1,pc,outs,nv,y,ho,h=>by
  simp only [adi] at h
  split at h
  .simp only [Option.some.injEq] at h;subst h;exact ho
  .split at h
   .cases h
   .split at h
    .cases h
    .rename_i y0 hy
     split at h
     .simp only [Option.some.injEq] at h;subst h
      have:y0.outs≠[]:=GI (fun pc st nv x hx=>by
       split at hx
       .cases hx
       .rename_i x1 hx1
        split at hx
        .cases hx
        .rename_i y1 hy1
         simp only [Option.some.injEq] at hx;subst hx
         have:=abd hne (hne _ _ _ _ _ hx1) hy1
         simp [swO,this]) hy
      simp [swO,this]
     .cases h
theorem ah6 {N:Nat}{run:Pc->t_->Nat->Code->Option Az}{c:Code}(hrun:∀c,KOk P ρ N (fun pc st nv=>run pc st nv c) fun fr ah nx Q=>AW P c fr ah nx Q)(hne:∀pc st nv c x,run pc st nv c=some x->x.outs≠[]) :
  ∀{n:Nat} {pc:Pc} {outs:List Out} {nv:Nat} {y:Az},adi run c n pc outs nv=some y->Pc.holds ρ pc->jD P ρ y.sd->RJ P ρ y.aw->∀e fr ah nx,IZ ρ N outs e fr ah nx->ajn P c (IZ ρ N y.outs) e fr ah nx
 |0,pc,outs,nv,y,h,_,_,_,_,_,_,_,_=>by simp [adi] at h
 |n+1,pc,outs,nv,y,h,hp,hs,haw,e,fr,ah,nx,hsel=>by
  simp only [adi] at h
  split at h
  .rename_i hg
   simp only [Option.some.injEq] at h;subst h
   obtain ⟨st,h1,h2⟩:=hsel
   have:=K_ hg h1
   cases e with
   |goto l=>exact absurd rfl (this l)
   |_=>exact ⟨st,h1,h2⟩
  .rename_i l hl
   split at h
   .cases h
   .rename_i rest hf
    split at h
    .cases h
    .rename_i y0 hy0
     split at h
     .rename_i hgn
      simp only [Option.some.injEq] at h;subst h
      have key:=KZ (P:=P) (ρ:=ρ) (N:=N) (A:=fun fr ah nx Q=>DL P c rest fr ah nx (fun e fr ah nx=>Q (swE l e) fr ah nx))
       (fun _ _ _ _ _ hQ h=>DL.mono h fun e=>hQ (swE l e)) (fun pc st nv x hx=>by
        split at hx
        .cases hx
        .rename_i x1 hx1
         split at hx
         .cases hx
         .rename_i y1 hy1
          simp only [Option.some.injEq] at hx;subst hx
          have:=abd hne (hne _ _ _ _ _ hx1) hy1
          simp [swO,this])
       (fun pc st nv x hx hp hs haw fr ah nx hst=>by
        split at hx
        .cases hx
        .rename_i x1 hx1
         split at hx
         .cases hx
         .rename_i y1 hy1
          simp only [Option.some.injEq] at hx;subst hx
          refine TD (AW.mono (hrun rest _ _ _ _ hx1 hp (ni hs) (ZH haw) fr ah nx hst) fun e fr ah nx hsel=>?_)
          have ih:=ah6 hrun hne hy1 hp (pX hs) (ZI haw) e fr ah nx hsel
          cases e with
          |goto m=>
           simp only [ajn] at ih ⊢
           split
           .rename_i r hr
            rw [hr] at ih
            exact DL.mono ih fun e fr ah nx h=>h.sw
           .rename_i hr
            rw [hr] at ih
            exact ih.sw
          |_=>exact IZ.sw ih) hy0 hp hs haw (swE l e) fr ah nx hsel.sw
      have conv:∀e fr ah nx,IZ ρ N y0.outs (swE l e) fr ah nx->IZ ρ N (swO l y0.outs) e fr ah nx:=by
       intro e fr ah nx h
       have:=h.sw (l:=l)
       rwa [ap7] at this
      cases e with
      |normal=>exact conv .normal _ _ _ key
      |goto m=>
       by_cases hm:m=l
       .subst hm
        simp only [swE,Nat.beq_refl,cond_true] at key
        simp only [ajn,hf]
        exact DL.mono key conv
       .have hb:Nat.beq m l=false:=by
         cases hb:Nat.beq m l
         .rfl
         .exact absurd (Nat.eq_of_beq_eq_true hb) hm
        have e1:swE l (.goto m)=.goto m:=by simp [swE,hb]
        rw [e1] at key
        have k2:IZ ρ N (swO l y0.outs) (.goto m) fr ah nx:=conv (.goto m) _ _ _ (by rw [e1];exact key)
        obtain ⟨st,q1,q2⟩:=k2
        exact absurd rfl (K_ hgn q1 m)
      |exit id=>exact conv (.exit id) _ _ _ key
      |ret=>exact conv .ret _ _ _ key
      |panic ch=>exact conv (.panic ch) _ _ _ key
      |outgrown=>exact conv .outgrown _ _ _ key
     .cases h
theorem ap8 {N:Nat}{pc:Pc}{st:t_}{nv:Nat}{id:Nat}{ops:Array Oper}{draw:Bool}{x:Az}(hm:P.follows .mixedOrders=true)(hρ:iW ρ=true)(hX:o7 P ρ X)(hI:oH P ρ inl)(h:ap0 P X inl yB N pc st nv ops draw=some x)
  (hp:Pc.holds ρ pc) (hs:jD P ρ x.sd) {fr:mg} {ah:AH} {nx:Nat} (hst:JY ρ N st fr ah nx):AW P (.region id ops draw) fr ah nx (IZ ρ N x.outs):=by
 refine WB hst fun Ie oJ hf ha hN=>?_
 unfold ap0 at h
 split at h
 .cases h
 .rename_i R hR
  simp only [Option.some.injEq] at h;subst h
  cases draw with
  |true=>
   simp only [cond_true] at hR
   cases hc:EF ops&&Iu ops (aDv ops.toList [])
   .simp [hc] at hR
   .simp only [hc,cond_true] at hR
    simp only [Bool.and_eq_true] at hc
    intro base w E a jG
    refine wp_region_any hm ?_
    obtain ⟨d1,d2⟩:=ahp jG.heap (w.drawn+1)
    obtain ⟨R',L,TQ,TR,q1,q2,q3,q4,q5,q6,q7,q8,q9⟩:=Gy (P:=P) (base:=base) hρ hX hI ops.toList 0 Ie oJ hR hp hs hf ha hN (by simp)
    have hsz:L.length=ops.size:=by rw [q2];simp
    have get:∀k,k<ops.size->∃o r,ops[k]?=some o/\L[k]?=some r/\KQ P ops base (aDv ops.toList []) 0 ops.toList L TQ TR R'.nx [] [] [] k o r:=fun k hk=>by
     have h1:ops[k]?=some ops[k]:=by simp [hk]
     have h2:L[k]?=some L[k]:=by simp [hsz,hk]
     exact ⟨_,_,h1,h2,q9 k _ _ (by simpa using h1) h2⟩
    have atS:∀{α:Type} (f:DV->α) (e:α) (k:Nat) (r:DV),L[k]?=some r->IX f L e k=f r:=fun f e k r h=>by unfold IX;rw [h]
    have awK:∀k,k<ops.size->IX (·.nx) L R'.nx k<=IX (·.nx) L R'.nx (k+1):=fun k hk=>by
     obtain ⟨o,r,h1,h2,g⟩:=get k hk
     rw [atS _ _ k r h2];exact g.nx
    have mono:∀n m,m+n<=ops.size->IX (·.nx) L R'.nx m<=IX (·.nx) L R'.nx (m+n):=by
     intro n
     induction n with
     |zero=>intro m _;exact Nat.le_refl _
     |succ n ih=>intro m hm;exact Nat.le_trans (ih m (by omega)) (awK (m+n) (by omega))
    have hend:IX (·.nx) L R'.nx ops.size=R'.nx:=by unfold IX;rw [List.getElem?_eq_none (by omega)]
    have awL:IX (·.fr) L TQ ops.size=TQ:=by unfold IX;rw [List.getElem?_eq_none (by omega)]
    have awM:IX (·.ah) L TR ops.size=TR:=by unfold IX;rw [List.getElem?_eq_none (by omega)]
    have hL:ajk P ops base (aDv ops.toList []) (fun b=>st.nx<=b) (fun k=>IX (·.fr) L TQ k) (fun k=>IX (·.ah) L TR k) (fun k=>IX (·.rv) L eP k) (fun k=>IX (·.WR) L (fun _=>false) k) (fun k=>IX (·.RD) L (fun _=>false) k)
      (fun k=>IX (·.NEW) L (fun _=>False) k) (fun k=>IX (·.oO) L (fun _=>False) k):=by
     refine ⟨fun j o ho=>?_,fun j o ho=>?_,fun j b hj=>?_,fun j hj j' hj'=>?_,fun j b hj=>?_,fun x y hx hy hxy=>?_⟩
     .have hj:=(Array.getElem?_eq_some_iff.1 ho).1
      obtain ⟨o',r,h1,h2,g⟩:=get j hj
      rw [ho] at h1;cases h1
      simp only [atS _ _ j r h2]
      have:=g.step
      rw [Nat.zero_add] at this
      exact this
     .have hj:=(Array.getElem?_eq_some_iff.1 ho).1
      obtain ⟨o',r,h1,h2,g⟩:=get j hj
      rw [ho] at h1;cases h1
      simp only [atS _ _ j r h2]
      exact g.fr
     .obtain ⟨o,r,h1,h2,g⟩:=get j hj
      simp only [atS _ _ j r h2]
      exact g.ah b
     .obtain ⟨o,r,h1,h2,g⟩:=get j hj
      obtain ⟨o',r',h1',h2',g'⟩:=get j' (by omega)
      simp only [atS _ _ j r h2,atS _ _ j' r' h2']
      have:=(g.prev j' r' hj' h2').1
      rw [Nat.zero_add,Nat.zero_add] at this
      exact this
     .obtain ⟨o,r,h1,h2,g⟩:=get j hj
      simp only [atS _ _ j r h2]
      intro hb
      have e1:=g.req b hb
      have e2:=mono j 0 (by omega)
      rw [Nat.zero_add,q8,atS _ _ j r h2] at e2
      exact Nat.le_trans e2 e1
     .obtain ⟨ox,rx,hx1,hx2,gx⟩:=get x hx
      obtain ⟨oy,ry,hy1,hy2,gy⟩:=get y hy
      simp only [atS _ _ x rx hx2,atS _ _ y ry hy2]
      rcases Nat.lt_or_gt_of_ne hxy with hlt|hgt
      .refine .inr fun b hb hn=>?_
       have e1:=gx.new b hn
       have e2:=gy.req b hb
       have e3:=mono (y-(x+1)) (x+1) (by omega)
       rw [show x+1+(y-(x+1))=y by omega,atS _ _ y ry hy2] at e3
       have:b<ry.nx:=Nat.lt_of_lt_of_le e1 e3
       omega
      .cases hcy:ry.call with
       |true=>
        rcases (gx.prev y ry hgt hy2).2.1 hcy with h|h
        .rw [Nat.zero_add,Nat.zero_add] at h;exact .inl h
        .exact .inr fun b hb hn=>h b hb hn
       |false=>
        cases hcx:rx.call with
        |true=>
         rcases (gx.prev y ry hgt hy2).2.2 hcx with h|h
         .rw [Nat.zero_add,Nat.zero_add] at h;exact .inl h
         .exact .inr fun b hb=>(h b hb).elim
        |false=>
         refine .inr fun b hb hn=>?_
         have e1:=(gy.plain hcy).1 b hb
         have e2:=(gx.plain hcx).2 b hn
         have e3:=mono (x-(y+1)) (y+1) (by omega)
         rw [show y+1+(x-(y+1))=x by omega,atS _ _ x rx hx2] at e3
         have:b<rx.nx:=Nat.lt_of_lt_of_le e1 e3
         omega
    refine ajm hc.1 hc.2 hL (by simp only [q7];exact d2) (by simp only [q6];exact jG.fr.mono d1.ext) (fun a' w' hp'=>?_)
    obtain ⟨E',p1,p2,p3,p4⟩:=hp'
    simp only [awL,awM] at p2 p3
    refine ⟨E',TQ,TR,R'.nx,⟨⟨R'.tr,R'.th,R'.nx⟩,by rw [adt,q1];rfl,JY.of q3 q4 q5 (Nat.le_refl _)⟩,⟨p2.weaken fun b hb=>⟨?_,fun i hi hn=>?_⟩,p3,by rw [p4];exact jG.defers⟩,d1.trans p1⟩
    .have:=mono ops.size 0 (by omega)
     rw [Nat.zero_add,hend,q8] at this
     exact Nat.le_trans this hb
    .obtain ⟨o,r,h1,h2,g⟩:=get i hi
     rw [atS _ _ i r h2] at hn
     have e1:=g.new b hn
     have e3:=mono (ops.size-(i+1)) (i+1) (by omega)
     rw [show i+1+(ops.size-(i+1))=ops.size by omega,hend] at e3
     have:b<R'.nx:=Nat.lt_of_lt_of_le e1 e3
     have hb':R'.nx<=b:=hb
     omega
  |false=>
   simp only [cond_false] at hR
   intro base w E a jG
   refine wp_region ?_
   have:=EO (yB:=yB) (Q:=Ju base w E (IZ ρ N (R.outs.map fun x=>⟨x.1,.normal,⟨x.2.tr,x.2.th,x.2.nx⟩⟩))) (base:=base) hρ hX hI ops.toList 0 Ie oJ w E a hR hp hs hf ha hN (by simp) jG.heap jG.fr (fun R' hR' a' w' hpost=>?_)
   .simpa [List.range_eq_range'] using this
   .obtain ⟨E',fr',fV,q1,q2,q3,q4,q5,q6,q7⟩:=hpost
    exact ⟨E',fr',fV,R'.nx,⟨⟨R'.tr,R'.th,R'.nx⟩,by rw [adt,hR'];rfl,JY.of q1 q2 q3 (Nat.le_refl _)⟩,⟨q5,q6,by rw [q7];exact jG.defers⟩,q4⟩
def I8 (P:Program)(c:Code)(Q:AQ):Nat->mg->AH->Nat->Prop
 |0,_,_,_=>False
 |n+1,fr,ah,nx=>AW P c fr ah nx (VD (I8 P c Q n) Q)
theorem OL {K K':mg->AH->Nat->Prop}{Q Q':AQ}(hK:∀fr ah nx,K fr ah nx->K' fr ah nx)(hQ:∀e fr ah nx,Q e fr ah nx->Q' e fr ah nx):∀e fr ah nx,VD K Q e fr ah nx->VD K' Q' e fr ah nx:=by
 intro e fr ah nx h
 cases e<;>first|exact hK _ _ _ h|exact hQ _ _ _ _ h
theorem PY {c:Code}{Q Q':AQ}(hQ:∀e fr ah nx,Q e fr ah nx->Q' e fr ah nx):∀{n:Nat} {fr:mg} {ah:AH} {nx:Nat},I8 P c Q n fr ah nx->I8 P c Q' n fr ah nx
 |0,_,_,_,h=>h
 |n+1,fr,ah,nx,h=>AW.mono h (OL (fun _ _ _ h=>PY hQ h) hQ)
theorem Iw.refl : ∀fr:mg,Iw fr fr
 |[]=>trivial
 |none::r=>Iw.refl r
 |some a::r=>⟨rfl,Iw.refl r⟩
theorem akc {c:Code}{Q:AQ}{n:Nat}{fr:mg}{ah:AH}{nx:Nat}(h:I8 P c Q n fr ah nx):AW P (.loop c) fr ah nx Q:=by
 refine apv (fun n fr ah nx=>I8 P c Q n fr ah nx) n fr (Iw.refl fr) h fun n fr ah nx h K hK=>?_
 cases n with
 |zero=>exact h.elim
 |succ n=>exact AW.mono h (OL (fun fr ah nx h=>hK fr ah nx ⟨n,Nat.lt_succ_self n,fr,Iw.refl fr,h⟩) fun _ _ _ _ h=>h)
theorem WJ {body:Pc->t_->Nat->Option Az}:∀{m:Nat} {pc:Pc} {st:t_} {nv:Nat} {x:Az},PX body m pc st nv=some x->x.outs≠[]
 |0,pc,st,nv,x,h=>by simp [PX] at h
 |m+1,pc,st,nv,x,h=>by
  simp only [PX] at h
  split at h
  .cases h
  .split at h
   .cases h
   .rename_i y hy
    simp only [Option.some.injEq] at h;subst h
    exact (GI (k:=PX body m) (fun _ _ _ _ h=>WJ h) hy:y.outs≠[])
theorem adu {N:Nat}{body:Pc->t_->Nat->Option Az}{c:Code}(hb:KOk P ρ N body fun fr ah nx Q=>AW P c fr ah nx Q):∀{m:Nat},KOk P ρ N (PX body m) fun fr ah nx Q=>I8 P c Q m fr ah nx
 |0=>fun pc st nv x h=>by simp [PX] at h
 |m+1=>fun pc st nv x h hp hs ha fr ah nx hst=>by
  simp only [PX] at h
  split at h
  .cases h
  .rename_i x1 hx1
   split at h
   .cases h
   .rename_i y hy
    simp only [Option.some.injEq] at h;subst h
    refine AW.mono (hb _ _ _ _ hx1 hp (ni hs) (ZH ha) fr ah nx hst) fun e fr ah nx hsel=>?_
    exact KZ (A:=fun fr ah nx Q=>I8 P c Q m fr ah nx) (fun _ _ _ _ _ hQ h=>PY hQ h) (fun _ _ _ _ h=>WJ h) (adu hb) hy hp (pX hs) (ZI ha) e fr ah nx hsel
theorem WL {tr:Tr qo}:∀{l:List Nat} {t:Nat} {e:qo},(Tr.only tr l).get t=some e->tr.get t=some e
 |[],t,e,h=>by simp [Tr.only,Tr.get] at h
 |s::r,t,e,h=>by
  simp only [Tr.only] at h
  split at h
  .rename_i x hx
   rcases Tr.pW _ _ _ _ _ _ h with ⟨rfl,h1⟩|⟨-,h1⟩
   .simp only [Option.some.injEq] at h1;subst h1;exact hx
   .exact WL h1
  .exact WL h
theorem GK {th:Tr SB}:∀{n:Nat} {l:List Nat} {acc:Tr SB},(∀b k,acc.get b=some k->th.get b=some k)->∀b k,(aDy th n l acc).get b=some k->th.get b=some k
 |0,l,acc,h=>h
 |n+1,[],acc,h=>h
 |n+1,b::r,acc,h=>by
  simp only [aDy]
  split
  .exact GK h
  .split
   .exact GK h
   .rename_i k hk
    refine GK fun j y hj=>?_
    rcases Tr.pW _ _ _ _ _ _ hj with ⟨rfl,h1⟩|⟨-,h1⟩
    .simp only [Option.some.injEq] at h1;subst h1;exact hk
    .exact h _ _ h1
theorem JY.only {N:Nat}{st:t_}{fr:mg}{ah:AH}{nx:Nat}(h:JY ρ N st fr ah nx)(l:List Nat):JY ρ N (st.only l) fr ah nx:=
 ⟨fun t e he=>h.fr t e (WL he),fun b k hk=>h.ah b k (GK (acc:=.e) (fun b k h=>by simp [Tr.get] at h) b k hk),h.len,h.nx⟩
theorem ZJ {id:Nat}:∀{l:List Out},sel ρ (leave id l)=(sel ρ l).map fun x=>(lvE id x.1,x.2)
 |[]=>rfl
 |[o]=>rfl
 |o::o'::r=>by
  have ih:=ZJ (id:=id) (l:=o'::r)
  simp only [leave,List.map_cons,sel] at ih ⊢
  rw [ih]
  cases hb:(o.g.den ρ).B<;>rfl
theorem IZ.leave {N id:Nat}{l:List Out}{e:Exit}{fr:mg}{ah:AH}{nx:Nat}(h:IZ ρ N l e fr ah nx):AIn id (IZ ρ N (Go.Fw.leave id l)) e fr ah nx:=by
 obtain ⟨st,h1,h2⟩:=h
 have e1:=ZJ (ρ:=ρ) (id:=id) (l:=l)
 rw [h1] at e1
 cases e with
 |exit j=>
  simp only [AIn]
  split
  .rename_i hj;subst hj;exact ⟨st,by rw [e1];simp [lvE],h2⟩
  .rename_i hj
   refine ⟨st,?_,h2⟩
   rw [e1]
   have:Nat.beq j id=false:=by
    cases hb:Nat.beq j id
    .rfl
    .exact absurd (Nat.eq_of_beq_eq_true hb) hj
   simp [lvE,this]
 |_=>exact ⟨st,e1,h2⟩
theorem UY {keep:Kp}:∀{l:List Out},l≠[]->OJ keep l≠[]
 |[],h=>absurd rfl h
 |o::r,_=>by
  unfold OJ
  cases isN o.e
  .simp
  .simp only [cond_true]
   split
   .simp
   .rename_i l n _
    cases isN n.e
    .simp
    .simp only [cond_true];split<;>simp
theorem amS {cs:t_}{nv k q:Nat}{x:Exit×DW}{r:List (Exit×DW)}:ER cs nv k q (x::r)≠[]:=by cases r<;>simp [ER]
theorem amT {N:Nat}{pc:Pc}{st:t_}{nv id:Nat}{b:Code}{x:Az}(h:adl P N pc st nv id b=some x):x.outs≠[]:=by
 unfold adl at h
 split at h
 .cases h
 .unfold af_ at h
  split at h
  .split at h
   .split at h
    .rw [Bool.cond_eq_ite] at h
     split at h
     .split at h
      .simp only [Option.some.injEq] at h;subst h;simp
      .cases h
     .cases h
    .cases h
   .cases h
  .cases h
theorem uS {G:Cfg}{F:BD}:∀{n:Nat} {pc:Pc} {st:t_} {nv:Nat} {c:Code} {x:Az},uQ P G F n pc st nv c=some x->x.outs≠[]
 |0,pc,st,nv,c,x,h=>by simp [uQ] at h
 |n+1,pc,st,nv,c,x,h=>by
  unfold uQ at h
  split at h
  .simp only [Option.some.injEq] at h;subst h;simp
  .simp only [Option.some.injEq] at h;subst h;simp
  .simp only [Option.some.injEq] at h;subst h;simp
  .unfold ap0 at h
   rename_i id ops draw
   split at h
   .cases h
   .rename_i S hS
    simp only [Option.some.injEq] at h;subst h
    have:S.outs≠[]:=by
     cases draw
     .exact yP hS
     .simp only [cond_true] at hS
      generalize (EF ops&&Iu ops (aDv ops.toList []))=q at hS
      cases q
      .cases hS
      .exact Gx hS
    simp [this]
  .split at h
   .cases h
   .split at h
    .cases h
    .rename_i y hy
     simp only [Option.some.injEq] at h;subst h
     exact UY (GI (fun _ _ _ _ h=>uS h) hy)
  .split at h
   .split at h
    .exact uS h
    .exact uS h
    .split at h
     .cases h
     .split at h
      .cases h
      .rename_i y hy
       simp only [Option.some.injEq] at h;subst h
       refine UY ?_
       have:=uS hy
       simp [UR,this]
   .cases h
  .split at h
   .rename_i c hh hm
    dsimp only at h
    split at h
    .cases h
    .split at h
     .cases h
     .split at h
      .rename_i x r hxs
       simp only [Option.some.injEq] at h;subst h
       rw [hxs]
       exact amS
      .cases h
   .split at h
    .rename_i y hy
     simp only [Option.some.injEq] at h;subst h
     exact amT hy
    .split at h
     .cases h
     .rename_i y hy
      simp only [Option.some.injEq] at h;subst h
      refine UY ?_
      have:=uS hy
      simp [leave,this]
  .simp only [Option.some.injEq] at h;subst h;simp
  .simp only [Option.some.injEq] at h;subst h;simp
  .split at h
   .cases h
   .rename_i x1 hx1
    split at h
    .cases h
    .rename_i y hy
     simp only [Option.some.injEq] at h;subst h
     exact UY (abd (fun _ _ _ _ _ h=>uS h) (uS hx1) hy)
  .exact WJ h
  .cases h
end
section
variable {P : Program}
theorem amU {N:Nat}{ρ:List AV}{pc:Pc}{st:t_}{nv id:Nat}{b:Code}{x:Az}{fr:mg}{ah:AH}{nx:Nat}(hp:pc.holds ρ)(hs:jD P ρ x.sd)(hst:JY ρ N st fr ah nx)(h:adl P N pc st nv id b=some x) :
  AW P (.block id b) fr ah nx (IZ ρ N x.outs):=by
 unfold adl at h
 split at h
 .cases h
 rename_i m hm
 obtain ⟨r1,r2,r3,id5,o1,o2,p1,p2,p3,q1,q2,q3,q4,hmo,rfl⟩:=adk hm
 refine WB hst fun fr ah hf ha hN=>?_
 unfold af_ at h
 split at h
 .rename_i q sq bd len h1 h2
  split at h
  .rename_i mb n d h3 h4
   split at h
   .rename_i mk t h5
    rw [Bool.cond_eq_ite] at h
    split at h
    case isFalse=>cases h
    case isTrue hg=>
     split at h
     .rename_i e9 hT hTB
      simp only [Option.some.injEq] at h;subst h
      simp only [Bool.and_eq_true,List.all_eq_true,Bool.not_eq_true',List.contains_eq_mem,decide_eq_false_iff_not] at hg
      obtain ⟨g1,g2,g3,g4,g5,g6,g7,g8,g9⟩:=hg
      have bne:∀{a b:Nat},Nat.beq a b=false->a≠b:=fun {a b} h e=>by subst e;simp at h
      obtain rfl:=Tm.beq_eq g1
      obtain ⟨k1,k2,k3,k4⟩:=hs (pc,.mark mk t d len (.var nv [])) (by simp) hp
      have hq:jw fr m.it=some (.op q sq 0 0):=iV hp hf h1
      have hD:jw fr m.tD=some (.os bd 1 0 (len.den ρ).I.toNat):=iV hp hf h2
      have hqa:ah q=some (.it mb ((t.den ρ).R.map (rW mk)).length 0):=by
       rw [ha _ _ h3];simp [SB.den,Tm.den,D.I,mZ]
      refine apY (es:=(t.den ρ).R.map (rW mk)) (rs:=(d.den ρ).R) hmo (fun t ht=>by rw [hN];exact Nat.le_of_ble_eq_true (g2 t ht)) g3 g4 (bne g5) (bne g6) hq hqa (ha _ _ h5) hD (ha _ _ h4) k1 hT hTB k2 (bne g7) (bne g8) (bne g9) ?_
      intro fr' rs' hl hfr hrl hrs
      refine ⟨_,rfl,JY.of (fun t e he=>?_) (fun b k hk=>?_) (hl.trans hN) (Nat.le_refl _)⟩
      .obtain ⟨h6,h7⟩:=WE he
       rw [hfr t h6];exact hf t e h7
      .rcases Tr.pW _ _ _ _ _ _ hk with ⟨rfl,h6⟩|⟨hne,h6⟩
       .simp only [Option.some.injEq] at h6;subst h6
        rw [rC rfl]
        have:rs'=(Tm.den ρ (.var nv [])).R:=by
         apply List.ext_getElem?
         intro i
         by_cases hi:i<(d.den ρ).R.length
         .rw [hrs i hi,k4 i hi]
         .rw [List.getElem?_eq_none (by omega),List.getElem?_eq_none (by omega)]
        rw [this];rfl
       .rw [aDs hne]
        rcases Tr.pW _ _ _ _ _ _ h6 with ⟨_,h7⟩|⟨hne2,h7⟩
        .cases h7
        .rw [aDs hne2];exact ha _ _ h7
     .cases h
   .cases h
  .cases h
 .cases h
theorem o8 {G:Cfg}{F:BD}(hm:P.follows .mixedOrders=true)(hX:∀σ:List AV,iW σ=true->o7 P σ G.X)(hI:∀σ:List AV,iW σ=true->oH P σ G.inl):∀{n:Nat} {c:Code} {ρ:List AV},iW ρ=true->KOk P ρ F.N (fun pc st nv=>uQ P G F n pc st nv c) fun fr ah nx Q=>AW P c fr ah nx Q
 |0,c,ρ,hρ=>fun pc st nv x h=>by simp [uQ] at h
 |n+1,c,ρ,hρ=>fun pc st nv x h hp hs ha fr ah nx hst=>by
  unfold uQ at h
  dsimp only at h
  split at h
  .simp only [Option.some.injEq] at h;subst h;exact aaH ⟨st,rfl,hst⟩
  .simp only [Option.some.injEq] at h;subst h;exact apt ⟨st,rfl,hst⟩
  .simp only [Option.some.injEq] at h;subst h;exact VE ⟨st,rfl,hst⟩
  .exact ap8 hm hρ (hX ρ hρ) (hI ρ hρ) h hp hs hst
  .split at h
   .cases h
   .rename_i x1 hx1
    split at h
    .cases h
    .rename_i y hy
     simp only [Option.some.injEq] at h;subst h
     refine yF (AW.mono (o8 hm hX hI hρ _ _ _ _ hx1 hp (ni hs) (ZH ha) fr ah nx hst) fun e fr ah nx hsel=>?_)
     have:=KZ (A:=fun fr ah nx Q=>AW P _ fr ah nx Q) (fun _ _ _ _ _ hQ h=>AW.mono h hQ) (fun _ _ _ _ h=>uS h) (o8 hm hX hI hρ) hy hp (pX hs) (ZI ha) e fr ah nx hsel
     exact OL (fun fr ah nx h=>AW.mono h fun _ _ _ _ h=>yQ h) (fun _ _ _ _ h=>yQ h) _ _ _ _ this
  .split at h
   .rename_i t ht
    refine WB hst fun Ie oJ hf hah hN=>?_
    have hev:=iV hp hf ht
    have ap9:JY ρ F.N st Ie oJ st.nx:=JY.of hf hah hN (Nat.le_refl _)
    refine aaI (t.den ρ).B hev ?_
    split at h
    .rename_i hk
     rw [if_pos (Pc.gQ hp hk)]
     exact o8 hm hX hI hρ _ _ _ _ h hp hs ha Ie oJ _ ap9
    .rename_i hk
     rw [if_neg (by rw [Pc.gQ hp hk];simp)]
     exact o8 hm hX hI hρ _ _ _ _ h hp hs ha Ie oJ _ ap9
    .split at h
     .cases h
     .rename_i x1 hx1
      split at h
      .cases h
      .rename_i y hy
       simp only [Option.some.injEq] at h;subst h
       have n1:=uS hx1
       have n2:=uS hy
       cases hb:(t.den ρ).B
       .rw [if_neg (by simp)]
        refine AW.mono (o8 hm hX hI hρ _ _ _ _ hy (gq hb hp) (pX hs) (ZI ha) Ie oJ _ ap9) fun e fr ah nx ⟨st',q1,q2⟩=>yQ ⟨st',?_,q2⟩
        rw [ahS n1 n2,hb];simpa using q1
       .rw [if_pos rfl]
        refine AW.mono (o8 hm hX hI hρ _ _ _ _ hx1 (gq hb hp) (ni hs) (ZH ha) Ie oJ _ ap9) fun e fr ah nx ⟨st',q1,q2⟩=>yQ ⟨st',?_,q2⟩
        rw [ahS n1 n2,hb];simpa using q1
   .cases h
  .rename_i id b
   split at h
   .rename_i c' hh hmm
    split at h
    .cases h
    .rename_i ent hent
     split at h
     .cases h
     .rename_i x1 hx1
      split at h
      .rename_i outs y r hcls hxs
       simp only [Option.some.injEq] at h;subst h
       obtain ⟨rfl,-⟩:=aj9 hmm
       refine aj_ hρ hp hent hcls (fun s hm=>hs (pc,s) (List.mem_map.2 ⟨s,hm,rfl⟩) hp) (fun x hx=>List.mem_append_right _ hx) (fun σ hσ h1 h2 h3 fr ah nx h4=>o8 hm hX hI hσ _ _ _ _ hx1 h1 (ni h2) h3 fr ah nx h4) ?_ rfl hst
       exact ha.1
      .cases h
   .split at h
    .rename_i y hy
     simp only [Option.some.injEq] at h;subst h
     exact amU hp hs hst hy
    .split at h
     .cases h
     rename_i y hy
     simp only [Option.some.injEq] at h;subst h
     refine acs (AW.mono (o8 hm hX hI hρ _ _ _ _ hy hp hs ha fr ah nx hst) fun e fr ah nx hsel=>?_)
     have:=IZ.leave (id:=id) hsel
     cases e with
     |exit j=>
      simp only [AIn] at this ⊢
      split
      .rename_i hj;rw [if_pos hj] at this;exact yQ this
      .rename_i hj;rw [if_neg hj] at this;exact yQ this
     |_=>exact yQ this
  .simp only [Option.some.injEq] at h;subst h;exact alD ⟨st,rfl,hst⟩
  .simp only [Option.some.injEq] at h;subst h;exact apu ⟨st,rfl,hst⟩
  .split at h
   .cases h
   .rename_i x1 hx1
    split at h
    .cases h
    .rename_i y hy
     simp only [Option.some.injEq] at h;subst h
     refine alE (TD (AW.mono (o8 hm hX hI hρ _ _ _ _ hx1 hp (ni hs) (ZH ha) fr ah nx hst) fun e fr ah nx hsel=>?_))
     have key:=ah6 (fun c=>o8 hm hX hI hρ) (fun _ _ _ _ _ h=>uS h) hy hp (pX hs) (ZI ha) e fr ah nx hsel
     cases e with
     |goto m=>
      simp only [ajn] at key ⊢
      split
      .rename_i r hr;rw [hr] at key;exact DL.mono key fun e fr ah nx h=>yQ h
      .rename_i hr;rw [hr] at key;exact yQ key
     |_=>exact yQ key
  .exact akc (adu (o8 hm hX hI hρ) _ _ _ _ h hp hs ha fr ah nx hst)
  .cases h
end
end Go.Fw
end
section
namespace Go.Fw
variable [jY]
def DX : Nat->List SV->Tr qo
 |_,[]=>.e
 |i,a::r=>(DX (i+1) r).upd zX i (some ⟨[],a⟩)
def agc (P:Program)(pc:Pc)(st:t_):Nat->List ResultVar->Option (List SV×Nat×List Side)
 |nv,[]=>some ([],nv,[])
 |nv,.tmp t::r=>match CJ pc st.fr (.tmp t) with
  |none=>none
  |some v=>match agc P pc st nv r with
   |none=>none
   |some (l,vX,sd)=>some (v::l,vX,sd)
 |nv,.cell t ty::r=>match CJ pc st.fr (.tmp t) with
  |none=>none
  |some p=>match ahz P pc st.ah nv ty p with
   |none=>none
   |some x=>match agc P pc st x.nv r with
    |none=>none
    |some (l,vX,sd)=>some (x.v::l,vX,x.sd++sd)
def awN : List SV->SV
 |[a]=>a
 |l=>.fD l
def La : Exit->Bool | .normal | .ret=>true|_=>false
structure Lf where
 v:SV
 th:Tr SB
 nx:Nat
 nv:Nat
 sd:List (Pc×Side)
def Lc (P:Program)(rs:List ResultVar)(pc:Pc)(nv:Nat)(o:Out):Option Lf:=
 bif La o.e then
  match agc P pc o.st nv rs with
  |none=>none
  |some (l,vX,sd)=>some ⟨awN l,o.st.ah,o.st.nx,vX,tag pc sd []⟩
 else none
structure EQ where
 outs:List (Tm×CO)
 nv:Nat
 sd:List (Pc×Side)
def ap_ (low:Nat)(g:Tm)(c d:CO):Option CO:=
 match aj0 g c.v d.v with
 |none=>none
 |some v=>
  let th:=Tr.mrg (acZ g) c.th d.th
  bif amB low v.IG c.th d.th th then none else some ⟨v,th,Nat.max c.nx d.nx⟩
def akd (low:Nat)(g:Tm)(c:CO):List (Tm×CO)->List (Tm×CO)
 |[]=>[(g,c)]
 |x::r=>match ap_ low g c x.2 with
  |some m=>(aEH g x.1,m)::r
  |none=>(g,c)::x::r
def NR (P:Program)(low:Nat)(rs:List ResultVar):Pc->Nat->List Out->Option EQ
 |_,_,[]=>none
 |pc,nv,[o]=>match Lc P rs pc nv o with
  |none=>none
  |some x=>some ⟨[(.lb true,⟨x.v,x.th,x.nx⟩)],x.nv,x.sd⟩
 |pc,nv,o::o'::r=>match Lc P rs (jK o.g true pc) nv o with
  |none=>none
  |some x=>match NR P low rs (jK o.g false pc) x.nv (o'::r) with
   |none=>none
   |some y=>some ⟨akd low o.g ⟨x.v,x.th,x.nx⟩ y.outs,y.nv,x.sd++y.sd⟩
def o9 (fn:Func):Bool:=decide (fn.name≠ "runtime.NumGoroutine")
abbrev Md :=FuncId->Nat
def is2 (md:Md):FuncId->Bool:=fun f=>Nat.beq (md f) 2
def amV (P:Program)(I0:Gv)(L:qO×Gv)(md:Md)(FC:FuncId->BD)(vK CF:Nat):Gv:=fun pc th nx nv f args=>
 match I0 pc th nx nv f args with
 |some R=>some R
 |none=>
  match P.funcs[f]? with
  |none=>none
  |some fn=>match fn.body with
   |none=>none
   |some c=>bif o9 fn&&Nat.ble args.length fn.ntmps then
     match uQ P ⟨L.1,is2 md,L.2,vK⟩ {FC f with N:=fn.ntmps,keep:=⟨(FC f).keep.ks,nx⟩} CF pc ⟨DX 0 args,th,nx⟩ nv c with
     |none=>none
     |some x=>bif x.aw.isEmpty then
       match NR P nx fn.results.toList pc x.nv x.outs with
       |none=>none
       |some y=>some ⟨y.outs,y.nv,x.sd++y.sd⟩
      else none
    else none
def xR (g:Tm):List Out->Tm
 |[]=>.lb true
 |_::_=>g
def Ld (P:Program)(rs:List ResultVar):Pc->Nat->List Out->Option (List (Tm×SV)×Nat×List (Pc×Side))
 |_,nv,[]=>some ([],nv,[])
 |pc,nv,o::r=>match Lc P rs (jK (xR o.g r) true pc) nv o with
  |none=>none
  |some x=>match (IQ x.th x.nv x.v).1.mX (thN x.th aDF) with
   |none=>none
   |some v=>match Ld P rs (jK o.g false pc) (IQ x.th x.nv x.v).2.1 r with
    |none=>none
    |some (l,vX,sd)=>some ((o.g,v.nrm)::l,vX,(x.sd++tag (jK (xR o.g r) true pc) (IQ x.th x.nv x.v).2.2 [])++sd)
def ake : List (Tm×SV)->Option SV
 |[]=>none
 |[x]=>some x.2
 |x::y::r=>match ake (y::r) with
  |none=>none
  |some v=>aj0 x.1 x.2 v
 mutual
def SV.lit : SV->Bool
  | .sc _ t=>(match t with | .lb _ | .li _ | .lf _ | .ls _ | .nl=>true|_=>false)
  | .c _ | .nil | .mp _=>true
  | .sf t=>(match t with | .nl=>true|_=>false)
  | .agg l | .fD l=>adv l
  | .slc r _=>ar6 r
  | .vp r _=>adv r
  | .fn _ x y=>adv x&&adv y
  | .mV _ v=>v.lit
  | .os _ _ _ t=>(match t with | .li _=>true|_=>false)
  | .op _ _ t _=>(match t with | .li _=>true|_=>false)
def adv : List SV->Bool
  |[]=>true
  |x::r=>x.lit&&adv r
def ar6 : List (List SV)->Bool
  |[]=>true
  |x::r=>adv x&&ar6 r
end
 mutual
def SV.OM (th:Tr SB):SV->Bool
  | .sc .sl _=>false
  | .sc _ _=>true
  | .c _ | .nil=>true
  | .agg l | .fD l=>ah7 th l
  | .mV _ v=>v.OM th
  | .slc [] _=>true
  | .os b _ _ _=>match th.get b with|some (.rows _ rs)=>rs.all afJ|_=>false
  |_=>false
def ah7 (th:Tr SB):List SV->Bool
  |[]=>true
  |x::r=>x.OM th&&ah7 th r
end
def CU (P:Program)(rs:List ResultVar):Pc->Nat->List Out->Bool
 |_,_,[]=>true
 |pc,nv,o::r=>match Lc P rs (jK (xR o.g r) true pc) nv o with
  |none=>false
  |some x=>x.v.OM x.th&&CU P rs (jK o.g false pc) (IQ x.th x.nv x.v).2.1 r
def agd (P:Program)(X0:qO)(L:qO×Gv)(md:Md)(FC:FuncId->BD)(vK CF:Nat):qO:=fun pc nv f args=>
 bif Nat.beq (md f) 1||(Nat.beq (md f) 3&&adv args) then
  match P.funcs[f]? with
  |none=>none
  |some fn=>match fn.body with
   |none=>none
   |some c=>bif o9 fn&&Nat.ble args.length fn.ntmps then
     match uQ P ⟨L.1,is2 md,L.2,vK⟩ {FC f with N:=fn.ntmps} CF pc ⟨DX 0 args,.e,0⟩ nv c with
     |none=>none
     |some x=>bif x.aw.isEmpty then
       match Ld P fn.results.toList pc x.nv x.outs with
       |none=>none
       |some (l,vX,sd)=>match ake l with
        |none=>none
        |some v=>some (v,vX,x.sd++sd,CU P fn.results.toList pc x.nv x.outs)
      else none
    else none
 else X0 pc nv f args
def PZ (P:Program)(X0:qO)(I0:Gv)(md:Md)(FC:FuncId->BD)(vK CF:Nat):Nat->qO×Gv
 |0=>(X0,I0)
 |n+1=>(agd P X0 (PZ P X0 I0 md FC vK CF n) md FC vK CF,amV P I0 (PZ P X0 I0 md FC vK CF n) md FC vK CF)
section
variable {P : Program} {ρ:List AV} {N:Nat}
theorem QU.canon {base:Nat}{w:World}{E:Env}{fr:mg}{ah:AH}{nx:Nat}{a:Act}{st:t_}(hs:JY ρ N st fr ah nx)(jG:QU base w E fr ah nx a) :
  ∃Ie,Zg ρ st.fr Ie/\Ig ρ st.ah (iQ ρ st.ah)/\Ie.length=N/\QU base w E Ie (iQ ρ st.ah) st.nx a:=by
 have hf:Zg ρ st.fr (WA ρ N st.fr):=by
  intro t e he
  obtain ⟨a,ha,-⟩:=hs.fr t e he
  have:=Ez ha
  rw [hs.len] at this
  rw [Dt,if_pos this,he];rfl
 have ha:Ig ρ st.ah (iQ ρ st.ah):=fun b k hk=>by unfold iQ;rw [hk];rfl
 refine ⟨_,hf,ha,by simp [WA],⟨fun b k hb=>?_,fun b b' k k' c o c' o' hne h1 h2=>?_,fun b hb=>jG.heap.fresh b (bW hs.nx hb),jG.heap.kJ,jG.heap.bs,jG.heap.kL⟩,⟨?_,fun i x hx=>?_,jG.fr.Oe⟩,jG.defers⟩
 .unfold iQ at hb
  simp only [ay] at hb
  obtain ⟨k1,hk1,rfl⟩:=hb
  obtain ⟨k0,h0,hw⟩:=hs.ah b k1 hk1
  exact hw _ _ _ _ (jG.heap.blk b k0 h0)
 .unfold iQ at h1 h2
  simp only [ay] at h1 h2
  obtain ⟨k1,hk1,rfl⟩:=h1
  obtain ⟨k2,hk2,rfl⟩:=h2
  obtain ⟨j1,q1,-⟩:=hs.ah b k1 hk1
  obtain ⟨j2,q2,-⟩:=hs.ah b' k2 hk2
  exact jG.heap.sep b b' j1 j2 c o c' o' hne q1 q2
 .have:=jG.fr.size
  rw [hs.len] at this
  simpa [WA] using this
 .rw [Dt] at hx
  split at hx
  .simp only [ay] at hx
   obtain ⟨e,he,rfl⟩:=hx
   obtain ⟨y,hy,hw⟩:=hs.fr i e he
   obtain ⟨v,hv,hr⟩:=jG.fr.get i y hy
   exact ⟨v,hv,hw _ _ _ hr⟩
  .cases hx
theorem abe {pc:Pc}{st:t_}{fr:mg}{ah:AH}(hp:pc.holds ρ)(hf:Zg ρ st.fr fr)(ha:Ig ρ st.ah ah):∀{l:List ResultVar} {nv vX:Nat} {vs:List SV} {sd:List Side},agc P pc st nv l=some (vs,vX,sd)->(∀s∈sd,s.holds P ρ)->
  ∀{k:List AV->Prop},k (dU ρ vs)->Gl P fr ah l k
 |[],nv,vX,vs,sd,h,hs,k,hk=>by
  simp only [agc,aj,aJ] at h
  obtain ⟨rfl,rfl,rfl⟩:=h
  exact hk
 | .tmp t::r,nv,vX,vs,sd,h,hs,k,hk=>by
  simp only [agc] at h
  split at h
  .cases h
  .rename_i v hv
   split at h
   .cases h
   .rename_i l nv1 sd1 hl
    simp only [aj,aJ] at h
    obtain ⟨rfl,rfl,rfl⟩:=h
    exact dH.2 ⟨_,iV hp hf hv,abe hp hf ha hl hs hk⟩
 | .cell t ty::r,nv,vX,vs,sd,h,hs,k,hk=>by
  simp only [agc] at h
  split at h
  .cases h
  .rename_i p hv
   split at h
   .cases h
   .rename_i x hx
    split at h
    .cases h
    .rename_i l nv1 sd1 hl
     simp only [aj,aJ] at h
     obtain ⟨rfl,rfl,rfl⟩:=h
     exact dH.2 ⟨_,iV hp hf hv,acE ha hx (fun s hm=>hs s (by simp [hm])) (abe hp hf ha hl (fun s hm=>hs s (by simp [hm])) hk)⟩
theorem amW {l:List SV}:one (dU ρ l)=(awN l).den ρ:=by
 match l with
 |[]=>rfl
 |[a]=>rfl
 |a::b::r=>rfl
def Le (P:Program)(fn:Func)(base:Nat)(w:World)(E:Env)(v:AV)(ah:AH)(nx:Nat)(a':Act)(w':World):Prop:=
 a'.defers=[]/\∃E' val,(results fn a'.tmps).run P w'=.ok val w'/\Rep w' E' v val/\Step base w E w' E'/\dX base w' E' ah (fun b=>nx<=b)
theorem Le.weak {fn:Func}{base:Nat}{w:World}{E:Env}{v v':AV}{ah fV:AH}{nx nx':Nat}{a':Act}{w':World}(h:Le P fn base w E v ah nx a' w')(hv:Weak v v')(hah:∀b k',fV b=some k'->∃k,ah b=some k/\rD k k')(hn:nx<=nx') :
  Le P fn base w E v' fV nx' a' w':=by
 obtain ⟨h0,E',val,h1,h2,h3,h4⟩:=h
 refine ⟨h0,E',val,h1,hv _ _ _ h2,h3,⟨fun b k hb=>?_,fun b b' k k' c o c' o' hne q1 q2=>?_,fun b hb=>h4.fresh b (bW hn hb),h4.kJ,h4.bs,h4.kL⟩⟩
 .obtain ⟨k0,q,hw⟩:=hah b k hb;exact hw _ _ _ _ (h4.blk b k0 q)
 .obtain ⟨j1,e1,-⟩:=hah b k q1
  obtain ⟨j2,e2,-⟩:=hah b' k' q2
  exact h4.sep b b' j1 j2 c o c' o' hne e1 e2
theorem agf (fn:Func)(tmps:Array Value):results fn tmps=(do
  let vs <- fn.results.mapM (TF tmps)
  pure (if h:vs.size=1 then vs[0] else .tuple vs)):=by
 unfold results
 congr 1
theorem BF {fn:Func}{pc:Pc}{nv:Nat}{o:Out}{x:Lf}(h:Lc P fn.results.toList pc nv o=some x)(hp:pc.holds ρ)(hs:jD P ρ x.sd){base:Nat}{w w':World}{E E':Env}{fr:mg}{ah:AH}{nx:Nat}{a':Act}
  (hst:JY ρ N o.st fr ah nx) (jG:QU base w' E' fr ah nx a') (hstep:Step base w E w' E'):La o.e=true/\Le P fn base w E (x.v.den ρ) (iQ ρ x.th) x.nx a' w':=by
 unfold Lc at h
 cases he:La o.e
 .simp [he] at h
 .simp only [he,cond_true] at h
  split at h
  .cases h
  .rename_i l vX sd hl
   simp only [aj] at h;subst h
   refine ⟨rfl,?_⟩
   obtain ⟨Ie,hf,hah,hN,amX⟩:=QU.canon hst jG
   have hres:=abe (P:=P) hp hf hah hl ((IU hs).1 hp) (k:=fun az=>az=dU ρ l) rfl
   obtain ⟨az,vs',rfl,hrun,hrep⟩:=vI amX hres
   refine ⟨amX.defers,E',(if h:vs'.toArray.size=1 then vs'.toArray[0] else .tuple vs'.toArray),?_,?_,hstep,amX.heap⟩
   .rw [agf,Array.mapM_eq_mapM_toList,Sem.run_bind,Sem.run_map,hrun]
    rfl
   .have:=aaJ hrep
    rw [amW] at this
    exact this
theorem amY {g:Tm}{x y:Tr SB}:∀b k',iQ ρ (Tr.mrg (acZ g) x y) b=some k'->(bif (g.den ρ).B then (∃k,iQ ρ x b=some k/\rD k k') else (∃k,iQ ρ y b=some k/\rD k k'))=True:=by
 intro b k' h
 unfold iQ at h
 simp only [ay] at h
 obtain ⟨z,hz,rfl⟩:=h
 obtain ⟨u,v,h1,h2,h3⟩:=Tr.IY hz
 have:=OI (ρ:=ρ) h3
 cases hg:(g.den ρ).B
 .rw [hg] at this
  simp only [cond_false,eq_iff_iff,iff_true]
  exact ⟨_,by unfold iQ;rw [h2];rfl,this⟩
 .rw [hg] at this
  simp only [cond_true,eq_iff_iff,iff_true]
  exact ⟨_,by unfold iQ;rw [h1];rfl,this⟩
theorem aqa {low:Nat}{g:Tm}{c d m:CO}(h:ap_ low g c d=some m){fn:Func}{base:Nat}{w w':World}{E:Env}{a':Act}
  (hq:bif (g.den ρ).B then Le P fn base w E (c.v.den ρ) (iQ ρ c.th) c.nx a' w' else Le P fn base w E (d.v.den ρ) (iQ ρ d.th) d.nx a' w'):Le P fn base w E (m.v.den ρ) (iQ ρ m.th) m.nx a' w':=by
 unfold ap_ at h
 split at h
 .cases h
 .rename_i v hv
  dsimp only at h
  generalize (amB low v.IG c.th d.th _)=q at h
  cases q
  .simp only [cond_false,aj] at h;subst h
   have hw:=(UQ (ρ:=ρ) hv).1
   have hm:=amY (ρ:=ρ) (g:=g) (x:=c.th) (y:=d.th)
   cases hg:(g.den ρ).B
   .rw [hg] at hq hw hm
    exact Le.weak hq hw (fun b k' hk=>of_eq_true (hm b k' hk)) (Nat.le_max_right _ _)
   .rw [hg] at hq hw hm
    exact Le.weak hq hw (fun b k' hk=>of_eq_true (hm b k' hk)) (Nat.le_max_left _ _)
  .cases h
theorem ah8 {low:Nat}{g:Tm}{c:CO}{l:List (Tm×CO)}(hl:l≠[]){fn:Func}{base:Nat}{w w':World}{E:Env}{a':Act}
  (hq:bif (g.den ρ).B then Le P fn base w E (c.v.den ρ) (iQ ρ c.th) c.nx a' w' else ∃d,tJ ρ l=some d/\Le P fn base w E (d.v.den ρ) (iQ ρ d.th) d.nx a' w') :
  ∃d,tJ ρ (akd low g c l)=some d/\Le P fn base w E (d.v.den ρ) (iQ ρ d.th) d.nx a' w':=by
 match l,hl with
 |x::r,_=>
  simp only [akd]
  cases hm:ap_ low g c x.2 with
  |none=>
   dsimp only
   simp only [tJ]
   cases hg:(g.den ρ).B
   .rw [hg] at hq;exact hq
   .rw [hg] at hq;exact ⟨_,rfl,hq⟩
  |some m=>
   dsimp only
   have hmk:=fun h=>aqa (P:=P) (ρ:=ρ) hm (fn:=fn) (base:=base) (w:=w) (w':=w') (E:=E) (a':=a') h
   cases hg:(g.den ρ).B
   .rw [hg] at hq hmk
    simp only [cond_false] at hq hmk
    obtain ⟨d,h1,h2⟩:=hq
    cases r with
    |nil=>
     simp only [tJ,aj] at h1;subst h1
     exact ⟨m,rfl,hmk h2⟩
    |cons y r=>
     simp only [tJ,KD,hg,Bool.false_or] at h1 ⊢
     cases hx:(x.1.den ρ).B
     .rw [hx] at h1;exact ⟨d,h1,h2⟩
     .rw [hx] at h1
      simp only [cond_true,aj] at h1;subst h1
      exact ⟨m,rfl,hmk h2⟩
   .rw [hg] at hq hmk
    simp only [cond_true] at hq hmk
    cases r with
    |nil=>exact ⟨m,rfl,hmk hq⟩
    |cons y r=>exact ⟨m,by simp only [tJ,KD,hg,Bool.true_or,cond_true],hmk hq⟩
theorem aqb {low:Nat}{g:Tm}{c:CO}{l:List (Tm×CO)}:akd low g c l≠[]:=by
 cases l with
 |nil=>simp [akd]
 |cons x r=>simp only [akd];split<;>simp
theorem amZ {low:Nat}{rs:List ResultVar}:∀{l:List Out} {pc:Pc} {nv:Nat} {x:EQ},NR P low rs pc nv l=some x->x.outs≠[]
 |[],pc,nv,x,h=>by simp [NR] at h
 |[o],pc,nv,x,h=>by
  simp only [NR] at h
  split at h
  .cases h
  .simp only [aj] at h;subst h;simp
 |o::o'::r,pc,nv,x,h=>by
  simp only [NR] at h
  split at h
  .cases h
  .split at h
   .cases h
   .simp only [aj] at h;subst h;exact aqb
theorem adw {fn:Func}{low:Nat}:∀{l:List Out} {pc:Pc} {nv:Nat} {x:EQ},NR P low fn.results.toList pc nv l=some x->pc.holds ρ->jD P ρ x.sd->∀{base:Nat} {w w':World} {E E':Env} {fr:mg} {ah:AH} {nx:Nat} {a':Act} {e:Exit},
  IZ ρ N l e fr ah nx->QU base w' E' fr ah nx a'->Step base w E w' E'->La e=true/\∃d,tJ ρ x.outs=some d/\Le P fn base w E (d.v.den ρ) (iQ ρ d.th) d.nx a' w'
 |[],pc,nv,x,h,_,_,_,_,_,_,_,_,_,_,_,_,_,_,_=>by simp [NR] at h
 |[o],pc,nv,x,h,hp,hs,base,w,w',E,E',fr,ah,nx,a',e,hsel,jG,hstep=>by
  obtain ⟨st,h1,h2⟩:=hsel
  simp only [sel,aj,aJ] at h1
  obtain ⟨rfl,rfl⟩:=h1
  simp only [NR] at h
  split at h
  .cases h
  .rename_i y hy
   simp only [aj] at h;subst h
   obtain ⟨q1,q2⟩:=BF (P:=P) hy hp hs h2 jG hstep
   exact ⟨q1,_,rfl,q2⟩
 |o::o'::r,pc,nv,x,h,hp,hs,base,w,w',E,E',fr,ah,nx,a',e,hsel,jG,hstep=>by
  obtain ⟨st,h1,h2⟩:=hsel
  simp only [sel] at h1
  simp only [NR] at h
  split at h
  .cases h
  .rename_i y hy
   split at h
   .cases h
   .rename_i z hz
    simp only [aj] at h;subst h
    have hzn:=amZ hz
    cases hg:(o.g.den ρ).B
    .rw [hg] at h1
     obtain ⟨q1,q2⟩:=adw hz (gq hg hp) (pX hs) ⟨st,h1,h2⟩ jG hstep
     exact ⟨q1,ah8 (P:=P) hzn (by rw [hg];exact q2)⟩
    .rw [hg] at h1
     simp only [cond_true,aj,aJ] at h1
     obtain ⟨rfl,rfl⟩:=h1
     obtain ⟨q1,q2⟩:=BF (P:=P) hy (gq hg hp) (ni hs) h2 jG hstep
     exact ⟨q1,ah8 (P:=P) hzn (by rw [hg];exact q2)⟩
theorem ZK : ∀{l:List SV} {i t:Nat} {e:qo},(DX i l).get t=some e->∃j a,t=i+j/\l[j]?=some a/\e=⟨[],a⟩
 |[],i,t,e,h=>by simp [DX,Tr.get] at h
 |a::r,i,t,e,h=>by
  simp only [DX] at h
  rcases Tr.pW _ _ _ _ _ _ h with ⟨rfl,h1⟩|⟨-,h1⟩
  .simp only [aj] at h1;exact ⟨0,a,rfl,rfl,h1.symm⟩
  .obtain ⟨j,b,rfl,h2,h3⟩:=ZK h1
   exact ⟨j+1,b,by omega,by simpa using h2,h3⟩
theorem MN : ∀(l:List AV) (m i:Nat),jw (l.map some++List.replicate m none) i=l[i]?
 |[],0,i=>by simp [jw]
 |[],m+1,0=>by simp [List.replicate_succ,jw]
 |[],m+1,i+1=>by
  have:=MN [] m i
  simp only [List.map_nil,List.nil_append,List.replicate_succ,jw] at this ⊢
  rw [this];simp
 |a::l,m,0=>by simp [jw]
 |a::l,m,i+1=>by
  have:=MN l m i
  simp only [aX,bV,jw] at this ⊢
  rw [this];simp
def DY (N:Nat)(l:List AV):mg:=l.map some++List.replicate (N-l.length) none
theorem P5 {l:List SV}:Zg ρ (DX 0 l) (DY N (dU ρ l)):=by
 intro t e he
 obtain ⟨j,a,rfl,h1,rfl⟩:=ZK he
 rw [DY,MN,nX,bP]
 simp [h1,qo.den]
theorem CV {l:List AV}(h:l.length<=N):(DY N l).length=N:=by simp [DY];omega
theorem MO {w:World}{E:Env}{l:List AV}{vs:List Value}(hG:GOk w E.fix)(h:iy w E l vs)(hN:l.length<=N):wZ w E (DY N l) (vs.toArray++Array.replicate (N-vs.toArray.size) undef):=by
 refine ⟨?_,fun i x hx=>?_,hG⟩
 .simp [DY,h.1]
 .rw [DY,MN] at hx
  have hi:=(aA.1 hx).1
  have hvl:i<vs.length:=by rw [<- h.1];exact hi
  refine ⟨vs[i],?_,h.2 i x _ hx (by simp [hvl])⟩
  rw [Array.getElem?_append_left (by simpa using hvl)]
  simp [hvl]
theorem am0 {I0:Gv}{L:qO×Gv}{md:Md}{FC:FuncId->BD}{vK CF:Nat}(hm:P.follows .mixedOrders=true)(h0:∀σ:List AV,iW σ=true->oH P σ I0)(hX:∀σ:List AV,iW σ=true->o7 P σ L.1)(hI:∀σ:List AV,iW σ=true->oH P σ L.2)(hρ:iW ρ=true) :
 oH P ρ (amV P I0 L md FC vK CF):=fun pc th nx nv f args R h hp hs base w E ah vs hah hh hG hrep o a he next Q hnext=>by
 simp only [amV] at h
 split at h
 .rename_i R0 hR0
  simp only [aj] at h;subst h
  exact h0 ρ hρ _ _ _ _ _ _ _ hR0 hp hs _ _ _ _ _ hah hh hG hrep o a he next Q hnext
 split at h
 .cases h
 .rename_i fn hfn
  split at h
  .cases h
  .rename_i c hc
   cases hg:o9 fn&&Nat.ble args.length fn.ntmps
   .simp [hg] at h
   .simp only [hg,cond_true] at h
    simp only [ak] at hg
    have hname:fn.name≠ "runtime.NumGoroutine" :=by simpa [o9] using hg.1
    have hlen:=aC hg.2
    split at h
    .cases h
    .rename_i x hx
     cases haw:x.aw.isEmpty
     .simp [haw] at h
     .simp only [haw,cond_true] at h
      split at h
      .cases h
      .rename_i y hy
       simp only [aj] at h;subst h
       have am1:RJ P ρ x.aw:=by
        have:x.aw=[]:=by simpa using haw
        rw [this];exact trivial
       have hlenA:(dU ρ args).length<=fn.ntmps:=by rw [fZ];exact hlen
       have hst:JY ρ fn.ntmps ⟨DX 0 args,th,nx⟩ (DY fn.ntmps (dU ρ args)) ah nx:=JY.of P5 hah (CV hlenA) (dD _)
       have agh:=o8 (G:=⟨L.1,is2 md,L.2,vK⟩) (F:={FC f with N:=fn.ntmps,keep:=⟨(FC f).keep.ks,nx⟩}) hm hX hI hρ _ _ _ _ hx hp (ni hs) am1 _ _ _ hst
       have jG:QU base w E (DY fn.ntmps (dU ρ args)) ah nx {tmps:=vs.toArray++Array.replicate (fn.ntmps-vs.toArray.size) undef,defers:=[]}:=
        ⟨hh,MO hG hrep hlenA,rfl⟩
       have hcall:(callFunc f vs.toArray).run P w=.ok (.enter f vs.toArray) w:=by
        have e1:(fn.name == "runtime.NumGoroutine")=false:=by simpa using hname
        have e2:fn.body.isNone=false:=by rw [hc];rfl
        simp only [callFunc,Sem.run_bind,run_program,Result.andThen_ok,hfn,e1,aP,if_false,e2,Sem.run_pure]
       unfold Oper.wp
       rw [he,hcall]
       have aul:Calls P f vs.toArray w fun e w'=>∃d v E',tJ ρ y.outs=some d/\e=.returned v/\Step base w E w' E'/\dX base w' E' (iQ ρ d.th) (fun b=>d.nx<=b)/\Rep w' E' (d.v.den ρ) v:=by
        refine calls_of_wp hfn hc (wp_mono (agh base w E _ jG) fun e a' w' hp'=>?_)
        obtain ⟨E',fr',fV,nx',hsel,WM,hstep⟩:=hp'
        obtain ⟨q1,d,hd,q2⟩:=adw (P:=P) (fn:=fn) hy hp (pX hs) hsel WM hstep
        obtain ⟨h0,E2,val,h1,h2,h3,h4⟩:=q2
        have fin:a'.defers=[]/\∃v,(results fn a'.tmps).run P w'=.ok v w'/\∃d u E',tJ ρ y.outs=some d/\Ending.returned v=.returned u/\Step base w E w' E'/\dX base w' E' (iQ ρ d.th) (fun b=>d.nx<=b)/\Rep w' E' (d.v.den ρ) u:=
         ⟨h0,val,h1,d,val,E2,hd,rfl,h3,h4,h2⟩
        cases e<;>first|exact fin|(simp [La] at q1)
       refine aul.mono fun e w' hq=>?_
       obtain ⟨d,v,E',hd,rfl,q1,q2,q3⟩:=hq
       exact hnext d hd v w' E' (iQ ρ d.th) (fun b k hk=>by unfold iQ;rw [hk];rfl) q1 q2 q3
 mutual
theorem P6 (hρ:iW ρ=true){th:Tr SB}:∀{x:SV},x.OM th=true->(x.den ρ).JQ=true/\∀b∈(x.den ρ).refs,∀k,iQ ρ th b=some k->k.Jt=true
  | .sc k t,h=>by cases k<;>first|(simp [SV.OM] at h;done)|exact ⟨rfl,fun b hb=>by cases hb⟩
  | .c v,_=>⟨rfl,fun b hb=>by cases hb⟩
  | .nil,_=>⟨rfl,fun b hb=>by cases hb⟩
  | .agg l,h=>by
   have:=RS hρ (l:=l) (by simpa [SV.OM] using h)
   exact ⟨by simpa [SV.den,AV.JQ] using this.1,by simpa [SV.den,AV.refs] using this.2⟩
  | .fD l,h=>by
   have:=RS hρ (l:=l) (by simpa [SV.OM] using h)
   exact ⟨by simpa [SV.den,AV.JQ] using this.1,by simpa [SV.den,AV.refs] using this.2⟩
  | .mV t v,h=>by
   have:=P6 hρ (x:=v) (by simpa [SV.OM] using h)
   exact ⟨by simpa [SV.den,AV.JQ] using this.1,by simpa [SV.den,AV.refs] using this.2⟩
  | .slc [] f,_=>⟨rfl,fun b hb=>by cases hb⟩
  | .slc (x::r) f,h=>by simp [SV.OM] at h
  | .os b sz off l,h=>by
   refine ⟨rfl,fun b' hb k hk=>?_⟩
   simp only [SV.den,AV.refs,bT] at hb
   subst hb
   simp only [SV.OM] at h
   unfold iQ at hk
   simp only [ay] at hk
   obtain ⟨z,hz,rfl⟩:=hk
   rw [hz] at h
   cases z with
   |rows sz rs=>
    simp only [aF] at h
    simp only [SB.den,wB.Jt,l7,List.all_map,aF]
    intro row hr
    exact KL (h row hr)
   |fK sz t=>cases h
   |map es=>cases h
   |BZ m t=>cases h
   |it m n k=>cases h
   |kN ty sz rs=>cases h
  | .sf t,h=>by simp [SV.OM] at h
  | .vp row off,h=>by simp [SV.OM] at h
  | .op b sz t off,h=>by simp [SV.OM] at h
  | .fn f x y,h=>by simp [SV.OM] at h
  | .mp b,h=>by simp [SV.OM] at h
theorem RS (hρ:iW ρ=true){th:Tr SB}:∀{l:List SV},ah7 th l=true->Tv (dU ρ l)=true/\∀b∈mQ (dU ρ l),∀k,iQ ρ th b=some k->k.Jt=true
  |[],_=>⟨rfl,fun b hb=>by cases hb⟩
  |x::r,h=>by
   simp only [ah7,ak] at h
   have h1:=P6 hρ (x:=x) h.1
   have h2:=RS hρ (l:=r) h.2
   refine ⟨by simp [dU,Tv,h1.1,h2.1],fun b hb=>?_⟩
   simp only [dU,mQ,aH] at hb
   rcases hb with hb|hb
   .exact h1.2 b hb
   .exact h2.2 b hb
end
def rQ (ρ:List AV):List (Tm×SV)->AV
 |[]=>eP
 |[x]=>x.2.den ρ
 |x::y::r=>bif (x.1.den ρ).B then x.2.den ρ else rQ ρ (y::r)
structure iE where
 rs:List (Tm×SV)
 sd:List (Pc×Side)
 aw:List Lo
theorem TU {rs:List ResultVar}{pc:Pc}{nv:Nat}{o:Out}{r:List Out}:Ld P rs pc nv (o::r)=(match Lc P rs (jK (xR o.g r) true pc) nv o with
 |none=>none
 |some x=>match (IQ x.th x.nv x.v).1.mX (thN x.th aDF) with
  |none=>none
  |some v=>match Ld P rs (jK o.g false pc) (IQ x.th x.nv x.v).2.1 r with
   |none=>none
   |some (l,vX,sd)=>some ((o.g,v.nrm)::l,vX,(x.sd++tag (jK (xR o.g r) true pc) (IQ x.th x.nv x.v).2.2 [])++sd)):=rfl
theorem adx {fn:Func}(hρ:iW ρ=true):∀{l:List Out} {pc:Pc} {nv vX:Nat} {rs:List (Tm×SV)} {sd:List (Pc×Side)},Ld P fn.results.toList pc nv l=some (rs,vX,sd)->pc.holds ρ->jD P ρ sd->∀{base:Nat} {w w':World} {E E':Env} {fr:mg} {ah:AH} {nx:Nat} {a':Act} {e:Exit},
  IZ ρ N l e fr ah nx->QU base w' E' fr ah nx a'->Step base w E w' E'->La e=true/\∃v v' fV nx',Le P fn base w E v fV nx' a' w'/\Go.Fw.mX (yA fV aDF) v=some v'/\Weak v' (rQ ρ rs)/\(CU P fn.results.toList pc nv l=true->v.JQ=true/\∀b∈v.refs,∀k,fV b=some k->k.Jt=true)
 |[],pc,nv,vX,rs,sd,h,hp,hs,base,w,w',E,E',fr,ah,nx,a',e,hsel,jG,hstep=>by
  obtain ⟨st,h1,-⟩:=hsel;cases h1
 |[o],pc,nv,vX,rs,sd,h,hp,hs,base,w,w',E,E',fr,ah,nx,a',e,hsel,jG,hstep=>by
  obtain ⟨st,h1,h2⟩:=hsel
  simp only [sel,aj,aJ] at h1
  obtain ⟨rfl,rfl⟩:=h1
  simp only [Ld,xR,jK] at h
  split at h
  .cases h
  .rename_i x hx
   split at h
   .cases h
   .rename_i v hv
    simp only [aj,aJ,cu] at h
    obtain ⟨rfl,rfl,rfl⟩:=h
    obtain ⟨q1,q2⟩:=BF (P:=P) hx hp (ni hs) h2 jG hstep
    have hpre:=(IU (pX hs)).1 hp
    refine ⟨q1,_,_,_,_,q2,(VZ (P:=P) hρ (fun b k hk=>by unfold iQ;rw [hk];rfl) hpre).trans (PE hρ (IJ hρ (fun b k hk=>by unfold iQ;rw [hk];rfl) aDF) hv),Gs,fun hap=>?_⟩
    simp only [CU,xR,jK,hx,ak] at hap
    exact P6 hρ hap.1
 |o::o'::r,pc,nv,vX,rs,sd,h,hp,hs,base,w,w',E,E',fr,ah,nx,a',e,hsel,jG,hstep=>by
  obtain ⟨st,h1,h2⟩:=hsel
  simp only [sel] at h1
  rw [TU] at h
  simp only [xR] at h
  split at h
  .cases h
  .rename_i x hx
   split at h
   .cases h
   .rename_i v hv
    split at h
    .cases h
    .rename_i l nv1 sd1 hl
     simp only [aj,aJ] at h
     obtain ⟨rfl,rfl,rfl⟩:=h
     have adq:∃y s,l=y::s:=by
      rw [TU] at hl
      split at hl
      .cases hl
      .split at hl
       .cases hl
       .split at hl
        .cases hl
        .simp only [aj,aJ] at hl;exact ⟨_,_,hl.1.symm⟩
     cases hg:(o.g.den ρ).B
     .rw [hg] at h1
      obtain ⟨q1,v1,v2,a1,n1,q2,q3,q4,q5⟩:=adx hρ hl (gq hg hp) (pX hs) ⟨st,h1,h2⟩ jG hstep
      obtain ⟨y,s,rfl⟩:=adq
      refine ⟨q1,v1,v2,a1,n1,q2,q3,by simpa [rQ,hg] using q4,fun hap=>q5 ?_⟩
      rw [CU] at hap
      simp only [xR,hx,ak] at hap
      exact hap.2
     .rw [hg] at h1
      simp only [cond_true,aj,aJ] at h1
      obtain ⟨rfl,rfl⟩:=h1
      obtain ⟨q1,q2⟩:=BF (P:=P) hx (gq hg hp) (ni (ni hs)) h2 jG hstep
      obtain ⟨y,s,rfl⟩:=adq
      have hpre:=(IU (pX (ni hs))).1 (gq hg hp)
      refine ⟨q1,_,_,_,_,q2,(VZ (P:=P) hρ (fun b k hk=>by unfold iQ;rw [hk];rfl) hpre).trans (PE hρ (IJ hρ (fun b k hk=>by unfold iQ;rw [hk];rfl) aDF) hv),?_,fun hap=>?_⟩
      .simp only [rQ,hg,cond_true]
       exact Gs
      .rw [CU] at hap
       simp only [xR,hx,ak] at hap
       exact P6 hρ hap.1
theorem ZL {L:qO×Gv}{md:Md}{F:BD}{vK CF:Nat}(hm:P.follows .mixedOrders=true)(hX:∀σ:List AV,iW σ=true->o7 P σ L.1)(hI:∀σ:List AV,iW σ=true->oH P σ L.2)(hρ:iW ρ=true)
  {f:FuncId} {fn:Func} {c:Code} (hfn:P.funcs[f]?=some fn) (hc:fn.body=some c) {args:List SV} (hg:(o9 fn&&Nat.ble args.length fn.ntmps)=true) {pc:Pc} {nv vX:Nat} {x:Az} (hp:pc.holds ρ)
  (hx:uQ P ⟨L.1,is2 md,L.2,vK⟩ {F with N:=fn.ntmps} CF pc ⟨DX 0 args,.e,0⟩ nv c=some x) {l:List (Tm×SV)} {sd:List (Pc×Side)} (hl:Ld P fn.results.toList pc x.nv x.outs=some (l,vX,sd)) (hs:jD P ρ (x.sd++sd)) (haw:RJ P ρ x.aw) :
  PC P f (dU ρ args) (rQ ρ l)/\(CU P fn.results.toList pc x.nv x.outs=true->PCa P f (dU ρ args) (rQ ρ l)):=by
 simp only [ak] at hg
 have hname:fn.name≠ "runtime.NumGoroutine" :=by simpa [o9] using hg.1
 have hlen:=aC hg.2
 have hall:∀(w:World) (fix:Nat->Nat->Prop) (vs:List Value),(∀c o,fix c o->c<w.heap.size)->GOk w fix->iy w (eY fix) (dU ρ args) vs->
   Calls P f vs.toArray w fun e w'=>∃v mJ,e=.returned v/\Step w.heap.size w (eY fix) w' (eY mJ)/\
    (∀c o,mJ c o->c<w'.heap.size)/\Rep w' (eY mJ) (rQ ρ l) v/\(CU P fn.results.toList pc x.nv x.outs=true->Rep w' (eY fun c o=>mJ c o/\w.heap.size<=c) (rQ ρ l) v):=?_
 .refine ⟨fun w fix vs hfix hG hargs=>?_,fun hap w fix vs hfix hG hargs=>?_⟩
  .rw [hfn]
   dsimp only
   rw [if_neg (by rw [hc];simp)]
   refine ⟨hname,(hall w fix vs hfix hG hargs).mono fun e w' hq=>?_⟩
   obtain ⟨v,mJ,h1,h2,h3,h4,-⟩:=hq
   exact ⟨v,mJ,h1,h2,h3,h4⟩
  .rw [hfn]
   dsimp only
   rw [if_neg (by rw [hc];simp)]
   refine ⟨hname,(hall w fix vs hfix hG hargs).mono fun e w' hq=>?_⟩
   obtain ⟨v,mJ,h1,h2,h3,-,h4⟩:=hq
   exact ⟨v,mJ,h1,h2,h3,h4 hap⟩
 intro w fix vs hfix hG hargs
 have hlenA:(dU ρ args).length<=fn.ntmps:=by rw [fZ];exact hlen
 have hst:JY ρ fn.ntmps ⟨DX 0 args,.e,0⟩ (DY fn.ntmps (dU ρ args)) (fun _=>none) 0:=JY.of P5 (fun b k h=>by simp [Tr.get] at h) (CV hlenA) (dD _)
 have agh:=o8 (G:=⟨L.1,is2 md,L.2,vK⟩) (F:={F with N:=fn.ntmps}) hm hX hI hρ _ _ _ _ hx hp (ni hs) haw _ _ _ hst
 have jG:QU w.heap.size w (eY fix) (DY fn.ntmps (dU ρ args)) (fun _=>none) 0 {tmps:=vs.toArray++Array.replicate (fn.ntmps-vs.toArray.size) undef,defers:=[]}:=
  ⟨⟨fun b k hb=>(by cases hb),fun b b' k k' c o c' o' _ hb=>(by cases hb),fun _ _=>rfl,hfix,dD _,fun b c o hb=>(by cases hb)⟩,MO hG hargs hlenA,rfl⟩
 refine calls_of_wp hfn hc (wp_mono (agh _ w (eY fix) _ jG) fun e a' w' hp'=>?_)
 obtain ⟨E',fr',fV,nx',hsel,WM,hst'⟩:=hp'
 obtain ⟨q1,v,v',ah2,nx2,⟨h0,E2,val,h1,h2,h3,h4⟩,hz,hwk,awO⟩:=adx (P:=P) (fn:=fn) hρ hl hp (pX hs) hsel WM hst'
 let mJ:Nat->Nat->Prop:=fun c o=>E2.fix c o\/(w.heap.size<=c/\c<w'.heap.size)
 have hfr:=Pg h4 (fix:=mJ) (fun c o h=>.inl h) (fun b c o ho off=>.inr (h4.kL b c o ho)) aDF h2 hz
 have Ou:∃v mJ,Ending.returned val=.returned v/\Step w.heap.size w (eY fix) w' (eY mJ)/\
   (∀c o,mJ c o->c<w'.heap.size)/\Rep w' (eY mJ) (rQ ρ l) v/\(CU P fn.results.toList pc x.nv x.outs=true->Rep w' (eY fun c o=>mJ c o/\w.heap.size<=c) (rQ ρ l) v):=by
  refine ⟨_,mJ,rfl,⟨⟨fun c o h=>.inl (h3.ext.fix c o h),h3.ext.cell,fun b hb=>absurd rfl hb,h3.ext.arr⟩,h3.below,fun c o hc h=>?_,fun c hc _=>h3.below.block c hc,fun b c o h _=>(by cases h),fun c o h hc=>?_⟩,fun c o h=>?_,hwk _ _ _ hfr,fun hap=>?_⟩
  rotate_left 3
  .exact hwk _ _ _ (Zb h4 h2 (awO hap).1 (awO hap).2 hz (fun b _ c o ho off=>⟨.inr (h4.kL b c o ho),(h4.kL b c o ho).1⟩))
  .rcases h with h|⟨h,-⟩
   .exact h3.z_ c o hc h
   .omega
  .rcases h with h|⟨h,-⟩
   .exact h3.Aa c o h hc |>.imp id (fun ⟨b,o',h⟩=>by cases h)
   .omega
  .rcases h with h|⟨-,h⟩
   .exact h4.kJ c o h
   .exact h
 cases e<;>first|exact ⟨h0,_,h1,Ou⟩|(simp [La] at q1)
theorem PC.weak {f:FuncId}{args:List AV}{r r':AV}(h:PC P f args r)(hw:Weak r r'):PC P f args r':=by
 intro w fix vs hfix hG hargs
 have:=h w fix vs hfix hG hargs
 split at this
 .exact this
 .rename_i fn hfn
  split at this
  .rename_i hb
   rw [if_pos hb]
   obtain ⟨v,h1,h2⟩:=this
   exact ⟨v,h1,hw _ _ _ h2⟩
  .rename_i hb
   rw [if_neg hb]
   refine ⟨this.1,this.2.mono fun e w' hq=>?_⟩
   obtain ⟨v,mJ,h1,h2,h3,h4⟩:=hq
   exact ⟨v,mJ,h1,h2,h3,hw _ _ _ h4⟩
theorem PCa.weak {f:FuncId}{args:List AV}{r r':AV}(h:PCa P f args r)(hw:Weak r r'):PCa P f args r':=by
 intro w fix vs hfix hG hargs
 have:=h w fix vs hfix hG hargs
 split at this
 .exact this
 .rename_i fn hfn
  split at this
  .rename_i hb
   rw [if_pos hb]
   obtain ⟨v,h1,h2⟩:=this
   exact ⟨v,h1,hw _ _ _ h2⟩
  .rename_i hb
   rw [if_neg hb]
   refine ⟨this.1,this.2.mono fun e w' hq=>?_⟩
   obtain ⟨v,mJ,h1,h2,h3,h4⟩:=hq
   exact ⟨v,mJ,h1,h2,h3,hw _ _ _ h4⟩
theorem abf : ∀{l:List (Tm×SV)} {v:SV},ake l=some v->Weak (rQ ρ l) (v.den ρ)
 |[],v,h=>by simp [ake] at h
 |[x],v,h=>by simp only [ake,aj] at h;subst h;exact Weak.refl _
 |x::y::r,v,h=>by
  simp only [ake] at h
  split at h
  .cases h
  .rename_i u hu
   have ih:=abf (l:=y::r) hu
   have hw:=(UQ (ρ:=ρ) h).1
   simp only [rQ]
   cases hg:(x.1.den ρ).B
   .rw [hg] at hw;exact ih.trans hw
   .rw [hg] at hw;exact hw
theorem akf {X0:qO}{L:qO×Gv}{md:Md}{FC:FuncId->BD}{vK CF:Nat}(hm:P.follows .mixedOrders=true)(hX0:∀σ:List AV,iW σ=true->o7 P σ X0)(hX:∀σ:List AV,iW σ=true->o7 P σ L.1)(hI:∀σ:List AV,iW σ=true->oH P σ L.2)(hρ:iW ρ=true) :
  o7 P ρ (agd P X0 L md FC vK CF):=fun pc nv f args r h hp hs=>by
 unfold agd at h
 cases h1:Nat.beq (md f) 1||(Nat.beq (md f) 3&&adv args)
 .simp only [h1,cond_false] at h
  exact hX0 ρ hρ pc nv f args r h hp hs
 .simp only [h1,cond_true] at h
  split at h
  .cases h
  .rename_i fn hfn
   split at h
   .cases h
   .rename_i c hc
    cases hg:o9 fn&&Nat.ble args.length fn.ntmps
    .simp [hg] at h
    .simp only [hg,cond_true] at h
     split at h
     .cases h
     .rename_i x hx
      cases haw:x.aw.isEmpty
      .simp [haw] at h
      .simp only [haw,cond_true] at h
       split at h
       .cases h
       .rename_i l vX sd hl
        split at h
        .cases h
        .rename_i v hv
         simp only [aj] at h;subst h
         have am1:RJ P ρ x.aw:=by
          have:x.aw=[]:=by simpa using haw
          rw [this];exact trivial
         have hpc:=ZL (F:=FC f) hm hX hI hρ hfn hc hg hp hx hl hs am1
         exact ⟨hpc.1.weak (abf hv),fun hap=>(hpc.2 hap).weak (abf hv)⟩
theorem UZ {X0:qO}{I0:Gv}{md:Md}{FC:FuncId->BD}{vK CF:Nat}(hm:P.follows .mixedOrders=true)(h0:∀σ:List AV,iW σ=true->oH P σ I0)(hX0:∀σ:List AV,iW σ=true->o7 P σ X0):∀n,(∀σ:List AV,iW σ=true->o7 P σ (PZ P X0 I0 md FC vK CF n).1)/\∀σ:List AV,iW σ=true->oH P σ (PZ P X0 I0 md FC vK CF n).2
 |0=>⟨hX0,h0⟩
 |n+1=>by
  obtain ⟨h1,h2⟩:=UZ (md:=md) (FC:=FC) (vK:=vK) (CF:=CF) hm h0 hX0 n
  exact ⟨fun σ hσ=>akf hm hX0 h1 h2 hσ,fun σ hσ=>am0 hm h0 h1 h2 hσ⟩
def jo (P:Program)(X0:qO)(I0:Gv)(md:Md)(FC:FuncId->BD)(vK CF:Nat)(f:FuncId)(args:List SV)(nv:Nat):Option iE:=
 match P.funcs[f]? with
 |none=>none
 |some fn=>match fn.body with
  |none=>none
  |some c=>bif o9 fn&&Nat.ble args.length fn.ntmps then
    match uQ P ⟨(PZ P X0 I0 md FC vK CF CF).1,is2 md,(PZ P X0 I0 md FC vK CF CF).2,vK⟩ {FC f with N:=fn.ntmps} CF [] ⟨DX 0 args,.e,0⟩ nv c with
    |none=>none
    |some x=>match Ld P fn.results.toList [] x.nv x.outs with
     |none=>none
     |some (l,_,sd)=>some ⟨l,x.sd++sd,x.aw⟩
   else none
theorem aqc {X0:qO}{I0:Gv}{md:Md}{FC:FuncId->BD}{vK CF:Nat}{f:FuncId}{args:List SV}{nv:Nat}{R:iE}(h:jo P X0 I0 md FC vK CF f args nv=some R)(hm:P.follows .mixedOrders=true)(hρ:iW ρ=true)(h0:∀σ:List AV,iW σ=true->oH P σ I0)(hX:∀σ:List AV,iW σ=true->o7 P σ X0)
  (hs:jD P ρ R.sd) (haw:RJ P ρ R.aw):PC P f (dU ρ args) (rQ ρ R.rs):=by
 unfold jo at h
 split at h
 .cases h
 .rename_i fn hfn
  split at h
  .cases h
  .rename_i c hc
   cases hg:o9 fn&&Nat.ble args.length fn.ntmps
   .simp [hg] at h
   .simp only [hg,cond_true] at h
    split at h
    .cases h
    .rename_i x hx
     split at h
     .cases h
     .rename_i l vX sd hl
      simp only [aj] at h;subst h
      obtain ⟨h1,h2⟩:=UZ (md:=md) (FC:=FC) (vK:=vK) (CF:=CF) hm h0 hX CF
      exact (ZL (F:=FC f) hm h1 h2 hρ hfn hc hg (fun x hx=>by cases hx) hx hl hs haw).1
end
end Go.Fw
end
section
namespace Go.Fw
theorem am2 {α:Type}{f:α->List AV}{l:List α}(h:∀x,iW (f x)=true):Ui (l.map f)=true:=by
 induction l with
 |nil=>rfl
 |cons x l ih=>simp [Ui,h x,ih]
theorem fzn : iW []=true:=rfl
theorem fO {a:AV}{l:List AV}(h:a.fz=true)(k:iW l=true):iW (a::l)=true:=by simp [iW,h,k]
theorem fzs {α:Type}{f:α->List AV}(h:∀x,iW (f x)=true)(l:List α):(AV.sl (List.map f l) false).fz=true:=by simp [AV.fz,am2 h]
theorem fzb {b:Bool}{x y:List AV}(h:iW x=true)(k:iW y=true):iW (bif b then x else y)=true:=by cases b<;>simpa
def rowB (b:Bool):List AV:=[.p (.bool b)]
def kY (n:Int):List AV:=[.p (.int .i64 n)]
def am3 (n:Int):List AV:=[.p (.int .u8 n)]
def aum (s:List UInt8):List AV:=[.str s]
theorem aqd (b:Bool):iW (rowB b)=true:=rfl
theorem aqe (b:Int):iW (kY b)=true:=rfl
theorem am4 (b:Int):iW (am3 b)=true:=rfl
theorem aqf (b:List UInt8):iW (aum b)=true:=rfl
structure dL where
 Kind:Int
 Num:Nat
 Str:List UInt8
 Ref:Int
 deriving DecidableEq,Inhabited
def dL.enc (v:dL):List AV:=[.p (.int .u8 v.Kind),.p (.float .f64 v.Num),.str v.Str,.p (.int .i64 v.Ref)]
def dL.av (v:dL):AV:=.agg v.enc
def dL.kG : List Kd:=[.int .u8,.kC,.str,.int .i64]
theorem dL.iW (v:dL):Go.Fw.iW v.enc=true:=fO rfl (fO rfl (fO rfl (fO rfl (fzn))))
theorem dL.fz (v:dL):v.av.fz=true:=dL.iW v
theorem dL.len (v:dL):v.enc.length=4:=rfl
theorem dL.TI (l:List dL):lJ 4 (l.map dL.enc):=by
 intro row h
 obtain ⟨x,-,rfl⟩:=aU.1 h
 rfl
structure dI where
 Str:List UInt8
 Sym:Int
 deriving DecidableEq,Inhabited
def dI.enc (v:dI):List AV:=[.str v.Str,.p (.int .i64 v.Sym)]
def dI.av (v:dI):AV:=.agg v.enc
def dI.kG : List Kd:=[.str,.int .i64]
theorem dI.iW (v:dI):Go.Fw.iW v.enc=true:=fO rfl (fO rfl (fzn))
theorem dI.fz (v:dI):v.av.fz=true:=dI.iW v
theorem dI.len (v:dI):v.enc.length=2:=rfl
theorem dI.TI (l:List dI):lJ 2 (l.map dI.enc):=by
 intro row h
 obtain ⟨x,-,rfl⟩:=aU.1 h
 rfl
structure dN where
 Has:Int
 Value:dL
 Get:dL
 Set:dL
 fB:Bool
 eG:Bool
 Configurable:Bool
 deriving DecidableEq,Inhabited
def dN.enc (v:dN):List AV:=[.p (.int .u8 v.Has),.p (.int .u8 v.Value.Kind),.p (.float .f64 v.Value.Num),.str v.Value.Str,.p (.int .i64 v.Value.Ref),.p (.int .u8 v.Get.Kind),.p (.float .f64 v.Get.Num),.str v.Get.Str,.p (.int .i64 v.Get.Ref),.p (.int .u8 v.Set.Kind),.p (.float .f64 v.Set.Num),.str v.Set.Str,.p (.int .i64 v.Set.Ref),.p (.bool v.fB),.p (.bool v.eG),.p (.bool v.Configurable)]
def dN.av (v:dN):AV:=.agg v.enc
def dN.kG : List Kd:=[.int .u8,.int .u8,.kC,.str,.int .i64,.int .u8,.kC,.str,.int .i64,.int .u8,.kC,.str,.int .i64,.bool,.bool,.bool]
theorem dN.iW (v:dN):Go.Fw.iW v.enc=true:=fO rfl (fO rfl (fO rfl (fO rfl (fO rfl (fO rfl (fO rfl (fO rfl (fO rfl (fO rfl (fO rfl (fO rfl (fO rfl (fO rfl (fO rfl (fO rfl (fzn))))))))))))))))
theorem dN.fz (v:dN):v.av.fz=true:=dN.iW v
theorem dN.len (v:dN):v.enc.length=16:=rfl
theorem dN.TI (l:List dN):lJ 16 (l.map dN.enc):=by
 intro row h
 obtain ⟨x,-,rfl⟩:=aU.1 h
 rfl
structure dJ where
 Key:dI
 dV:dN
 deriving DecidableEq,Inhabited
def dJ.enc (v:dJ):List AV:=[.str v.Key.Str,.p (.int .i64 v.Key.Sym),.p (.int .u8 v.dV.Has),.p (.int .u8 v.dV.Value.Kind),.p (.float .f64 v.dV.Value.Num),.str v.dV.Value.Str,.p (.int .i64 v.dV.Value.Ref),.p (.int .u8 v.dV.Get.Kind),.p (.float .f64 v.dV.Get.Num),.str v.dV.Get.Str,.p (.int .i64 v.dV.Get.Ref),.p (.int .u8 v.dV.Set.Kind),.p (.float .f64 v.dV.Set.Num),.str v.dV.Set.Str,.p (.int .i64 v.dV.Set.Ref),.p (.bool v.dV.fB),.p (.bool v.dV.eG),.p (.bool v.dV.Configurable)]
def dJ.av (v:dJ):AV:=.agg v.enc
def dJ.kG : List Kd:=[.str,.int .i64,.int .u8,.int .u8,.kC,.str,.int .i64,.int .u8,.kC,.str,.int .i64,.int .u8,.kC,.str,.int .i64,.bool,.bool,.bool]
theorem dJ.iW (v:dJ):Go.Fw.iW v.enc=true:=fO rfl (fO rfl (fO rfl (fO rfl (fO rfl (fO rfl (fO rfl (fO rfl (fO rfl (fO rfl (fO rfl (fO rfl (fO rfl (fO rfl (fO rfl (fO rfl (fO rfl (fO rfl (fzn))))))))))))))))))
theorem dJ.fz (v:dJ):v.av.fz=true:=dJ.iW v
theorem dJ.len (v:dJ):v.enc.length=18:=rfl
theorem dJ.TI (l:List dJ):lJ 18 (l.map dJ.enc):=by
 intro row h
 obtain ⟨x,-,rfl⟩:=aU.1 h
 rfl
structure dS where
 Kind:Int
 eu:dL
 Ext:Bool
 Props:List dJ
 Target:dL
 Handler:dL
 Text:List UInt8
 Calls:Bool
 Makes:Bool
 deriving DecidableEq,Inhabited
def dS.enc (v:dS):List AV:=[.p (.int .u8 v.Kind),.p (.int .u8 v.eu.Kind),.p (.float .f64 v.eu.Num),.str v.eu.Str,.p (.int .i64 v.eu.Ref),.p (.bool v.Ext),.sl (List.map dJ.enc v.Props) false,.p (.int .u8 v.Target.Kind),.p (.float .f64 v.Target.Num),.str v.Target.Str,.p (.int .i64 v.Target.Ref),.p (.int .u8 v.Handler.Kind),.p (.float .f64 v.Handler.Num),.str v.Handler.Str,.p (.int .i64 v.Handler.Ref),.str v.Text,.p (.bool v.Calls),.p (.bool v.Makes)]
def dS.av (v:dS):AV:=.agg v.enc
def dS.kG : List Kd:=[.int .u8,.int .u8,.kC,.str,.int .i64,.bool,.sl,.int .u8,.kC,.str,.int .i64,.int .u8,.kC,.str,.int .i64,.str,.bool,.bool]
theorem dS.iW (v:dS):Go.Fw.iW v.enc=true:=fO rfl (fO rfl (fO rfl (fO rfl (fO rfl (fO rfl (fO (fzs dJ.iW _) (fO rfl (fO rfl (fO rfl (fO rfl (fO rfl (fO rfl (fO rfl (fO rfl (fO rfl (fO rfl (fO rfl (fzn))))))))))))))))))
theorem dS.fz (v:dS):v.av.fz=true:=dS.iW v
theorem dS.len (v:dS):v.enc.length=18:=rfl
theorem dS.TI (l:List dS):lJ 18 (l.map dS.enc):=by
 intro row h
 obtain ⟨x,-,rfl⟩:=aU.1 h
 rfl
structure dK where
 Objects:List dS
 deriving DecidableEq,Inhabited
def dK.enc (v:dK):List AV:=[.sl (List.map dS.enc v.Objects) false]
def dK.av (v:dK):AV:=.agg v.enc
def dK.kG : List Kd:=[.sl]
theorem dK.iW (v:dK):Go.Fw.iW v.enc=true:=fO (fzs dS.iW _) (fzn)
theorem dK.fz (v:dK):v.av.fz=true:=dK.iW v
theorem dK.len (v:dK):v.enc.length=1:=rfl
theorem dK.TI (l:List dK):lJ 1 (l.map dK.enc):=by
 intro row h
 obtain ⟨x,-,rfl⟩:=aU.1 h
 rfl
structure yT where
 Kind:Int
 Value:dL
 Yes:Bool
 Found:Bool
 dV:dN
 Keys:List dI
 Error:Int
 Text:List UInt8
 deriving DecidableEq,Inhabited
def yT.enc (v:yT):List AV:=[.p (.int .u8 v.Kind),.p (.int .u8 v.Value.Kind),.p (.float .f64 v.Value.Num),.str v.Value.Str,.p (.int .i64 v.Value.Ref),.p (.bool v.Yes),.p (.bool v.Found),.p (.int .u8 v.dV.Has),.p (.int .u8 v.dV.Value.Kind),.p (.float .f64 v.dV.Value.Num),.str v.dV.Value.Str,.p (.int .i64 v.dV.Value.Ref),.p (.int .u8 v.dV.Get.Kind),.p (.float .f64 v.dV.Get.Num),.str v.dV.Get.Str,.p (.int .i64 v.dV.Get.Ref),.p (.int .u8 v.dV.Set.Kind),.p (.float .f64 v.dV.Set.Num),.str v.dV.Set.Str,.p (.int .i64 v.dV.Set.Ref),.p (.bool v.dV.fB),.p (.bool v.dV.eG),.p (.bool v.dV.Configurable),.sl (List.map dI.enc v.Keys) false,.p (.int .u8 v.Error),.str v.Text]
def yT.av (v:yT):AV:=.agg v.enc
def yT.kG : List Kd:=[.int .u8,.int .u8,.kC,.str,.int .i64,.bool,.bool,.int .u8,.int .u8,.kC,.str,.int .i64,.int .u8,.kC,.str,.int .i64,.int .u8,.kC,.str,.int .i64,.bool,.bool,.bool,.sl,.int .u8,.str]
theorem yT.iW (v:yT):Go.Fw.iW v.enc=true:=fO rfl (fO rfl (fO rfl (fO rfl (fO rfl (fO rfl (fO rfl (fO rfl (fO rfl (fO rfl (fO rfl (fO rfl (fO rfl (fO rfl (fO rfl (fO rfl (fO rfl (fO rfl (fO rfl (fO rfl (fO rfl (fO rfl (fO rfl (fO (fzs dI.iW _) (fO rfl (fO rfl (fzn))))))))))))))))))))))))))
theorem yT.fz (v:yT):v.av.fz=true:=yT.iW v
theorem yT.len (v:yT):v.enc.length=26:=rfl
theorem yT.TI (l:List yT):lJ 26 (l.map yT.enc):=by
 intro row h
 obtain ⟨x,-,rfl⟩:=aU.1 h
 rfl
structure uq where
 am5:Int
 Object:Int
 Method:Int
 Key:dI
 Throw:Bool
 Out:yT
 deriving DecidableEq,Inhabited
def uq.enc (v:uq):List AV:=[.p (.int .i64 v.am5),.p (.int .i64 v.Object),.p (.int .u8 v.Method),.str v.Key.Str,.p (.int .i64 v.Key.Sym),.p (.bool v.Throw),.p (.int .u8 v.Out.Kind),.p (.int .u8 v.Out.Value.Kind),.p (.float .f64 v.Out.Value.Num),.str v.Out.Value.Str,.p (.int .i64 v.Out.Value.Ref),.p (.bool v.Out.Yes),.p (.bool v.Out.Found),.p (.int .u8 v.Out.dV.Has),.p (.int .u8 v.Out.dV.Value.Kind),.p (.float .f64 v.Out.dV.Value.Num),.str v.Out.dV.Value.Str,.p (.int .i64 v.Out.dV.Value.Ref),.p (.int .u8 v.Out.dV.Get.Kind),.p (.float .f64 v.Out.dV.Get.Num),.str v.Out.dV.Get.Str,.p (.int .i64 v.Out.dV.Get.Ref),.p (.int .u8 v.Out.dV.Set.Kind),.p (.float .f64 v.Out.dV.Set.Num),.str v.Out.dV.Set.Str,.p (.int .i64 v.Out.dV.Set.Ref),.p (.bool v.Out.dV.fB),.p (.bool v.Out.dV.eG),.p (.bool v.Out.dV.Configurable),.sl (List.map dI.enc v.Out.Keys) false,.p (.int .u8 v.Out.Error),.str v.Out.Text]
def uq.av (v:uq):AV:=.agg v.enc
def uq.kG : List Kd:=[.int .i64,.int .i64,.int .u8,.str,.int .i64,.bool,.int .u8,.int .u8,.kC,.str,.int .i64,.bool,.bool,.int .u8,.int .u8,.kC,.str,.int .i64,.int .u8,.kC,.str,.int .i64,.int .u8,.kC,.str,.int .i64,.bool,.bool,.bool,.sl,.int .u8,.str]
theorem uq.iW (v:uq):Go.Fw.iW v.enc=true:=fO rfl (fO rfl (fO rfl (fO rfl (fO rfl (fO rfl (fO rfl (fO rfl (fO rfl (fO rfl (fO rfl (fO rfl (fO rfl (fO rfl (fO rfl (fO rfl (fO rfl (fO rfl (fO rfl (fO rfl (fO rfl (fO rfl (fO rfl (fO rfl (fO rfl (fO rfl (fO rfl (fO rfl (fO rfl (fO (fzs dI.iW _) (fO rfl (fO rfl (fzn))))))))))))))))))))))))))))))))
theorem uq.fz (v:uq):v.av.fz=true:=uq.iW v
theorem uq.len (v:uq):v.enc.length=32:=rfl
theorem uq.TI (l:List uq):lJ 32 (l.map uq.enc):=by
 intro row h
 obtain ⟨x,-,rfl⟩:=aU.1 h
 rfl
structure qQ where
 Method:Int
 Object:Int
 Key:dI
 dV:dN
 Value:dL
 Receiver:dL
 Args:List dL
 deriving DecidableEq,Inhabited
def qQ.enc (v:qQ):List AV:=[.p (.int .u8 v.Method),.p (.int .i64 v.Object),.str v.Key.Str,.p (.int .i64 v.Key.Sym),.p (.int .u8 v.dV.Has),.p (.int .u8 v.dV.Value.Kind),.p (.float .f64 v.dV.Value.Num),.str v.dV.Value.Str,.p (.int .i64 v.dV.Value.Ref),.p (.int .u8 v.dV.Get.Kind),.p (.float .f64 v.dV.Get.Num),.str v.dV.Get.Str,.p (.int .i64 v.dV.Get.Ref),.p (.int .u8 v.dV.Set.Kind),.p (.float .f64 v.dV.Set.Num),.str v.dV.Set.Str,.p (.int .i64 v.dV.Set.Ref),.p (.bool v.dV.fB),.p (.bool v.dV.eG),.p (.bool v.dV.Configurable),.p (.int .u8 v.Value.Kind),.p (.float .f64 v.Value.Num),.str v.Value.Str,.p (.int .i64 v.Value.Ref),.p (.int .u8 v.Receiver.Kind),.p (.float .f64 v.Receiver.Num),.str v.Receiver.Str,.p (.int .i64 v.Receiver.Ref),.sl (List.map dL.enc v.Args) false]
def qQ.av (v:qQ):AV:=.agg v.enc
def qQ.kG : List Kd:=[.int .u8,.int .i64,.str,.int .i64,.int .u8,.int .u8,.kC,.str,.int .i64,.int .u8,.kC,.str,.int .i64,.int .u8,.kC,.str,.int .i64,.bool,.bool,.bool,.int .u8,.kC,.str,.int .i64,.int .u8,.kC,.str,.int .i64,.sl]
theorem qQ.iW (v:qQ):Go.Fw.iW v.enc=true:=fO rfl (fO rfl (fO rfl (fO rfl (fO rfl (fO rfl (fO rfl (fO rfl (fO rfl (fO rfl (fO rfl (fO rfl (fO rfl (fO rfl (fO rfl (fO rfl (fO rfl (fO rfl (fO rfl (fO rfl (fO rfl (fO rfl (fO rfl (fO rfl (fO rfl (fO rfl (fO rfl (fO rfl (fO (fzs dL.iW _) (fzn)))))))))))))))))))))))))))))
theorem qQ.fz (v:qQ):v.av.fz=true:=qQ.iW v
theorem qQ.len (v:qQ):v.enc.length=29:=rfl
theorem qQ.TI (l:List qQ):lJ 29 (l.map qQ.enc):=by
 intro row h
 obtain ⟨x,-,rfl⟩:=aU.1 h
 rfl
structure uw where
 Kind:Int
 Ask:qQ
 Func:dL
 This:dL
 For:dL
 Args:List dL
 Object:dS
 Out:yT
 deriving DecidableEq,Inhabited
def uw.enc (v:uw):List AV:=[.p (.int .u8 v.Kind),.p (.int .u8 v.Ask.Method),.p (.int .i64 v.Ask.Object),.str v.Ask.Key.Str,.p (.int .i64 v.Ask.Key.Sym),.p (.int .u8 v.Ask.dV.Has),.p (.int .u8 v.Ask.dV.Value.Kind),.p (.float .f64 v.Ask.dV.Value.Num),.str v.Ask.dV.Value.Str,.p (.int .i64 v.Ask.dV.Value.Ref),.p (.int .u8 v.Ask.dV.Get.Kind),.p (.float .f64 v.Ask.dV.Get.Num),.str v.Ask.dV.Get.Str,.p (.int .i64 v.Ask.dV.Get.Ref),.p (.int .u8 v.Ask.dV.Set.Kind),.p (.float .f64 v.Ask.dV.Set.Num),.str v.Ask.dV.Set.Str,.p (.int .i64 v.Ask.dV.Set.Ref),.p (.bool v.Ask.dV.fB),.p (.bool v.Ask.dV.eG),.p (.bool v.Ask.dV.Configurable),.p (.int .u8 v.Ask.Value.Kind),.p (.float .f64 v.Ask.Value.Num),.str v.Ask.Value.Str,.p (.int .i64 v.Ask.Value.Ref),.p (.int .u8 v.Ask.Receiver.Kind),.p (.float .f64 v.Ask.Receiver.Num),.str v.Ask.Receiver.Str,.p (.int .i64 v.Ask.Receiver.Ref),.sl (List.map dL.enc v.Ask.Args) false,.p (.int .u8 v.Func.Kind),.p (.float .f64 v.Func.Num),.str v.Func.Str,.p (.int .i64 v.Func.Ref),.p (.int .u8 v.This.Kind),.p (.float .f64 v.This.Num),.str v.This.Str,.p (.int .i64 v.This.Ref),.p (.int .u8 v.For.Kind),.p (.float .f64 v.For.Num),.str v.For.Str,.p (.int .i64 v.For.Ref),.sl (List.map dL.enc v.Args) false,.p (.int .u8 v.Object.Kind),.p (.int .u8 v.Object.eu.Kind),.p (.float .f64 v.Object.eu.Num),.str v.Object.eu.Str,.p (.int .i64 v.Object.eu.Ref),.p (.bool v.Object.Ext),.sl (List.map dJ.enc v.Object.Props) false,.p (.int .u8 v.Object.Target.Kind),.p (.float .f64 v.Object.Target.Num),.str v.Object.Target.Str,.p (.int .i64 v.Object.Target.Ref),.p (.int .u8 v.Object.Handler.Kind),.p (.float .f64 v.Object.Handler.Num),.str v.Object.Handler.Str,.p (.int .i64 v.Object.Handler.Ref),.str v.Object.Text,.p (.bool v.Object.Calls),.p (.bool v.Object.Makes),.p (.int .u8 v.Out.Kind),.p (.int .u8 v.Out.Value.Kind),.p (.float .f64 v.Out.Value.Num),.str v.Out.Value.Str,.p (.int .i64 v.Out.Value.Ref),.p (.bool v.Out.Yes),.p (.bool v.Out.Found),.p (.int .u8 v.Out.dV.Has),.p (.int .u8 v.Out.dV.Value.Kind),.p (.float .f64 v.Out.dV.Value.Num),.str v.Out.dV.Value.Str,.p (.int .i64 v.Out.dV.Value.Ref),.p (.int .u8 v.Out.dV.Get.Kind),.p (.float .f64 v.Out.dV.Get.Num),.str v.Out.dV.Get.Str,.p (.int .i64 v.Out.dV.Get.Ref),.p (.int .u8 v.Out.dV.Set.Kind),.p (.float .f64 v.Out.dV.Set.Num),.str v.Out.dV.Set.Str,.p (.int .i64 v.Out.dV.Set.Ref),.p (.bool v.Out.dV.fB),.p (.bool v.Out.dV.eG),.p (.bool v.Out.dV.Configurable),.sl (List.map dI.enc v.Out.Keys) false,.p (.int .u8 v.Out.Error),.str v.Out.Text]
def uw.av (v:uw):AV:=.agg v.enc
def uw.kG : List Kd:=[.int .u8,.int .u8,.int .i64,.str,.int .i64,.int .u8,.int .u8,.kC,.str,.int .i64,.int .u8,.kC,.str,.int .i64,.int .u8,.kC,.str,.int .i64,.bool,.bool,.bool,.int .u8,.kC,.str,.int .i64,.int .u8,.kC,.str,.int .i64,.sl,.int .u8,.kC,.str,.int .i64,.int .u8,.kC,.str,.int .i64,.int .u8,.kC,.str,.int .i64,.sl,.int .u8,.int .u8,.kC,.str,.int .i64,.bool,.sl,.int .u8,.kC,.str,.int .i64,.int .u8,.kC,.str,.int .i64,.str,.bool,.bool,.int .u8,.int .u8,.kC,.str,.int .i64,.bool,.bool,.int .u8,.int .u8,.kC,.str,.int .i64,.int .u8,.kC,.str,.int .i64,.int .u8,.kC,.str,.int .i64,.bool,.bool,.bool,.sl,.int .u8,.str]
theorem uw.iW (v:uw):Go.Fw.iW v.enc=true:=fO rfl (fO rfl (fO rfl (fO rfl (fO rfl (fO rfl (fO rfl (fO rfl (fO rfl (fO rfl (fO rfl (fO rfl (fO rfl (fO rfl (fO rfl (fO rfl (fO rfl (fO rfl (fO rfl (fO rfl (fO rfl (fO rfl (fO rfl (fO rfl (fO rfl (fO rfl (fO rfl (fO rfl (fO rfl (fO (fzs dL.iW _) (fO rfl (fO rfl (fO rfl (fO rfl (fO rfl (fO rfl (fO rfl (fO rfl (fO rfl (fO rfl (fO rfl (fO rfl (fO (fzs dL.iW _) (fO rfl (fO rfl (fO rfl (fO rfl (fO rfl (fO rfl (fO (fzs dJ.iW _) (fO rfl (fO rfl (fO rfl (fO rfl (fO rfl (fO rfl (fO rfl (fO rfl (fO rfl (fO rfl (fO rfl (fO rfl (fO rfl (fO rfl (fO rfl (fO rfl (fO rfl (fO rfl (fO rfl (fO rfl (fO rfl (fO rfl (fO rfl (fO rfl (fO rfl (fO rfl (fO rfl (fO rfl (fO rfl (fO rfl (fO rfl (fO rfl (fO rfl (fO rfl (fO (fzs dI.iW _) (fO rfl (fO rfl (fzn)))))))))))))))))))))))))))))))))))))))))))))))))))))))))))))))))))))))))))))))))))))))
theorem uw.fz (v:uw):v.av.fz=true:=uw.iW v
theorem uw.len (v:uw):v.enc.length=87:=rfl
theorem uw.TI (l:List uw):lJ 87 (l.map uw.enc):=by
 intro row h
 obtain ⟨x,-,rfl⟩:=aU.1 h
 rfl
structure CW where
 shut:Bool
 proto:dL
 keys:List dI
 found:Bool
 desc:dN
 deriving DecidableEq,Inhabited
def CW.enc (v:CW):List AV:=[.p (.bool v.shut),.p (.int .u8 v.proto.Kind),.p (.float .f64 v.proto.Num),.str v.proto.Str,.p (.int .i64 v.proto.Ref),.sl (List.map dI.enc v.keys) false,.p (.bool v.found),.p (.int .u8 v.desc.Has),.p (.int .u8 v.desc.Value.Kind),.p (.float .f64 v.desc.Value.Num),.str v.desc.Value.Str,.p (.int .i64 v.desc.Value.Ref),.p (.int .u8 v.desc.Get.Kind),.p (.float .f64 v.desc.Get.Num),.str v.desc.Get.Str,.p (.int .i64 v.desc.Get.Ref),.p (.int .u8 v.desc.Set.Kind),.p (.float .f64 v.desc.Set.Num),.str v.desc.Set.Str,.p (.int .i64 v.desc.Set.Ref),.p (.bool v.desc.fB),.p (.bool v.desc.eG),.p (.bool v.desc.Configurable)]
def CW.av (v:CW):AV:=.agg v.enc
def CW.kG : List Kd:=[.bool,.int .u8,.kC,.str,.int .i64,.sl,.bool,.int .u8,.int .u8,.kC,.str,.int .i64,.int .u8,.kC,.str,.int .i64,.int .u8,.kC,.str,.int .i64,.bool,.bool,.bool]
theorem CW.iW (v:CW):Go.Fw.iW v.enc=true:=fO rfl (fO rfl (fO rfl (fO rfl (fO rfl (fO (fzs dI.iW _) (fO rfl (fO rfl (fO rfl (fO rfl (fO rfl (fO rfl (fO rfl (fO rfl (fO rfl (fO rfl (fO rfl (fO rfl (fO rfl (fO rfl (fO rfl (fO rfl (fO rfl (fzn)))))))))))))))))))))))
theorem CW.fz (v:CW):v.av.fz=true:=CW.iW v
theorem CW.len (v:CW):v.enc.length=23:=rfl
theorem CW.TI (l:List CW):lJ 23 (l.map CW.enc):=by
 intro row h
 obtain ⟨x,-,rfl⟩:=aU.1 h
 rfl
structure nZ where
 Ext:Bool
 eu:dL
 Found:Bool
 dV:dN
 Keys:List dI
 Own:List dN
 deriving DecidableEq,Inhabited
def nZ.enc (v:nZ):List AV:=[.p (.bool v.Ext),.p (.int .u8 v.eu.Kind),.p (.float .f64 v.eu.Num),.str v.eu.Str,.p (.int .i64 v.eu.Ref),.p (.bool v.Found),.p (.int .u8 v.dV.Has),.p (.int .u8 v.dV.Value.Kind),.p (.float .f64 v.dV.Value.Num),.str v.dV.Value.Str,.p (.int .i64 v.dV.Value.Ref),.p (.int .u8 v.dV.Get.Kind),.p (.float .f64 v.dV.Get.Num),.str v.dV.Get.Str,.p (.int .i64 v.dV.Get.Ref),.p (.int .u8 v.dV.Set.Kind),.p (.float .f64 v.dV.Set.Num),.str v.dV.Set.Str,.p (.int .i64 v.dV.Set.Ref),.p (.bool v.dV.fB),.p (.bool v.dV.eG),.p (.bool v.dV.Configurable),.sl (List.map dI.enc v.Keys) false,.sl (List.map dN.enc v.Own) false]
def nZ.av (v:nZ):AV:=.agg v.enc
def nZ.kG : List Kd:=[.bool,.int .u8,.kC,.str,.int .i64,.bool,.int .u8,.int .u8,.kC,.str,.int .i64,.int .u8,.kC,.str,.int .i64,.int .u8,.kC,.str,.int .i64,.bool,.bool,.bool,.sl,.sl]
theorem nZ.iW (v:nZ):Go.Fw.iW v.enc=true:=fO rfl (fO rfl (fO rfl (fO rfl (fO rfl (fO rfl (fO rfl (fO rfl (fO rfl (fO rfl (fO rfl (fO rfl (fO rfl (fO rfl (fO rfl (fO rfl (fO rfl (fO rfl (fO rfl (fO rfl (fO rfl (fO rfl (fO (fzs dI.iW _) (fO (fzs dN.iW _) (fzn))))))))))))))))))))))))
theorem nZ.fz (v:nZ):v.av.fz=true:=nZ.iW v
theorem nZ.len (v:nZ):v.enc.length=24:=rfl
theorem nZ.TI (l:List nZ):lJ 24 (l.map nZ.enc):=by
 intro row h
 obtain ⟨x,-,rfl⟩:=aU.1 h
 rfl
end Go.Fw
end
section
namespace Go.Fw
variable [jY]
def X0 : qO:=fun _ _ _ _=>none
def xw (P:Program)(ρ:List AV):List (Pc×Side)->Prop
 |[]=>True
 |x::r=>(Pc.holds ρ x.1->x.2.holds P ρ)/\xw P ρ r
theorem xw.ok {P:Program}{ρ:List AV}:∀{l:List (Pc×Side)},xw P ρ l->jD P ρ l
 |[],_,x,hx=>nomatch hx
 |y::r,h,x,hx=>by
  cases hx with
  |head=>exact h.1
  |tail _ hx=>exact xw.ok h.2 x hx
theorem sc {P:Program}{ρ:List AV}{pc:Pc}{s:Side}{l:List (Pc×Side)}(h:Pc.holds ρ pc->s.holds P ρ)(k:xw P ρ l):xw P ρ ((pc,s)::l):=⟨h,k⟩
theorem Pc.holds.at {ρ:List AV}{pc:Pc}(h:Pc.holds ρ pc)(k:Nat){x:Tm×Bool}(e:pc[k]?=some x):(x.1.den ρ).B=x.2:=h x (aG e)
theorem iY {ρ:List AV}{g:Tm}{v:SV}{A:AV}(h:v.den ρ=A):rQ ρ [(g,v)]=A:=h
theorem gW {α:Type}{ρ:List AV}{g:Tm}{v:SV}{y:Tm×SV}{r:List (Tm×SV)}(enc:α->AV){c:Bool}{a b:α}(hg:(g.den ρ).B=c)(ha:v.den ρ=enc a)(hb:rQ ρ (y::r)=enc b) :
  rQ ρ ((g,v)::y::r)=enc (bif c then a else b):=by
 simp only [rQ,hg]
 cases c
 .exact hb
 .exact ha
def je {α:Type}(f:α->List AV)(l:List α):Int:=mZ (List.map f l)
theorem iL {α:Type}(f:α->List AV)(l:List α):je f l=l.length:=by simp [je,mZ]
end Go.Fw
end
section
namespace Go.Fw
variable [jY]
def ji (b:Bool):Int:=bif b then 0 else 1
def Ny (b:Bool)(l0 l1:List AV):Nat×List AV:=bif b then (0,l0) else (1,l1)
theorem ZM {ρ:List AV}{p:Nat}{l:List AV}(h:(ρ.drop p).take l.length=l):∀(i:Nat) (u:AV),l[i]?=some u->ρ.getD (p+i) eP=u:=by
 intro i u hu
 have hi:=(aA.1 hu).1
 rw [<- h,bH,if_pos hi,List.getElem?_drop] at hu
 simp [aB,hu]
theorem GL {a b:Int}:jC a b=true↔a≠b:=by simp [jC]
theorem wF {a b:Int}:jC a b=false↔a=b:=by simp [jC]
theorem kP {a b:Int}:dZ a b=true↔a=b:=by simp [dZ]
theorem tK {a b:Int}:dZ a b=false↔a≠b:=by simp [dZ]
theorem ar7 {α:Type}[Inhabited α]{f:α->List AV}{l:List α}{i:Int}(h0:0<=i)(h1:i<(l.length:Int)):0<=i/\(List.map f l)[i.toNat]?=some (f (l.getD i.toNat default)):=by
 refine ⟨h0,?_⟩
 have h3:i.toNat<l.length:=by omega
 simp [aB,h3]
end Go.Fw
end
section
namespace Go.Fw
variable [jY]
def Cb (n:Nat):Prop:=∀s t,FloatKind.f64.format.read n≠.nan s t
theorem WO {m n:Nat}{o:Ordering}(h:FloatKind.f64.format.order m n=some o):Cb m/\Cb n:=by
 unfold Ieee.Format.order at h
 constructor<;>intro s t e
 .rw [e] at h;simp [Ieee.Datum.order] at h
 .rw [e] at h;cases hm:FloatKind.f64.format.read m<;>rw [hm] at h<;>simp [Ieee.Datum.order] at h
theorem awR {m n:Nat}(h:Ns m n=false):Cb m:=(WO (by simpa [Ns] using h)).1
def oM (x:Nat):Int:=x
def qw (n:Int):Nat:=n.toNat
def jI (x:Nat):Nat:=FloatKind.f64.encode ((FloatKind.f64.decode x).integral .zero)
theorem akh {x:Nat}(h:Cb x):Extern.MathFloor.toIntegral "math.archTrunc" .zero #[.float .f64 x]=pure (.float .f64 (jI x)):=by
 have e:Extern.MathFloor.toIntegral "math.archTrunc" .zero #[.float .f64 x]=(match FloatKind.f64.decode x with
  | .nan s t=>
   if FloatKind.f64.format.quiet t=t then pure (.float .f64 x) else do
   let kept <- choose (.extern "math.Floor,Ceil,Trunc,RoundToEven.signallingNaN kept" 2)
   pure (.float .f64 (if kept == 1 then x else FloatKind.f64.encode (.nan s (FloatKind.f64.format.quiet t))))
  |d=>pure (.float .f64 (FloatKind.f64.encode (d.integral .zero)))):=by kernel_rfl
 rw [e]
 unfold jI
 cases hd:FloatKind.f64.decode x with
 |nan s t=>exact absurd hd (h s t)
 |_=>rfl
theorem abg {P:Program}{f:FuncId}{fn:Func}{e:Array Value->Sem Value}{a u:Value}{r:AV}(hf:P.funcs[f]?=some fn)(hb:fn.body.isNone=true)(hname:(fn.name == "runtime.NumGoroutine")=false)
  (hn:Extern.findNext fn=none) (he:Extern.find fn=some e) (ha:J3 a=true) (hrun:e #[a]=pure u) (hr:J3 u=true) (hu:r=.p u):PC P f [.p a] r:=by
 intro w fix vs hfix hG hargs
 rw [hf]
 dsimp only
 rw [if_pos hb]
 obtain ⟨v0,rfl⟩:∃v0,vs=[v0]:=by
  have:=hargs.1
  match vs,this with
  |[v0],_=>exact ⟨v0,rfl⟩
 have h0:=hargs.2 0 (.p a) v0 rfl rfl
 obtain rfl:=h0.g_
 subst hu
 refine ⟨u,?_,.p hr⟩
 have hm:(mark (.extern f)).run P w=.ok () w:=rfl
 simp only [callFunc,Sem.run_bind,run_program,Result.andThen_ok,hf,hname,aP,if_false,hb,if_true,hm,hn,he]
 simp [hrun]
def abh (n:Nat):Bool:=match FloatKind.f64.format.read n with | .nan _ _=>true|_=>false
theorem aki {n:Nat}(h:abh n=false):Cb n:=by
 intro s t e
 unfold abh at h
 rw [e] at h
 cases h
def aun (a b c:FuncId):qO:=fun _ nv f args=>
 match args with
 |[.sc .kC (.lf n)]=>bif Nat.beq f a then some (.sc (.int .u64) (.li (.ofNat n)),nv,[],false) else bif Nat.beq f c&&!abh n then Rh (jI n) fun m=>some (.sc .kC (.lf m),nv,[],false) else none
 |[.sc (.int .u64) (.li (.ofNat n))]=>bif Nat.beq f b then some (.sc .kC (.lf n),nv,[],false) else none
 |_=>none
theorem aqi {P:Program}{a b c:FuncId}(h1:∀x,PC P a [.p (.float .f64 x)] (.p (.int .u64 (oM x))))(h2:∀x,PC P b [.p (.int .u64 x)] (.p (.float .f64 (qw x))))
  (h3:∀x,Cb x->PC P c [.p (.float .f64 x)] (.p (.float .f64 (jI x)))):∀σ:List AV,iW σ=true->o7 P σ (aun a b c):=by
 intro σ _ pc nv f args r h _ _
 unfold aun at h
 split at h
 .rename_i n
  cases h4:Nat.beq f a
  .simp only [h4,cond_false] at h
   cases h5:Nat.beq f c&&!abh n
   .simp [h5] at h
   .simp only [h5,cond_true,yG,aj] at h;subst h
    simp only [ak,Bool.not_eq_true'] at h5
    have:=au h5.1
    subst this
    exact ⟨h3 n (aki h5.2),fun h=>by cases h⟩
  .simp only [h4,cond_true,aj] at h;subst h
   have:=au h4
   subst this
   exact ⟨h1 n,fun h=>by cases h⟩
 .rename_i n
  cases h4:Nat.beq f b
  .simp [h4] at h
  .simp only [h4,cond_true,aj] at h;subst h
   have:=au h4
   subst this
   exact ⟨h2 n,fun h=>by cases h⟩
 .cases h
theorem Lh (s:Bool)(n d:Nat):Ieee.Toward.cut .zero s n d=n / 2 ^ d:=by
 unfold Ieee.Toward.cut
 simp only [Nat.shiftLeft_eq,Nat.one_mul,Bool.toNat_false,Nat.add_zero]
 rcases Nat.le_total d (n.log2+2) with h|h
 .rw [Nat.min_eq_left h]
 .rw [Nat.min_eq_right h]
  have h1:n<2 ^ (n.log2+2):=bZ Nat.lt_log2_self (Nat.pow_le_pow_right (by decide) (by omega))
  have h2:n<2 ^ d:=bZ h1 (Nat.pow_le_pow_right (by decide) h)
  rw [Nat.div_eq_of_lt h1,Nat.div_eq_of_lt h2]
theorem auo : FloatKind.f64.format.read 4652218415073722368=.number false 4503599627370496 (-42):=by decide +kernel
theorem aup : FloatKind.f64.format.read 0=.number false 0 (-1074):=by decide +kernel
theorem am7 {m:Nat}(h1:Yd m 0=true)(h2:UH m 4652218415073722368=true):∃s k i,FloatKind.f64.format.read m=.number s k i/\k*2 ^ i.toNat / 2 ^ (-i).toNat<=4503599627370496/\(s=false\/k=0)/\(s=false->k*2 ^ (i-min i (-42)).toNat<=4503599627370496*2 ^ ((-42)-min i (-42)).toNat):=by
 unfold Yd at h1
 unfold UH at h2
 unfold Ieee.Format.order at h1 h2
 rw [aup] at h1
 rw [auo] at h2
 cases hm:FloatKind.f64.format.read m with
 |nan s t=>rw [hm] at h1;simp [Ieee.Datum.order] at h1
 |infinity s=>rw [hm] at h1 h2;cases s<;>simp [Ieee.Datum.order] at h1 h2
 |number s k i=>
  rw [hm] at h1 h2
  simp only [Ieee.Datum.order,Ieee.signed,Nat.shiftLeft_eq,aP,if_false,if_true] at h1 h2
  have c1:∀a b:Int,((some (compare a b) == some Ordering.gt)||(some (compare a b) == some Ordering.eq))=true->b<=a:=by
   intro a b h
   have hc:compare a b=if a<b then Ordering.lt else if a=b then Ordering.eq else Ordering.gt:=rfl
   rw [hc] at h
   by_cases h':a<b
   .rw [if_pos h'] at h;simp at h
   .omega
  have c2:∀a b:Int,((some (compare a b) == some Ordering.lt)||(some (compare a b) == some Ordering.eq))=true->a<=b:=by
   intro a b h
   have hc:compare a b=if a<b then Ordering.lt else if a=b then Ordering.eq else Ordering.gt:=rfl
   rw [hc] at h
   by_cases h':a<b
   .omega
   .rw [if_neg h'] at h
    by_cases h2:a=b
    .omega
    .rw [if_neg h2] at h;simp at h
  have g1:=c1 _ _ h1
  have g2:=c2 _ _ h2
  have hs:s=false\/k=0:=by
   cases s
   .exact .inl rfl
   .right
    simp only [if_true] at g1
    have hp:0<2 ^ (i-min i (-1074)).toNat:=Nat.two_pow_pos _
    rcases Nat.eq_zero_or_pos k with h|h
    .exact h
    .have:0<k*2 ^ (i-min i (-1074)).toNat:=Nat.mul_pos h hp
     have h3:(0:Int) <= -((k*2 ^ (i-min i (-1074)).toNat:Nat):Int):=by simpa using g1
     omega
  have key:s=false->k*2 ^ (i-min i (-42)).toNat<=4503599627370496*2 ^ ((-42)-min i (-42)).toNat:=by
   intro e;subst e
   simp only [aP,if_false] at g2
   exact_mod_cast g2
  refine ⟨s,k,i,rfl,?_,hs,key⟩
  rcases hs with hs|hs
  .have key:=key hs
   rcases Int.le_total i (-42) with hi|hi
   .rw [Int.min_eq_left hi] at key
    have e1:i.toNat=0:=by omega
    have e2:(i-i).toNat=0:=by simp
    rw [e1,Nat.pow_zero,Nat.mul_one]
    rw [e2,Nat.pow_zero,Nat.mul_one] at key
    have h3:2 ^ ((-42)-i).toNat<=2 ^ (-i).toNat:=Nat.pow_le_pow_right (by decide) (by omega)
    exact Nat.div_le_of_le_mul (bW key (by rw [Nat.mul_comm];exact bU _ h3))
   .rw [Int.min_eq_right hi] at key
    have e3:((-42:Int) - -42).toNat=0:=by decide
    rw [e3,Nat.pow_zero,Nat.mul_one] at key
    have h3:2 ^ i.toNat<=2 ^ (i - -42).toNat:=Nat.pow_le_pow_right (by decide) (by omega)
    exact bW (Nat.div_le_self _ _) (bW (Nat.mul_le_mul_left _ h3) key)
  .subst hs;simp
theorem aqk {m:Nat}(h1:Yd m 0=true)(h2:UH m 4652218415073722368=true):∃q:Nat,(FloatKind.f64.decode m).toInt .zero=some (q:Int)/\q<=4503599627370496:=by
 obtain ⟨s,k,i,hm,hb,hs,-⟩:=am7 h1 h2
 refine ⟨k*2 ^ i.toNat / 2 ^ (-i).toNat,?_,hb⟩
 unfold FloatKind.decode
 rw [hm]
 simp only [Ieee.Datum.toInt,Ieee.Datum.integral,Lh,Nat.shiftLeft_eq]
 rcases hs with rfl|rfl
 .simp [Ieee.signed]
 .cases s<;>simp [Ieee.signed]
theorem awS {P:Program}{ρ:List AV}{x:Tm}(h1:Yd (x.den ρ).F 0=true)(h2:UH (x.den ρ).F 4652218415073722368=true):Side.holds P ρ (.num .i64 x (.UJ x)):=by
 obtain ⟨q,hq,hb⟩:=aqk h1 h2
 have e:((Tm.UJ x).den ρ).I=(q:Int):=by
  show ((FloatKind.f64.decode (x.den ρ).F).toInt .zero).getD 0=_
  rw [hq];rfl
 refine ⟨by rw [e];exact hq,?_,?_⟩
 .rw [e];have:IntKind.i64.min = -9223372036854775808:=rfl;omega
 .rw [e];have:IntKind.i64.max=9223372036854775807:=rfl;omega
end Go.Fw
end
section
namespace Go.Fw
variable [jY]
section
variable {P : Program}
theorem aEJ {w:World}{E:Env}{t e:TypeId}(hu:P.underlying t=some (.slice e)){rows:List (List AV)}{full:Bool}{v:Value}(h:Rep w E (.sl rows full) v)(ox oy:Operand) :
  ∃b:Bool,(do eqGuard .eql t ox oy v (.slice none 0 0);binOp .eql t v (.slice none 0 0):Sem Value).run P w=.ok (.bool b) w/\(b=true->rows=[]):=by
 have run:∀(a:Option Addr) (n c:Nat),(do eqGuard .eql t ox oy (.slice a n c) (.slice none 0 0);binOp .eql t (.slice a n c) (.slice none 0 0):Sem Value).run P w=.ok (.bool a.isNone) w:=by
  intro a n c
  have key:∀d,(Op.equalIn (d+1) t (.slice a n c) (.slice none 0 0)).run P w=.ok a.isNone w:=by
   intro d
   cases a<;>simp [Op.equalIn,run_underlying hu]
  have key2:(Op.equal t (.slice a n c) (.slice none 0 0)).run P w=.ok a.isNone w:=key 9999
  simp [eqGuard,binOp,key2]
 cases h with
 |slnil _ a=>exact ⟨_,run a 0 0,fun _=>rfl⟩
 |sl _ _ sz c o cap g=>exact ⟨_,run _ _ _,fun h=>by cases h⟩
theorem am8 {id:Nat}{ops:Array Oper}{o0 o1:Oper}{t e:TypeId}{yt:TypeId}{fr:mg}{ah:AH}{nx:Nat}{Q:AQ}{rows:List (List AV)}{full:Bool}(hops:ops=#[o0,o1])(h0:o0.op=.move (.tmp 0))(g0:o0.guard=none)(d0:o0.dst=some 3)
  (h1:o1.op=.binOp .eql t (.tmp 3) (.const (.slice none 0 0)) yt) (g1:o1.guard=none) (d1:o1.dst=some 4) (hu:P.underlying t=some (.slice e)) (hfr:jw fr 0=some (.sl rows full)) (hlen:4<fr.length)
  (hQ:∀b:Bool,(b=true->rows=[])->Q .normal (yx (yx fr 3 (.sl rows full)) 4 (.p (.bool b))) ah (nx+2)):AW P (.region id ops false) fr ah nx Q:=by
 subst hops
 intro base w E a hs
 refine wp_region ?_
 show wpOps P #[o0,o1] _ [0,1] a w
 rw [wpOps_cons]
 unfold wpOp
 simp only [List.getElem?_toArray,List.getElem?_cons_zero]
 obtain ⟨v,hv,hr⟩:=hs.fr.get 0 _ hfr
 have ev0:a.eval (.tmp 0)=v:=by simp [Act.eval,hv]
 rw [if_pos (by simp [Region.wanted,g0])]
 refine .inl (aDx (P:=P) (s:=pure (.value v)) (v:=v) (w':=w) (by simp [execOp,h0,ev0]) rfl ?_)
 rw [wpOps_cons]
 unfold wpOp
 simp only [List.getElem?_toArray,List.getElem?_cons_zero,List.getElem?_cons_succ]
 rw [if_pos (by simp [Region.wanted,g1])]
 have awT:=hs.fr.put o0.dst hr
 have hput:jw (zK fr o0.dst (.sl rows full)) 3=some (.sl rows full):=by rw [d0];simp only [zK,vG];rw [if_pos ⟨trivial,by omega⟩]
 obtain ⟨v1,hv1,hr1⟩:=awT.get 3 _ hput
 have ev1:(a.put o0.dst v).eval (.tmp 3)=v1:=by simp [Act.eval,hv1]
 have ev2:(a.put o0.dst v).eval (.const (.slice none 0 0))=.slice none 0 0:=rfl
 obtain ⟨b,hb,hbr⟩:=aEJ (P:=P) hu hr1 (.tmp 3) (.const (.slice none 0 0))
 refine .inl (aDx (P:=P) (s:=do pure (.value (<- (do eqGuard .eql t (.tmp 3) (.const (.slice none 0 0)) v1 (.slice none 0 0);binOp .eql t v1 (.slice none 0 0):Sem Value)))) (v:=.bool b) (w':=w) (by simp only [execOp,h1,ev1,ev2]) ?_ ?_)
 .rw [Sem.run_bind,hb];rfl
 .show Ju base w E Q .normal _ _
  have hfr2:=awT.put (x:=.p (.bool b)) o1.dst (.p rfl)
  have e1:zK (zK fr o0.dst (.sl rows full)) o1.dst (.p (.bool b))=yx (yx fr 3 (.sl rows full)) 4 (.p (.bool b)):=by rw [d0,d1];rfl
  rw [e1] at hfr2
  exact ⟨E,_,ah,nx+2,hQ b hbr,⟨hs.heap.weaken (fun b hb=>by omega),hfr2,by rw [aDr,aDr];exact hs.defers⟩,Step.refl _ _ _⟩
def DZ (fn:Func):Option TypeId:=
 match fn.body with
 |some (.seq (.region _ r0 false) (.seq (.seq (.region _ r1 false) (.cond (.tmp 4) (.seq (.region _ r2 false) .ret) .skip)) (.seq (.region _ r3 false) .ret)))=>
  match r0.toList,r1.toList,r2.toList,r3.toList with
  |[a0],[b0,b1],[c0],[d0,d1,d2,d3]=>
   match a0.op,b0.op,b1.op,c0.op,d0.op,d1.op,d2.op,d3.op with
   | .assign (.const (.slice none 0 0)),.move (.tmp 0),.binOp .eql t (.tmp 3) (.const (.slice none 0 0)) _,.assign (.const (.slice none 0 0)),.buildSlice t1 0 ps,.move (.tmp 0),.call ⟨.builtin .append,az,ts⟩,.assign (.tmp 7)=>
    match az.toList,ts.toList with
    |[.tmp 5,.tmp 6],[t2,t3]=>
     bif [a0,b0,b1,c0,d0,d1,d2,d3].all (fun o=>o.guard.isNone)&&([a0,b0,b1,c0,d0,d1,d2,d3].map (·.dst) == [some 2,some 3,some 4,some 2,some 5,some 6,some 7,some 2])&&(Nat.beq t t1&&(Nat.beq t t2&&(Nat.beq t t3&&ps.isEmpty)))
      &&Nat.beq fn.ntmps 8&&decide (fn.name≠ "runtime.NumGoroutine")&&(match fn.results.toList with | [.tmp 2]=>true|_=>false) then some t else none
    |_,_=>none
   |_,_,_,_,_,_,_,_=>none
  |_,_,_,_=>none
 |_=>none
theorem am9 {f:FuncId}{fn:Func}{t e:TypeId}{i:TypeInfo}{z:List AV}(hfn:P.funcs[f]?=some fn)(h:DZ fn=some t)(hu:P.underlying t=some (.slice e))(hi:P.info? e=some i)(hz:aDw P e=some z)
  (hzl:z.length=i.size) (hby:i.bytes<=4096) (hsz:i.size≠0) {rows:List (List AV)} (hr:lJ i.size rows) (hc:jO rows=true) (hl:rows.length<=4294967296):PC P f [.sl rows false] (.sl rows false):=by
 unfold DZ at h
 split at h
 .rename_i dG r0 id1 r1 id2 r2 id3 r3 hbody
  split at h
  .rename_i a0 b0 b1 c0 d0 d1 d2 d3 e0 e1 e2 e3
   split at h
   .rename_i t' yt t1 ps az ts q0 q1 q2 q3 q4 q5 q6 q7
    split at h
    .rename_i t2 t3 eas ets
     generalize hg:(([a0,b0,b1,c0,d0,d1,d2,d3].all (fun o=>o.guard.isNone)&&([a0,b0,b1,c0,d0,d1,d2,d3].map (·.dst) == [some 2,some 3,some 4,some 2,some 5,some 6,some 7,some 2])&&(Nat.beq t' t1&&(Nat.beq t' t2&&(Nat.beq t' t3&&ps.isEmpty)))
      &&Nat.beq fn.ntmps 8&&decide (fn.name≠ "runtime.NumGoroutine")&&(match fn.results.toList with | [.tmp 2]=>true|_=>false)))=g at h
     cases g
     .cases h
     .simp only [cond_true,aj] at h
      subst h
      simp only [ak,decide_eq_true_eq,beq_iff_eq] at hg
      obtain ⟨⟨⟨⟨⟨hgu,hds⟩,hty,auq,aur,hps⟩,hnt⟩,hname⟩,hres⟩:=hg
      have ht1:=au hty
      have ht2:=au auq
      have ht3:=au aur
      subst ht1;subst ht2;subst ht3
      have hnt:=au hnt
      simp only [List.all_cons,List.all_nil,Bool.and_true,ak,Option.isNone_iff_eq_none] at hgu
      obtain ⟨ga0,gb0,gb1,gc0,gd0,gd1,gd2,gd3⟩:=hgu
      simp only [aX,List.map_nil,List.cons.injEq,and_true] at hds
      obtain ⟨da0,db0,db1,dc0,dd0,dd1,dd2,dd3⟩:=hds
      have aus:ps.toList=[]:=by
       have:ps=#[]:=by simpa using hps
       rw [this]
      have ady:fn.results.toList=[.tmp 2]:=by
       split at hres
       .assumption
       .cases hres
      have er1:r1=#[b0,b1]:=by apply Array.ext';simpa using e1
      have one:∀(id:Nat) (ops:Array Oper) (l:List Oper) (fr:mg) (ah:AH) (nx:Nat) (Q:AQ),ops.toList=l->Uf P ops none nx 0 l fr ah [] (fun fr' fV=>Q .normal fr' fV (nx+ops.size))->AW P (.region id ops false) fr ah nx Q:=by
       intro id ops l fr ah nx Q hl h
       subst hl
       exact Zc h
      have huE:aDw P e=some z:=hz
      have aut:mW P t'=some (i.size,i.bytes):=by simp [mW,hu,hi]
      refine alF hfn hbody hname (by rw [hnt];simp) ?_
      rw [hnt]
      refine yF (one _ _ _ _ _ _ _ e0 ?_)
      simp only [Uf,nN,ga0,aIf,aOp,q0,ev,ofV,ofC,gB,aDQ,da0,zK,true_and]
      refine yF (yF (am8 er1 q1 gb0 db0 q2 gb1 db1 hu (rows:=rows) (full:=false) (by rfl) (by simp [h_]) fun b hb=>?_))
      refine aaI b (by rfl) ?_
      cases b with
      |true=>
       have hrn:=hb rfl
       subst hrn
       rw [if_pos rfl]
       refine yF (one _ _ _ _ _ _ _ e2 ?_)
       simp only [Uf,nN,gc0,aIf,aOp,q3,ev,ofV,ofC,gB,aDQ,dc0,zK,true_and]
       refine VE ⟨.inr rfl,?_⟩
       rw [ady]
       rfl
      |false=>
       rw [if_neg (by simp)]
       refine aaH ?_
       refine yF (one _ _ _ _ _ _ _ e3 ?_)
       have happ:∀(ah:AH) (id1 id2:Nat) (K:sQ->Prop),ah id1=some (.rows i.size [])->K ⟨.os id2 i.size 0 (0+rows.length),[(id1,none),(id2,some (.rows i.size (((([]:List (List AV)).drop 0).take 0)++rows)))],id1::[]⟩->
         Bh P id2 ah t' t' (.os id1 i.size 0 0) (.sl rows false) K:=by
        intro ah id1 id2 K hab hK
        refine dH.2 ⟨_,aut,hby,hsz,?_,?_,hr,rfl,?_⟩
        .rw [hu];trivial
        .rw [hu];simp [huE,hzl]
        .rw [hab];exact ⟨rfl,by simp,by simpa using hl,hK⟩
       have hbs:∀(id:Nat) (K:sQ->Prop),K ⟨.os id i.size 0 0,[(id,some (.rows i.size (aDC i.size 0 [])))],[]⟩->mD P t' id 0 [] K:=by
        intro id K hK
        unfold mD
        rw [hu]
        exact dH.2 ⟨i,hi,dH.2 ⟨z,huE,hzl,by simp,dH.2 ⟨[],rfl,hK⟩⟩⟩
       simp only [Uf,nN,gd0,gd1,gd2,gd3,aIf,aOp,q4,q5,q6,q7,aus,YS,eas,ets,aDQ,dd0,dd1,dd2,dd3,true_and]
       refine dH.2 ⟨[],rfl,hbs _ _ ?_⟩
       refine dH.2 ⟨.sl rows false,rfl,?_⟩
       refine dH.2 ⟨[.os _ i.size 0 0,.sl rows false],rfl,?_⟩
       have hts:ts=#[t',t']:=by apply Array.ext';simpa using ets
       subst hts
       refine dH.2 ⟨t',rfl,dH.2 ⟨t',rfl,.inl<|happ _ _ _ _ (by simp [rP,upd,aDC]) ?_⟩⟩
       refine dH.2 ⟨.os _ i.size 0 (0+rows.length),rfl,?_⟩
       refine VE ⟨.inr rfl,?_⟩
       rw [ady]
       refine dH.2 ⟨.os _ i.size 0 (0+rows.length),rfl,?_⟩
       exact Pm (by simp [rP,upd]) hc (by simp)
    .cases h
   .cases h
  .cases h
 .cases h
theorem akj {f:FuncId}{fn:Func}{t e:TypeId}{i:TypeInfo}{z:List AV}(hfn:P.funcs[f]?=some fn)(h:DZ fn=some t)(hu:P.underlying t=some (.slice e))(hi:P.info? e=some i)(hz:aDw P e=some z)
  (hzl:z.length=i.size) (hby:i.bytes<=4096) (hsz:i.size≠0) {rows:List (List AV)} (hr:lJ i.size rows) (hc:jO rows=true) (hl:rows.length<=4294967296) (hfl:rows.all Bv=true):PCa P f [.sl rows false] (.sl rows false):=by
 unfold DZ at h
 split at h
 .rename_i dG r0 id1 r1 id2 r2 id3 r3 hbody
  split at h
  .rename_i a0 b0 b1 c0 d0 d1 d2 d3 e0 e1 e2 e3
   split at h
   .rename_i t' yt t1 ps az ts q0 q1 q2 q3 q4 q5 q6 q7
    split at h
    .rename_i t2 t3 eas ets
     generalize hg:(([a0,b0,b1,c0,d0,d1,d2,d3].all (fun o=>o.guard.isNone)&&([a0,b0,b1,c0,d0,d1,d2,d3].map (·.dst) == [some 2,some 3,some 4,some 2,some 5,some 6,some 7,some 2])&&(Nat.beq t' t1&&(Nat.beq t' t2&&(Nat.beq t' t3&&ps.isEmpty)))
      &&Nat.beq fn.ntmps 8&&decide (fn.name≠ "runtime.NumGoroutine")&&(match fn.results.toList with | [.tmp 2]=>true|_=>false)))=g at h
     cases g
     .cases h
     .simp only [cond_true,aj] at h
      subst h
      simp only [ak,decide_eq_true_eq,beq_iff_eq] at hg
      obtain ⟨⟨⟨⟨⟨hgu,hds⟩,hty,auq,aur,hps⟩,hnt⟩,hname⟩,hres⟩:=hg
      have ht1:=au hty
      have ht2:=au auq
      have ht3:=au aur
      subst ht1;subst ht2;subst ht3
      have hnt:=au hnt
      simp only [List.all_cons,List.all_nil,Bool.and_true,ak,Option.isNone_iff_eq_none] at hgu
      obtain ⟨ga0,gb0,gb1,gc0,gd0,gd1,gd2,gd3⟩:=hgu
      simp only [aX,List.map_nil,List.cons.injEq,and_true] at hds
      obtain ⟨da0,db0,db1,dc0,dd0,dd1,dd2,dd3⟩:=hds
      have aus:ps.toList=[]:=by
       have:ps=#[]:=by simpa using hps
       rw [this]
      have ady:fn.results.toList=[.tmp 2]:=by
       split at hres
       .assumption
       .cases hres
      have er1:r1=#[b0,b1]:=by apply Array.ext';simpa using e1
      have one:∀(id:Nat) (ops:Array Oper) (l:List Oper) (fr:mg) (ah:AH) (nx:Nat) (Q:AQ),ops.toList=l->Uf P ops none nx 0 l fr ah [] (fun fr' fV=>Q .normal fr' fV (nx+ops.size))->AW P (.region id ops false) fr ah nx Q:=by
       intro id ops l fr ah nx Q hl h
       subst hl
       exact Zc h
      have huE:aDw P e=some z:=hz
      have aut:mW P t'=some (i.size,i.bytes):=by simp [mW,hu,hi]
      refine ajo hfn hbody hname (by rw [hnt];simp) ?_
      rw [hnt]
      refine yF (one _ _ _ _ _ _ _ e0 ?_)
      simp only [Uf,nN,ga0,aIf,aOp,q0,ev,ofV,ofC,gB,aDQ,da0,zK,true_and]
      refine yF (yF (am8 er1 q1 gb0 db0 q2 gb1 db1 hu (rows:=rows) (full:=false) (by rfl) (by simp [h_]) fun b hb=>?_))
      refine aaI b (by rfl) ?_
      cases b with
      |true=>
       have hrn:=hb rfl
       subst hrn
       rw [if_pos rfl]
       refine yF (one _ _ _ _ _ _ _ e2 ?_)
       simp only [Uf,nN,gc0,aIf,aOp,q3,ev,ofV,ofC,gB,aDQ,dc0,zK,true_and]
       refine VE ⟨.inr rfl,?_⟩
       rw [ady]
       exact ⟨rfl,rfl,fun b hb=>by cases hb⟩
      |false=>
       rw [if_neg (by simp)]
       refine aaH ?_
       refine yF (one _ _ _ _ _ _ _ e3 ?_)
       have happ:∀(ah:AH) (id1 id2:Nat) (K:sQ->Prop),ah id1=some (.rows i.size [])->K ⟨.os id2 i.size 0 (0+rows.length),[(id1,none),(id2,some (.rows i.size (((([]:List (List AV)).drop 0).take 0)++rows)))],id1::[]⟩->
         Bh P id2 ah t' t' (.os id1 i.size 0 0) (.sl rows false) K:=by
        intro ah id1 id2 K hab hK
        refine dH.2 ⟨_,aut,hby,hsz,?_,?_,hr,rfl,?_⟩
        .rw [hu];trivial
        .rw [hu];simp [huE,hzl]
        .rw [hab];exact ⟨rfl,by simp,by simpa using hl,hK⟩
       have hbs:∀(id:Nat) (K:sQ->Prop),K ⟨.os id i.size 0 0,[(id,some (.rows i.size (aDC i.size 0 [])))],[]⟩->mD P t' id 0 [] K:=by
        intro id K hK
        unfold mD
        rw [hu]
        exact dH.2 ⟨i,hi,dH.2 ⟨z,huE,hzl,by simp,dH.2 ⟨[],rfl,hK⟩⟩⟩
       simp only [Uf,nN,gd0,gd1,gd2,gd3,aIf,aOp,q4,q5,q6,q7,aus,YS,eas,ets,aDQ,dd0,dd1,dd2,dd3,true_and]
       refine dH.2 ⟨[],rfl,hbs _ _ ?_⟩
       refine dH.2 ⟨.sl rows false,rfl,?_⟩
       refine dH.2 ⟨[.os _ i.size 0 0,.sl rows false],rfl,?_⟩
       have hts:ts=#[t',t']:=by apply Array.ext';simpa using ets
       subst hts
       refine dH.2 ⟨t',rfl,dH.2 ⟨t',rfl,.inl<|happ _ _ _ _ (by simp [rP,upd,aDC]) ?_⟩⟩
       refine dH.2 ⟨.os _ i.size 0 (0+rows.length),rfl,?_⟩
       refine VE ⟨.inr rfl,?_⟩
       rw [ady]
       refine dH.2 ⟨.os _ i.size 0 (0+rows.length),rfl,?_⟩
       refine ⟨?_,rfl,fun b hb k hk=>?_⟩
       .exact Pm (by simp [rP,upd]) hc (by simp)
       .have hb':b=_:=bT.1 hb
        subst hb'
        have hk':some (wB.rows i.size ((([]:List (List AV)).drop 0).take 0++rows))=some k:=by rw [<- hk];simp [rP,upd]
        cases hk'
        simpa [wB.Jt] using hfl
    .cases h
   .cases h
  .cases h
 .cases h
def MQ (P:Program)(f:FuncId):Option Nat:=
 match P.funcs[f]? with
 |none=>none
 |some fn=>match DZ fn with
  |none=>none
  |some t=>match P.underlying t with
   |some (.slice e)=>match P.info? e,(aDw P e).map List.length with
    |some i,some n=>bif Nat.beq n i.size&&(Nat.ble i.bytes 4096&&!Nat.beq i.size 0) then some i.size else none
    |_,_=>none
   |_=>none
def agi (P:Program):qO:=fun pc nv f args=>
 match args with
 |[.sc .sl tm]=>match MQ P f with
  |some n=>some (.sc .sl tm,nv,[(pc,.TI n tm),(pc,.len2 0 tm)],false)
  |none=>none
 |[.slc rows false]=>match MQ P f with
  |some n=>bif rows.all (fun r=>Nat.beq r.length n)&&(EJ rows&&Nat.ble rows.length 4294967296) then some (.slc rows false,nv,[],rows.all afJ) else none
  |none=>none
 |_=>none
theorem WQ {f:FuncId}{n:Nat}(h:MQ P f=some n){rows:List (List AV)}(hr:lJ n rows)(hc:jO rows=true)(hl:rows.length<=4294967296):PC P f [.sl rows false] (.sl rows false):=by
 unfold MQ at h
 split at h
 .cases h
 .rename_i fn hfn
  split at h
  .cases h
  .rename_i t ht
   split at h
   .rename_i e hu
    split at h
    .rename_i i m hi hm
     cases hg:Nat.beq m i.size&&(Nat.ble i.bytes 4096&&!Nat.beq i.size 0)
     .simp [hg] at h
     .simp only [hg,cond_true,aj] at h;subst h
      simp only [ak,Bool.not_eq_true'] at hg
      simp only [ay] at hm
      obtain ⟨z,hz,hzm⟩:=hm
      exact am9 hfn ht hu hi hz (by rw [hzm];exact au hg.1) (aC hg.2.1) (fun e0=>by rw [e0] at hg;exact absurd hg.2.2 (by decide)) hr hc hl
    .cases h
   .cases h
theorem adz {f:FuncId}{n:Nat}(h:MQ P f=some n){rows:List (List AV)}(hr:lJ n rows)(hc:jO rows=true)(hl:rows.length<=4294967296)(hfl:rows.all Bv=true):PCa P f [.sl rows false] (.sl rows false):=by
 unfold MQ at h
 split at h
 .cases h
 .rename_i fn hfn
  split at h
  .cases h
  .rename_i t ht
   split at h
   .rename_i e hu
    split at h
    .rename_i i m hi hm
     cases hg:Nat.beq m i.size&&(Nat.ble i.bytes 4096&&!Nat.beq i.size 0)
     .simp [hg] at h
     .simp only [hg,cond_true,aj] at h;subst h
      simp only [ak,Bool.not_eq_true'] at hg
      simp only [ay] at hm
      obtain ⟨z,hz,hzm⟩:=hm
      exact akj hfn ht hu hi hz (by rw [hzm];exact au hg.1) (aC hg.2.1) (fun e0=>by rw [e0] at hg;exact absurd hg.2.2 (by decide)) hr hc hl hfl
    .cases h
   .cases h
theorem akk : ∀σ:List AV,iW σ=true->o7 P σ (agi P):=by
 intro σ hσ pc nv f args r h hp hs
 unfold agi at h
 split at h
 .rename_i tm
  split at h
  .rename_i n hn
   simp only [aj] at h;subst h
   have h1:lJ n (tm.den σ).R:=hs (pc,.TI n tm) (by simp) hp
   have h2:0+(tm.den σ).R.length<=4294967296:=hs (pc,.len2 0 tm) (by simp) hp
   exact ⟨WQ hn h1 (j_ (Tm.qK hσ tm)) (by omega),fun h=>by cases h⟩
  .cases h
 .rename_i rows
  split at h
  .rename_i n hn
   cases hg:rows.all (fun r=>Nat.beq r.length n)&&(EJ rows&&Nat.ble rows.length 4294967296)
   .simp [hg] at h
   .simp only [hg,cond_true,aj] at h;subst h
    simp only [ak] at hg
    have hlen:(iM σ rows).length<=4294967296:=by rw [f_];exact aC hg.2.2
    refine ⟨WQ hn (IC hg.1) (Dp hσ hg.2.1) hlen,fun hf=>adz hn (IC hg.1) (Dp hσ hg.2.1) hlen ?_⟩
    have hf:rows.all afJ=true:=hf
    rw [l7,List.all_map,aF]
    intro row hr
    exact KL (aF.1 hf row hr)
  .cases h
 .cases h
def xOr (X Y:qO):qO:=fun pc nv f args=>match X pc nv f args with|some r=>some r|none=>Y pc nv f args
theorem auu {X Y:qO}(hX:∀σ:List AV,iW σ=true->o7 P σ X)(hY:∀σ:List AV,iW σ=true->o7 P σ Y):∀σ:List AV,iW σ=true->o7 P σ (xOr X Y):=by
 intro σ hσ pc nv f args r h hp hs
 unfold xOr at h
 split at h
 .rename_i r' hr
  simp only [aj] at h;subst h
  exact hX σ hσ _ _ _ _ _ hr hp hs
 .exact hY σ hσ _ _ _ _ _ h hp hs
end
end Go.Fw
end
section
namespace Go.Fw
variable [jY]
section
variable {P : Program}
def aql (X Y:Gv):Gv:=fun pc th nx nv f args=>match X pc th nx nv f args with|some r=>some r|none=>Y pc th nx nv f args
theorem ah9 {X Y:Gv}(hX:∀σ:List AV,iW σ=true->oH P σ X)(hY:∀σ:List AV,iW σ=true->oH P σ Y):∀σ:List AV,iW σ=true->oH P σ (aql X Y):=by
 intro σ hσ pc th nx nv f args R h hp hs
 unfold aql at h
 split at h
 .rename_i r' hr
  simp only [aj] at h;subst h
  exact hX σ hσ _ _ _ _ _ _ _ hr hp hs
 .exact hY σ hσ _ _ _ _ _ _ _ h hp hs
end
end Go.Fw
end
section
namespace Go.Fw
variable [jY]
end Go.Fw
namespace Go.Fw
variable [jY]
def mdT (n:Nat):Md:=fun g=>(n / 4 ^ g) % 4
end Go.Fw
namespace Go.Fw
variable [jY]
end Go.Fw
namespace Go.Fw
variable [jY]
def oN (kA:List (List Nat))(f:Nat)(keep:List Nat)(l:List (Nat×NP)):FuncId->BD:=fun g=>bif Nat.beq g f then ⟨0,⟨keep,0⟩,fun id=>(l.find? fun x=>Nat.beq x.1 id).map (·.2)⟩ else ⟨0,⟨kA.getD g [],0⟩,fun _=>none⟩
end Go.Fw
namespace Go.Fw
variable [jY]
end Go.Fw
end
section
namespace Go.Fw
variable [jY]
open Go.Lib
structure abj where
 vo:FuncId
 ln:FuncId
 sw:FuncId
 l1:FuncId
 l2:FuncId
 l9:FuncId
def WS (P:Program)(f:FuncId)(e:Array Value->Sem Value):Prop:=
 ∀args w,(callFunc f args).run P w=((e args).run P w).andThen fun v w'=>.ok (.value v) w'
structure ar8 (P:Program)(c:abj):Prop where
 vo:WS P c.vo fun args=>Extern.ReflectliteValue.unpack (args.getD 0 (.tuple #[]))
 ln:WS P c.ln (Extern.ReflectliteValue.method (Extern.ReflectliteValue.valueError "reflectlite.Value.Len" 0) Extern.ReflectliteValue.len)
 sw:WS P c.sw (Extern.ReflectliteSwapper.swapper "internal/reflectlite" (Extern.ReflectliteValue.valueError "Swapper"))
 l9:WS P c.l9 (Extern.ReflectliteSwapper.swap false)
 n1:P.funcs.findIdx? (·.name == "internal/reflectlite" ++ ".Swapper$" ++toString 1)=some c.l1
 n2:P.funcs.findIdx? (·.name == "internal/reflectlite" ++ ".Swapper$" ++toString 2)=some c.l2
 n9:P.funcs.findIdx? (·.name == "internal/reflectlite" ++ ".Swapper$" ++toString 9)=some c.l9
end Go.Fw
end
section
namespace Go.Fw
variable [jY]
def yU : List Nat->SV->SV->SV
 |[],_,y=>y
 |j::p,.agg l,y=>.agg (l.set j (yU p (l.getD j .nil) y))
 |j::p,.fD l,y=>.fD (l.set j (yU p (l.getD j .nil) y))
 |_::_,a,_=>a
def AA : List Nat->SV->Option SV
 |[],x=>some x
 |j::p,.agg l=>match Eh l j with|some x=>AA p x|none=>none
 |j::p,.fD l=>match Eh l j with|some x=>AA p x|none=>none
 |_::_,_=>none
theorem xW {ρ:List AV}{l:List SV}{j:Nat}{x:SV}(h:Eh l j=some x):(dU ρ l).getD j eP=x.den ρ/\l.getD j .nil=x:=by
 have h2:=Gn (ρ:=ρ) h
 rw [yH] at h
 exact ⟨by simp [aB,h2],by simp [aB,h]⟩
theorem MR {ρ:List AV}{l:List SV}{j:Nat}{x:SV}:dU ρ (l.set j x)=(dU ρ l).set j (x.den ρ):=by simp [nX,List.map_set]
theorem Lj {ρ:List AV}{y:SV}:∀{p:List Nat} {x z:SV},AA p x=some z->(yU p x y).den ρ=xu p (x.den ρ) (y.den ρ)
 |[],x,z,h=>rfl
 |j::p,.agg l,z,h=>by
  simp only [AA] at h
  split at h
  .rename_i x hx
   obtain ⟨e1,e2⟩:=xW (ρ:=ρ) hx
   simp only [yU,SV.den,xu,MR,e1,e2,Lj h]
  .cases h
 |j::p,.fD l,z,h=>by
  simp only [AA] at h
  split at h
  .rename_i x hx
   obtain ⟨e1,e2⟩:=xW (ρ:=ρ) hx
   simp only [yU,SV.den,xu,MR,e1,e2,Lj h]
  .cases h
 |j::p,.sc ..,z,h|j::p,.c _,z,h|j::p,.nil,z,h|j::p,.sf _,z,h|j::p,.slc ..,z,h|j::p,.vp ..,z,h|j::p,.os ..,z,h|j::p,.op ..,z,h|j::p,.fn ..,z,h|j::p,.mV ..,z,h|j::p,.mp _,z,h=>by simp [AA] at h
theorem GN {ρ:List AV}:∀{p:List Nat} {x z:SV},AA p x=some z->aDt (x.den ρ) p=z.den ρ
 |[],x,z,h=>by simp only [AA,aj] at h;subst h;cases x<;>rfl
 |j::p,.agg l,z,h=>by
  simp only [AA] at h
  split at h
  .rename_i x hx
   simp only [SV.den,aDt,(xW (ρ:=ρ) hx).1,GN h]
  .cases h
 |j::p,.fD l,z,h=>by
  simp only [AA] at h
  split at h
  .rename_i x hx
   simp only [SV.den,aDt,(xW (ρ:=ρ) hx).1,GN h]
  .cases h
 |j::p,.sc ..,z,h|j::p,.c _,z,h|j::p,.nil,z,h|j::p,.sf _,z,h|j::p,.slc ..,z,h|j::p,.vp ..,z,h|j::p,.os ..,z,h|j::p,.op ..,z,h|j::p,.fn ..,z,h|j::p,.mV ..,z,h|j::p,.mp _,z,h=>by simp [AA] at h
theorem akl {y y':AV}(hs:y'.jR=y.jR):∀{p:List Nat} {a:AV},(xu p a y').jR=(xu p a y).jR
 |[],a=>hs
 |j::p,a=>by cases a<;>rfl
theorem P7 {l:List AV}{j:Nat}(hj:j<l.length):l.getD j eP=l[j]:=by simp [aB,hj]
theorem GR {l:List AV}{j i:Nat}{x c:AV}(hij:j≠i)(hi:l[i]?=some c):(l.set j x)[i]?=some c:=by rw [List.getElem?_set_ne hij];exact hi
theorem P8 {w:World}{E E':Env}{y y':AV}(Q:AV->Prop)(hagg:∀l,Q (.agg l)->∀(i:Nat) (c:AV),l[i]?=some c->Q c)(adB:∀l,Q (.fD l)->∀(i:Nat) (c:AV),l[i]?=some c->Q c)(hs:y'.jR=y.jR)(hy:∀u,Rep w E y u->Rep w E' y' u)(hall:∀x u,Rep w E x u->Q x->Rep w E' x u):∀{p:List Nat} {a:AV} {v:Value},Q (xu p a (.sl [] true))->aDt a p≠eP->Rep w E (xu p a y) v->Rep w E' (xu p a y') v
 |[],a,v,_,_,h=>hy _ h
 |j::p,.agg l,v,hc,hne,h=>by
  simp only [aDt] at hne
  simp only [xu] at h hc ⊢
  have hj:j<l.length:=by
   refine Nat.lt_of_not_le fun hle=>hne ?_
   have e:l.getD j eP=eP:=by simp [aB,bK hle]
   rw [e]
   cases p<;>rfl
  have hcj:=hagg _ hc j _ (by rw [bM hj])
  cases h with
  |agg cs vs hl hsc h=>
   refine .agg _ _ (by simpa using hl) ?_ ?_
   .intro c hcm
    obtain ⟨i,hi⟩:=List.getElem?_of_mem hcm
    by_cases hij:j=i
    .subst hij
     rw [bM (by simpa using hj)] at hi
     simp only [aj] at hi;subst hi
     rw [akl hs]
     exact hsc _ (aG (i:=j) (by rw [bM hj]))
    .rw [List.getElem?_set_ne hij] at hi
     exact hsc c (aG (i:=i) (GR hij hi))
   .intro i c u hi hu
    by_cases hij:j=i
    .subst hij
     rw [bM (by simpa using hj)] at hi
     simp only [aj] at hi;subst hi
     exact P8 Q hagg adB hs hy hall hcj hne (h j _ u (by rw [bM hj]) hu)
    .rw [List.getElem?_set_ne hij] at hi
     exact hall _ _ (h i c u (GR hij hi) hu) (hagg _ hc i c (GR hij hi))
 |j::p,.fD l,v,hc,hne,h=>by
  simp only [aDt] at hne
  simp only [xu] at h hc ⊢
  have hj:j<l.length:=by
   refine Nat.lt_of_not_le fun hle=>hne ?_
   have e:l.getD j eP=eP:=by simp [aB,bK hle]
   rw [e]
   cases p<;>rfl
  have hcj:=adB _ hc j _ (by rw [bM hj])
  cases h with
  |fD cs vs hl h=>
   refine .fD _ _ (by simpa using hl) ?_
   intro i c u hi hu
   by_cases hij:j=i
   .subst hij
    rw [bM (by simpa using hj)] at hi
    simp only [aj] at hi;subst hi
    exact P8 Q hagg adB hs hy hall hcj hne (h j _ u (by rw [bM hj]) hu)
   .rw [List.getElem?_set_ne hij] at hi
    exact hall _ _ (h i c u (GR hij hi) hu) (adB _ hc i c (GR hij hi))
 |_::_,.p _,_,_,hne,_|_::_,.str _,_,_,hne,_|_::_,.sl ..,_,_,hne,_|_::_,.vp ..,_,_,hne,_|_::_,.os ..,_,_,hne,_|_::_,.op ..,_,_,hne,_|_::_,.fn ..,_,_,hne,_|_::_,.mV ..,_,_,hne,_|_::_,.mp _,_,_,hne,_=>absurd rfl hne
theorem OO {y:AV}(hy:y.clean=true):∀{p:List Nat} {a:AV},a.clean=true->(xu p a y).clean=true
 |[],a,_=>hy
 |j::p,.agg l,h=>by
  show kX (l.set j (xu p (l.getD j eP) y))=true
  refine DT fun x hx=>?_
  rcases List.mem_or_eq_of_mem_set hx with hx|rfl
  .exact IW (l:=l) h hx
  .refine OO hy ?_
   rw [aB]
   cases e:l[j]? with
   |none=>rfl
   |some z=>exact lD (l:=l) h j z e
 |j::p,.fD l,h=>by
  show kX (l.set j (xu p (l.getD j eP) y))=true
  refine DT fun x hx=>?_
  rcases List.mem_or_eq_of_mem_set hx with hx|rfl
  .exact IW (l:=l) h hx
  .refine OO hy ?_
   rw [aB]
   cases e:l[j]? with
   |none=>rfl
   |some z=>exact lD (l:=l) h j z e
 |_::_,.p _,h|_::_,.str _,h|_::_,.sl ..,h|_::_,.vp ..,h|_::_,.os ..,h|_::_,.op ..,h|_::_,.fn ..,h|_::_,.mV ..,h|_::_,.mp _,h=>h
abbrev auv :=FuncId->Option (List Nat×Nat×Bool)
def aza (P:Program)(oc:auv):Gv:=fun pc th nx nv f args=>
 match oc f with
 |none=>none
 |some c=>
  match Jy (thN th aDF) (FT th nv args).1 with
  |none=>none
  |some az=>match alS P (FT th nv args).2.1 f with
   |none=>none
   |some r=>match AA c.1 r with
    |some (.sc .sl t)=>bif r.cln&&(KJ args||(c.2.2&&(yU c.1 r .nil).kC)) then
     some ⟨[(.lb true,⟨yU c.1 r (.os nx c.2.1 0 (.rlen t)),wrT th [(nx,some (.fK c.2.1 t))],nx+1⟩)],(FT th nv args).2.1+1,(FT th nv args).2.2.map (fun s=>(pc,s))++[(pc,.Px f (zO az) r c.1 c.2.1 c.2.2)]⟩ else none
    |_=>none
def azb (inl:Gv):Gv:=fun pc th nx nv f args=>
 match inl pc th nx nv f args with
 |some R=>some R
 |none=>bif KJ args then none else
  match Jy (thN th aDF) (FT th nv args).1,ama th aDF (Gq args) with
  |some az,some rd=>match inl pc (wrT th (anq rd)) nx (FT th nv args).2.1 f (zO az) with
   |some R=>some ⟨R.outs,R.nv,(FT th nv args).2.2.map (fun s=>(pc,s))++R.sd⟩
   |none=>none
  |_,_=>none
def auw (P:Program)(oc:auv):Gv:=azb (aza P oc)
theorem uT : ∀{l:List AV} {b:Nat},b∈mQ l->∃(i:Nat) (x:AV),l[i]?=some x/\b∈x.refs
 |[],b,h=>by simp [mQ] at h
 |y::r,b,h=>by
  simp only [mQ,aH] at h
  rcases h with h|h
  .exact ⟨0,y,rfl,h⟩
  .obtain ⟨i,x,h1,h2⟩:=uT h;exact ⟨i+1,x,by simpa using h1,h2⟩
theorem MS : ∀{l:List (List AV)} {b:Nat},b∈mY l->∃(i:Nat) (x:List AV),l[i]?=some x/\b∈mQ x
 |[],b,h=>by simp [mY] at h
 |y::r,b,h=>by
  simp only [mY,aH] at h
  rcases h with h|h
  .exact ⟨0,y,rfl,h⟩
  .obtain ⟨i,x,h1,h2⟩:=MS h;exact ⟨i+1,x,by simpa using h1,h2⟩
section
variable {P : Program}
theorem CX {w:World}{E:Env}{a:AV}{v:Value}(h:Rep w E a v):∀b∈a.refs,E.own b≠.free:=by
 induction h with
 |p|str|slnil=>intro b hb;simp [AV.refs,mY] at hb
 |agg cs vs hl hs h ih=>
  intro b hb
  obtain ⟨i,c,hi,hb⟩:=uT hb
  exact ih i c (vs[i]'(by rw [<- hl];exact (aA.1 hi).1)) hi (by simp) b hb
 |fD cs vs hl h ih=>
  intro b hb
  obtain ⟨i,c,hi,hb⟩:=uT hb
  exact ih i c (vs[i]'(by rw [<- hl];exact (aA.1 hi).1)) hi (by simp) b hb
 |sl rows full sz c o cap g h1 h2 h3 h4 h5 h6 h7 ih=>
  intro b hb
  obtain ⟨i,row,hi,hb⟩:=MS hb
  obtain ⟨j,x,hj,hb⟩:=uT hb
  exact ih i row j x hi hj b hb
 |vp row off c o g h1 h2 h3 h4 ih=>
  intro b hb
  obtain ⟨j,x,hj,hb⟩:=uT hb
  exact ih j x hj b hb
 |mP b sz off a hb=>intro x hx;simp [AV.refs] at hx;subst hx;exact hb
 |os b sz off len c o cap hb=>intro x hx;simp [AV.refs] at hx;subst hx;rw [hb];simp
 |op b sz row off c o hb=>intro x hx;simp [AV.refs] at hx;subst hx;rw [hb];simp
 |fn f first captured vs us hl hl' h h' ih ih'=>
  intro b hb
  simp only [AV.refs,aH] at hb
  rcases hb with hb|hb
  .obtain ⟨i,c,hi,hb⟩:=uT hb
   exact ih i c (vs[i]'(by rw [<- hl];exact (aA.1 hi).1)) hi (by simp) b hb
  .obtain ⟨i,c,hi,hb⟩:=uT hb
   exact ih' i c (us[i]'(by rw [<- hl'];exact (aA.1 hi).1)) hi (by simp) b hb
 |mV t a v h ih=>exact ih
 |mp b c hb=>intro x hx;simp [AV.refs] at hx;subst hx;rw [hb];simp
theorem akm {base:Nat}{w:World}{E:Env}{b:Nat}{k:wB}(h:rU base w E b k){x:Nat}(hx:x∈k.xQ):E.own x≠.free:=by
 cases k with
 |rows sz rs=>
  obtain ⟨i,row,hi,hx⟩:=MS hx
  obtain ⟨j,y,hj,hx⟩:=uT hx
  rcases h with ⟨-,q2⟩|⟨c,o,arr,ty,q1,q2,q3,q4,q5,q6,q7,q8⟩
  .rw [q2] at hi;simp at hi
  .obtain ⟨v,-,hr⟩:=q8 i row j y hi hj
   exact CX hr x hx
 |kN ty sz rs=>
  obtain ⟨i,row,hi,hx⟩:=MS hx
  obtain ⟨j,y,hj,hx⟩:=uT hx
  rcases h with ⟨-,q2⟩|⟨c,o,arr,q1,q2,q3,q4,q5,q6,q7,q8⟩
  .rw [q2] at hi;simp at hi
  .obtain ⟨v,-,hr⟩:=q8 i row j y hi hj
   exact CX hr x hx
 |it m n k=>
  obtain ⟨c,cm,q1,q2,q3,q4,q5⟩:=h
  simp only [wB.xQ,bT] at hx
  subst hx;rw [q5];simp
 |map es=>
  obtain ⟨c,lK,clock,q1,q2,q3,q4,q5,q6,q7⟩:=h
  simp only [wB.xQ,aH] at hx
  rcases hx with hx|hx
  .obtain ⟨i,y,hi,hx⟩:=uT hx
   simp only [bP,ay] at hi
   obtain ⟨e,he,rfl⟩:=hi
   exact CX (q6 i e (lK[i]'(by rw [<- q5];exact (aA.1 he).1)) he (by simp)).1 x hx
  .obtain ⟨i,y,hi,hx⟩:=uT hx
   simp only [bP,ay] at hi
   obtain ⟨e,he,rfl⟩:=hi
   exact CX (q6 i e (lK[i]'(by rw [<- q5];exact (aA.1 he).1)) he (by simp)).2.1 x hx
theorem OQ {w:World}{E E':Env}(hf:∀c o,E.fix c o->E'.fix c o){a:AV}{v:Value}(h:Rep w E a v)(hc:a.clean=true):Rep w E' a v:=by
 refine wM hf h fun b hb=>?_
 have:=jW (l:=[a]) (by simp [kX,hc])
 simp only [mQ,cu] at this
 rw [this] at hb;cases hb
theorem WV {p:List Nat}{r:AV}{rows:List (List AV)}{f:Bool}(h:aDt r p=.sl rows f):aDt r p≠eP:=by rw [h];intro e;cases e
theorem azc {oc:auv}:∀σ:List AV,iW σ=true->oH P σ (aza P oc):=by
 intro ρ hρ pc th nx nv f args R h hp hs base w E ah vs hah hh hG hrep o a he next Q hnext
 unfold aza at h
 split at h
 .cases h
 rename_i c hc
 obtain ⟨p,sz,fl⟩:=c
 dsimp only at h
 split at h
 .cases h
 rename_i az has
 split at h
 .cases h
 rename_i r hr
 split at h
 rotate_left
 .cases h
 rename_i t ht
 cases hg:(r.cln&&(KJ args||(fl&&(yU p r .nil).kC)))
 .simp [hg] at h
 simp only [hg,cond_true,aj] at h
 subst h
 simp only [ak] at hg
 obtain ⟨hrc,hg⟩:=hg
 have hpre:∀s∈(FT th nv args).2.2,s.holds P ρ:=fun s hm=>hs (pc,s) (b_ _ (aU.2 ⟨s,hm,rfl⟩)) hp
 obtain ⟨hpc,ay1⟩:=hs (pc,.Px f (zO az) r p sz fl) (cO _ (bT.2 rfl)) hp
 have hfz:=(KN hρ hah hpre (n:=aDF)).trans (yN hρ (IJ hρ hah aDF) has)
 have ay2:(r.den ρ).clean=true:=aaV hρ hrc
 have hcell:aDt (r.den ρ) p=.sl (t.den ρ).R false:=GN ht
 have hrows:EI p (r.den ρ)=(t.den ρ).R:=by unfold EI;rw [hcell];rfl
 
 obtain ⟨fix,hfix,aaw,als,hback⟩:∃fix:Nat->Nat->Prop,(∀c o,E.fix c o->fix c o)/\(∀c o,fix c o->c<w.heap.size)/\iy w (eY fix) (dU ρ az) vs/\
   ((∀c o,fix c o->E.fix c o)\/((xu p (r.den ρ) (.sl [] true)).flat=true/\∀row∈EI p (r.den ρ),Bv row=true)):=by
  rw [aY] at hg
  rcases hg with hcl|hcl
  .have hcl':=yL hρ hcl
   rw [vH hcl' (ah:=ah)] at hfz
   refine ⟨E.fix,fun _ _ h=>h,hh.kJ,acg hh (fun _ _ h=>h) hrep hfz (fun b hb=>?_),.inl (fun _ _ h=>h)⟩
   rw [jW hcl'] at hb;cases hb
  .rw [ak] at hcl
   refine ⟨fun c o=>c<w.heap.size,hh.kJ,fun c o h=>h,Q5 hh hh.kJ (fun b c o h off=>(hh.kL b c o h).2) aDF hrep hfz,.inr ⟨?_,ay1 hcl.1⟩⟩
   have:=MF (ρ:=ρ) hcl.2
   rwa [Lj ht] at this
 have awW:iy w (eY fix) (dU ρ (zO az)) vs:=iy.weak (tZ (ρ:=ρ)).length (fun i a b h1 h2=>((tZ (ρ:=ρ)).get i a b h1 h2).1) als
 have hq:=hpc w fix vs aaw (hG.mono hfix fun _ _ _=>rfl) awW
 split at hq
 .exact hq.elim
 rename_i fn hfn
 obtain ⟨hbody,hname,hq⟩:=hq
 have hcall:(callFunc f vs.toArray).run P w=.ok (.enter f vs.toArray) w:=by
  have:(fn.name == "runtime.NumGoroutine")=false:=by simpa using hname
  simp only [callFunc,Sem.run_bind,run_program,Result.andThen_ok,hfn,this,aP,if_false,hbody,Sem.run_pure]
 unfold Oper.wp
 rw [he,hcall]
 refine hq.mono fun e w' hq=>?_
 obtain ⟨v,E1,rfl,hst,hh1,hv⟩:=hq
 rw [hrows] at hh1 hv hback
 let E2:Env:=⟨fun c o=>E.fix c o\/(w.heap.size<=c/\E1.fix c o),fun b=>if b=nx then E1.own 0 else E.own b⟩
 have aib:E.own nx=.free:=hh.fresh nx (dD _)
 have Ll:E2.own nx=E1.own 0:=if_pos rfl
 have own_ne:∀b,b≠nx->E2.own b=E.own b:=fun b h=>if_neg h
 have hblk:∀c,c<w.heap.size->w'.heap[c]?=w.heap[c]?:=hst.below.block
 have hown1:∀c o,E1.own 0=.at c o->w.heap.size<=c/\c<w'.heap.size:=fun c o h=>hh1.kL 0 c o h
 have hx:Ext w E w' E2:=by
  refine ⟨fun c o h=>.inl h,fun c o h=>World.cell?_of_block (w:=w) (hblk c (hh.kJ c o h)),fun b hb=>own_ne b fun e=>hb (by rw [e];exact aib),fun c arr ty fz h=>⟨arr,fz,?_,rfl⟩⟩
  rw [hblk c (bD.1 h).1];exact h
 have ar9:∀c o,E1.fix c o->(∀c o,fix c o->E.fix c o)->E2.fix c o:=fun c o h hb=>by
  rcases Nat.lt_or_ge c w.heap.size with hc|hc
  .exact .inl (hb c o (hst.z_ c o hc h))
  .exact .inr ⟨hc,h⟩
 refine hnext _ rfl v w' E2 (upd ah nx (some (.rows sz (t.den ρ).R))) ?_ ⟨hx,hst.below.mono hh.bs,fun c o hc h=>?_,fun c hc _=>hblk c hc,fun b c o h hc=>?_,fun c o h hc=>?_⟩ ?_ ?_
 .exact Rz (wr:=[(nx,some (.fK sz t))]) hah
 .rcases h with h|⟨h,-⟩
  .exact h
  .have:=hh.bs;omega
 .by_cases hb:b=nx
  .subst hb;rw [Ll] at h;have:=(hown1 c o h).1;omega
  .rw [own_ne b hb] at h;exact ⟨b,o,h⟩
 .rcases h with h|⟨h,-⟩
  .exact .inl h
  .omega
 .have hb1:=hh1.blk 0 _ (by rfl:ah1 (.rows sz (t.den ρ).R) 0=some _)
  refine ⟨fun b k hb=>?_,fun b b' k k' c o c' o' hne h1 h2 h3 h4=>?_,fun b hb=>?_,fun c o h=>?_,bW hh.bs hst.below.size,fun b c o h=>?_⟩
  .by_cases hbn:b=nx
   .subst hbn
    rw [rC rfl] at hb
    simp only [aj] at hb;subst hb
    rcases hb1 with ⟨q1,q2⟩|⟨c,o,arr,ty,q1,q2,q3,q4,q5,q6,q7,q8⟩
    .exact .inl ⟨by rw [Ll];exact q1,q2⟩
    .refine .inr ⟨c,o,arr,ty,by rw [Ll];exact q1,bW hh.bs q2,fun off h=>?_,q4,q5,q6,q7,fun i row j x hi hj=>?_⟩
     .rcases h with h|⟨-,h⟩
      .have:=hh.kJ c off h;omega
      .exact q3 off h
     .obtain ⟨u,hu,hxu⟩:=q8 i row j x hi hj
      refine ⟨u,hu,?_⟩
      rcases hback with hb|⟨-,hb⟩
      .refine OQ (fun c o h=>ar9 c o h hb) hxu ?_
       exact lD (xM (j_ (Tm.qK hρ t)) i row hi) j x hj
      .exact DJ hxu (Af (hb row (aG hi)) j x hj)
   .rw [aDs hbn] at hb
    have hb':=hh.blk b k hb
    have hk:=hb'.keep (w':=w') (E':=⟨E2.fix,E.own⟩) ⟨fun c o h=>.inl h,hx.cell,fun _ _=>rfl,hx.arr⟩ (fun c o ho=>hblk c (hb'.lt ho).1) (fun c o off ho h=>?_)
    .refine hk.env (fun _ _ h=>h) (fun _ _ _ _ h=>h) (own_ne b hbn) fun x hxr=>own_ne x ?_
     intro e
     rw [e] at hxr
     exact akm hb' hxr aib
    .rcases h with h|⟨h,-⟩
     .exact h
     .have:=(hb'.lt ho).1;omega
  .have lt0:∀b k c o,b≠nx->ah b=some k->E.own b=.at c o->c<w.heap.size:=fun b k c o _ _ h=>(hh.kL b c o h).2
   by_cases e1:b=nx
   .subst e1
    rw [Ll] at h3
    rw [own_ne b' (Ne.symm hne)] at h4
    have:=(hown1 c o h3).1
    have:=(hh.kL b' c' o' h4).2
    omega
   .rw [own_ne b e1] at h3
    by_cases e2:b'=nx
    .subst e2
     rw [Ll] at h4
     have:=(hown1 c' o' h4).1
     have:=(hh.kL b c o h3).2
     omega
    .rw [own_ne b' e2] at h4
     rw [aDs e1] at h1
     rw [aDs e2] at h2
     exact hh.sep b b' k k' c o c' o' hne h1 h2 h3 h4
  .dsimp only at hb
   rw [own_ne b (by omega)];exact hh.fresh b (by omega)
  .rcases h with h|⟨-,h⟩
   .exact bZ (hh.kJ c o h) hst.below.size
   .exact hh1.kJ c o h
  .by_cases hbn:b=nx
   .subst hbn;rw [Ll] at h;exact ⟨bW hh.bs (hown1 c o h).1,(hown1 c o h).2⟩
   .rw [own_ne b hbn] at h;exact ⟨(hh.kL b c o h).1,bZ (hh.kL b c o h).2 hst.below.size⟩
 .rw [Lj ht]
  have e9:(SV.os nx sz 0 (.rlen t)).den ρ=.os nx sz 0 (t.den ρ).R.length:=by simp [SV.den,Tm.den,mZ,D.I]
  rw [e9]
  have hy:∀u,Rep w' E1 (.os 0 sz 0 (t.den ρ).R.length) u->Rep w' E2 (.os nx sz 0 (t.den ρ).R.length) u:=by
   intro u hu
   generalize (t.den ρ).R.length=len at hu ⊢
   cases hu with
   |mP _ _ _ a1 hb1=>exact .mP nx sz 0 a1 (by rw [Ll];exact hb1)
   |os _ _ _ _ c o cap hb1 hcap hsize=>exact .os nx sz 0 len c o cap (by rw [Ll];exact hb1) hcap hsize
  rcases hback with hb|⟨hb,-⟩
  .exact P8 (fun x=>x.clean=true) (fun l h=>lD (l:=l) h) (fun l h=>lD (l:=l) h) (y:=.os 0 sz 0 (t.den ρ).R.length) (y':=.os nx sz 0 (t.den ρ).R.length) rfl hy (fun x u hx hc=>OQ (fun c o h=>ar9 c o h hb) hx hc) (OO rfl ay2) (WV hcell) hv
  .exact P8 (fun x=>x.flat=true) (fun l h=>Af (l:=l) h) (fun l h=>Af (l:=l) h) (y:=.os 0 sz 0 (t.den ρ).R.length) (y':=.os nx sz 0 (t.den ρ).R.length) rfl hy (fun x u hx hc=>DJ hx hc) hb (WV hcell) hv
theorem azd {inl:Gv}{ρ:List AV}(hρ:iW ρ=true)(hI:oH P ρ inl):oH P ρ (azb inl):=by
 intro pc th nx nv f args R h hp hs base w E ah vs hah hh hG hrep o a he next Q hnext
 unfold azb at h
 split at h
 .rename_i R' hR
  simp only [aj] at h;subst h
  exact hI _ _ _ _ _ _ _ hR hp hs base w E ah vs hah hh hG hrep o a he next Q hnext
 .cases hc:KJ args
  case true=>simp [hc] at h
  simp only [hc,cond_false] at h
  split at h
  rotate_left
  .cases h
  rename_i az rd has hrd
  split at h
  rotate_left
  .cases h
  rename_i R' hR
  simp only [aj] at h;subst h
  have hpre:∀s∈(FT th nv args).2.2,s.holds P ρ:=fun s hm=>hs (pc,s) (b_ _ (aU.2 ⟨s,hm,rfl⟩)) hp
  have hfz:=(KN hρ hah hpre (n:=aDF)).trans (yN hρ (IJ hρ hah aDF) has)
  have aFh:rch ah aDF (mQ (dU ρ args))=rd:=by rw [tH hρ,acO hρ hah aDF hrd]
  have hg:=avC hh hrep hfz
  rw [aFh] at hg
  have e:(anq rd).map (fun x=>(x.1,x.2.map (SB.den ρ)))=arR rd:=by
   unfold anq arR
   rw [List.map_map]
   rfl
  have aCw:=Rz (wr:=anq rd) hah
  rw [e] at aCw
  have awW:iy w (avz E ah rd) (dU ρ (zO az)) vs:=iy.weak (tZ (ρ:=ρ)).length (fun i a b h1 h2=>((tZ (ρ:=ρ)).get i a b h1 h2).1)
   ⟨hg.1,fun i a v h1 h2=>Kv (fun _ _ h=>h) (hg.2 i a v h1 h2)⟩
  exact hI _ _ _ _ _ _ _ hR hp (fun x hx=>hs x (cO _ hx)) base w (avz E ah rd) _ vs aCw (avA hh rd) (hG.mono (fun _ _ h=>.inl h) fun _ _ _=>rfl) awW o a he next Q
   (fun c hc v w' E' fV q1 q2 q3 q4=>hnext c hc v w' E' fV q1 ((aps hh rd).trans q2) q3 q4)
theorem aqm {oc:auv}:∀σ:List AV,iW σ=true->oH P σ (auw P oc):=fun σ hσ=>azd hσ (azc σ hσ)
end
end Go.Fw
end
section
namespace Go.Fw
variable [jY]
theorem aqn {ah:AH}{l:List AV}{a':AV}(h:Go.Fw.mX ah (.agg l)=some a'):∃l',yD ah l=some l'/\a'=.agg l':=by
 simp only [Go.Fw.mX,ay] at h
 obtain ⟨l',h1,rfl⟩:=h;exact ⟨l',h1,rfl⟩
theorem aqo {ah:AH}{l:List AV}{a':AV}(h:Go.Fw.mX ah (.fD l)=some a'):∃l',yD ah l=some l'/\a'=.fD l':=by
 simp only [Go.Fw.mX,ay] at h
 obtain ⟨l',h1,rfl⟩:=h;exact ⟨l',h1,rfl⟩
theorem adC {w:World}{E E':Env}{ah:AH}{y0 y':AV}(Q:AV->Prop)(hagg:∀l,Q (.agg l)->∀(i:Nat) (c:AV),l[i]?=some c->Q c)(adB:∀l,Q (.fD l)->∀(i:Nat) (c:AV),l[i]?=some c->Q c)
  (hfr:∀x x' u,Rep w E x u->Q x->Go.Fw.mX ah x=some x'->Rep w E' x' u) (hs:y'.jR=true) (hne:y0≠eP) (hy:∀u,Rep w E y0 u->Rep w E' y' u) :
  ∀{p:List Nat} {a a':AV} {v:Value},Q (xu p a (.sl [] true))->aDt a p=y0->Rep w E a v->Go.Fw.mX ah (xu p a (.sl [] true))=some a'->Rep w E' (xu p a' y') v
 |[],a,a',v,_,hc,h,_=>hy _ (by cases a<;>(simp only [aDt] at hc;subst hc;exact h))
 |j::p,.agg l,a',v,hQ,hc,h,hz=>by
  simp only [aDt] at hc
  simp only [xu] at hz hQ
  have hj:j<l.length:=by
   refine Nat.lt_of_not_le fun hle=>hne ?_
   have e:l.getD j eP=eP:=by simp [aB,bK hle]
   rw [e] at hc;rw [<- hc]
   cases p<;>rfl
  obtain ⟨l',hl',rfl⟩:=aqn hz
  obtain ⟨g1,g2⟩:=lG hl'
  have g1:l'.length=l.length:=by simpa using g1
  have hj':j<l'.length:=by omega
  have hlj:l[j]?=some (l.getD j eP):=by rw [P7 hj];simp [hj]
  obtain ⟨z,hz1,hz2⟩:=g2 j (l'.getD j eP) (by rw [P7 hj'];simp [hj'])
  rw [bM hj] at hz1
  simp only [aj] at hz1;subst hz1
  cases h with
  |agg cs vs hl hsc h=>
   have hsj:=hsc _ (aG hlj)
   cases p with
   |cons k q=>
    exfalso
    apply hne
    rw [<- hc]
    generalize l.getD j eP=zz at hsj
    cases zz<;>first|rfl|(simp [AV.jR] at hsj)
   |nil=>
   simp only [xu]
   refine .agg _ _ (by simpa [g1] using hl) ?_ ?_
   .intro c hcm
    rcases List.mem_or_eq_of_mem_set hcm with hcm|rfl
    .obtain ⟨i,hi⟩:=List.getElem?_of_mem hcm
     obtain ⟨x,hx1,hx2⟩:=g2 i c hi
     refine F9 hx2 ?_
     by_cases hij:j=i
     .subst hij;rw [bM hj] at hx1;simp only [aj] at hx1;subst hx1;rfl
     .rw [List.getElem?_set_ne hij] at hx1;exact hsc x (aG hx1)
    .exact hs
   .intro i c u hi hu
    by_cases hij:j=i
    .subst hij
     rw [bM hj'] at hi
     simp only [aj] at hi;subst hi
     refine hy u ?_
     rw [<- hc]
     have:=h j _ u hlj hu
     generalize l.getD j eP=zz at this ⊢
     cases zz<;>exact this
    .rw [List.getElem?_set_ne hij] at hi
     obtain ⟨x,hx1,hx2⟩:=g2 i c hi
     exact hfr x c u (h i x u (by rw [List.getElem?_set_ne hij] at hx1;exact hx1) hu) (hagg _ hQ i x hx1) hx2
 |j::p,.fD l,a',v,hQ,hc,h,hz=>by
  simp only [aDt] at hc
  simp only [xu] at hz hQ
  have hj:j<l.length:=by
   refine Nat.lt_of_not_le fun hle=>hne ?_
   have e:l.getD j eP=eP:=by simp [aB,bK hle]
   rw [e] at hc;rw [<- hc]
   cases p<;>rfl
  obtain ⟨l',hl',rfl⟩:=aqo hz
  obtain ⟨g1,g2⟩:=lG hl'
  have g1:l'.length=l.length:=by simpa using g1
  have hj':j<l'.length:=by omega
  have hlj:l[j]?=some (l.getD j eP):=by rw [P7 hj];simp [hj]
  obtain ⟨z,hz1,hz2⟩:=g2 j (l'.getD j eP) (by rw [P7 hj'];simp [hj'])
  have hQj:=adB _ hQ j _ (by rw [bM hj])
  rw [bM hj] at hz1
  simp only [aj] at hz1;subst hz1
  cases h with
  |fD cs vs hl h=>
   simp only [xu]
   refine .fD _ _ (by simpa [g1] using hl) ?_
   intro i c u hi hu
   by_cases hij:j=i
   .subst hij
    rw [bM hj'] at hi
    simp only [aj] at hi;subst hi
    exact adC Q hagg adB hfr hs hne hy hQj hc (h j _ u hlj hu) hz2
   .rw [List.getElem?_set_ne hij] at hi
    obtain ⟨x,hx1,hx2⟩:=g2 i c hi
    exact hfr x c u (h i x u (by rw [List.getElem?_set_ne hij] at hx1;exact hx1) hu) (adB _ hQ i x hx1) hx2
 |_::_,.p _,_,_,_,hc,_,_|_::_,.str _,_,_,_,hc,_,_|_::_,.sl ..,_,_,_,hc,_,_|_::_,.vp ..,_,_,_,hc,_,_|_::_,.os ..,_,_,_,hc,_,_|_::_,.op ..,_,_,_,hc,_,_|_::_,.fn ..,_,_,_,hc,_,_|_::_,.mV ..,_,_,_,hc,_,_|_::_,.mp _,_,_,_,hc,_,_=>absurd hc.symm hne
theorem WW {y:SV}:∀{p:List Nat} {x z:SV},AA p x=some z->AA p (yU p x y)=some y
 |[],x,z,h=>rfl
 |j::p,.agg l,z,h=>by
  simp only [AA] at h
  split at h
  .rename_i x hx
   have hj:j<l.length:=by rw [yH] at hx;exact (aA.1 hx).1
   have e:=(xW (ρ:=[]) hx).2
   simp only [yU,AA,yH,bM hj,e,WW h]
  .cases h
 |j::p,.fD l,z,h=>by
  simp only [AA] at h
  split at h
  .rename_i x hx
   have hj:j<l.length:=by rw [yH] at hx;exact (aA.1 hx).1
   have e:=(xW (ρ:=[]) hx).2
   simp only [yU,AA,yH,bM hj,e,WW h]
  .cases h
 |j::p,.sc ..,z,h|j::p,.c _,z,h|j::p,.nil,z,h|j::p,.sf _,z,h|j::p,.slc ..,z,h|j::p,.vp ..,z,h|j::p,.os ..,z,h|j::p,.op ..,z,h|j::p,.fn ..,z,h|j::p,.mV ..,z,h|j::p,.mp _,z,h=>by simp [AA] at h
theorem RU {ρ:List AV}{y:SV}{y':AV}:∀{p:List Nat} {x z:SV},AA p x=some z->xu p ((yU p x y).den ρ) y'=xu p (x.den ρ) y'
 |[],x,z,h=>rfl
 |j::p,.agg l,z,h=>by
  simp only [AA] at h
  split at h
  .rename_i x hx
   have hj:j<(dU ρ l).length:=by rw [yH] at hx;rw [fZ];exact (aA.1 hx).1
   obtain ⟨e1,e2⟩:=xW (ρ:=ρ) hx
   simp only [yU,SV.den,xu,MR,e2,e1]
   rw [show ((dU ρ l).set j ((yU p x y).den ρ)).getD j eP=(yU p x y).den ρ by simp [aB,hj],RU h]
   simp
  .cases h
 |j::p,.fD l,z,h=>by
  simp only [AA] at h
  split at h
  .rename_i x hx
   have hj:j<(dU ρ l).length:=by rw [yH] at hx;rw [fZ];exact (aA.1 hx).1
   obtain ⟨e1,e2⟩:=xW (ρ:=ρ) hx
   simp only [yU,SV.den,xu,MR,e2,e1]
   rw [show ((dU ρ l).set j ((yU p x y).den ρ)).getD j eP=(yU p x y).den ρ by simp [aB,hj],RU h]
   simp
  .cases h
 |j::p,.sc ..,z,h|j::p,.c _,z,h|j::p,.nil,z,h|j::p,.sf _,z,h|j::p,.slc ..,z,h|j::p,.vp ..,z,h|j::p,.os ..,z,h|j::p,.op ..,z,h|j::p,.fn ..,z,h|j::p,.mV ..,z,h|j::p,.mp _,z,h=>by simp [AA] at h
def aqp (th':Tr SB)(nx b:Nat)(rr:List Nat):Bool:=th'.all (fun j k=>!Nat.beq j b&&(Nat.ble (j+1) nx&&k.IG.all (aEm th')))&&rr.all (aEm th')
def awX (p:List Nat)(v y:SV):Option SV:=match AA p v with|some _=>some (yU p v y)|none=>none
def RX (p:List Nat)(x:Lf)(b:Nat)(rr:List Nat)(y:Option SV):Option SV:=
 bif aqp (aDy x.th 60 rr .e) x.nx b rr then match (yU p x.v .nil).mX (thN (aDy x.th 60 rr .e) aDF),y with
  |some v,some y=>awX p v y
  |_,_=>none
 else none
def aic (p:List Nat)(sz:Nat)(x:Lf):Option SV:=
 match AA p x.v with
 |some .nil=>RX p x x.nx (yU p x.v .nil).IG (some (.slc [] false))
 |some (.os b sz' off l)=>match x.th.get b with
  |none=>none
  |some k=>bif Nat.beq sz sz'&&(Nat.beq off 0&&Uk k l) then
    match k with
    | .fK sz2 t=>bif Nat.beq sz sz2 then RX p x b (yU p x.v .nil).IG (some (.sc .sl t)) else none
    | .rows sz2 rs=>bif Nat.beq sz sz2 then RX p x b ((yU p x.v .nil).IG++EK rs)
     (match OH (thN (aDy x.th 60 ((yU p x.v .nil).IG++EK rs) .e) aDF) rs with|some rs'=>some (.slc rs' false)|none=>none) else none
    |_=>none
   else none
 |_=>none
def abl (p:List Nat)(x:Lf):List Side:=
 match AA p x.v with
 |some (.os b _ _ l)=>match x.th.get b with
  |some k=>Zx k l
  |none=>[]
 |_=>[]
section
variable {P : Program} {ρ:List AV}
def ane (o:Own)(c:Nat):Prop:=∀o',o≠.at c o'
theorem aEM {size:Nat}{w':World}{E2:Env}{th:Tr SB}{nx b:Nat}{rr:List Nat}(hρ:iW ρ=true)(hh:dX size w' E2 (iQ ρ th) (fun b=>nx<=b))(hok:aqp (aDy th 60 rr .e) nx b rr=true)(ob:Own)(hob:∀c o,ob=.at c o->E2.own b=.at c o/\∃k,iQ ρ th b=some k) :
  ∀x x' u,Rep w' E2 x u->(∀j∈x.refs,j∈rr\/(iQ ρ (aDy th 60 rr .e) j).isSome=true)->Go.Fw.mX (yA (iQ ρ (aDy th 60 rr .e)) aDF) x=some x'->Rep w' (eY fun c o=>E2.fix c o\/(size<=c/\c<w'.heap.size/\ane ob c)) x' u:=by
 intro x x' u hx hrf hz
 unfold aqp at hok
 simp only [ak] at hok
 obtain ⟨hall,hrr⟩:=hok
 have hsub:∀j k,iQ ρ (aDy th 60 rr .e) j=some k->iQ ρ th j=some k:=fun j k h=>by
  obtain ⟨z,hz,rfl⟩:=Aq h
  have:=GK (acc:=.e) (fun b k h=>by simp [Tr.get] at h) j z hz
  unfold iQ;rw [this];rfl
 have hin:∀{j k},iQ ρ (aDy th 60 rr .e) j=some k->j≠b/\j<nx/\∀y∈k.xQ,(iQ ρ (aDy th 60 rr .e) y).isSome=true:=fun {j k} h=>by
  obtain ⟨z,hz,rfl⟩:=Aq h
  have:=Tr.MH hall hz
  simp only [ak,Bool.not_eq_true'] at this
  refine ⟨fun e=>by subst e;simp at this,aC this.2.1,fun y hy=>?_⟩
  rw [Gu hρ] at hy
  exact PN hρ (aF.1 this.2.2 y hy)
 have hpart:=RF hh hsub (nx:=nx) (fun j k h=>(hin h).2.1) (fun j k h=>(hin h).2.2)
 have ay3:∀j∈x.refs,(iQ ρ (aDy th 60 rr .e) j).isSome=true:=fun j hj=>by
  rcases hrf j hj with h|h
  .exact PN hρ (aF.1 hrr j h)
  .exact h
 have hx':=V9 (oJ:=iQ ρ (aDy th 60 rr .e)) hx ay3
 refine Pg hpart (fix:=fun c o=>E2.fix c o\/(size<=c/\c<w'.heap.size/\ane ob c)) (fun c o h=>.inl h) (fun j c o ho off=>.inr ?_) aDF hx' hz
 have hj:(iQ ρ (aDy th 60 rr .e) j).isSome=true:=by
  refine Decidable.byContradiction fun h=>?_
  simp [Env.part,h] at ho
 have ho':E2.own j=.at c o:=by simpa [Env.part,hj] using ho
 obtain ⟨k,hk⟩:=Option.isSome_iff_exists.1 hj
 refine ⟨(hh.kL j c o ho').1,(hh.kL j c o ho').2,fun o' e=>?_⟩
 obtain ⟨e1,k',hk'⟩:=hob c o' e
 exact hh.sep j b k k' c o c o' (hin hk).1 (hsub j k hk) hk' ho' e1 rfl
def agl (P:Program)(fn:Func)(w:World)(fix:Nat->Nat->Prop)(r:AV)(p:List Nat)(sz:Nat)(a':Act)(w':World):Prop:=
 a'.defers=[]/\∃val E',(results fn a'.tmps).run P w'=.ok val w'/\Step w.heap.size w (eY fix) w' E'/\dX w.heap.size w' E' (ah1 (.rows sz (EI p r))) (fun b=>1<=b)/\Rep w' E' (xu p r (.os 0 sz 0 (EI p r).length)) val
theorem RY {p:List Nat}{sz b:Nat}{x:Lf}{rr:List Nat}{y:SV}{yo:Option SV}{r:SV}(hyo:yo=some y)(hρ:iW ρ=true)(h:RX p x b rr yo=some r){y0:SV}(hg:AA p x.v=some y0)(hy0:y0.den ρ≠eP){fn:Func}{w w':World}{fix:Nat->Nat->Prop}{a':Act}
  (hsz:∀c o,fix c o->c<w.heap.size) (he:Le P fn w.heap.size w (eY fix) (x.v.den ρ) (iQ ρ x.th) x.nx a' w') (hrr:∀j∈(yU p x.v .nil).IG,j∈rr) (rows:List (List AV)) (hrows:y.den ρ=.sl rows false)
  (hblk:∀E2,dX w.heap.size w' E2 (iQ ρ x.th) (fun b=>x.nx<=b)->∃ob:Own,(∀c o,ob=.at c o->E2.own b=.at c o/\∃k,iQ ρ x.th b=some k)/\ob≠.free/\
   (∀E3:Env,E3.own 0=ob->(∀z z' u,Rep w' E2 z u->(∀j∈z.refs,j∈rr\/(iQ ρ (aDy x.th 60 rr .e) j).isSome=true)->Go.Fw.mX (yA (iQ ρ (aDy x.th 60 rr .e)) aDF) z=some z'->Rep w' E3 z' u)->(∀x u,Rep w' E2 x u->x.clean=true->Rep w' E3 x u)->
    (∀c o,ob=.at c o->∀off,¬E3.fix c off)->rU w.heap.size w' E3 0 (.rows sz rows)/\∀u,Rep w' E2 (y0.den ρ) u->Rep w' E3 (.os 0 sz 0 rows.length) u)) :
  agl P fn w fix (r.den ρ) p sz a' w':=by
 subst hyo
 unfold RX at h
 cases hok:aqp (aDy x.th 60 rr .e) x.nx b rr
 .simp [hok] at h
 simp only [hok,cond_true] at h
 split at h
 rotate_left
 .cases h
 rename_i v y' hfz hyy
 simp only [aj] at hyy;subst hyy
 unfold awX at h
 split at h
 rotate_left
 .cases h
 rename_i z hz
 simp only [aj] at h;subst h
 obtain ⟨h0,E2,val,h1,h2,h3,h4⟩:=he
 obtain ⟨ob,hob,aBx,hend⟩:=hblk E2 h4
 let E3:Env:=⟨fun c o=>E2.fix c o\/(w.heap.size<=c/\c<w'.heap.size/\ane ob c),fun j=>if j=0 then ob else .free⟩
 have ay4:=aEM (ρ:=ρ) hρ h4 hok ob hob
 have hfr:∀x' x'' u,Rep w' E2 x' u->(∀j∈x'.refs,j∈rr\/(iQ ρ (aDy x.th 60 rr .e) j).isSome=true)->Go.Fw.mX (yA (iQ ρ (aDy x.th 60 rr .e)) aDF) x'=some x''->Rep w' E3 x'' u:=
  fun x' x'' u q1 q2 q3=>Kv (E:=E3) (fun _ _ h=>h) (ay4 x' x'' u q1 q2 q3)
 have hcl:∀x u,Rep w' E2 x u->x.clean=true->Rep w' E3 x u:=fun x u hx hc=>OQ (E':=E3) (fun c o h=>Or.inl h) hx hc
 obtain ⟨hb1,hb2⟩:=hend E3 rfl hfr hcl (fun c o e off hf=>by
  rcases hf with hf|⟨-,-,hf⟩
  .obtain ⟨e1,k,hk⟩:=hob c o e
   exact ((h4.blk b k hk).lt e1).2.2 off hf
  .exact hf o e)
 have hcell:aDt ((yU p v y).den ρ) p=.sl rows false:=by rw [GN (WW hz),hrows]
 have hrp:EI p ((yU p v y).den ρ)=rows:=by unfold EI;rw [hcell];rfl
 refine ⟨h0,val,E3,h1,⟨⟨fun c o h=>.inl (h3.ext.fix c o h),h3.ext.cell,fun b hb=>absurd rfl hb,h3.ext.arr⟩,h3.below,fun c o hc h=>?_,fun c hc _=>h3.below.block c hc,fun j c o h hc=>?_,fun c o h hc=>?_⟩,?_,?_⟩
 .rcases h with h|⟨h,-⟩
  .exact h3.z_ c o hc h
  .omega
 .change (if j=0 then ob else Own.free)=.at c o at h
  split at h
  .obtain ⟨e1,-⟩:=hob c o h
   have:=(h4.kL b c o e1).1;omega
  .cases h
 .rcases h with h|⟨h,-⟩
  .exact (h3.Aa c o h hc).imp id (fun ⟨b,o',h⟩=>by cases h)
  .omega
 .rw [hrp]
  refine ⟨fun j k hj=>?_,fun j j' k k' c o c' o' hne e1 e2 _ _=>?_,fun j hj=>?_,fun c o h=>?_,h4.bs,fun j c o h=>?_⟩
  .unfold ah1 at hj
   split at hj
   .rename_i e;subst e
    simp only [aj] at hj;subst hj;exact hb1
   .cases hj
  .unfold ah1 at e1 e2
   split at e1
   .split at e2
    .omega
    .cases e2
   .cases e1
  .show (if j=0 then ob else Own.free)=.free
   rw [if_neg (by omega)]
  .rcases h with h|⟨-,h,-⟩
   .exact h4.kJ c o h
   .exact h
  .change (if j=0 then ob else Own.free)=.at c o at h
   split at h
   .exact h4.kL b c o (hob c o h).1
   .cases h
 .rw [hrp,RU hz]
  have hQ0:(xu p (x.v.den ρ) (.sl [] true))=(yU p x.v .nil).den ρ:=(Lj (ρ:=ρ) (y:=.nil) hg).symm
  refine adC (E:=E2) (E':=E3) (ah:=yA (iQ ρ (aDy x.th 60 rr .e)) aDF) (y0:=y0.den ρ) (fun a=>∀j∈a.refs,j∈rr\/(iQ ρ (aDy x.th 60 rr .e) j).isSome=true) (fun l hq i c hi j hj=>hq j (jB i c hi hj)) (fun l hq i c hi j hj=>hq j (jB i c hi hj))
   (fun x' x'' u q1 q2 q3=>hfr x' x'' u q1 q2 q3) rfl hy0 hb2 ?_ (GN hg) h2 ?_
  .intro j hj
   rw [hQ0,yM hρ] at hj
   exact .inl (hrr j hj)
  .rw [hQ0]
   exact PE hρ (IJ hρ (fun b k hk=>by unfold iQ;rw [hk];rfl) aDF) hfz
theorem adD {p:List Nat}{sz:Nat}{x:Lf}{r:SV}(hρ:iW ρ=true)(h:aic p sz x=some r)(hsd:∀s∈abl p x,s.holds P ρ){fn:Func}{w w':World}{fix:Nat->Nat->Prop}{a':Act}
  (hsz:∀c o,fix c o->c<w.heap.size) (he:Le P fn w.heap.size w (eY fix) (x.v.den ρ) (iQ ρ x.th) x.nx a' w'):agl P fn w fix (r.den ρ) p sz a' w':=by
 unfold aic at h
 split at h
 .rename_i hg
  refine RY rfl hρ h hg (by intro e;cases e) hsz he (fun j hj=>hj) [] rfl (fun E2 h4=>⟨.empty,fun c o e=>(by cases e),(by intro e;cases e),fun E3 h0 hfr hcl hno=>⟨.inl ⟨h0,rfl⟩,fun u hu=>?_⟩⟩)
  have:∃a1,u=.slice a1 0 0:=by
   cases hu with
   |slnil full a1=>exact ⟨a1,rfl⟩
   |sl _ _ _ _ _ cap _ _ hfull=>have:=hfull rfl;subst this;exact ⟨_,rfl⟩
  obtain ⟨a1,rfl⟩:=this
  exact .mP 0 sz 0 a1 (by rw [h0];intro e;cases e)
 .rename_i b sz' off l hg
  split at h
  .cases h
  rename_i k hk
  cases hc:Nat.beq sz sz'&&(Nat.beq off 0&&Uk k l)
  .simp [hc] at h
  simp only [hc,cond_true] at h
  simp only [ak] at hc
  obtain ⟨c1,c2,c3⟩:=hc
  have c4:∀s∈Zx k l,s.holds P ρ:=fun s hm=>hsd s (by simp only [abl,hg,hk];exact hm)
  obtain rfl:=au c1
  obtain rfl:=au c2
  have hkb:iQ ρ x.th b=some (k.den ρ):=by unfold iQ;rw [hk];rfl
  have hos:∀{E2 E3:Env} {n m:Nat},n=m->E3.own 0=E2.own b->∀u,Rep w' E2 (.os b sz 0 n) u->Rep w' E3 (.os 0 sz 0 m) u:=by
   intro E2 E3 n m e h0 u hu
   subst e
   cases hu with
   |mP _ _ _ a1 hb1=>exact .mP 0 sz 0 a1 (by rw [h0];exact hb1)
   |os _ _ _ _ c o cap hb1 hcap hsize=>exact .os 0 sz 0 n c o cap (by rw [h0];exact hb1) hcap hsize
  split at h
  .rename_i sz2 t
   cases hs2:Nat.beq sz sz2
   .simp [hs2] at h
   simp only [hs2,cond_true] at h
   obtain rfl:=au hs2
   refine RY rfl hρ h hg (by intro e;cases e) hsz he (fun j hj=>hj) (t.den ρ).R rfl (fun E2 h4=>⟨E2.own b,fun c o e=>⟨e,_,hkb⟩,(h4.blk b _ hkb).own,fun E3 h0 hfr hcl hno=>⟨?_,?_⟩⟩)
   .rcases h4.blk b _ hkb with ⟨q1,q2⟩|⟨c,o,arr,ty,q1,q2,q3,q4,q5,q6,q7,q8⟩
    .exact .inl ⟨by rw [h0];exact q1,q2⟩
    .refine .inr ⟨c,o,arr,ty,by rw [h0];exact q1,q2,hno c o q1,q4,q5,q6,q7,fun i row j y hi hj=>?_⟩
     obtain ⟨u,hu,hyu⟩:=q8 i row j y hi hj
     exact ⟨u,hu,hcl y u hyu (lD (xM (j_ (Tm.qK hρ t)) i row hi) j y hj)⟩
   .exact hos (Ws (ρ:=ρ) c3 c4 rfl) h0
  .rename_i sz2 rs
   cases hs2:Nat.beq sz sz2
   .simp [hs2] at h
   simp only [hs2,cond_true] at h
   obtain rfl:=au hs2
   split at h
   rotate_left
   .simp [RX] at h
   rename_i rs' hrs
   have ay5:=MG hρ (IJ hρ (ah:=iQ ρ (aDy x.th 60 ((yU p x.v .nil).IG++EK rs) .e)) (fun b k hk=>by unfold iQ;rw [hk];rfl) aDF) hrs
   obtain ⟨g1,g2⟩:=Ir ay5
   refine RY rfl hρ h hg (by intro e;cases e) hsz he (fun j hj=>b_ _ hj) (iM ρ rs') rfl (fun E2 h4=>⟨E2.own b,fun c o e=>⟨e,_,hkb⟩,(h4.blk b _ hkb).own,fun E3 h0 hfr hcl hno=>⟨?_,?_⟩⟩)
   .rcases h4.blk b _ hkb with ⟨q1,q2⟩|⟨c,o,arr,ty,q1,q2,q3,q4,q5,q6,q7,q8⟩
    .refine .inl ⟨by rw [h0];exact q1,?_⟩
     have:(iM ρ rs').length=0:=by rw [g1,q2];rfl
     exact List.eq_nil_of_length_eq_zero this
    .refine .inr ⟨c,o,arr,ty,by rw [h0];exact q1,q2,hno c o q1,q4,by rw [g1];exact q5,fun i row hi=>?_,fun row hm y hy=>?_,fun i row j y hi hj=>?_⟩
     .obtain ⟨row0,e1,e2⟩:=g2 i row hi
      rw [(lG e2).1];exact q6 i row0 e1
     .obtain ⟨i,hi⟩:=List.getElem?_of_mem hm
      obtain ⟨row0,e1,e2⟩:=g2 i row hi
      obtain ⟨j,hj⟩:=List.getElem?_of_mem hy
      obtain ⟨y0,e3,e4⟩:=(lG e2).2 j y hj
      exact F9 e4 (q7 row0 (aG e1) y0 (aG e3))
     .obtain ⟨row0,e1,e2⟩:=g2 i row hi
      obtain ⟨y0,e3,e4⟩:=(lG e2).2 j y hj
      obtain ⟨u,hu,hyu⟩:=q8 i row0 j y0 e1 e3
      refine ⟨u,hu,hfr y0 y u hyu (fun q hq=>.inl ?_) e4⟩
      have hq2:q∈mY (iM ρ rs):=xq i row0 e1 (jB j y0 e3 hq)
      rw [Ap hρ] at hq2
      exact cO _ hq2
   .refine hos ?_ h0
    rw [g1]
    exact Ws (ρ:=ρ) c3 c4 rfl
  .cases h
 .cases h
def RZ (P:Program)(rs:List ResultVar)(p:List Nat)(sz:Nat):Pc->Nat->List Out->Option (List (Tm×SV)×Nat×List (Pc×Side))
 |_,nv,[]=>some ([],nv,[])
 |pc,nv,o::r=>match Lc P rs (jK (xR o.g r) true pc) nv o with
  |none=>none
  |some x=>match aic p sz x with
   |none=>none
   |some v=>match RZ P rs p sz (jK o.g false pc) x.nv r with
    |none=>none
    |some (l,vX,sd)=>some ((o.g,v)::l,vX,(x.sd++tag (jK (xR o.g r) true pc) (abl p x) [])++sd)
theorem TV {rs:List ResultVar}{p:List Nat}{sz:Nat}{pc:Pc}{nv:Nat}{o:Out}{r:List Out}:RZ P rs p sz pc nv (o::r)=(match Lc P rs (jK (xR o.g r) true pc) nv o with
 |none=>none
 |some x=>match aic p sz x with
  |none=>none
  |some v=>match RZ P rs p sz (jK o.g false pc) x.nv r with
   |none=>none
   |some (l,vX,sd)=>some ((o.g,v)::l,vX,(x.sd++tag (jK (xR o.g r) true pc) (abl p x) [])++sd)):=rfl
theorem ZN {fn:Func}{N:Nat}(hρ:iW ρ=true){p:List Nat}{sz:Nat}:∀{l:List Out} {pc:Pc} {nv vX:Nat} {rs:List (Tm×SV)} {sd:List (Pc×Side)},RZ P fn.results.toList p sz pc nv l=some (rs,vX,sd)->pc.holds ρ->jD P ρ sd->∀{w w':World} {fix:Nat->Nat->Prop} {E':Env} {fr:mg} {ah:AH} {nx:Nat} {a':Act} {e:Exit},
  (∀c o,fix c o->c<w.heap.size)->IZ ρ N l e fr ah nx->QU w.heap.size w' E' fr ah nx a'->Step w.heap.size w (eY fix) w' E'->La e=true/\agl P fn w fix (rQ ρ rs) p sz a' w'
 |[],pc,nv,vX,rs,sd,h,hp,hs,w,w',fix,E',fr,ah,nx,a',e,hsz,hsel,jG,hstep=>by
  obtain ⟨st,h1,-⟩:=hsel;cases h1
 |[o],pc,nv,vX,rs,sd,h,hp,hs,w,w',fix,E',fr,ah,nx,a',e,hsz,hsel,jG,hstep=>by
  obtain ⟨st,h1,h2⟩:=hsel
  simp only [sel,aj,aJ] at h1
  obtain ⟨rfl,rfl⟩:=h1
  simp only [RZ,xR,jK] at h
  split at h
  .cases h
  .rename_i x hx
   split at h
   .cases h
   .rename_i v hv
    simp only [aj,aJ,cu] at h
    obtain ⟨rfl,rfl,rfl⟩:=h
    obtain ⟨q1,q2⟩:=BF (P:=P) hx hp (ni hs) h2 jG hstep
    exact ⟨q1,adD hρ hv ((IU (pX hs)).1 hp) hsz q2⟩
 |o::o'::r,pc,nv,vX,rs,sd,h,hp,hs,w,w',fix,E',fr,ah,nx,a',e,hsz,hsel,jG,hstep=>by
  obtain ⟨st,h1,h2⟩:=hsel
  simp only [sel] at h1
  rw [TV] at h
  simp only [xR] at h
  split at h
  .cases h
  .rename_i x hx
   split at h
   .cases h
   .rename_i v hv
    split at h
    .cases h
    .rename_i l nv1 sd1 hl
     simp only [aj,aJ] at h
     obtain ⟨rfl,rfl,rfl⟩:=h
     have adq:∃y s,l=y::s:=by
      rw [TV] at hl
      split at hl
      .cases hl
      .split at hl
       .cases hl
       .split at hl
        .cases hl
        .simp only [aj,aJ] at hl;exact ⟨_,_,hl.1.symm⟩
     obtain ⟨y,s,rfl⟩:=adq
     cases hg:(o.g.den ρ).B
     .rw [hg] at h1
      obtain ⟨q1,q2⟩:=ZN hρ hl (gq hg hp) (pX hs) hsz ⟨st,h1,h2⟩ jG hstep
      exact ⟨q1,by simpa [rQ,hg] using q2⟩
     .rw [hg] at h1
      simp only [cond_true,aj,aJ] at h1
      obtain ⟨rfl,rfl⟩:=h1
      obtain ⟨q1,q2⟩:=BF (P:=P) hx (gq hg hp) (ni (ni hs)) h2 jG hstep
      exact ⟨q1,by simpa [rQ,hg] using adD (P:=P) hρ hv ((IU (pX (ni hs))).1 (gq hg hp)) hsz q2⟩
def agm (P:Program)(X0:qO)(I0:Gv)(md:Md)(FC:FuncId->BD)(vK CF:Nat)(f:FuncId)(args:List SV)(nv:Nat)(p:List Nat)(sz:Nat):Option iE:=
 match P.funcs[f]? with
 |none=>none
 |some fn=>match fn.body with
  |none=>none
  |some c=>bif o9 fn&&Nat.ble args.length fn.ntmps then
    match uQ P ⟨(PZ P X0 I0 md FC vK CF CF).1,is2 md,(PZ P X0 I0 md FC vK CF CF).2,vK⟩ {FC f with N:=fn.ntmps} CF [] ⟨DX 0 args,.e,0⟩ nv c with
    |none=>none
    |some x=>match RZ P fn.results.toList p sz [] x.nv x.outs with
     |none=>none
     |some (l,_,sd)=>some ⟨l,x.sd++sd,x.aw⟩
   else none
theorem aqr {X0:qO}{I0:Gv}{md:Md}{FC:FuncId->BD}{vK CF:Nat}{f:FuncId}{args:List SV}{nv:Nat}{p:List Nat}{sz:Nat}{R:iE}(h:agm P X0 I0 md FC vK CF f args nv p sz=some R)(hm:P.follows .mixedOrders=true)(hρ:iW ρ=true)(h0:∀σ:List AV,iW σ=true->oH P σ I0)(hX:∀σ:List AV,iW σ=true->o7 P σ X0)
  (hs:jD P ρ R.sd) (haw:RJ P ρ R.aw):PCo P f (dU ρ args) (rQ ρ R.rs) p sz:=by
 unfold agm at h
 split at h
 .cases h
 rename_i fn hfn
 split at h
 .cases h
 rename_i c hc
 cases hg:o9 fn&&Nat.ble args.length fn.ntmps
 .simp [hg] at h
 simp only [hg,cond_true] at h
 split at h
 .cases h
 rename_i x hx
 split at h
 .cases h
 rename_i l vX sd hl
 simp only [aj] at h;subst h
 obtain ⟨h1,h2⟩:=UZ (md:=md) (FC:=FC) (vK:=vK) (CF:=CF) hm h0 hX CF
 simp only [ak] at hg
 have hname:fn.name≠ "runtime.NumGoroutine" :=by simpa [o9] using hg.1
 have hlen:=aC hg.2
 intro w fix vs hfix hG hargs
 rw [hfn]
 dsimp only
 refine ⟨by rw [hc];rfl,hname,?_⟩
 have hlenA:(dU ρ args).length<=fn.ntmps:=by rw [fZ];exact hlen
 have hst:JY ρ fn.ntmps ⟨DX 0 args,.e,0⟩ (DY fn.ntmps (dU ρ args)) (fun _=>none) 0:=JY.of P5 (fun b k h=>by simp [Tr.get] at h) (CV hlenA) (dD _)
 have agh:=o8 (G:=⟨(PZ P X0 I0 md FC vK CF CF).1,is2 md,(PZ P X0 I0 md FC vK CF CF).2,vK⟩) (F:={FC f with N:=fn.ntmps}) hm h1 h2 hρ _ _ _ _ hx (fun x hx=>by cases hx) (ni hs) haw _ _ _ hst
 have jG:QU w.heap.size w (eY fix) (DY fn.ntmps (dU ρ args)) (fun _=>none) 0 {tmps:=vs.toArray++Array.replicate (fn.ntmps-vs.toArray.size) undef,defers:=[]}:=
  ⟨⟨fun b k hb=>(by cases hb),fun b b' k k' c o c' o' _ hb=>(by cases hb),fun _ _=>rfl,hfix,dD _,fun b c o hb=>(by cases hb)⟩,MO hG hargs hlenA,rfl⟩
 refine calls_of_wp hfn hc (wp_mono (agh _ w (eY fix) _ jG) fun e a' w' hp'=>?_)
 obtain ⟨E',fr',fV,nx',hsel,WM,hst'⟩:=hp'
 obtain ⟨q1,q0,val,E3,q2,q3,q4,q5⟩:=ZN (P:=P) (fn:=fn) hρ hl (fun x hx=>by cases hx) (pX hs) hfix hsel WM hst'
 have fin:a'.defers=[]/\∃v,(results fn a'.tmps).run P w'=.ok v w'/\∃u E',Ending.returned v=.returned u/\Step w.heap.size w (eY fix) w' E'/\dX w.heap.size w' E' (ah1 (.rows sz (EI p (rQ ρ l)))) (fun b=>1<=b)/\Rep w' E' (xu p (rQ ρ l) (.os 0 sz 0 (EI p (rQ ρ l)).length)) u:=
  ⟨q0,val,q2,val,E3,rfl,q3,q4,q5⟩
 cases e<;>first|exact fin|(simp [La] at q1)
theorem auz (hm:P.follows .mixedOrders=true){X:qO}(hX:∀σ:List AV,iW σ=true->o7 P σ X){I0:Gv}(h0:∀σ:List AV,iW σ=true->oH P σ I0){md:Md}{FC:FuncId->BD}{vK CF f nv:Nat}{args:List SV}{ρ:List AV}{rs:List (Tm×SV)}{sd:List (Pc×Side)}{aw:List Lo}{az:List AV}{r:AV}{p:List Nat}{sz:Nat}
  (h:agm P X I0 md FC vK CF f args nv p sz=some ⟨rs,sd,aw⟩) (hρ:iW ρ=true) (hs:xw P ρ sd) (hl:LoL P aw ρ) (ha:dU ρ args=az) (hr:rQ ρ rs=r):PCo P f az r p sz:=by
 subst ha;subst hr
 exact aqr h hm hρ h0 hX hs.ok hl
end
end Go.Fw
namespace Go.Fw
variable [jY]
def ocT (l:List (Nat×List Nat×Nat×Bool)):auv:=fun f=>(l.find? fun x=>Nat.beq x.1 f).map (·.2)
def mdW (l:List Nat)(md:Md):Md:=fun g=>bif afS g l then 2 else md g
theorem anf {P:Program}(hm:P.follows .mixedOrders=true){X:qO}(hX:∀σ:List AV,iW σ=true->o7 P σ X){I0:Gv}(h0:∀σ:List AV,iW σ=true->oH P σ I0){md:Md}{FC:FuncId->BD}{vK CF f nv:Nat}{args:List SV}{ρ:List AV}{rs:List (Tm×SV)}{sd:List (Pc×Side)}{aw:List Lo}{az:List AV}{r:AV}
  (h:jo P X I0 md FC vK CF f args nv=some ⟨rs,sd,aw⟩) (hρ:iW ρ=true) (hs:xw P ρ sd) (hl:LoL P aw ρ) (ha:dU ρ args=az) (hr:rQ ρ rs=r):PC P f az r:=by
 subst ha;subst hr
 exact aqc h hm hρ h0 hX hs.ok hl
end Go.Fw
end
section
namespace Go.Fw
variable [jY]
def xX : List (Nat×SB)->Nat->Option SB
 |[],_=>none
 |x::r,b=>bif Nat.beq x.1 b then some x.2 else xX r b
theorem aed {ρ:List AV}{b:Nat}:∀{bl:List (Nat×SB)},rV (Iz ρ bl) b=(xX bl b).map (SB.den ρ)
 |[]=>rfl
 |x::r=>by
  simp only [Iz,aX,rV,xX]
  cases h:Nat.beq x.1 b
  .simp only [cond_false];exact aed (bl:=r)
  .rfl
def aEe (th:Tr SB):List Nat->Option (List (Nat×SB))
 |[]=>some []
 |b::r=>match th.get b with
  |none=>none
  |some k=>match aEe th r with
   |none=>none
   |some l=>some ((b,k)::l)
theorem ZO {th:Tr SB}:∀{ins:List Nat} {bl:List (Nat×SB)},aEe th ins=some bl->∀b k,xX bl b=some k->th.get b=some k
 |[],bl,h,b,k,hb=>by simp only [aEe,aj] at h;subst h;cases hb
 |c::r,bl,h,b,k,hb=>by
  simp only [aEe] at h
  split at h
  .cases h
  .rename_i k0 hk0
   split at h
   .cases h
   .rename_i l hl
    simp only [aj] at h;subst h
    simp only [xX] at hb
    cases e:Nat.beq c b
    .simp only [e,cond_false] at hb;exact ZO hl b k hb
    .simp only [e,cond_true,aj] at hb;subst hb
     rw [<- au e];exact hk0
def aEA : List (Nat×SB)->Tr SB->Tr SB
 |[],th=>th
 |(b,k)::r,th=>(aEA r th).upd zX b (some k)
def inB (bl:List (Nat×SB))(b:Nat):Bool:=match xX bl b with|some _=>true|none=>false
def TW (vZ:List (Nat×Nat)):Nat->List (Nat×SB)->Option (List (Nat×SB)×Nat)
 |nv,[]=>some ([],nv)
 |nv,(b,k)::r=>match vZ.find? (fun x=>Nat.beq x.1 b) with
  |some (_,sz)=>(match k with
   | .fK sz' _=>bif Nat.beq sz sz' then (match TW vZ (nv+1) r with|some (l,n)=>some ((b,.fK sz (.var nv []))::l,n)|none=>none) else none
   | .rows sz' _=>bif Nat.beq sz sz' then (match TW vZ (nv+1) r with|some (l,n)=>some ((b,.fK sz (.var nv []))::l,n)|none=>none) else none
   |_=>none)
  |none=>match TW vZ nv r with|some (l,n)=>some ((b,k)::l,n)|none=>none
abbrev auA :=FuncId->Option (List (Nat×Nat))
def aEO : List Nat->Nat
 |[]=>0
 |x::r=>Nat.max (x+1) (aEO r)
def agn (ins:List Nat):List (Nat×Nat)->List (Nat×Nat)
 |[]=>[]
 |x::r=>match Eh ins x.1 with|some b=>(b,x.2)::agn ins r|none=>agn ins r
def okW (bl JW:List (Nat×SB))(n0:Nat)(rf:List Nat):Bool:=
 (bl.all fun x=>Nat.ble (x.1+1) n0&&x.2.IG.all (inB bl))&&(rf.all (inB bl)&&(JW.all fun x=>inB bl x.1&&x.2.IG.all (inB bl)))
def auB (P:Program)(wc:auA):Gv:=fun pc th nx nv f args=>
 match wc f with
 |none=>none
 |some c=>
  let ins:=(RH th 1000 (Gq args) []).reverse
  match aEe th ins with
  |none=>none
  |some bl=>match TW (agn ins c) nv bl with
   |none=>none
   |some (JW,vX)=>match alS P vX f with
    |none=>none
    |some r=>bif r.kC&&okW bl JW (aEO ins) (Gq args) then
     some ⟨[(.lb true,⟨r,aEA JW th,nx⟩)],vX+1,[(pc,.qp f args bl (aEO ins) r JW)]⟩ else none
def Env.P9 (E E1:Env)(oJ:AH):Env:=⟨E1.fix,fun b=>if (oJ b).isSome=true then E1.own b else E.own b⟩
section
variable {base : Nat} {w:World} {E:Env} {ah oJ:AH} {F:Nat->Prop}
theorem agp (hh:dX base w E ah F)(hsub:∀b k,oJ b=some k->ah b=some k)
  {w':World} {E1:Env} {fV:AH} {F':Nat->Prop} (hst:Step base w (E.part oJ) w' E1) (hh':dX base w' E1 fV F')
  (hlt':∀b k,fV b=some k->(oJ b).isSome=true/\∀x∈k.xQ,(oJ x).isSome=true) {yA:AH} (hN:∀b,yA b=if (oJ b).isSome=true then fV b else ah b) :
  Step base w E w' (E.P9 E1 oJ)/\dX base w' (E.P9 E1 oJ) yA F/\
   ∀a v,Rep w' E1 a v->(∀x∈a.refs,(oJ x).isSome=true)->Rep w' (E.P9 E1 oJ) a v:=by
 have afT:∀b,(oJ b).isSome=true->(E.part oJ).own b=E.own b:=fun b hb=>by simp [Env.part,hb]
 have PL:∀b c o,(E.part oJ).own b=.at c o->(oJ b).isSome=true/\E.own b=.at c o:=fun b c o h=>by
  by_cases hb:(oJ b).isSome=true
  .rw [afT b hb] at h;exact ⟨hb,h⟩
  .simp [Env.part,hb] at h
 have in1:∀b,(oJ b).isSome=true->(E.P9 E1 oJ).own b=E1.own b:=fun b hb=>by
  simp only [Env.P9];rw [if_pos hb]
 have out1:∀b,¬(oJ b).isSome=true->(E.P9 E1 oJ).own b=E.own b:=fun b hb=>by
  simp only [Env.P9];rw [if_neg hb]
 
 have extra:∀b k c o,¬(oJ b).isSome=true->ah b=some k->E.own b=.at c o->∀b' o',(E.part oJ).own b'≠.at c o':=fun b k c o hb hk ho b' o' h=>by
  obtain ⟨h1,h2⟩:=PL b' c o' h
  obtain ⟨k',hk'⟩:=Option.isSome_iff_exists.1 h1
  exact hh.sep b' b k' k c o' c o (fun e=>hb (by rw [<- e];exact h1)) (hsub _ _ hk') hk h2 ho rfl
 have hx:Ext w E w' (E.P9 E1 oJ):=by
  refine ⟨hst.ext.fix,hst.ext.cell,fun b hb=>?_,hst.ext.arr⟩
  by_cases hin:(oJ b).isSome=true
  .rw [in1 b hin]
   have:=hst.ext.own b (by rw [afT b hin];exact hb)
   rw [this,afT b hin]
  .exact out1 b hin
 refine ⟨⟨hx,hst.below,hst.z_,fun c hc hno=>hst.keep c hc fun b o h=>hno b o (PL b c o h).2,fun b c o h hc=>?_,fun c o h hc=>?_⟩,⟨fun b k hb=>?_,fun b b' k k' c o c' o' hne h1 h2 h3 h4=>?_,fun b hb=>?_,hh'.kJ,hh'.bs,fun b c o h=>?_⟩,fun a v hr hrf=>?_⟩
 .by_cases hin:(oJ b).isSome=true
  .rw [in1 b hin] at h
   obtain ⟨b',o',h'⟩:=hst.FI b c o h hc
   exact ⟨b',o',(PL b' c o' h').2⟩
  .rw [out1 b hin] at h;exact ⟨b,o,h⟩
 .exact (hst.Aa c o h hc).imp id fun ⟨b',o',h'⟩=>⟨b',o',(PL b' c o' h').2⟩
 .rw [hN b] at hb
  split at hb
  .rename_i hin
   exact (hh'.blk b k hb).env (fun _ _ h=>h) (fun _ _ _ _ h=>h) (in1 b hin) fun x hx=>in1 x ((hlt' b k hb).2 x hx)
  .rename_i hle
   have hb0:=hh.blk b k hb
   refine hb0.keep hx (fun c o ho=>hst.keep c (hb0.lt ho).1 (extra b k c o hle hb ho)) (fun c o off ho h=>?_)
   rcases hst.Aa c off h (hb0.lt ho).1 with h|⟨b',o',h⟩
   .exact h
   .exact absurd h (extra b k c o hle hb ho b' o')
 .have mix:∀b b' k c o c' o',¬(oJ b).isSome=true->ah b=some k->E.own b=.at c o->E1.own b'=.at c' o'->c≠c':=by
   intro b b' k c o c' o' h1 h2 h3 h6 e
   subst e
   obtain ⟨x,y,hxy⟩:=hst.FI b' c o' h6 ((hh.blk b k h2).lt h3).1
   exact extra b k c o h1 h2 h3 x y hxy
  rw [hN b] at h1
  rw [hN b'] at h2
  split at h1
  .rename_i g1
   rw [in1 b g1] at h3
   split at h2
   .rename_i g2
    rw [in1 b' g2] at h4
    exact hh'.sep b b' k k' c o c' o' hne h1 h2 h3 h4
   .rename_i g2
    rw [out1 b' g2] at h4
    exact (mix b' b k' c' o' c o g2 h2 h4 h3).symm
  .rename_i g1
   rw [out1 b g1] at h3
   split at h2
   .rename_i g2
    rw [in1 b' g2] at h4
    exact mix b b' k c o c' o' g1 h1 h3 h4
   .rename_i g2
    rw [out1 b' g2] at h4
    exact hh.sep b b' k k' c o c' o' hne h1 h2 h3 h4
 .have h0:=hh.fresh b hb
  rw [out1 b fun h=>?_]
  .exact h0
  .obtain ⟨k0,hk0⟩:=Option.isSome_iff_exists.1 h
   exact (hh.blk b k0 (hsub _ _ hk0)).own h0
 .by_cases hin:(oJ b).isSome=true
  .rw [in1 b hin] at h;exact hh'.kL b c o h
  .rw [out1 b hin] at h
   have:=hh.kL b c o h
   exact ⟨this.1,bZ this.2 hst.below.size⟩
 .exact wM (E:=E1) (E':=E.P9 E1 oJ) (fun _ _ h=>h) hr fun x hx=>in1 x (hrf x hx)
end
theorem ZP {vZ:List (Nat×Nat)}:∀{bl JW:List (Nat×SB)} {nv vX:Nat},TW vZ nv bl=some (JW,vX)->∀b,(xX JW b).isSome=(xX bl b).isSome
 |[],JW,nv,vX,h,b=>by simp only [TW,aj,aJ] at h;obtain ⟨rfl,rfl⟩:=h;rfl
 |(c,k)::r,JW,nv,vX,h,b=>by
  simp only [TW] at h
  have fin:∀{k':SB} {l:List (Nat×SB)} {n m:Nat},TW vZ n r=some (l,m)->(xX ((c,k')::l) b).isSome=(xX ((c,k)::r) b).isSome:=fun {k' l n m} hl=>by
   simp only [xX]
   cases e:Nat.beq c b
   .simp only [cond_false];exact ZP hl b
   .rfl
  split at h
  .split at h
   .rename_i sz _ _ sz' _
    cases e:Nat.beq sz sz'
    .simp [e] at h
    .simp only [e,cond_true] at h
     split at h
     .rename_i l n hl
      simp only [aj,aJ] at h;obtain ⟨rfl,rfl⟩:=h
      exact fin hl
     .cases h
   .rename_i sz _ _ sz' _
    cases e:Nat.beq sz sz'
    .simp [e] at h
    .simp only [e,cond_true] at h
     split at h
     .rename_i l n hl
      simp only [aj,aJ] at h;obtain ⟨rfl,rfl⟩:=h
      exact fin hl
     .cases h
   .cases h
  .split at h
   .rename_i l n hl
    simp only [aj,aJ] at h;obtain ⟨rfl,rfl⟩:=h
    exact fin hl
   .cases h
theorem WX {b:Nat}{k:SB}:∀{bl:List (Nat×SB)} {th:Tr SB},(aEA bl th).get b=some k->xX bl b=some k\/(xX bl b=none/\th.get b=some k)
 |[],th,h=>.inr ⟨rfl,h⟩
 |(c,x)::r,th,h=>by
  simp only [aEA] at h
  simp only [xX]
  rcases Tr.pW _ _ _ _ _ _ h with ⟨rfl,h1⟩|⟨hne,h1⟩
  .exact .inl (by simp only [Nat.beq_refl,cond_true];exact h1)
  .have e:Nat.beq c b=false:=by
    cases e:Nat.beq c b
    .rfl
    .exact absurd (au e).symm hne
   rw [e]
   exact WX h1
theorem agq {ρ:List AV}{bl:List (Nat×SB)}{b:Nat}(h:inB bl b=true):(rV (Iz ρ bl) b).isSome=true:=by
 unfold inB at h
 rw [aed]
 split at h
 .rename_i k hk;rw [hk];rfl
 .cases h
theorem Du : ∀{bl:List (Nat×SB)} {b:Nat} {k:SB},xX bl b=some k->(b,k)∈bl
 |[],b,k,h=>by cases h
 |x::r,b,k,h=>by
  simp only [xX] at h
  cases e:Nat.beq x.1 b
  .simp only [e,cond_false] at h;exact aN _ (Du h)
  .simp only [e,cond_true,aj] at h;subst h
   rw [<- au e];exact aZ
section
variable {P : Program}
theorem aqs {wc:auA}:∀σ:List AV,iW σ=true->oH P σ (auB P wc):=by
 intro ρ hρ pc th nx nv f args R h hp hs base w E ah vs hah hh hG hrep o a he next Q hnext
 unfold auB at h
 split at h
 .cases h
 rename_i c hc
 dsimp only at h
 generalize (RH th 1000 (Gq args) []).reverse=ins at h
 generalize aEO ins=n0 at h
 split at h
 .cases h
 rename_i bl hbl
 split at h
 .cases h
 rename_i JW vX ay6
 split at h
 .cases h
 rename_i r hr
 cases hg:(r.kC&&okW bl JW n0 (Gq args))
 .simp [hg] at h
 simp only [hg,cond_true,aj] at h
 subst h
 simp only [ak] at hg
 obtain ⟨hrf,hg⟩:=hg
 unfold okW at hg
 simp only [ak,aF] at hg
 obtain ⟨g1,g2,g3⟩:=hg
 have hpw:=hs (pc,.qp f args bl n0 r JW) (bT.2 rfl) hp
 have hsub:∀b k,rV (Iz ρ bl) b=some k->ah b=some k:=fun b k h=>by
  rw [aed] at h
  simp only [ay] at h
  obtain ⟨z,hz,rfl⟩:=h
  exact hah b z (ZO hbl b z hz)
 have hlt:∀b k,rV (Iz ρ bl) b=some k->b<n0:=fun b k h=>by
  rw [aed] at h
  simp only [ay] at h
  obtain ⟨z,hz,rfl⟩:=h
  exact aC (g1 _ (Du hz)).1
 have hrefs:∀b k,rV (Iz ρ bl) b=some k->∀x∈k.xQ,(rV (Iz ρ bl) x).isSome=true:=fun b k h x hx=>by
  rw [aed] at h
  simp only [ay] at h
  obtain ⟨z,hz,rfl⟩:=h
  rw [Gu hρ] at hx
  exact agq ((g1 _ (Du hz)).2 x hx)
 have hpart:=RF hh hsub hlt hrefs
 have awY:iy w (E.part (rV (Iz ρ bl))) (dU ρ args) vs:=⟨hrep.1,fun i a v ha hv=>V9 (hrep.2 i a v ha hv) fun x hx=>by
  have:x∈mQ (dU ρ args):=jB i a ha hx
  rw [tH hρ] at this
  exact agq (g2 x this)⟩
 have hq:=hpw base w (E.part (rV (Iz ρ bl))) vs hpart hG awY
 split at hq
 .exact hq.elim
 rename_i fn hfn
 obtain ⟨hbody,hname,hq⟩:=hq
 have hcall:(callFunc f vs.toArray).run P w=.ok (.enter f vs.toArray) w:=by
  have:(fn.name == "runtime.NumGoroutine")=false:=by simpa using hname
  simp only [callFunc,Sem.run_bind,run_program,Result.andThen_ok,hfn,this,aP,if_false,hbody,Sem.run_pure]
 unfold Oper.wp
 rw [he,hcall]
 refine hq.mono fun e w' hq=>?_
 obtain ⟨v,E1,rfl,hst,hh1,hv⟩:=hq
 have hsome:∀b,(rV (Iz ρ JW) b).isSome=(rV (Iz ρ bl) b).isSome:=fun b=>by
  rw [aed,aed];simp only [Option.isSome_map];exact ZP ay6 b
 obtain ⟨q1,q2,q3⟩:=agp (yA:=fun b=>if (rV (Iz ρ bl) b).isSome=true then rV (Iz ρ JW) b else ah b) hh hsub hst hh1 (fun b k h=>by
  refine ⟨by rw [<- hsome,h];rfl,fun x hx=>?_⟩
  rw [aed] at h
  simp only [ay] at h
  obtain ⟨z,hz,rfl⟩:=h
  rw [Gu hρ] at hx
  exact agq ((g3 _ (Du hz)).2 x hx)) (fun b=>rfl)
 refine hnext _ rfl v w' _ _ (fun b k hb=>?_) q1 q2 (q3 _ _ hv fun x hx=>?_)
 .rcases WX hb with h1|⟨h1,h2⟩
  .have h3:(rV (Iz ρ bl) b).isSome=true:=by rw [<- hsome,aed,h1];rfl
   show (if (rV (Iz ρ bl) b).isSome=true then rV (Iz ρ JW) b else ah b)=_
   rw [if_pos h3,aed,h1];rfl
  .have h3:¬(rV (Iz ρ bl) b).isSome=true:=by rw [<- hsome,aed,h1];simp
   show (if (rV (Iz ρ bl) b).isSome=true then rV (Iz ρ JW) b else ah b)=_
   rw [if_neg h3];exact hah b k h2
 .have:=Om (MF (ρ:=ρ) hrf)
  have h0:=jW (l:=[r.den ρ]) (by simp [kX,this])
  simp only [mQ,cu] at h0
  rw [h0] at hx;cases hx
end
def WY (vZ:List (Nat×Nat))(th:Tr SB):List (Nat×SB)->Option (List SV)
 |[]=>some []
 |(b,k)::r=>match th.get b with
  |none=>none
  |some k'=>match vZ.find? (fun x=>Nat.beq x.1 b) with
   |some (_,sz)=>(match yR sz k',WY vZ th r with|some v,some l=>some (v::l)|_,_=>none)
   |none=>bif k'.beq k then WY vZ th r else none
def ang (bl:List (Nat×SB))(n0:Nat):Bool:=bl.all fun x=>Nat.ble (x.1+1) n0
def auC (bl:List (Nat×SB))(n0:Nat)(th:Tr SB):Bool:=bl.all fun x=>match th.get x.1 with|some k=>k.IG.all (fun b=>Nat.ble (b+1) n0)|none=>true
def aie (bl:List (Nat×SB))(vZ:List (Nat×Nat))(n0:Nat)(x:Lf):Option SV:=bif x.v.kC&&auC bl n0 x.th then (match WY vZ x.th bl with|some l=>bif KU l then some (.fD (x.v::l)) else none|none=>none) else none
def uU (ρ:List AV)(vZ:List (Nat×Nat))(cs:List AV):Nat->List (Nat×SB)->List (Nat×wB)
 |_,[]=>[]
 |j,(b,k)::r=>match vZ.find? (fun x=>Nat.beq x.1 b) with
  |some (_,sz)=>(b,.rows sz (cs.getD j eP).D.R)::uU ρ vZ cs (j+1) r
  |none=>(b,k.den ρ)::uU ρ vZ cs j r
section
variable {P : Program} {ρ:List AV}
theorem D5 {vZ:List (Nat×Nat)}{th:Tr SB}:∀{bl:List (Nat×SB)} {l:List SV} {pre:List AV},WY vZ th bl=some l->∀b k,rV (uU ρ vZ (pre++dU ρ l) pre.length bl) b=some k->∃k',th.get b=some k'/\rD (k'.den ρ) k/\(inB bl b=true)/\(k=k'.den ρ\/∃sz v R,v∈l/\v.den ρ=.sl R false/\k=.rows sz R)
 |[],l,pre,h,b,k,hb=>by simp [uU,rV] at hb
 |(c,kc)::r,l,pre,h,b,k,hb=>by
  simp only [WY] at h
  split at h
  .cases h
  rename_i k' hk'
  simp only [uU] at hb
  split at h
  .rename_i x sz hf
   rw [hf] at hb
   split at h
   rotate_left
   .cases h
   rename_i v l' hv hl
   simp only [aj] at h;subst h
   obtain ⟨rs,R,d1,d2,d3,-⟩:=EP (ρ:=ρ) hv
   simp only [rV] at hb
   cases e:Nat.beq c b
   .simp only [e,cond_false] at hb
    have e2:pre++dU ρ (v::l')=(pre++[v.den ρ])++dU ρ l':=by simp [dU]
    rw [e2] at hb
    obtain ⟨k2,g1,g2,g3,g4⟩:=D5 (pre:=pre++[v.den ρ]) hl b k (by simpa using hb)
    refine ⟨k2,g1,g2,?_,g4.imp id fun ⟨a1,a2,a3,a4,a5⟩=>⟨a1,a2,a3,aN _ a4,a5⟩⟩
    unfold inB at g3 ⊢
    simp only [xX,e,cond_false];exact g3
   .simp only [e,cond_true,aj] at hb
    have eb:=au e
    subst eb
    have e3:(pre++dU ρ (v::l')).getD pre.length eP=v.den ρ:=by simp [dU,aB]
    rw [e3,d2] at hb
    subst hb
    refine ⟨k',hk',by rw [d1];exact rD.rows d3,by unfold inB;simp [xX],.inr ⟨sz,v,R,aZ,d2,rfl⟩⟩
  .rename_i hf
   rw [hf] at hb
   cases hq:k'.beq kc
   .simp [hq] at h
   simp only [hq,cond_true] at h
   have ek:=SB.beq_eq hq
   subst ek
   simp only [rV] at hb
   cases e:Nat.beq c b
   .simp only [e,cond_false] at hb
    obtain ⟨k2,g1,g2,g3,g4⟩:=D5 (bl:=r) (l:=l) h b k hb
    refine ⟨k2,g1,g2,?_,g4⟩
    unfold inB at g3 ⊢
    simp only [xX,e,cond_false];exact g3
   .simp only [e,cond_true,aj] at hb
    have eb:=au e
    subst eb;subst hb
    exact ⟨k',hk',rD.refl _,by unfold inB;simp [xX],.inl rfl⟩
def aif (P:Program)(fn:Func)(base:Nat)(w:World)(E:Env)(bl:List (Nat×SB))(vZ:List (Nat×Nat))(ρ:List AV)(n0:Nat)(t:AV)(a':Act)(w':World):Prop:=
 ∃r cs,t=.fD (r::cs)/\a'.defers=[]/\∃val E',(results fn a'.tmps).run P w'=.ok val w'/\Step base w E w' E'/\dX base w' E' (rV (uU ρ vZ cs 0 bl)) (fun b=>n0<=b)/\Rep w' E' r val
theorem adE {bl:List (Nat×SB)}{vZ:List (Nat×Nat)}{n0:Nat}{x:Lf}{t:SV}(hρ:iW ρ=true)(h:aie bl vZ n0 x=some t)(hbl:ang bl n0=true){fn:Func}{base:Nat}{w w':World}{E:Env}{a':Act}(hE:∀b,n0<=b->E.own b=.free)
  (he:Le P fn base w E (x.v.den ρ) (iQ ρ x.th) x.nx a' w'):aif P fn base w E bl vZ ρ n0 (t.den ρ) a' w':=by
 unfold aie at h
 cases hg:(x.v.kC&&auC bl n0 x.th)
 .simp [hg] at h
 simp only [hg,cond_true] at h
 simp only [ak] at hg
 split at h
 rotate_left
 .cases h
 rename_i l hl
 cases hn:KU l
 .simp [hn] at h
 simp only [hn,cond_true,aj] at h;subst h
 obtain ⟨h0,E2,val,h1,h2,h3,h4⟩:=he
 let E3:Env:=⟨E2.fix,fun b=>if b<n0 then E2.own b else .free⟩
 have lo:∀b,b<n0->E3.own b=E2.own b:=fun b hb=>if_pos hb
 have at3:∀b c o,E3.own b=.at c o->E2.own b=.at c o:=fun b c o h=>by
  by_cases hb:b<n0
  .rw [lo b hb] at h;exact h
  .change (if b<n0 then _ else Own.free)=_ at h;rw [if_neg hb] at h;cases h
 have ay7:∀{b},inB bl b=true->b<n0:=fun {b} h=>by
  unfold inB at h
  split at h
  .rename_i k hk
   unfold ang at hbl
   rw [aF] at hbl
   exact aC (hbl _ (Du hk))
  .cases h
 refine ⟨_,_,rfl,h0,val,E3,h1,⟨⟨h3.ext.fix,h3.ext.cell,fun b hb=>?_,h3.ext.arr⟩,h3.below,h3.z_,h3.keep,fun b c o h hc=>h3.FI b c o (at3 b c o h) hc,h3.Aa⟩,⟨fun b k hb=>?_,fun b b' k k' c o c' o' hne e1 e2 e3 e4=>?_,fun b hb=>?_,h4.kJ,h4.bs,fun b c o h=>h4.kL b c o (at3 b c o h)⟩,DJ h2 (MF hg.1)⟩
 .have hlt:b<n0:=Nat.lt_of_not_le fun hle=>hb (hE b hle)
  rw [lo b hlt];exact h3.ext.own b hb
 .obtain ⟨k',g1,g2,g3,g4⟩:=D5 (ρ:=ρ) (pre:=[]) hl b k hb
  have hb2:=g2 _ _ _ _ (h4.blk b (k'.den ρ) (by unfold iQ;rw [g1];rfl))
  refine hb2.env (fun _ _ h=>h) (fun _ _ _ _ h=>h) (lo b (ay7 g3)) fun y hy=>lo y ?_
  rcases g4 with rfl|⟨sz,v,R,a1,a2,rfl⟩
  .rw [Gu hρ] at hy
   have hq:=hg.2
   unfold auC at hq
   rw [aF] at hq
   unfold inB at g3
   split at g3
   .rename_i kk hkk
    have:=hq _ (Du hkk)
    dsimp only at this
    rw [g1] at this
    exact aC (aF.1 this y hy)
   .cases g3
  .obtain ⟨i,hi⟩:=List.getElem?_of_mem a1
   have hnr:=uP hn hi
   have hv:(v.den ρ).refs=[]:=by rw [yM hρ,hnr]
   rw [a2] at hv
   simp only [wB.xQ] at hy
   simp only [AV.refs] at hv
   rw [hv] at hy;cases hy
 .obtain ⟨k1,g1,-,-,-⟩:=D5 (ρ:=ρ) (pre:=[]) hl b k e1
  obtain ⟨k2,g2,-,-,-⟩:=D5 (ρ:=ρ) (pre:=[]) hl b' k' e2
  exact h4.sep b b' (k1.den ρ) (k2.den ρ) c o c' o' hne (by unfold iQ;rw [g1];rfl) (by unfold iQ;rw [g2];rfl) (at3 _ _ _ e3) (at3 _ _ _ e4)
 .show (if b<n0 then _ else Own.free)=_
  rw [if_neg (by omega)]
def R_ (P:Program)(rs:List ResultVar)(bl:List (Nat×SB))(vZ:List (Nat×Nat))(n0:Nat):Pc->Nat->List Out->Option (List (Tm×SV)×Nat×List (Pc×Side))
 |_,nv,[]=>some ([],nv,[])
 |pc,nv,o::r=>match Lc P rs (jK (xR o.g r) true pc) nv o with
  |none=>none
  |some x=>match aie bl vZ n0 x with
   |none=>none
   |some v=>match R_ P rs bl vZ n0 (jK o.g false pc) x.nv r with
    |none=>none
    |some (l,vX,sd)=>some ((o.g,v)::l,vX,x.sd++sd)
theorem TY {rs:List ResultVar}{bl:List (Nat×SB)}{vZ:List (Nat×Nat)}{n0:Nat}{pc:Pc}{nv:Nat}{o:Out}{r:List Out}:R_ P rs bl vZ n0 pc nv (o::r)=(match Lc P rs (jK (xR o.g r) true pc) nv o with
 |none=>none
 |some x=>match aie bl vZ n0 x with
  |none=>none
  |some v=>match R_ P rs bl vZ n0 (jK o.g false pc) x.nv r with
   |none=>none
   |some (l,vX,sd)=>some ((o.g,v)::l,vX,x.sd++sd)):=rfl
theorem ZQ {fn:Func}{N:Nat}(hρ:iW ρ=true){bl:List (Nat×SB)}{vZ:List (Nat×Nat)}{n0:Nat}(hbl:ang bl n0=true):∀{l:List Out} {pc:Pc} {nv vX:Nat} {rs:List (Tm×SV)} {sd:List (Pc×Side)},R_ P fn.results.toList bl vZ n0 pc nv l=some (rs,vX,sd)->pc.holds ρ->jD P ρ sd->∀{base:Nat} {w w':World} {E E':Env} {fr:mg} {ah:AH} {nx:Nat} {a':Act} {e:Exit},
  (∀b,n0<=b->E.own b=.free)->IZ ρ N l e fr ah nx->QU base w' E' fr ah nx a'->Step base w E w' E'->La e=true/\aif P fn base w E bl vZ ρ n0 (rQ ρ rs) a' w'
 |[],pc,nv,vX,rs,sd,h,hp,hs,base,w,w',E,E',fr,ah,nx,a',e,hE,hsel,jG,hstep=>by
  obtain ⟨st,h1,-⟩:=hsel;cases h1
 |[o],pc,nv,vX,rs,sd,h,hp,hs,base,w,w',E,E',fr,ah,nx,a',e,hE,hsel,jG,hstep=>by
  obtain ⟨st,h1,h2⟩:=hsel
  simp only [sel,aj,aJ] at h1
  obtain ⟨rfl,rfl⟩:=h1
  simp only [R_,xR,jK] at h
  split at h
  .cases h
  .rename_i x hx
   split at h
   .cases h
   .rename_i v hv
    simp only [aj,aJ,cu] at h
    obtain ⟨rfl,rfl,rfl⟩:=h
    obtain ⟨q1,q2⟩:=BF (P:=P) hx hp hs h2 jG hstep
    exact ⟨q1,adE hρ hv hbl hE q2⟩
 |o::o'::r,pc,nv,vX,rs,sd,h,hp,hs,base,w,w',E,E',fr,ah,nx,a',e,hE,hsel,jG,hstep=>by
  obtain ⟨st,h1,h2⟩:=hsel
  simp only [sel] at h1
  rw [TY] at h
  simp only [xR] at h
  split at h
  .cases h
  .rename_i x hx
   split at h
   .cases h
   .rename_i v hv
    split at h
    .cases h
    .rename_i l nv1 sd1 hl
     simp only [aj,aJ] at h
     obtain ⟨rfl,rfl,rfl⟩:=h
     have adq:∃y s,l=y::s:=by
      rw [TY] at hl
      split at hl
      .cases hl
      .split at hl
       .cases hl
       .split at hl
        .cases hl
        .simp only [aj,aJ] at hl;exact ⟨_,_,hl.1.symm⟩
     obtain ⟨y,s,rfl⟩:=adq
     cases hg:(o.g.den ρ).B
     .rw [hg] at h1
      obtain ⟨q1,q2⟩:=ZQ hρ hbl hl (gq hg hp) (pX hs) hE ⟨st,h1,h2⟩ jG hstep
      exact ⟨q1,by simpa [rQ,hg] using q2⟩
     .rw [hg] at h1
      simp only [cond_true,aj,aJ] at h1
      obtain ⟨rfl,rfl⟩:=h1
      obtain ⟨q1,q2⟩:=BF (P:=P) hx (gq hg hp) (ni hs) h2 jG hstep
      exact ⟨q1,by simpa [rQ,hg] using adE (P:=P) hρ hv hbl hE q2⟩
def P_ (P:Program)(X0:qO)(I0:Gv)(md:Md)(FC:FuncId->BD)(vK CF:Nat)(f:FuncId)(args:List SV)(nv:Nat)(bl:List (Nat×SB))(vZ:List (Nat×Nat))(n0:Nat):Option iE:=
 match P.funcs[f]? with
 |none=>none
 |some fn=>match fn.body with
  |none=>none
  |some c=>bif o9 fn&&(Nat.ble args.length fn.ntmps&&ang bl n0) then
    match uQ P ⟨(PZ P X0 I0 md FC vK CF CF).1,is2 md,(PZ P X0 I0 md FC vK CF CF).2,vK⟩ {FC f with N:=fn.ntmps} CF [] ⟨DX 0 args,aEA bl .e,n0⟩ nv c with
    |none=>none
    |some x=>match R_ P fn.results.toList bl vZ n0 [] x.nv x.outs with
     |none=>none
     |some (l,_,sd)=>some ⟨l,x.sd++sd,x.aw⟩
   else none
theorem aqt {X0:qO}{I0:Gv}{md:Md}{FC:FuncId->BD}{vK CF:Nat}{f:FuncId}{args:List SV}{nv:Nat}{bl:List (Nat×SB)}{vZ:List (Nat×Nat)}{n0:Nat}{R:iE}(h:P_ P X0 I0 md FC vK CF f args nv bl vZ n0=some R)(hm:P.follows .mixedOrders=true)(hρ:iW ρ=true)(h0:∀σ:List AV,iW σ=true->oH P σ I0)(hX:∀σ:List AV,iW σ=true->o7 P σ X0)
  (hs:jD P ρ R.sd) (haw:RJ P ρ R.aw) {r:AV} {cs:List AV} (hr:rQ ρ R.rs=.fD (r::cs)):PWL P f (dU ρ args) (Iz ρ bl) n0 r (uU ρ vZ cs 0 bl):=by
 unfold P_ at h
 split at h
 .cases h
 rename_i fn hfn
 split at h
 .cases h
 rename_i c hc
 cases hg:o9 fn&&(Nat.ble args.length fn.ntmps&&ang bl n0)
 .simp [hg] at h
 simp only [hg,cond_true] at h
 split at h
 .cases h
 rename_i x hx
 split at h
 .cases h
 rename_i l vX sd hl
 simp only [aj] at h;subst h
 obtain ⟨h1,h2⟩:=UZ (md:=md) (FC:=FC) (vK:=vK) (CF:=CF) hm h0 hX CF
 simp only [ak] at hg
 obtain ⟨hg1,hg2,hbl⟩:=hg
 have hname:fn.name≠ "runtime.NumGoroutine" :=by simpa [o9] using hg1
 have hlen:=aC hg2
 intro base w E vs hheap hG hargs
 rw [hfn]
 dsimp only
 refine ⟨by rw [hc];rfl,hname,?_⟩
 have hlenA:(dU ρ args).length<=fn.ntmps:=by rw [fZ];exact hlen
 have hah:Ig ρ (aEA bl .e) (rV (Iz ρ bl)):=fun b k hb=>by
  rcases WX hb with h1|⟨-,h2⟩
  .rw [aed,h1];rfl
  .simp [Tr.get] at h2
 have hst:JY ρ fn.ntmps ⟨DX 0 args,aEA bl .e,n0⟩ (DY fn.ntmps (dU ρ args)) (rV (Iz ρ bl)) n0:=JY.of P5 hah (CV hlenA) (dD _)
 have agh:=o8 (G:=⟨(PZ P X0 I0 md FC vK CF CF).1,is2 md,(PZ P X0 I0 md FC vK CF CF).2,vK⟩) (F:={FC f with N:=fn.ntmps}) hm h1 h2 hρ _ _ _ _ hx (fun x hx=>by cases hx) (ni hs) haw _ _ _ hst
 have jG:QU base w E (DY fn.ntmps (dU ρ args)) (rV (Iz ρ bl)) n0 {tmps:=vs.toArray++Array.replicate (fn.ntmps-vs.toArray.size) undef,defers:=[]}:=
  ⟨hheap,MO hG hargs hlenA,rfl⟩
 refine calls_of_wp hfn hc (wp_mono (agh _ w E _ jG) fun e a' w' hp'=>?_)
 obtain ⟨E',fr',fV,nx',hsel,WM,hst'⟩:=hp'
 obtain ⟨q1,r',cs',er,q0,val,E3,q2,q3,q4,q5⟩:=ZQ (P:=P) (fn:=fn) hρ hbl hl (fun x hx=>by cases hx) (pX hs) (fun b hb=>hheap.fresh b hb) hsel WM hst'
 rw [hr] at er
 simp only [AV.fD.injEq,List.cons.injEq] at er
 obtain ⟨rfl,rfl⟩:=er
 have fin:a'.defers=[]/\∃v,(results fn a'.tmps).run P w'=.ok v w'/\∃u E',Ending.returned v=.returned u/\Step base w E w' E'/\dX base w' E' (rV (uU ρ vZ cs 0 bl)) (fun b=>n0<=b)/\Rep w' E' r u:=
  ⟨q0,val,q2,val,E3,rfl,q3,q4,q5⟩
 cases e<;>first|exact fin|(simp [La] at q1)
theorem awZ (hm:P.follows .mixedOrders=true){X:qO}(hX:∀σ:List AV,iW σ=true->o7 P σ X){I0:Gv}(h0:∀σ:List AV,iW σ=true->oH P σ I0){md:Md}{FC:FuncId->BD}{vK CF f nv:Nat}{args:List SV}{ρ:List AV}{rs:List (Tm×SV)}{sd:List (Pc×Side)}{aw:List Lo}{az:List AV}{r:AV}{cs:List AV}{bl:List (Nat×SB)}{vZ:List (Nat×Nat)}{n0:Nat}{bin Nv:List (Nat×wB)}
  (h:P_ P X I0 md FC vK CF f args nv bl vZ n0=some ⟨rs,sd,aw⟩) (hρ:iW ρ=true) (hs:xw P ρ sd) (hl:LoL P aw ρ) (ha:dU ρ args=az) (hb:Iz ρ bl=bin) (hr:rQ ρ rs=.fD (r::cs)) (hb2:uU ρ vZ cs 0 bl=Nv):PWL P f az bin n0 r Nv:=by
 subst ha;subst hb;subst hb2
 exact aqt h hm hρ h0 hX hs.ok hl hr
def wcT (l:List (Nat×List (Nat×Nat))):auA:=fun f=>(l.find? fun x=>Nat.beq x.1 f).map (·.2)
end
end Go.Fw
end
section
namespace Go.Fw
variable [jY]
theorem aii {P:Program}{f:FuncId}{args:List AV}{r:AV}{p:List Nat}{sz:Nat}(h:Nw args->PCo P f args r p sz):PCo P f args r p sz:=by
 intro w fix vs hfix hG hargs
 refine h (I7 fun a ha=>?_) w fix vs hfix hG hargs
 obtain ⟨i,hi⟩:=bF.1 ha
 have hlt:i<vs.length:=by rw [<- hargs.1];exact (aA.1 hi).1
 exact UW (hargs.2 i a vs[i] hi (by simp [hlt]))
theorem auD {P:Program}{f:FuncId}{args:List AV}{r:AV}{bin Nv:List (Nat×wB)}{n0:Nat}(h:Nw args->PWL P f args bin n0 r Nv):PWL P f args bin n0 r Nv:=by
 intro base w E vs hheap hG hargs
 refine h (I7 fun a ha=>?_) base w E vs hheap hG hargs
 obtain ⟨i,hi⟩:=bF.1 ha
 have hlt:i<vs.length:=by rw [<- hargs.1];exact (aA.1 hi).1
 exact UW (hargs.2 i a vs[i] hi (by simp [hlt]))
def BG {K V:Type}(f:K->List AV)(g:V->List AV)(e:K×V):List AV:=f e.1++g e.2
theorem aqu {K V:Type}{f:K->List AV}{g:V->List AV}(hf:∀x,iW (f x)=true)(hg:∀x,iW (g x)=true)(e:K×V):iW (BG f g e)=true:=by
 have app:∀{a b:List AV},iW a=true->iW b=true->iW (a++b)=true:=by
  intro a
  induction a with
  |nil=>intro b _ h;exact h
  |cons x r ih=>intro b h1 h2;simp only [iW,ak,bV] at h1 ⊢;exact ⟨h1.1,ih h1.2 h2⟩
 exact app (hf _) (hg _)
def n_ {K V:Type}[DecidableEq K](z:V)(k:K):List (K×V)->Bool×V
 |[]=>(false,z)
 |e::r=>if k=e.1 then (true,e.2) else n_ z k r
def og {K V:Type}[DecidableEq K](k:K)(v:V):List (K×V)->List (K×V)
 |[]=>[(k,v)]
 |e::r=>if k=e.1 then (k,v)::r else e::og k v r
section
variable {P : Program} {K V:Type} [DecidableEq K] {f:K->List AV} {g:V->List AV} {kt:TypeId} {m:MSh}
theorem Dv (hf:∀k,(f k).length=m.kn)(e:K×V):rW m (BG f g e)=(nO m.ka (f e.1),nO m.va (g e.2)):=by
 unfold rW BG
 rw [<- hf e.1];simp
theorem ZR (hk:∀a b:K,aeq P 10000 kt (nO m.ka (f a)) (nO m.ka (f b))=some (decide (a=b)))(hf:∀k,(f k).length=m.kn)(k:K)(z:V):∀(l:List (K×V)),
  ∃r,zQ P kt (nO m.ka (f k)) ((l.map (BG f g)).map (rW m))=some r/\(n_ z k l).1=r.isSome/\nO m.va (g (n_ z k l).2)=(match r with|none=>nO m.va (g z)|some q=>q.2)
 |[]=>⟨none,rfl,rfl,rfl⟩
 |e::r=>by
  simp only [aX,Dv hf,zQ,hk,n_]
  by_cases h:k=e.1
  .simp only [h,decide_true,if_true];exact ⟨_,rfl,rfl,rfl⟩
  .simp only [h,decide_false,if_false]
   obtain ⟨q,h1,h2,h3⟩:=ZR hk hf k z r
   rw [h1]
   cases q with
   |none=>exact ⟨_,rfl,h2,h3⟩
   |some q=>exact ⟨_,rfl,h2,h3⟩
theorem adF (hk:∀a b:K,aeq P 10000 kt (nO m.ka (f a)) (nO m.ka (f b))=some (decide (a=b)))(hf:∀k,(f k).length=m.kn)(k:K)(v:V):∀(l:List (K×V)),
  ∃r,zQ P kt (nO m.ka (f k)) ((l.map (BG f g)).map (rW m))=some r/\(∀q,r=some q->(((l.map (BG f g)).map (rW m))[q.1]?).map (·.1)=some (nO m.ka (f k)))/\
   ((og k v l).map (BG f g)).map (rW m)=(match r with|none=>(l.map (BG f g)).map (rW m)++[(nO m.ka (f k),nO m.va (g v))]|some q=>((l.map (BG f g)).map (rW m)).set q.1 (nO m.ka (f k),nO m.va (g v)))
 |[]=>⟨none,rfl,(fun q h=>by cases h),by simp [og,Dv hf]⟩
 |e::r=>by
  simp only [aX,Dv hf,zQ,hk,og]
  by_cases h:k=e.1
  .simp only [h,decide_true,if_true]
   refine ⟨_,rfl,fun q hq=>?_,?_⟩
   .simp only [aj] at hq;subst hq;simp
   .simp [Dv hf]
  .simp only [h,decide_false,if_false]
   obtain ⟨q,h1,h2,h3⟩:=adF hk hf k v r
   rw [h1]
   cases q with
   |none=>exact ⟨_,rfl,(fun q h=>by cases h),by simp only [aX,Dv hf,h3];rfl⟩
   |some q=>exact ⟨_,rfl,(fun q' hq=>by simp only [aj] at hq;subst hq;simpa using h2 q rfl),by simp only [aX,Dv hf,h3,List.set_cons_succ]⟩
end
theorem aqv {α:Type}[Inhabited α]{f:α->List AV}{l:List α}{i:Int}{off n:Nat}{cells:List AV}(y:α)(h0:0<=i)(h1:i<(l.length:Int))(hn:∀x,(f x).length=n)(hc:Nat.ble (off+cells.length) n=true)(hy:f y=lay (f (l.getD i.toNat default)) off cells) :
  ∃row,(List.map f l)[i.toNat]?=some row/\off+cells.length<=row.length/\List.map f (l.set i.toNat y)=(List.map f l).set i.toNat (lay row off cells):=by
 have h3:i.toNat<l.length:=by omega
 refine ⟨f (l.getD i.toNat default),by simp [aB,h3],by rw [hn];exact aC hc,?_⟩
 rw [List.map_set,hy]
theorem anh {P:Program}{f:FuncId}{args:List AV}{r:AV}(hr:r.flat=true)(h:PWL P f args [] 0 r []):PC P f args r:=by
 intro w fix vs hfix hG hrep
 have hp:=h w.heap.size w (eY fix) vs ⟨fun b k hb=>by simp [rV] at hb,fun b b' k k' c o c' o' _ hb=>by simp [rV] at hb,fun b _=>rfl,hfix,dD _,fun b c o hb=>by simp [eY] at hb⟩ hG hrep
 split at hp
 .exact hp.elim
 .rename_i fn hfn
  simp only [hfn]
  obtain ⟨h1,h2,h3⟩:=hp
  rw [if_neg (by rw [h1];simp)]
  refine ⟨h2,h3.mono fun e w' hq=>?_⟩
  obtain ⟨v,E',q1,q2,q3,q4⟩:=hq
  exact ⟨v,E'.fix,q1,⟨⟨q2.ext.fix,q2.ext.cell,fun b hb=>absurd rfl hb,q2.ext.arr⟩,q2.below,q2.z_,q2.keep,fun b c o hb=>by simp [eY] at hb,q2.Aa⟩,q3.kJ,DJ q4 hr⟩
def Qa (m:List (Int×Bool))(d:List Bool):List Bool:=d.mapIdx fun i b=>b||m.any fun e=>Nat.beq e.1.toNat i
theorem aD4 {a b:Int}:(a == b)=decide (a=b):=by by_cases h:a=b<;>simp [h]
end Go.Fw
namespace Go.Fw
variable [jY]
end Go.Fw
end
section
namespace Go.Fw
variable [jY]
open Go.ChangeShapes Go.WideShapes Go.RowKit
structure Ul {H:Type}(f:DataW H->Nat)(fa:List (DataW H)->Nat):Prop where
 str:∀b,f (.lit (.string b))=b.length+1
 sl:∀e s,f (.slice e s)=fa e+fa s+1
 agg:∀p,f (.agg p)=fa p+1
 nil:fa []=0
 cons:∀d r,fa (d::r)=f d+fa r
 one:∀d,1<=f d
theorem Ul.append {H:Type}{f:DataW H->Nat}{fa}(hb:Ul f fa)(a b:List (DataW H)):fa (a++b)=fa a+fa b:=by
 induction a with
 |nil=>simp [hb.nil]
 |cons x a ih=>simp [hb.cons,ih];omega
theorem Ul.get {H:Type}{f:DataW H->Nat}{fa}(hb:Ul f fa):∀{a:List (DataW H)} {i:Nat} {x},a[i]?=some x->f x<=fa a
 |y::a,0,x,h=>by simp at h;subst h;rw [hb.cons];omega
 |y::a,i+1,x,h=>by have:=hb.get (a:=a) (i:=i) (by simpa using h);rw [hb.cons];omega
theorem Ul.len {H:Type}{f:DataW H->Nat}{fa}(hb:Ul f fa)(a:List (DataW H)):a.length<=fa a:=by
 induction a with
 |nil=>simp
 |cons x a ih=>have:=hb.one x;simp [hb.cons];omega
abbrev lim : Nat:=1048576
def WZ (w:World):Env:=eY fun c _=>c<w.heap.size
structure Rd (P:Program)(t:TypeId){α:Type}(row:α->List AV)(wf:α->Prop):Prop where
 get:∀{H:Type} {enc:TypeId×Value->H} {f:DataW H->Nat} {fa:List (DataW H)->Nat} (_:Ul f fa) {w:World} {fuel:Nat} {cs:List Value} {x:DataW H×List MemPlace},
  DataW.trod enc P w 0 (fun _=>true) true fuel t cs=some x->f x.1<=lim->∃a,wf a/\iy w (WZ w) (row a) cs/\∀c∈row a,c.jR=true
theorem Rd.to {P t}{α β:Type}{row:α->List AV}{wf:α->Prop}(h:Rd P t row wf)(g:α->β){row':β->List AV}{wf':β->Prop}(hr:∀a,row' (g a)=row a)(hw:∀a,wf a->wf' (g a)):Rd P t row' wf':=by
 constructor
 intro H enc f fa hb w fuel cs x hx hl
 obtain ⟨a,h1,h2,h3⟩:=h.get hb hx hl
 exact ⟨g a,hw a h1,by rw [hr];exact h2,by rw [hr];exact h3⟩
theorem iy.one {w E a v}(h:Rep w E a v):iy w E [a] [v]:=
 ⟨rfl,fun i x y hx hy=>by cases i with|zero=>simp at hx hy;subst hx;subst hy;exact h|succ i=>simp at hx⟩
theorem MV {P t}(ht:P.underlying t=some .bool):Rd P t (fun b:Bool=>[.p (.bool b)]) (fun _=>True):=by
 constructor
 intro H enc f fa hb w fuel cs x hx hl
 obtain ⟨b,rfl,rfl⟩:=DataW.trod_bool ht hx
 exact ⟨b,trivial,iy.one (.p rfl),by simp [AV.jR]⟩
def inR (k:IntKind)(n:Int):Prop:=k.min<=n/\n<=k.max
theorem Si {P t}{k:IntKind}(ht:P.underlying t=some (.int k)):Rd P t (fun n:Int=>[.p (.int k n)]) (inR k):=by
 constructor
 intro H enc f fa hb w fuel cs x hx hl
 obtain ⟨n,rfl,rfl,hw⟩:=DataW.trod_int ht hx
 exact ⟨n,by simpa [Lit.wf,inR] using hw,iy.one (.p rfl),by simp [AV.jR]⟩
theorem agr {H:Type}{enc:TypeId×Value->H}{P:Program}{w:World}{base:Nat}{spare:Nat->Bool}{held:Bool}{fuel:Nat}{t:TypeId}{cs:List Value}{x:DataW H×List MemPlace}{k}(ht:P.underlying t=some (.float k))
  (h:DataW.trod enc P w base spare held fuel t cs=some x):∃n,cs=[.float k n]/\x=(.lit (.float k n),[])/\(Lit.float k n).wf=true:=by
 cases fuel with
 |zero=>simp [DataW.trod] at h
 |succ n=>
  unfold DataW.trod at h
  rw [ht] at h
  split at h<;>simp_all
theorem ani {P t}(ht:P.underlying t=some (.float .f64)):Rd P t (fun n:Nat=>[.p (.float .f64 n)]) (fun n=>n<2 ^ 64):=by
 constructor
 intro H enc f fa hb w fuel cs x hx hl
 obtain ⟨n,rfl,rfl,hw⟩:=agr ht hx
 exact ⟨n,by simpa [Lit.wf,inR] using hw,iy.one (.p rfl),by simp [AV.jR]⟩
theorem ags {P t}(ht:P.underlying t=some .string):Rd P t (fun s:List UInt8=>[.str s]) (fun s=>s.length<=lim):=by
 constructor
 intro H enc f fa hb w fuel cs x hx hl
 obtain ⟨s,rfl,rfl,hw⟩:=DataW.trod_string ht hx
 refine ⟨s.data.toList,?_,iy.one (.str s _ rfl),by simp [AV.jR]⟩
 rw [hb.str] at hl
 omega
theorem iy.length {w E az vs}(h:iy w E az vs):az.length=vs.length:=h.1
theorem iy.get {w E az vs}(h:iy w E az vs){i:Nat}{a:AV}(ha:az[i]?=some a):∃v,vs[i]?=some v/\Rep w E a v:=by
 have hlt:i<vs.length:=by rw [<- h.1];exact (aA.1 ha).1
 exact ⟨vs[i],by simp [hlt],h.2 i a _ ha (by simp [hlt])⟩
theorem aEh {w:World}{a:Addr}{v}(h:w.cell? a=some v):a.spot=none:=World.cell?_spot h
theorem T_ {α:Type}{p:Nat->α->Prop}:∀(n:Nat),(∀i,i<n->∃a,p i a)->∃l:List α,l.length=n/\∀i a,l[i]?=some a->p i a
 |0,_=>⟨[],rfl,by simp⟩
 |n+1,h=>by
  obtain ⟨l,h1,h2⟩:=T_ n (fun i hi=>h i (by omega))
  obtain ⟨a,ha⟩:=h n (by omega)
  refine ⟨l++[a],by simp [h1],fun i x hx=>?_⟩
  by_cases hi:i<n
  .rw [bf (by omega)] at hx
   exact h2 i x hx
  .have:i=n:=by
    have:=(aA.1 hx).1
    simp at this;omega
   subst this
   rw [bI (by omega)] at hx
   simp [h1] at hx
   subst hx
   exact ha
def aDV {α:Type}(wf:α->Prop)(l:List α):Prop:=l.length<=lim/\∀x∈l,wf x
theorem adG {P:Program}{t e:TypeId}{α:Type}{row:α->List AV}{wf:α->Prop}{m:Nat}(ht:P.underlying t=some (.slice e))(hm:P.cellsOf e=m)(hpos:0<m)(hrow:∀a,(row a).length=m)(he:Rd P e row wf) :
  Rd P t (fun l:List α=>[.sl (l.map row) false]) (aDV wf):=by
 constructor
 intro H enc f fa hb w fuel cs x hx hl
 rcases DataW.trod_slice ht hx with ⟨rfl,rfl⟩|⟨a,len,cap,elems,rest,n,-,rfl,rfl,-,hlc,-,hlen,hel,hsp,-⟩
 .exact ⟨[],⟨by simp,by simp⟩,iy.one (.slnil false none),by simp [AV.jR]⟩
 .subst hm
  obtain ⟨hrl,hre⟩:=hsp rfl
  dsimp only at hl
  rw [hb.sl] at hl
  have hone:∀i,i<len->∃b:α,wf b/\(∀c∈row b,c.jR=true)/\∃cs',w.cells? 0 (a.add (i*P.cellsOf e)) (P.cellsOf e)=some cs'/\iy w (WZ w) (row b) cs':=by
   intro i hi
   have h:=hel i hi
   have hi':i<elems.length:=by omega
   rw [aW hi',aQ] at h
   obtain ⟨cs',h1,h2⟩:=h
   have hbd:f elems[i].1<=lim:=by
    have h3:f elems[i].1<=fa (elems.map (·.1)):=hb.get (a:=elems.map (·.1)) (i:=i) (x:=elems[i].1) (by simp [hi'])
    omega
   obtain ⟨b,g1,g2,g3⟩:=he.get hb h2 hbd
   exact ⟨b,g1,g3,cs',h1,g2⟩
  obtain ⟨l,hl1,hl2⟩:=T_ len hone
  refine ⟨l,⟨?_,fun x hx=>?_⟩,?_,by simp [AV.jR]⟩
  .have:=hb.len (elems.map (·.1))
   simp at this
   omega
  .obtain ⟨i,hi⟩:=bF.1 hx
   exact (hl2 i x hi).1
  .apply iy.one
   by_cases hc0:cap=0
   .subst hc0
    obtain rfl:len=0:=by omega
    obtain rfl:l=[]:=List.eq_nil_of_length_eq_zero hl1
    exact .slnil false _
   .have hspot:a.spot=none:=by
     have key:∃cs',w.cells? 0 (a.add 0) (P.cellsOf e)=some cs':=by
      by_cases hlz:len=0
      .have h:=hre 0 (by omega)
       have hi':0<rest.length:=by omega
       rw [aW hi',aQ] at h
       obtain ⟨cs',h1,h2⟩:=h
       subst hlz
       exact ⟨cs',by simpa using h1⟩
      .obtain ⟨b,-,-,cs',h1,-⟩:=hone 0 (by omega)
       exact ⟨cs',by simpa using h1⟩
     obtain ⟨cs',h1⟩:=key
     obtain ⟨-,q1,q2⟩:=World.cells?_some h1
     have:=q2 0 hpos
     rw [aW (by omega)] at this
     have:=aEh this
     obtain ⟨bl,o,s⟩:=a
     cases s with
     |none=>rfl
     |some s=>simp [Addr.add] at this
    obtain ⟨bl,o,s⟩:=a
    cases hspot
    have cell:∀(i:Nat) (b:α) (j:Nat) (y:AV),l[i]?=some b->(row b)[j]?=some y->∃v,w.cell? ⟨bl,o+i*P.cellsOf e+j,none⟩=some v/\Rep w (WZ w) y v:=by
     intro i b j y hi hj
     obtain ⟨-,-,cs',h1,h2⟩:=hl2 i b hi
     obtain ⟨v,hv,hr⟩:=h2.get hj
     obtain ⟨-,q1,q2⟩:=World.cells?_some h1
     refine ⟨v,?_,hr⟩
     have hjl:j<P.cellsOf e:=by rw [<- hrow b];exact (aA.1 hj).1
     have:=q2 j hjl
     rw [hv,WideShapes.add_plain,WideShapes.add_plain] at this
     exact this
    have hlim:lim=1048576:=rfl
    have hlen2:=hb.len (elems.map (·.1))
    simp only [dh] at hlen2
    have:=Rep.sl (w:=w) (E:=WZ w) (l.map row) false (P.cellsOf e) bl o cap (fun i j=>(w.cell? ⟨bl,o+i*P.cellsOf e+j,none⟩).getD .nilIface) (by simp;omega) (by simp)
     (fun i r hr=>by
      simp only [bP,ay] at hr
      obtain ⟨b,-,rfl⟩:=hr
      exact hrow b)
     (fun i r j y hr hy=>by
      simp only [bP,ay] at hr
      obtain ⟨b,hb',rfl⟩:=hr
      obtain ⟨v,hv,-⟩:=cell i b j y hb' hy
      exact World.block_lt_of_cell? w _ hv)
     (fun i r j y hr hy=>by
      simp only [bP,ay] at hr
      obtain ⟨b,hb',rfl⟩:=hr
      obtain ⟨v,hv,-⟩:=cell i b j y hb' hy
      simp [hv])
     (fun r hr y hy=>by
      obtain ⟨b,hb',rfl⟩:=aU.1 hr
      obtain ⟨i,hi⟩:=bF.1 hb'
      exact (hl2 i b hi).2.1 y hy)
     (fun i r j y hr hy=>by
      simp only [bP,ay] at hr
      obtain ⟨b,hb',rfl⟩:=hr
      obtain ⟨v,hv,hrp⟩:=cell i b j y hb' hy
      simpa [hv] using hrp)
    simp only [dh,hl1] at this
    exact this
structure RdF (P:Program)(fs:List Field)(off:Nat){α:Type}(row:α->List AV)(wf:α->Prop):Prop where
 get:∀{H:Type} {enc:TypeId×Value->H} {f:DataW H->Nat} {fa:List (DataW H)->Nat} (_:Ul f fa) {w:World} {n:Nat} {cs:List Value} {xs:List (DataW H×List MemPlace)},
  xs.length=fs.length->(∀(i:Nat) (fd:Field),fs[i]?=some fd->DataW.trod enc P w 0 (fun _=>true) true n fd.type ((cs.drop fd.offset).take (P.cellsOf fd.type))=xs[i]?)->
  cs.length=off+(fs.map fun fd=>P.cellsOf fd.type).sum->fa (xs.map (·.1))<=lim->∃a,wf a/\iy w (WZ w) (row a) (cs.drop off)/\∀c∈row a,c.jR=true
theorem MW {P off}:RdF P [] off (fun _:Unit=>[]) (fun _=>True):=by
 constructor
 intro H enc f fa hb w n cs xs hx hf hl hbd
 refine ⟨(),trivial,?_,by simp⟩
 have:cs.drop off=[]:=List.drop_eq_nil_of_le (by simp at hl;omega)
 rw [this]
 exact ⟨rfl,fun i a v h=>by simp at h⟩
theorem jT {P:Program}{fd:Field}{fs:List Field}{off m:Nat}{α β:Type}{row:α->List AV}{wf:α->Prop}{row':β->List AV}{wf':β->Prop}(ho:fd.offset=off)(hm:P.cellsOf fd.type=m)(h:Rd P fd.type row wf)
  (h':RdF P fs (off+m) row' wf'):RdF P (fd::fs) off (fun x:α×β=>row x.1++row' x.2) (fun x=>wf x.1/\wf' x.2):=by
 subst ho hm
 constructor
 intro H enc f fa hb w n cs xs hx hf hl hbd
 match xs,hx with
 |x::xs,hx=>
  have h0:=hf 0 fd rfl
  simp only [List.getElem?_cons_zero] at h0
  simp only [aX,hb.cons] at hbd
  obtain ⟨a,a1,a2,a3⟩:=h.get hb h0 (by omega)
  obtain ⟨b,b1,b2,b3⟩:=h'.get hb (xs:=xs) (by simpa using hx) (fun i fd' hi=>by simpa using hf (i+1) fd' (by simpa using hi)) (by simp at hl;omega) (by omega)
  refine ⟨(a,b),⟨a1,b1⟩,?_,fun c hc=>?_⟩
  .have:cs.drop fd.offset=(cs.drop fd.offset).take (P.cellsOf fd.type)++cs.drop (fd.offset+P.cellsOf fd.type):=by
    rw [<- List.drop_drop,List.take_append_drop]
   rw [this]
   exact a2.append b2
  .rcases aH.1 hc with hc|hc
   .exact a3 c hc
   .exact b3 c hc
theorem Dw {P:Program}{t:TypeId}{fs:Array Field}{α:Type}{row:α->List AV}{wf:α->Prop}(ht:P.underlying t=some (.struct fs))(hs:P.cellsOf t=(fs.toList.map fun fd=>P.cellsOf fd.type).sum)(h:RdF P fs.toList 0 row wf) :
  Rd P t row wf:=by
 constructor
 intro H enc f fa hb w fuel cs x hx hl
 obtain ⟨xs,n,-,rfl,hlen,hxs,hf⟩:=DataW.trod_struct ht hx
 dsimp only at hl
 rw [hb.agg] at hl
 obtain ⟨a,a1,a2,a3⟩:=h.get hb (xs:=xs) (w:=w) (n:=n) (cs:=cs) (by simpa using hxs) (fun i fd hi=>hf i fd (by simpa using hi)) (by rw [hlen,hs];simp) (by omega)
 exact ⟨a,a1,by simpa using a2,a3⟩
structure RdV (P:Program)(t:TypeId){α:Type}(av:α->AV)(wf:α->Prop):Prop where
 get:∀{H:Type} {enc:TypeId×Value->H} {f:DataW H->Nat} {fa:List (DataW H)->Nat} (_:Ul f fa) {w:World} {base:Nat} {v:Value} {d:DataW H} {ps:List MemPlace},
  Value.okWide P w .any base t v->DataW.Trod enc P w 0 (fun _=>true) true t v d ps->f d<=lim->∃a,wf a/\Rep w (WZ w) (av a) v
theorem iy.aqw {w E a v}(h:iy w E [a] [v]):Rep w E a v:=h.2 0 a v rfl rfl
theorem aqx {P:Program}{t:TypeId}{α:Type}{av:α->AV}{wf:α->Prop}(h:Rd P t (fun a=>[av a]) wf)(hc:∀{w base v},Value.okWide P w .any base t v->v.cells.toList=[v]):RdV P t av wf:=by
 constructor
 intro H enc f fa hb w base v d ps hok ⟨fuel,htr⟩ hl
 rw [hc hok] at htr
 obtain ⟨a,h1,h2,-⟩:=h.get hb htr hl
 exact ⟨a,h1,h2.aqw⟩
theorem aqy {P t}{k:IntKind}(ht:P.underlying t=some (.int k)):RdV P t (fun n:Int=>.p (.int k n)) (inR k):=
 aqx (Si ht) (fun h=>by obtain ⟨b,rfl⟩:=okWide_int ht h;rfl)
theorem OT {P:Program}{t:TypeId}{fs:Array Field}{α:Type}{row:α->List AV}{wf:α->Prop}(ht:P.underlying t=some (.struct fs))(h:Rd P t row wf):RdV P t (fun a=>.agg (row a)) wf:=by
 constructor
 intro H enc f fa hb w base v d ps hok ⟨fuel,htr⟩ hl
 obtain ⟨cs,rfl,-⟩:=okWide_struct ht hok
 obtain ⟨a,h1,h2,h3⟩:=h.get hb htr hl
 refine ⟨a,h1,.agg _ _ ?_ h3 (fun i c v hc hv=>h2.2 i c v hc ?_)⟩
 .simpa [Value.cells] using h2.1
 .simpa [Value.cells] using hv
structure RdA (P:Program)(ts:List TypeId){α:Type}(avs:α->List AV)(wf:α->Prop):Prop where
 get:∀{H:Type} {enc:TypeId×Value->H} {f:DataW H->Nat} {fa:List (DataW H)->Nat} (_:Ul f fa) {w:World} {base:Nat} {vs:List Value} {ds:List (DataW H)} {ps:List MemPlace},
  (∀(j:Nat) t v,ts[j]?=some t->vs[j]?=some v->Value.okWide P w .any base t v)->DataW.TrodAll enc P w 0 (fun _=>true) true ts vs ds ps->fa ds<=lim->∃a,wf a/\iy w (WZ w) (avs a) vs
theorem aqz {P}:RdA P [] (fun _:Unit=>[]) (fun _=>True):=by
 constructor
 intro H enc f fa hb w base vs ds ps hok h hl
 obtain ⟨rfl,-,-⟩:=trodAll_nil h
 exact ⟨(),trivial,rfl,fun i a v h=>by simp at h⟩
theorem Qb {P:Program}{t:TypeId}{ts:List TypeId}{α β:Type}{av:α->AV}{wf:α->Prop}{avs:β->List AV}{wf':β->Prop}(h:RdV P t av wf)(h':RdA P ts avs wf') :
  RdA P (t::ts) (fun x:α×β=>av x.1::avs x.2) (fun x=>wf x.1/\wf' x.2):=by
 constructor
 intro H enc f fa hb w base vs ds ps hok ht hl
 obtain ⟨v,vs,d,ds,p,q,rfl,rfl,rfl,h1,h2⟩:=trodAll_cons ht
 rw [hb.cons] at hl
 obtain ⟨a,a1,a2⟩:=h.get hb (hok 0 t v rfl rfl) h1 (by omega)
 obtain ⟨b,b1,b2⟩:=h'.get hb (fun j t v hj hv=>hok (j+1) t v (by simpa using hj) (by simpa using hv)) h2 (by omega)
 exact ⟨(a,b),⟨a1,b1⟩,(iy.one a2).append b2⟩
theorem NS {H:Type}{enc:TypeId×Value->H}{P:Program}(hl:laidOutB P=true){W W':World}{sp':Nat->Bool}:∀{ts:List TypeId} (_:∀t∈ts,P.readableRec t=true/\t<P.types.size) {vs:List Value} {ds:List (DataW H)} {ps:List MemPlace},
  DataW.TrodAll enc P W 0 (fun _=>true) true ts vs ds ps->(∀p∈ps,W.sameAt W' p)->(∀p∈ps,sp' p.block=true)->DataW.TrodAll enc P W' 0 sp' true ts vs ds ps
 |[],_,_,_,_,h,_,_=>by
  obtain ⟨rfl,rfl,rfl⟩:=trodAll_nil h
  exact trodAll_mk0
 |t::ts,hr,_,_,_,h,hs,hsp=>by
  obtain ⟨v,vs,d,ds,p,q,rfl,rfl,rfl,h1,h2⟩:=trodAll_cons h
  exact trodAll_cons_mk (WideElems.Trod_stays hl (hr t (by simp)).1 (hr t (by simp)).2 h1 (fun p hp=>hs p (by simp [hp])) (fun p hp=>hsp p (by simp [hp])))
   (NS hl (fun t ht=>hr t (by simp [ht])) h2 (fun p hp=>hs p (by simp [hp])) (fun p hp=>hsp p (by simp [hp])))
section
variable {H : Type} {enc:TypeId×Value->H} {P:Program}
theorem agt {f:Func}{s:ChangeSpec}{apart fresh handsOn again:Bool}{W W':World}{args:Array Value}{v:Value}{ds gs:List (DataW H)}{before pa pv:List MemPlace}
  (hW:DataW.Whole enc P f.params.toList s.vars apart W args.toList ds gs before)
  (hres:∀(b:Nat) (sp:Nat->Bool) (hd:Bool),DataW.TrodAll enc P W' b sp hd f.resultTypes.toList (v.resultList f.resultTypes.size) (s.fn H (ds++gs)).results [])
  (hargs:∀sp:Nat->Bool,(∀p∈before,sp p.block=true)->DataW.TrodAll enc P W' 0 sp true f.params.toList args.toList (s.fn H (ds++gs)).args pa)
  (hvars:∀sp:Nat->Bool,(∀p∈before,sp p.block=true)->DataW.TrodVars enc P W' sp s.vars (s.fn H (ds++gs)).vars pv)
  (hps:before=pa++pv) (hb:Below W.heap.size W W')
  (hok:∀(j:Nat) (t:TypeId) (r:Value),f.resultTypes[j]?=some t->(v.resultList f.resultTypes.size)[j]?=some r->Value.okWide P W' .any 0 t r) :
  s.post enc P f apart fresh handsOn again W args v W':=by
 have hlt:∀p∈before,p.block<W.heap.size:=fun p hp=>hW.lt p hp
 have hold:∀p∈before,(fun b=>decide (b<W.heap.size)) p.block=true:=fun p hp=>by simpa using hlt p hp
 refine ⟨ds,gs,before,[],pa,pv,hW,hres _ _ _,hargs _ hold,hvars _ hold,World.keptBut_mono (fun p hp=>⟨hp,?_⟩) (hb.frame (·∈before)),fun _=>?_⟩
 .rw [hps,aH] at hp
  exact Or.inr hp
 .obtain ⟨_,_,_,_,_,hz,hn⟩:=hW
  refine ⟨hok,_,_,([]++pa)++pv,⟨[]++pa,pv,trodAll_append (hargs _ (fun _ _=>rfl)) (hres _ _ _),hvars _ (fun _ _=>rfl),rfl,?_,?_⟩,?_⟩
  .intro b off hp
   have hin:MemPlace.cell b off∈before:=by rw [hps];simpa using hp
   rw [hb.frozen (hlt _ hin)]
   exact hz b off hin
  .intro ha
   have:=hn ha
   rw [hps] at this
   simpa using this
  .intro p hp _
   rw [hps]
   simpa using hp
end
theorem abn {P:Program}{fid:FuncId}{fn:Func}{s:ChangeSpec}{apart fresh handsOn again:Bool}{α:Type}{avs:α->List AV}{wf:α->Prop}{tb:TypeId}
  (hf:P.funcs[fid]?=some fn) (hbody:fn.body.isNone=false) (hlaid:laidOutB P=true) (hread:∀t∈fn.params.toList,P.readableRec t=true/\t<P.types.size)
  (hrt:fn.resultTypes=#[tb]) (htb:P.underlying tb=some .bool) (hvars:s.vars=[])
  (hs:∀(H:Type) (ds:List (DataW H)),ds.length=fn.params.size->s.fn H ds={results:=[.lit (.bool true)],args:=ds})
  (ra:RdA P fn.params.toList avs wf) (pc:∀a,wf a->PC P fid (avs a) (.p (.bool true)))
  {H:Type} {enc:TypeId×Value->H} {f:DataW H->Nat} {fa:List (DataW H)->Nat} (hb:Ul f fa) {W:World} {base:Nat} {args:Array Value} {ds gs:List (DataW H)} {before:List MemPlace}
  (hval:∀(j:Nat) t v,fn.params[j]?=some t->args[j]?=some v->Value.okWide P W .any base t v)
  (hW:DataW.Whole enc P fn.params.toList s.vars apart W args.toList ds gs before) (hbd:fa (ds++gs)<=lim) (hG:GOk W (fun c _=>c<W.heap.size)) :
  Calls P fid args W fun e W'=>∃v,e=.returned v/\s.post enc P fn apart fresh handsOn again W args v W':=by
 have hW':=hW
 obtain ⟨p,q,hA,hV,rfl,hfz,hnd⟩:=hW
 rw [hvars] at hV
 obtain ⟨rfl,rfl⟩:=trodVars_none hV
 simp only [cu] at hW' hbd
 have hlen:∀{ts:List TypeId} {vs:List Value} {ds:List (DataW H)} {ps:List MemPlace},DataW.TrodAll enc P W 0 (fun _=>true) true ts vs ds ps->ds.length=ts.length:=by
  intro ts
  induction ts with
  |nil=>intro vs ds ps h;obtain ⟨-,rfl,-⟩:=trodAll_nil h;rfl
  |cons t ts ih=>intro vs ds ps h;obtain ⟨_,_,_,_,_,_,_,rfl,_,_,h2⟩:=trodAll_cons h;simp [ih h2]
 obtain ⟨a,ha,hrep⟩:=ra.get hb (fun j t v hj hv=>hval j t v (by simpa using hj) (by simpa using hv)) hA hbd
 have hpc:=pc a ha W (fun c _=>c<W.heap.size) args.toList (fun c o h=>h) hG hrep
 rw [hf] at hpc
 dsimp only at hpc
 rw [if_neg (by simp [hbody])] at hpc
 have hc:=hpc.2
 simp only [Array.toArray_toList] at hc
 refine hc.mono fun e W' ⟨v,mJ,he,hstep,_,hr⟩=>?_
 obtain rfl:=hr.g_
 have hbel:=hstep.below
 have hspec:=hs H ds (by rw [hlen hA];simp)
 refine ⟨_,he,agt (pa:=p) (pv:=[]) (gs:=[]) hW' ?_ ?_ ?_ (by simp) hbel ?_⟩
 .intro b sp hd
  rw [cu,hspec,hrt]
  exact trodAll_cons_mk (shut_bool htb _) trodAll_mk0
 .intro sp hsp
  rw [cu,hspec]
  exact NS hlaid hread hA (fun x hx=>hbel.same (hW'.lt x hx)) hsp
 .intro sp hsp
  rw [cu,hspec,hvars]
  rfl
 .exact ok_one hrt rfl (okWide_bool_mk htb _)
end Go.Fw
end
section
namespace Go.Fw
structure dL.wf (v:dL):Prop where
 Kind:inR .u8 v.Kind
 Num:v.Num<2 ^ 64
 Str:v.Str.length<=lim
 Ref:inR .i64 v.Ref
structure dI.wf (v:dI):Prop where
 Str:v.Str.length<=lim
 Sym:inR .i64 v.Sym
structure dN.wf (v:dN):Prop where
 Has:inR .u8 v.Has
 Value:v.Value.wf
 Get:v.Get.wf
 Set:v.Set.wf
structure dJ.wf (v:dJ):Prop where
 Key:v.Key.wf
 dV:v.dV.wf
structure dS.wf (v:dS):Prop where
 Kind:inR .u8 v.Kind
 eu:v.eu.wf
 Props:aDV dJ.wf v.Props
 Target:v.Target.wf
 Handler:v.Handler.wf
 Text:v.Text.length<=lim
structure dK.wf (v:dK):Prop where
 Objects:aDV dS.wf v.Objects
structure yT.wf (v:yT):Prop where
 Kind:inR .u8 v.Kind
 Value:v.Value.wf
 dV:v.dV.wf
 Keys:aDV dI.wf v.Keys
 Error:inR .u8 v.Error
 Text:v.Text.length<=lim
structure uq.wf (v:uq):Prop where
 am5:inR .i64 v.am5
 Object:inR .i64 v.Object
 Method:inR .u8 v.Method
 Key:v.Key.wf
 Out:v.Out.wf
structure qQ.wf (v:qQ):Prop where
 Method:inR .u8 v.Method
 Object:inR .i64 v.Object
 Key:v.Key.wf
 dV:v.dV.wf
 Value:v.Value.wf
 Receiver:v.Receiver.wf
 Args:aDV dL.wf v.Args
structure uw.wf (v:uw):Prop where
 Kind:inR .u8 v.Kind
 Ask:v.Ask.wf
 Func:v.Func.wf
 This:v.This.wf
 For:v.For.wf
 Args:aDV dL.wf v.Args
 Object:v.Object.wf
 Out:v.Out.wf
structure CW.wf (v:CW):Prop where
 proto:v.proto.wf
 keys:aDV dI.wf v.keys
 desc:v.desc.wf
structure nZ.wf (v:nZ):Prop where
 eu:v.eu.wf
 dV:v.dV.wf
 Keys:aDV dI.wf v.Keys
 Own:aDV dN.wf v.Own
end Go.Fw
end
section
namespace Go.Fw
end Go.Fw
end
section
namespace Go.Fw
end Go.Fw
end
section
namespace Go.Fw
def iG (r:Int×Bool):AV:=.fD [(.p (.int .i64 r.1)),(.p (.bool r.2))]
def CY (r:dN×Int):AV:=.fD [(dN.av r.1),(.p (.int .i64 r.2))]
def Lm (x0:dL):Bool:=
 ((dZ x0.Kind 7)||(dZ x0.Kind 8))
def CZ (x0:Nat):Bool:=
 let v1:Int:=oM x0
 (decide (((IntKind.wrap .i64 v1):Int)<0))
def Qc (x0:Nat):Nat:=
 let v1:Int:=oM x0
 let v2:Nat:=qw (pV .u64 v1 9223372036854775808)
 v2
def Ja (x0:Nat):Nat:=
 let v1:Nat:=jI x0
 v1
def wP (x0:Nat):Bool:=
 let v1:Nat:=Ja x0
 let v2:Nat:=Qc x0
 let v3:Bool:=CZ x0
 ((Ns x0 x0)||(((fEq v1 x0)&&(UH v2 4845873199050653695))&&((Ns x0 0)||(!v3))))
def iZ (x0:dL):Bool:=
 let v1:Bool:=wP x0.Num
 let v2:Bool:=wP x0.Num
 let v3:Bool:=wP (bif (dZ x0.Kind 2) then 0 else (bif (dZ x0.Kind 3) then 0 else x0.Num))
 bif (((decide ((x0.Kind:Int) > 8))||(decide ((x0.Ref:Int)<0)))||(decide (((sLen x0.Str):Int) > 4096))) then false
 else bif ((dZ x0.Kind 2)&&((Ns x0.Num 4607182418800017408)&&((Ns x0.Num 0)||(!v1)))) then false
 else bif ((!(dZ x0.Kind 2))&&((dZ x0.Kind 3)&&(!v2))) then false
 else (((dZ x0.Kind x0.Kind)&&(((dZ x0.Kind 2)||((dZ x0.Kind 3)||(fEq x0.Num 0)))&&((bif (dZ x0.Kind 2) then (zW x0.Str []) else (bif (dZ x0.Kind 3) then (zW x0.Str []) else ((dZ x0.Kind 4)||(zW x0.Str []))))&&(bif (dZ x0.Kind 2) then (dZ x0.Ref 0) else (bif (dZ x0.Kind 3) then (dZ x0.Ref 0) else (bif (dZ x0.Kind 4) then (dZ x0.Ref 0) else (((dZ x0.Kind 5)||((dZ x0.Kind 6)||((dZ x0.Kind 7)||(dZ x0.Kind 8))))||(dZ x0.Ref 0))))))))&&v3)
def nH (x0:dL):Bool:=
 let v1:Bool:=iZ x0
 let v2:Bool:=Lm x0
 (v1&&((dZ x0.Kind 0)||v2))
def jA (x0:dN):Bool:=
 (jC (jZ .u8 x0.Has 12) 0)
def lH (x0:dN):Bool:=
 (jC (jZ .u8 x0.Has 3) 0)
def uX (x0:dN):Int:=
 let v1:Bool:=lH x0
 let v2:Bool:=jA x0
 let v3:Bool:=iZ x0.Value
 let v4:Bool:=nH x0.Get
 let v5:Bool:=nH x0.Set
 bif (((((jC (pV .u8 x0.Has 63) 0)||(v1&&v2))||(!v3))||(!v4))||(!v5)) then 90
 else bif ((((jC (jZ .u8 (Iy .u8 x0.Has) 1) 0)&&(!((dZ x0.Value.Kind 0)&&((fEq x0.Value.Num 0)&&((zW x0.Value.Str [])&&(dZ x0.Value.Ref 0))))))||((jC (jZ .u8 (Iy .u8 x0.Has) 4) 0)&&(!((dZ x0.Get.Kind 0)&&((fEq x0.Get.Num 0)&&((zW x0.Get.Str [])&&(dZ x0.Get.Ref 0)))))))||((jC (jZ .u8 (Iy .u8 x0.Has) 8) 0)&&(!((dZ x0.Set.Kind 0)&&((fEq x0.Set.Num 0)&&((zW x0.Set.Str [])&&(dZ x0.Set.Ref 0))))))) then 90
 else bif ((((jC (jZ .u8 (Iy .u8 x0.Has) 2) 0)&&x0.fB)||((jC (jZ .u8 (Iy .u8 x0.Has) 16) 0)&&x0.eG))||((jC (jZ .u8 (Iy .u8 x0.Has) 32) 0)&&x0.Configurable)) then 90
 else 0
def m_ (x0:dN):dN:=
 let v1:Bool:=jA x0
 (dN.mk (bif v1 then (iOr .u8 x0.Has 60) else (iOr .u8 x0.Has 51)) x0.Value x0.Get x0.Set x0.fB x0.eG x0.Configurable)
def dM (x0:dL):Bool:=
 ((decide ((x0.Kind:Int)>=6))&&(decide ((x0.Kind:Int)<=8)))
def Bj (x0:dN):dN×Int:=
 let v1:Int:=uX x0
 let v2:dN:=m_ x0
 bif (jC v1 0) then ((dN.mk 0 (dL.mk 0 0 [] 0) (dL.mk 0 0 [] 0) (dL.mk 0 0 [] 0) false false false),v1)
 else (v2,0)
end Go.Fw
end
section
namespace Go.Fw
def vM (x0:dI):Int:=
 bif (((decide ((x0.Sym:Int)<0))||(decide (((sLen x0.Str):Int) > 4096)))||((decide ((x0.Sym:Int) > 0))&&(sNe x0.Str []))) then 9
 else 0
def uY (x0:dN):Bool:=
 let v1:dN×Int:=Bj x0
 ((dZ v1.2 0)&&(dZ v1.1.Has x0.Has))
def o_ (x0:List dJ):Nat->Int->Int->(List (dI×Int))->(Bool×Int×List (dI×Int)×Int×List (dI×Int))
 |0,_,_,_=>default
 |n+1,u1,u2,u3=>
  let v4:dJ:=x0.getD (u2:Int).toNat default
  let v5:Int:=vM v4.Key
  let v6:Bool:=uY v4.dV
  let v7:Bool×Int:=n_ 0 v4.Key u3
  let v8:List (dI×Int):=og v4.Key (dY .i64 u2 1) u3
  bif (!(decide ((u2:Int)<(je dJ.enc x0)))) then (true,u1,u3,default,default)
  else bif (jC v5 0) then (false,default,default,v5,u3)
  else bif (!v6) then (false,default,default,90,u3)
  else bif (decide ((v7.2:Int) > 0)) then (false,default,default,100,u3)
  else o_ x0 n u1 (dY .i64 u2 1) v8
def jF (x0:List dJ):Int:=
 let r1:Bool×Int×List (dI×Int)×Int×List (dI×Int):=o_ x0 (x0.length+1) 0 0 []
 bif (decide (((je dJ.enc x0):Int) > 1024)) then 4
 else bif (!(dZ (ji r1.1) 0)) then r1.2.2.2.1
 else 0
def oh (x0:dI):Nat->Int->Bool->Int->Int->(Bool×Int×Bool×Int×Int×Bool)
 |0,_,_,_,_=>default
 |n+1,u1,u2,u3,u4=>
  bif (!(decide ((u4:Int)<(sLen x0.Str)))) then (true,u1,u2,u3,default,default)
  else bif ((decide (((((x0.Str.getD (u4:Int).toNat 0).toNat:Nat):Int):Int)<48))||(decide (((((x0.Str.getD (u4:Int).toNat 0).toNat:Nat):Int):Int) > 57))) then (false,default,default,default,0,false)
  else oh x0 n u1 u2 (dY .i64 (Rf .i64 u3 10) (IntKind.wrap .i64 (iq .u8 (((x0.Str.getD (u4:Int).toNat 0).toNat:Nat):Int) 48))) (dY .i64 u4 1)
def iI (x0:dI):Int×Bool:=
 let r1:Bool×Int×Bool×Int×Int×Bool:=oh x0 (((sLen x0.Str):Int).toNat+1) 0 false 0 0
 bif ((((decide ((x0.Sym:Int) > 0))||(zW x0.Str []))||(decide (((sLen x0.Str):Int) > 4)))||((decide (((sLen x0.Str):Int) > 1))&&(dZ (((x0.Str.getD (0:Int).toNat 0).toNat:Nat):Int) 48))) then (0,false)
 else bif (!(dZ (ji r1.1) 0)) then (r1.2.2.2.2.1,r1.2.2.2.2.2)
 else bif (decide ((r1.2.2.2.1:Int)>=1024)) then (0,false)
 else (r1.2.2.2.1,true)
def dW (x0:dI):Int×Int:=
 let v1:Int×Bool:=iI x0
 bif v1.2 then (0,v1.1)
 else bif (decide ((x0.Sym:Int) > 0)) then (2,0)
 else (1,0)
end Go.Fw
end
