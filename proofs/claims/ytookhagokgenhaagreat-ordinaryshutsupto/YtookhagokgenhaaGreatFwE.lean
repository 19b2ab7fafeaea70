
import Derived.Test.YtookhagokgenhaaGreatFwD
import Derived.Lib.ReflectliteSlice
import Derived.Laws.Externs
import Derived.Test.YtookhagokgenhaaGreatFwA
import Derived.Test.YtookhagokgenhaaGreatFwB
import Derived.WideKeyArgs
import Derived.Below
import Derived.RowKit
import Derived.OpenShut
import Derived.ChangeMaps5
import Derived.ChangeSame
import Derived.ProofKit
import Derived.JoinedCond
set_option linter.unusedVariables false
set_option linter.unusedSimpArgs false
set_option linter.unusedSectionVars false
set_option linter.unnecessarySimpa false
section
namespace Go.Fw
variable [jK]
section
variable {P : Program} {ρ:List AV} {X:pG} {inl:DX} {GU:FuncId->Bool}
def KOk (P:Program)(ρ:List AV)(N:Nat)(k:Pc->rU->Nat->Option yC)(A:lH->AH->Nat->AQ->Prop):Prop:=
 ∀pc st nv x,k pc st nv=some x->Pc.holds ρ pc->iW P ρ x.sd->Oq P ρ x.aw->∀fr ah nx,GX ρ N st fr ah nx->A fr ah nx (FH ρ N x.outs)
theorem lY {a b:List (Pc×Side)}(h:iW P ρ (a++b)):iW P ρ a:=fun x hx=>h x (by simp [hx])
theorem oI {a b:List (Pc×Side)}(h:iW P ρ (a++b)):iW P ρ b:=fun x hx=>h x (by simp [hx])
theorem VX {a b:List Lo}(h:Oq P ρ (a++b)):Oq P ρ a:=(XK.1 h).1
theorem VY {a b:List Lo}(h:Oq P ρ (a++b)):Oq P ρ b:=(XK.1 h).2
theorem D8 {k:Pc->rU->Nat->Option yC}(hk:∀pc st nv x,k pc st nv=some x->x.outs≠[]):∀{l:List Out} {pc:Pc} {nv:Nat} {x:yC},D7 k pc l nv=some x->x.outs≠[]
 |[],pc,nv,x,h=>by simp [D7] at h
 |[o],pc,nv,x,h=>by
  simp only [D7] at h
  cases hn:Yw o.e
  .simp only [hn,cond_false,Option.some.injEq] at h;subst h;simp
  .simp only [hn,cond_true] at h;exact hk _ _ _ _ h
 |o::o'::r,pc,nv,x,h=>by
  simp only [D7] at h
  cases hn:Yw o.e
  .simp only [hn,cond_false] at h
   split at h
   .cases h
   .simp only [Option.some.injEq] at h;subst h;simp
  .simp only [hn,cond_true] at h
   split at h
   .cases h
   .rename_i y hy
    split at h
    .cases h
    .rename_i z hz
     simp only [Option.some.injEq] at h;subst h
     have:=D8 hk hz
     simp [this]
theorem Ir {N:Nat}{k:Pc->rU->Nat->Option yC}{A:lH->AH->Nat->AQ->Prop}(hA:∀fr ah nx (Q Q':AQ),(∀e fr ah nx,Q e fr ah nx->Q' e fr ah nx)->A fr ah nx Q->A fr ah nx Q')
  (hne:∀pc st nv x,k pc st nv=some x->x.outs≠[]) (hk:KOk P ρ N k A):∀{l:List Out} {pc:Pc} {nv:Nat} {x:yC},D7 k pc l nv=some x->Pc.holds ρ pc->iW P ρ x.sd->Oq P ρ x.aw->
  ∀e fr ah nx,FH ρ N l e fr ah nx->Ri (fun fr ah nx=>A fr ah nx (FH ρ N x.outs)) (FH ρ N x.outs) e fr ah nx
 |[],pc,nv,x,h,hp,hs,ha,e,fr,ah,nx,hsel=>by simp [D7] at h
 |[o],pc,nv,x,h,hp,hs,ha,e,fr,ah,nx,hsel=>by
  obtain ⟨st,h1,h2⟩:=hsel
  simp only [sel,Option.some.injEq,Prod.mk.injEq] at h1
  obtain ⟨rfl,rfl⟩:=h1
  simp only [D7] at h
  cases hn:Yw o.e
  .simp only [hn,cond_false,Option.some.injEq] at h;subst h
   have hQ:FH ρ N [o] o.e fr ah nx:=⟨o.st,rfl,h2⟩
   revert hQ hn
   generalize o.e=e
   intro hn hQ
   cases e<;>first|(simp [Yw] at hn;done)|exact hQ
  .simp only [hn,cond_true] at h
   rw [XI hn]
   exact hk _ _ _ _ h hp hs ha fr ah nx h2
 |o::o'::r,pc,nv,x,h,hp,hs,ha,e,fr,ah,nx,hsel=>by
  obtain ⟨st,h1,h2⟩:=hsel
  simp only [sel] at h1
  simp only [D7] at h
  cases hn:Yw o.e
  .simp only [hn,cond_false] at h
   split at h
   .cases h
   .rename_i y hy
    simp only [Option.some.injEq] at h;subst h
    have ale:=D8 hne hy
    cases hg:(o.g.den ρ).B
    .rw [hg] at h1
     have ih:=Ir hA hne hk hy (fP hg hp) hs ha e fr ah nx ⟨st,h1,h2⟩
     have lift:∀e fr ah nx,FH ρ N y.outs e fr ah nx->FH ρ N (o::y.outs) e fr ah nx:=by
      intro e fr ah nx ⟨st,q1,q2⟩
      obtain ⟨z,s,hz⟩:=List.exists_cons_of_ne_nil ale
      rw [hz] at q1 ⊢
      exact ⟨st,by simp [sel,hg,q1],q2⟩
     cases e with
     |normal=>exact hA _ _ _ _ _ lift ih
     |_=>exact lift _ _ _ _ ih
    .rw [hg] at h1
     simp only [cond_true,Option.some.injEq,Prod.mk.injEq] at h1
     obtain ⟨rfl,rfl⟩:=h1
     obtain ⟨z,s,hz⟩:=List.exists_cons_of_ne_nil ale
     have hQ:FH ρ N (o::y.outs) o.e fr ah nx:=⟨o.st,by rw [hz];simp [sel,hg],h2⟩
     revert hQ hn
     generalize hoe:o.e=e
     intro hn hQ
     cases e<;>first|(simp [Yw] at hn;done)|exact hQ
  .simp only [hn,cond_true] at h
   split at h
   .cases h
   .rename_i y hy
    split at h
    .cases h
    .rename_i z hz
     simp only [Option.some.injEq] at h;subst h
     have aql:=D8 hne hz
     cases hg:(o.g.den ρ).B
     .rw [hg] at h1
      have ih:=Ir hA hne hk hz (fP hg hp) (oI hs) (VY ha) e fr ah nx ⟨st,h1,h2⟩
      have lift:∀e fr ah nx,FH ρ N z.outs e fr ah nx->FH ρ N (zA o.g y.outs++z.outs) e fr ah nx:=by
       intro e fr ah nx ⟨st,q1,q2⟩
       exact ⟨st,by rw [yx aql,hg];simpa using q1,q2⟩
      cases e with
      |normal=>exact hA _ _ _ _ _ lift ih
      |_=>exact lift _ _ _ _ ih
     .rw [hg] at h1
      simp only [cond_true,Option.some.injEq,Prod.mk.injEq] at h1
      obtain ⟨rfl,rfl⟩:=h1
      rw [XI hn]
      refine hA _ _ _ _ _ (fun e fr ah nx ⟨st,q1,q2⟩=>⟨st,?_,q2⟩) (hk _ _ _ _ hy (fP hg hp) (lY hs) (VX ha) fr ah nx h2)
      have ale:y.outs≠[]:=aoa q1
      rw [yx aql,hg]
      simpa [ale] using q1
theorem ZV {l:List (Tm×RQ)}:sel ρ (l.map fun x=>(⟨x.1,.normal,⟨x.2.tr,x.2.th,x.2.nx⟩⟩:Out))=(rF ρ l).map fun R=>(Exit.normal,(⟨R.tr,R.th,R.nx⟩:rU)):=by
 induction l with
 |nil=>rfl
 |cons x l ih=>
  cases l with
  |nil=>rfl
  |cons y r=>
   simp only [List.map_cons,sel,rF] at ih ⊢
   rw [ih]
   cases (x.1.den ρ).B<;>rfl
theorem alf (l:Nat)(e:Exit):swE l (swE l e)=e:=by
 cases e with
 |normal=>simp [swE]
 |goto m=>
  simp only [swE]
  cases h:Nat.beq m l
  .simp [swE,h]
  .simp only [cond_true,swE]
   rw [Nat.eq_of_beq_eq_true h]
 |_=>rfl
theorem aee {l:Nat}:∀{o:List Out},sel ρ (swO l o)=(sel ρ o).map fun x=>(swE l x.1,x.2)
 |[]=>rfl
 |[x]=>rfl
 |x::y::r=>by
  have ih:=aee (l:=l) (o:=y::r)
  simp only [swO,List.map_cons,sel] at ih ⊢
  rw [ih]
  cases (x.g.den ρ).B<;>rfl
theorem FH.sw {N l:Nat}{o:List Out}{e:Exit}{fr:lH}{ah:AH}{nx:Nat}(h:FH ρ N o e fr ah nx):FH ρ N (swO l o) (swE l e) fr ah nx:=by
 obtain ⟨st,h1,h2⟩:=h
 exact ⟨st,by rw [aee,h1];rfl,h2⟩
theorem Iu : ∀{o:List Out} {x:Exit×rU},Ot o=none->sel ρ o=some x->∀l,x.1≠.goto l
 |[],x,h,hs,l=>by simp [sel] at hs
 |[y],x,h,hs,l=>by
  simp only [sel,Option.some.injEq] at hs;subst hs
  simp only [Ot] at h
  split at h
  .cases h
  .rename_i hn;exact hn l
 |y::z::r,x,h,hs,l=>by
  rw [Ot] at h
  split at h
  .cases h
  .rename_i hn
   simp only [sel] at hs
   cases hb:(y.g.den ρ).B
   .rw [hb] at hs;exact Iu h hs l
   .rw [hb] at hs;simp only [cond_true,Option.some.injEq] at hs;subst hs;exact hn l
theorem XM {run:Pc->rU->Nat->Code->Option yC}{c:Code}(hne:∀pc st nv c x,run pc st nv c=some x->x.outs≠[]):∀{n:Nat} {pc:Pc} {outs:List Out} {nv:Nat} {y:yC},outs≠[]->ZL run c n pc outs nv=some y->y.outs≠[]
 |0,pc,outs,nv,y,_,h=>by simp [ZL] at h
 |n+1,pc,outs,nv,y,ho,h=>by
  simp only [ZL] at h
  split at h
  .simp only [Option.some.injEq] at h;subst h;exact ho
  .split at h
   .cases h
   .split at h
    .cases h
    .rename_i y0 hy
     split at h
     .simp only [Option.some.injEq] at h;subst h
      have:y0.outs≠[]:=D8 (fun pc st nv x hx=>by
       split at hx
       .cases hx
       .rename_i x1 hx1
        split at hx
        .cases hx
        .rename_i y1 hy1
         simp only [Option.some.injEq] at hx;subst hx
         have:=XM hne (hne _ _ _ _ _ hx1) hy1
         simp [swO,this]) hy
      simp [swO,this]
     .cases h
theorem aef {N:Nat}{run:Pc->rU->Nat->Code->Option yC}{c:Code}(hrun:∀c,KOk P ρ N (fun pc st nv=>run pc st nv c) fun fr ah nx Q=>AW P c fr ah nx Q)(hne:∀pc st nv c x,run pc st nv c=some x->x.outs≠[]) :
  ∀{n:Nat} {pc:Pc} {outs:List Out} {nv:Nat} {y:yC},ZL run c n pc outs nv=some y->Pc.holds ρ pc->iW P ρ y.sd->Oq P ρ y.aw->∀e fr ah nx,FH ρ N outs e fr ah nx->afn P c (FH ρ N y.outs) e fr ah nx
 |0,pc,outs,nv,y,h,_,_,_,_,_,_,_,_=>by simp [ZL] at h
 |n+1,pc,outs,nv,y,h,hp,hs,haw,e,fr,ah,nx,hsel=>by
  simp only [ZL] at h
  split at h
  .rename_i hg
   simp only [Option.some.injEq] at h;subst h
   obtain ⟨st,h1,h2⟩:=hsel
   have:=Iu hg h1
   cases e with
   |goto l=>exact absurd rfl (this l)
   |_=>exact ⟨st,h1,h2⟩
  .rename_i l hl
   split at h
   .cases h
   .rename_i rest hf
    split at h
    .cases h
    .rename_i y0 hy0
     split at h
     .rename_i hgn
      simp only [Option.some.injEq] at h;subst h
      have key:=Ir (P:=P) (ρ:=ρ) (N:=N) (A:=fun fr ah nx Q=>Az P c rest fr ah nx (fun e fr ah nx=>Q (swE l e) fr ah nx))
       (fun _ _ _ _ _ hQ h=>Az.mono h fun e=>hQ (swE l e)) (fun pc st nv x hx=>by
        split at hx
        .cases hx
        .rename_i x1 hx1
         split at hx
         .cases hx
         .rename_i y1 hy1
          simp only [Option.some.injEq] at hx;subst hx
          have:=XM hne (hne _ _ _ _ _ hx1) hy1
          simp [swO,this])
       (fun pc st nv x hx hp hs haw fr ah nx hst=>by
        split at hx
        .cases hx
        .rename_i x1 hx1
         split at hx
         .cases hx
         .rename_i y1 hy1
          simp only [Option.some.injEq] at hx;subst hx
          refine Ph (AW.mono (hrun rest _ _ _ _ hx1 hp (lY hs) (VX haw) fr ah nx hst) fun e fr ah nx hsel=>?_)
          have ih:=aef hrun hne hy1 hp (oI hs) (VY haw) e fr ah nx hsel
          cases e with
          |goto m=>
           simp only [afn] at ih ⊢
           split
           .rename_i r hr
            rw [hr] at ih
            exact Az.mono ih fun e fr ah nx h=>h.sw
           .rename_i hr
            rw [hr] at ih
            exact ih.sw
          |_=>exact FH.sw ih) hy0 hp hs haw (swE l e) fr ah nx hsel.sw
      have conv:∀e fr ah nx,FH ρ N y0.outs (swE l e) fr ah nx->FH ρ N (swO l y0.outs) e fr ah nx:=by
       intro e fr ah nx h
       have:=h.sw (l:=l)
       rwa [alf] at this
      cases e with
      |normal=>exact conv .normal _ _ _ key
      |goto m=>
       by_cases hm:m=l
       .subst hm
        simp only [swE,Nat.beq_refl,cond_true] at key
        simp only [afn,hf]
        exact Az.mono key conv
       .have hb:Nat.beq m l=false:=by
         cases hb:Nat.beq m l
         .rfl
         .exact absurd (Nat.eq_of_beq_eq_true hb) hm
        have e1:swE l (.goto m)=.goto m:=by simp [swE,hb]
        rw [e1] at key
        have k2:FH ρ N (swO l y0.outs) (.goto m) fr ah nx:=conv (.goto m) _ _ _ (by rw [e1];exact key)
        obtain ⟨st,q1,q2⟩:=k2
        exact absurd rfl (Iu hgn q1 m)
      |exit id=>exact conv (.exit id) _ _ _ key
      |ret=>exact conv .ret _ _ _ key
      |panic ch=>exact conv (.panic ch) _ _ _ key
      |outgrown=>exact conv .outgrown _ _ _ key
     .cases h
theorem alg {N:Nat}{pc:Pc}{st:rU}{nv:Nat}{id:Nat}{ops:Array Oper}{draw:Bool}{x:yC}(hm:P.follows .mixedOrders=true)(hρ:iC ρ=true)(hX:n_ P ρ X)(hI:nN P ρ inl)(h:ak9 P X inl GU N pc st nv ops draw=some x)
  (hp:Pc.holds ρ pc) (hs:iW P ρ x.sd) {fr:lH} {ah:AH} {nx:Nat} (hst:GX ρ N st fr ah nx):AW P (.region id ops draw) fr ah nx (FH ρ N x.outs):=by
 refine SN hst fun EI nR hf ha hN=>?_
 unfold ak9 at h
 split at h
 .cases h
 .rename_i R hR
  simp only [Option.some.injEq] at h;subst h
  cases draw with
  |true=>
   simp only [cond_true] at hR
   cases hc:BQ ops&&EU ops (awL ops.toList [])
   .simp [hc] at hR
   .simp only [hc,cond_true] at hR
    simp only [Bool.and_eq_true] at hc
    intro base w E a jc
    refine wp_region_any hm ?_
    obtain ⟨d1,d2⟩:=adF jc.heap (w.drawn+1)
    obtain ⟨R',L,Pz,PD,q1,q2,q3,q4,q5,q6,q7,q8,q9⟩:=D5 (P:=P) (base:=base) hρ hX hI ops.toList 0 EI nR hR hp hs hf ha hN (by simp)
    have hsz:L.length=ops.size:=by rw [q2];simp
    have get:∀k,k<ops.size->∃o r,ops[k]?=some o/\L[k]?=some r/\Ii P ops base (awL ops.toList []) 0 ops.toList L Pz PD R'.nx [] [] [] k o r:=fun k hk=>by
     have h1:ops[k]?=some ops[k]:=by simp [hk]
     have h2:L[k]?=some L[k]:=by simp [hsz,hk]
     exact ⟨_,_,h1,h2,q9 k _ _ (by simpa using h1) h2⟩
    have atS:∀{α:Type} (f:AO->α) (e:α) (k:Nat) (r:AO),L[k]?=some r->FB f L e k=f r:=fun f e k r h=>by unfold FB;rw [h]
    have aqm:∀k,k<ops.size->FB (·.nx) L R'.nx k<=FB (·.nx) L R'.nx (k+1):=fun k hk=>by
     obtain ⟨o,r,h1,h2,g⟩:=get k hk
     rw [atS _ _ k r h2];exact g.nx
    have mono:∀n m,m+n<=ops.size->FB (·.nx) L R'.nx m<=FB (·.nx) L R'.nx (m+n):=by
     intro n
     induction n with
     |zero=>intro m _;exact Nat.le_refl _
     |succ n ih=>intro m hm;exact Nat.le_trans (ih m (by omega)) (aqm (m+n) (by omega))
    have hend:FB (·.nx) L R'.nx ops.size=R'.nx:=by unfold FB;rw [List.getElem?_eq_none (by omega)]
    have aqn:FB (·.fr) L Pz ops.size=Pz:=by unfold FB;rw [List.getElem?_eq_none (by omega)]
    have aqo:FB (·.ah) L PD ops.size=PD:=by unfold FB;rw [List.getElem?_eq_none (by omega)]
    have hL:afk P ops base (awL ops.toList []) (fun b=>st.nx<=b) (fun k=>FB (·.fr) L Pz k) (fun k=>FB (·.ah) L PD k) (fun k=>FB (·.rv) L eu k) (fun k=>FB (·.WR) L (fun _=>false) k) (fun k=>FB (·.RD) L (fun _=>false) k)
      (fun k=>FB (·.NEW) L (fun _=>False) k) (fun k=>FB (·.Xe) L (fun _=>False) k):=by
     refine ⟨fun j o ho=>?_,fun j o ho=>?_,fun j b hj=>?_,fun j hj j' hj'=>?_,fun j b hj=>?_,fun x y hx hy hxy=>?_⟩
     .have hj:=(Array.getElem?_eq_some_iff.1 ho).1
      obtain ⟨o',r,h1,h2,g⟩:=get j hj
      rw [ho] at h1;cases h1
      simp only [atS _ _ j r h2]
      have:=g.step
      rw [Nat.zero_add] at this
      exact this
     .have hj:=(Array.getElem?_eq_some_iff.1 ho).1
      obtain ⟨o',r,h1,h2,g⟩:=get j hj
      rw [ho] at h1;cases h1
      simp only [atS _ _ j r h2]
      exact g.fr
     .obtain ⟨o,r,h1,h2,g⟩:=get j hj
      simp only [atS _ _ j r h2]
      exact g.ah b
     .obtain ⟨o,r,h1,h2,g⟩:=get j hj
      obtain ⟨o',r',h1',h2',g'⟩:=get j' (by omega)
      simp only [atS _ _ j r h2,atS _ _ j' r' h2']
      have:=(g.prev j' r' hj' h2').1
      rw [Nat.zero_add,Nat.zero_add] at this
      exact this
     .obtain ⟨o,r,h1,h2,g⟩:=get j hj
      simp only [atS _ _ j r h2]
      intro hb
      have e1:=g.req b hb
      have e2:=mono j 0 (by omega)
      rw [Nat.zero_add,q8,atS _ _ j r h2] at e2
      exact Nat.le_trans e2 e1
     .obtain ⟨ox,rx,hx1,hx2,gx⟩:=get x hx
      obtain ⟨oy,ry,hy1,hy2,gy⟩:=get y hy
      simp only [atS _ _ x rx hx2,atS _ _ y ry hy2]
      rcases Nat.lt_or_gt_of_ne hxy with hlt|hgt
      .refine .inr fun b hb hn=>?_
       have e1:=gx.new b hn
       have e2:=gy.req b hb
       have e3:=mono (y-(x+1)) (x+1) (by omega)
       rw [show x+1+(y-(x+1))=y by omega,atS _ _ y ry hy2] at e3
       have:b<ry.nx:=Nat.lt_of_lt_of_le e1 e3
       omega
      .cases hcy:ry.call with
       |true=>
        rcases (gx.prev y ry hgt hy2).2.1 hcy with h|h
        .rw [Nat.zero_add,Nat.zero_add] at h;exact .inl h
        .exact .inr fun b hb hn=>h b hb hn
       |false=>
        cases hcx:rx.call with
        |true=>
         rcases (gx.prev y ry hgt hy2).2.2 hcx with h|h
         .rw [Nat.zero_add,Nat.zero_add] at h;exact .inl h
         .exact .inr fun b hb=>(h b hb).elim
        |false=>
         refine .inr fun b hb hn=>?_
         have e1:=(gy.plain hcy).1 b hb
         have e2:=(gx.plain hcx).2 b hn
         have e3:=mono (x-(y+1)) (y+1) (by omega)
         rw [show y+1+(x-(y+1))=x by omega,atS _ _ x rx hx2] at e3
         have:b<rx.nx:=Nat.lt_of_lt_of_le e1 e3
         omega
    refine afm hc.1 hc.2 hL (by simp only [q7];exact d2) (by simp only [q6];exact jc.fr.mono d1.ext) (fun a' w' hp'=>?_)
    obtain ⟨E',p1,p2,p3,p4⟩:=hp'
    simp only [aqn,aqo] at p2 p3
    refine ⟨E',Pz,PD,R'.nx,⟨⟨R'.tr,R'.th,R'.nx⟩,by rw [ZV,q1];rfl,GX.of q3 q4 q5 (Nat.le_refl _)⟩,⟨p2.weaken fun b hb=>⟨?_,fun i hi hn=>?_⟩,p3,by rw [p4];exact jc.defers⟩,d1.trans p1⟩
    .have:=mono ops.size 0 (by omega)
     rw [Nat.zero_add,hend,q8] at this
     exact Nat.le_trans this hb
    .obtain ⟨o,r,h1,h2,g⟩:=get i hi
     rw [atS _ _ i r h2] at hn
     have e1:=g.new b hn
     have e3:=mono (ops.size-(i+1)) (i+1) (by omega)
     rw [show i+1+(ops.size-(i+1))=ops.size by omega,hend] at e3
     have:b<R'.nx:=Nat.lt_of_lt_of_le e1 e3
     have hb':R'.nx<=b:=hb
     omega
  |false=>
   simp only [cond_false] at hR
   intro base w E a jc
   refine wp_region ?_
   have:=Ci (GU:=GU) (Q:=Gj base w E (FH ρ N (R.outs.map fun x=>⟨x.1,.normal,⟨x.2.tr,x.2.th,x.2.nx⟩⟩))) (base:=base) hρ hX hI ops.toList 0 EI nR w E a hR hp hs hf ha hN (by simp) jc.heap jc.fr (fun R' hR' a' w' hpost=>?_)
   .simpa [List.range_eq_range'] using this
   .obtain ⟨E',fr',fK,q1,q2,q3,q4,q5,q6,q7⟩:=hpost
    exact ⟨E',fr',fK,R'.nx,⟨⟨R'.tr,R'.th,R'.nx⟩,by rw [ZV,hR'];rfl,GX.of q1 q2 q3 (Nat.le_refl _)⟩,⟨q5,q6,by rw [q7];exact jc.defers⟩,q4⟩
def FN (P:Program)(c:Code)(Q:AQ):Nat->lH->AH->Nat->Prop
 |0,_,_,_=>False
 |n+1,fr,ah,nx=>AW P c fr ah nx (Ri (FN P c Q n) Q)
theorem KY {K K':lH->AH->Nat->Prop}{Q Q':AQ}(hK:∀fr ah nx,K fr ah nx->K' fr ah nx)(hQ:∀e fr ah nx,Q e fr ah nx->Q' e fr ah nx):∀e fr ah nx,Ri K Q e fr ah nx->Ri K' Q' e fr ah nx:=by
 intro e fr ah nx h
 cases e<;>first|exact hK _ _ _ h|exact hQ _ _ _ _ h
theorem MK {c:Code}{Q Q':AQ}(hQ:∀e fr ah nx,Q e fr ah nx->Q' e fr ah nx):∀{n:Nat} {fr:lH} {ah:AH} {nx:Nat},FN P c Q n fr ah nx->FN P c Q' n fr ah nx
 |0,_,_,_,h=>h
 |n+1,fr,ah,nx,h=>AW.mono h (KY (fun _ _ _ h=>MK hQ h) hQ)
theorem EW.refl : ∀fr:lH,EW fr fr
 |[]=>trivial
 |none::r=>EW.refl r
 |some a::r=>⟨rfl,EW.refl r⟩
theorem aga {c:Code}{Q:AQ}{n:Nat}{fr:lH}{ah:AH}{nx:Nat}(h:FN P c Q n fr ah nx):AW P (.loop c) fr ah nx Q:=by
 refine akE (fun n fr ah nx=>FN P c Q n fr ah nx) n fr (EW.refl fr) h fun n fr ah nx h K hK=>?_
 cases n with
 |zero=>exact h.elim
 |succ n=>exact AW.mono h (KY (fun fr ah nx h=>hK fr ah nx ⟨n,Nat.lt_succ_self n,fr,EW.refl fr,h⟩) fun _ _ _ _ h=>h)
theorem Tc {body:Pc->rU->Nat->Option yC}:∀{m:Nat} {pc:Pc} {st:rU} {nv:Nat} {x:yC},MJ body m pc st nv=some x->x.outs≠[]
 |0,pc,st,nv,x,h=>by simp [MJ] at h
 |m+1,pc,st,nv,x,h=>by
  simp only [MJ] at h
  split at h
  .cases h
  .split at h
   .cases h
   .rename_i y hy
    simp only [Option.some.injEq] at h;subst h
    exact (D8 (k:=MJ body m) (fun _ _ _ _ h=>Tc h) hy:y.outs≠[])
theorem ZW {N:Nat}{body:Pc->rU->Nat->Option yC}{c:Code}(hb:KOk P ρ N body fun fr ah nx Q=>AW P c fr ah nx Q):∀{m:Nat},KOk P ρ N (MJ body m) fun fr ah nx Q=>FN P c Q m fr ah nx
 |0=>fun pc st nv x h=>by simp [MJ] at h
 |m+1=>fun pc st nv x h hp hs ha fr ah nx hst=>by
  simp only [MJ] at h
  split at h
  .cases h
  .rename_i x1 hx1
   split at h
   .cases h
   .rename_i y hy
    simp only [Option.some.injEq] at h;subst h
    refine AW.mono (hb _ _ _ _ hx1 hp (lY hs) (VX ha) fr ah nx hst) fun e fr ah nx hsel=>?_
    exact Ir (A:=fun fr ah nx Q=>FN P c Q m fr ah nx) (fun _ _ _ _ _ hQ h=>MK hQ h) (fun _ _ _ _ h=>Tc h) (ZW hb) hy hp (oI hs) (VY ha) e fr ah nx hsel
theorem Td {tr:Tr oQ}:∀{l:List Nat} {t:Nat} {e:oQ},(Tr.only tr l).get t=some e->tr.get t=some e
 |[],t,e,h=>by simp [Tr.only,Tr.get] at h
 |s::r,t,e,h=>by
  simp only [Tr.only] at h
  split at h
  .rename_i x hx
   rcases Tr.oH _ _ _ _ _ _ h with ⟨rfl,h1⟩|⟨-,h1⟩
   .simp only [Option.some.injEq] at h1;subst h1;exact hx
   .exact Td h1
  .exact Td h
theorem D9 {th:Tr SB}:∀{n:Nat} {l:List Nat} {acc:Tr SB},(∀b k,acc.get b=some k->th.get b=some k)->∀b k,(awO th n l acc).get b=some k->th.get b=some k
 |0,l,acc,h=>h
 |n+1,[],acc,h=>h
 |n+1,b::r,acc,h=>by
  simp only [awO]
  split
  .exact D9 h
  .split
   .exact D9 h
   .rename_i k hk
    refine D9 fun j y hj=>?_
    rcases Tr.oH _ _ _ _ _ _ hj with ⟨rfl,h1⟩|⟨-,h1⟩
    .simp only [Option.some.injEq] at h1;subst h1;exact hk
    .exact h _ _ h1
theorem GX.only {N:Nat}{st:rU}{fr:lH}{ah:AH}{nx:Nat}(h:GX ρ N st fr ah nx)(l:List Nat):GX ρ N (st.only l) fr ah nx:=
 ⟨fun t e he=>h.fr t e (Td he),fun b k hk=>h.ah b k (D9 (acc:=.e) (fun b k h=>by simp [Tr.get] at h) b k hk),h.len,h.nx⟩
theorem VZ {id:Nat}:∀{l:List Out},sel ρ (leave id l)=(sel ρ l).map fun x=>(lvE id x.1,x.2)
 |[]=>rfl
 |[o]=>rfl
 |o::o'::r=>by
  have ih:=VZ (id:=id) (l:=o'::r)
  simp only [leave,List.map_cons,sel] at ih ⊢
  rw [ih]
  cases hb:(o.g.den ρ).B<;>rfl
theorem FH.leave {N id:Nat}{l:List Out}{e:Exit}{fr:lH}{ah:AH}{nx:Nat}(h:FH ρ N l e fr ah nx):AIn id (FH ρ N (Go.Fw.leave id l)) e fr ah nx:=by
 obtain ⟨st,h1,h2⟩:=h
 have e1:=VZ (ρ:=ρ) (id:=id) (l:=l)
 rw [h1] at e1
 cases e with
 |exit j=>
  simp only [AIn]
  split
  .rename_i hj;subst hj;exact ⟨st,by rw [e1];simp [lvE],h2⟩
  .rename_i hj
   refine ⟨st,?_,h2⟩
   rw [e1]
   have:Nat.beq j id=false:=by
    cases hb:Nat.beq j id
    .rfl
    .exact absurd (Nat.eq_of_beq_eq_true hb) hj
   simp [lvE,this]
 |_=>exact ⟨st,e1,h2⟩
theorem Qv {keep:Kp}:∀{l:List Out},l≠[]->KX keep l≠[]
 |[],h=>absurd rfl h
 |o::r,_=>by
  unfold KX
  cases Yw o.e
  .simp
  .simp only [cond_true]
   split
   .simp
   .rename_i l n _
    cases Yw n.e
    .simp
    .simp only [cond_true];split<;>simp
theorem aiI {cs:rU}{nv k q:Nat}{x:Exit×AP}{r:List (Exit×AP)}:Cm cs nv k q (x::r)≠[]:=by cases r<;>simp [Cm]
theorem aiJ {N:Nat}{pc:Pc}{st:rU}{nv id:Nat}{b:Code}{x:yC}(h:ZN P N pc st nv id b=some x):x.outs≠[]:=by
 unfold ZN at h
 split at h
 .cases h
 .unfold acs at h
  split at h
  .split at h
   .split at h
    .rw [Bool.cond_eq_ite] at h
     split at h
     .split at h
      .simp only [Option.some.injEq] at h;subst h;simp
      .cases h
     .cases h
    .cases h
   .cases h
  .cases h
theorem sV {G:Cfg}{F:y8}:∀{n:Nat} {pc:Pc} {st:rU} {nv:Nat} {c:Code} {x:yC},sU P G F n pc st nv c=some x->x.outs≠[]
 |0,pc,st,nv,c,x,h=>by simp [sU] at h
 |n+1,pc,st,nv,c,x,h=>by
  unfold sU at h
  split at h
  .simp only [Option.some.injEq] at h;subst h;simp
  .simp only [Option.some.injEq] at h;subst h;simp
  .simp only [Option.some.injEq] at h;subst h;simp
  .unfold ak9 at h
   rename_i id ops draw
   split at h
   .cases h
   .rename_i S hS
    simp only [Option.some.injEq] at h;subst h
    have:S.outs≠[]:=by
     cases draw
     .exact wP hS
     .simp only [cond_true] at hS
      generalize (BQ ops&&EU ops (awL ops.toList []))=q at hS
      cases q
      .cases hS
      .exact DZ hS
    simp [this]
  .split at h
   .cases h
   .split at h
    .cases h
    .rename_i y hy
     simp only [Option.some.injEq] at h;subst h
     exact Qv (D8 (fun _ _ _ _ h=>sV h) hy)
  .split at h
   .split at h
    .exact sV h
    .exact sV h
    .split at h
     .cases h
     .split at h
      .cases h
      .rename_i y hy
       simp only [Option.some.injEq] at h;subst h
       refine Qv ?_
       have:=sV hy
       simp [Qr,this]
   .cases h
  .split at h
   .rename_i c hh hm
    dsimp only at h
    split at h
    .cases h
    .split at h
     .cases h
     .split at h
      .rename_i x r hxs
       simp only [Option.some.injEq] at h;subst h
       rw [hxs]
       exact aiI
      .cases h
   .split at h
    .rename_i y hy
     simp only [Option.some.injEq] at h;subst h
     exact aiJ hy
    .split at h
     .cases h
     .rename_i y hy
      simp only [Option.some.injEq] at h;subst h
      refine Qv ?_
      have:=sV hy
      simp [leave,this]
  .simp only [Option.some.injEq] at h;subst h;simp
  .simp only [Option.some.injEq] at h;subst h;simp
  .split at h
   .cases h
   .rename_i x1 hx1
    split at h
    .cases h
    .rename_i y hy
     simp only [Option.some.injEq] at h;subst h
     exact Qv (XM (fun _ _ _ _ _ h=>sV h) (sV hx1) hy)
  .exact Tc h
  .cases h
end
section
variable {P : Program}
theorem aiK {N:Nat}{ρ:List AV}{pc:Pc}{st:rU}{nv id:Nat}{b:Code}{x:yC}{fr:lH}{ah:AH}{nx:Nat}(hp:pc.holds ρ)(hs:iW P ρ x.sd)(hst:GX ρ N st fr ah nx)(h:ZN P N pc st nv id b=some x) :
  AW P (.block id b) fr ah nx (FH ρ N x.outs):=by
 unfold ZN at h
 split at h
 .cases h
 rename_i m hm
 obtain ⟨r1,r2,r3,id5,o1,o2,p1,p2,p3,q1,q2,q3,q4,hmo,rfl⟩:=ZM hm
 refine SN hst fun fr ah hf ha hN=>?_
 unfold acs at h
 split at h
 .rename_i q sq bd len h1 h2
  split at h
  .rename_i mb n d h3 h4
   split at h
   .rename_i mk t h5
    rw [Bool.cond_eq_ite] at h
    split at h
    case isFalse=>cases h
    case isTrue hg=>
     split at h
     .rename_i e9 hT hTB
      simp only [Option.some.injEq] at h;subst h
      simp only [Bool.and_eq_true,List.all_eq_true,Bool.not_eq_true',List.contains_eq_mem,decide_eq_false_iff_not] at hg
      obtain ⟨g1,g2,g3,g4,g5,g6,g7,g8,g9⟩:=hg
      have bne:∀{a b:Nat},Nat.beq a b=false->a≠b:=fun {a b} h e=>by subst e;simp at h
      obtain rfl:=Tm.beq_eq g1
      obtain ⟨k1,k2,k3,k4⟩:=hs (pc,.mark mk t d len (.var nv [])) (by simp) hp
      have hq:iP fr m.it=some (.op q sq 0 0):=iq hp hf h1
      have hD:iP fr m.tD=some (.os bd 1 0 (len.den ρ).I.toNat):=iq hp hf h2
      have hqa:ah q=some (.it mb ((t.den ρ).R.map (qC mk)).length 0):=by
       rw [ha _ _ h3];simp [SB.den,Tm.den,D.I,mF]
      refine ak7 (es:=(t.den ρ).R.map (qC mk)) (rs:=(d.den ρ).R) hmo (fun t ht=>by rw [hN];exact Nat.le_of_ble_eq_true (g2 t ht)) g3 g4 (bne g5) (bne g6) hq hqa (ha _ _ h5) hD (ha _ _ h4) k1 hT hTB k2 (bne g7) (bne g8) (bne g9) ?_
      intro fr' rs' hl hfr hrl hrs
      refine ⟨_,rfl,GX.of (fun t e he=>?_) (fun b k hk=>?_) (hl.trans hN) (Nat.le_refl _)⟩
      .obtain ⟨h6,h7⟩:=SX he
       rw [hfr t h6];exact hf t e h7
      .rcases Tr.oH _ _ _ _ _ _ hk with ⟨rfl,h6⟩|⟨hne,h6⟩
       .simp only [Option.some.injEq] at h6;subst h6
        rw [pX rfl]
        have:rs'=(Tm.den ρ (.var nv [])).R:=by
         apply List.ext_getElem?
         intro i
         by_cases hi:i<(d.den ρ).R.length
         .rw [hrs i hi,k4 i hi]
         .rw [List.getElem?_eq_none (by omega),List.getElem?_eq_none (by omega)]
        rw [this];rfl
       .rw [awI hne]
        rcases Tr.oH _ _ _ _ _ _ h6 with ⟨_,h7⟩|⟨hne2,h7⟩
        .cases h7
        .rw [awI hne2];exact ha _ _ h7
     .cases h
   .cases h
  .cases h
 .cases h
theorem og {G:Cfg}{F:y8}(hm:P.follows .mixedOrders=true)(hX:∀σ:List AV,iC σ=true->n_ P σ G.X)(hI:∀σ:List AV,iC σ=true->nN P σ G.inl):∀{n:Nat} {c:Code} {ρ:List AV},iC ρ=true->KOk P ρ F.N (fun pc st nv=>sU P G F n pc st nv c) fun fr ah nx Q=>AW P c fr ah nx Q
 |0,c,ρ,hρ=>fun pc st nv x h=>by simp [sU] at h
 |n+1,c,ρ,hρ=>fun pc st nv x h hp hs ha fr ah nx hst=>by
  unfold sU at h
  dsimp only at h
  split at h
  .simp only [Option.some.injEq] at h;subst h;exact Xf ⟨st,rfl,hst⟩
  .simp only [Option.some.injEq] at h;subst h;exact akC ⟨st,rfl,hst⟩
  .simp only [Option.some.injEq] at h;subst h;exact Rj ⟨st,rfl,hst⟩
  .exact alg hm hρ (hX ρ hρ) (hI ρ hρ) h hp hs hst
  .split at h
   .cases h
   .rename_i x1 hx1
    split at h
    .cases h
    .rename_i y hy
     simp only [Option.some.injEq] at h;subst h
     refine wB (AW.mono (og hm hX hI hρ _ _ _ _ hx1 hp (lY hs) (VX ha) fr ah nx hst) fun e fr ah nx hsel=>?_)
     have:=Ir (A:=fun fr ah nx Q=>AW P _ fr ah nx Q) (fun _ _ _ _ _ hQ h=>AW.mono h hQ) (fun _ _ _ _ h=>sV h) (og hm hX hI hρ) hy hp (oI hs) (VY ha) e fr ah nx hsel
     exact KY (fun fr ah nx h=>AW.mono h fun _ _ _ _ h=>wQ h) (fun _ _ _ _ h=>wQ h) _ _ _ _ this
  .split at h
   .rename_i t ht
    refine SN hst fun EI nR hf hah hN=>?_
    have hev:=iq hp hf ht
    have alh:GX ρ F.N st EI nR st.nx:=GX.of hf hah hN (Nat.le_refl _)
    refine Xg (t.den ρ).B hev ?_
    split at h
    .rename_i hk
     rw [if_pos (Pc.fZ hp hk)]
     exact og hm hX hI hρ _ _ _ _ h hp hs ha EI nR _ alh
    .rename_i hk
     rw [if_neg (by rw [Pc.fZ hp hk];simp)]
     exact og hm hX hI hρ _ _ _ _ h hp hs ha EI nR _ alh
    .split at h
     .cases h
     .rename_i x1 hx1
      split at h
      .cases h
      .rename_i y hy
       simp only [Option.some.injEq] at h;subst h
       have n1:=sV hx1
       have n2:=sV hy
       cases hb:(t.den ρ).B
       .rw [if_neg (by simp)]
        refine AW.mono (og hm hX hI hρ _ _ _ _ hy (fP hb hp) (oI hs) (VY ha) EI nR _ alh) fun e fr ah nx ⟨st',q1,q2⟩=>wQ ⟨st',?_,q2⟩
        rw [ad6 n1 n2,hb];simpa using q1
       .rw [if_pos rfl]
        refine AW.mono (og hm hX hI hρ _ _ _ _ hx1 (fP hb hp) (lY hs) (VX ha) EI nR _ alh) fun e fr ah nx ⟨st',q1,q2⟩=>wQ ⟨st',?_,q2⟩
        rw [ad6 n1 n2,hb];simpa using q1
   .cases h
  .rename_i id b
   split at h
   .rename_i c' hh hmm
    split at h
    .cases h
    .rename_i ent hent
     split at h
     .cases h
     .rename_i x1 hx1
      split at h
      .rename_i outs y r hcls hxs
       simp only [Option.some.injEq] at h;subst h
       obtain ⟨rfl,-⟩:=af8 hmm
       refine af9 hρ hp hent hcls (fun s hm=>hs (pc,s) (List.mem_map.2 ⟨s,hm,rfl⟩) hp) (fun x hx=>List.mem_append_right _ hx) (fun σ hσ h1 h2 h3 fr ah nx h4=>og hm hX hI hσ _ _ _ _ hx1 h1 (lY h2) h3 fr ah nx h4) ?_ rfl hst
       exact ha.1
      .cases h
   .split at h
    .rename_i y hy
     simp only [Option.some.injEq] at h;subst h
     exact aiK hp hs hst hy
    .split at h
     .cases h
     rename_i y hy
     simp only [Option.some.injEq] at h;subst h
     refine YS (AW.mono (og hm hX hI hρ _ _ _ _ hy hp hs ha fr ah nx hst) fun e fr ah nx hsel=>?_)
     have:=FH.leave (id:=id) hsel
     cases e with
     |exit j=>
      simp only [AIn] at this ⊢
      split
      .rename_i hj;rw [if_pos hj] at this;exact wQ this
      .rename_i hj;rw [if_neg hj] at this;exact wQ this
     |_=>exact wQ this
  .simp only [Option.some.injEq] at h;subst h;exact ahl ⟨st,rfl,hst⟩
  .simp only [Option.some.injEq] at h;subst h;exact akD ⟨st,rfl,hst⟩
  .split at h
   .cases h
   .rename_i x1 hx1
    split at h
    .cases h
    .rename_i y hy
     simp only [Option.some.injEq] at h;subst h
     refine ahm (Ph (AW.mono (og hm hX hI hρ _ _ _ _ hx1 hp (lY hs) (VX ha) fr ah nx hst) fun e fr ah nx hsel=>?_))
     have key:=aef (fun c=>og hm hX hI hρ) (fun _ _ _ _ _ h=>sV h) hy hp (oI hs) (VY ha) e fr ah nx hsel
     cases e with
     |goto m=>
      simp only [afn] at key ⊢
      split
      .rename_i r hr;rw [hr] at key;exact Az.mono key fun e fr ah nx h=>wQ h
      .rename_i hr;rw [hr] at key;exact wQ key
     |_=>exact wQ key
  .exact aga (ZW (og hm hX hI hρ) _ _ _ _ h hp hs ha fr ah nx hst)
  .cases h
end
end Go.Fw
end
section
namespace Go.Fw
variable [jK]
def AU : Nat->List SV->Tr oQ
 |_,[]=>.e
 |i,a::r=>(AU (i+1) r).upd xM i (some ⟨[],a⟩)
def acw (P:Program)(pc:Pc)(st:rU):Nat->List ResultVar->Option (List SV×Nat×List Side)
 |nv,[]=>some ([],nv,[])
 |nv,.tmp t::r=>match zG pc st.fr (.tmp t) with
  |none=>none
  |some v=>match acw P pc st nv r with
   |none=>none
   |some (l,uj,sd)=>some (v::l,uj,sd)
 |nv,.cell t ty::r=>match zG pc st.fr (.tmp t) with
  |none=>none
  |some p=>match adP P pc st.ah nv ty p with
   |none=>none
   |some x=>match acw P pc st x.nv r with
    |none=>none
    |some (l,uj,sd)=>some (x.v::l,uj,x.sd++sd)
def aqp : List SV->SV
 |[a]=>a
 |l=>.eG l
def Iw : Exit->Bool | .normal | .ret=>true|_=>false
structure Lf where
 v:SV
 th:Tr SB
 nx:Nat
 nv:Nat
 sd:List (Pc×Side)
def Iy (P:Program)(rs:List ResultVar)(pc:Pc)(nv:Nat)(o:Out):Option Lf:=
 bif Iw o.e then
  match acw P pc o.st nv rs with
  |none=>none
  |some (l,uj,sd)=>some ⟨aqp l,o.st.ah,o.st.nx,uj,tag pc sd []⟩
 else none
structure EQ where
 outs:List (Tm×CO)
 nv:Nat
 sd:List (Pc×Side)
def ali (low:Nat)(g:Tm)(c d:CO):Option CO:=
 match afZ g c.v d.v with
 |none=>none
 |some v=>
  let th:=Tr.mrg (Zr g) c.th d.th
  bif air low v.E_ c.th d.th th then none else some ⟨v,th,Nat.max c.nx d.nx⟩
def agb (low:Nat)(g:Tm)(c:CO):List (Tm×CO)->List (Tm×CO)
 |[]=>[(g,c)]
 |x::r=>match ali low g c x.2 with
  |some m=>(axQ g x.1,m)::r
  |none=>(g,c)::x::r
def J3 (P:Program)(low:Nat)(rs:List ResultVar):Pc->Nat->List Out->Option EQ
 |_,_,[]=>none
 |pc,nv,[o]=>match Iy P rs pc nv o with
  |none=>none
  |some x=>some ⟨[(.lb true,⟨x.v,x.th,x.nx⟩)],x.nv,x.sd⟩
 |pc,nv,o::o'::r=>match Iy P rs (jl o.g true pc) nv o with
  |none=>none
  |some x=>match J3 P low rs (jl o.g false pc) x.nv (o'::r) with
   |none=>none
   |some y=>some ⟨agb low o.g ⟨x.v,x.th,x.nx⟩ y.outs,y.nv,x.sd++y.sd⟩
def oh (fn:Func):Bool:=decide (fn.name≠ "runtime.NumGoroutine")
abbrev Md :=FuncId->Nat
def is2 (md:Md):FuncId->Bool:=fun f=>Nat.beq (md f) 2
def aiL (P:Program)(I0:DX)(L:pG×DX)(md:Md)(FC:FuncId->y8)(tV CF:Nat):DX:=fun pc th nx nv f args=>
 match I0 pc th nx nv f args with
 |some R=>some R
 |none=>
  match P.funcs[f]? with
  |none=>none
  |some fn=>match fn.body with
   |none=>none
   |some c=>bif oh fn&&Nat.ble args.length fn.ntmps then
     match sU P ⟨L.1,is2 md,L.2,tV⟩ {FC f with N:=fn.ntmps,keep:=⟨(FC f).keep.ks,nx⟩} CF pc ⟨AU 0 args,th,nx⟩ nv c with
     |none=>none
     |some x=>bif x.aw.isEmpty then
       match J3 P nx fn.results.toList pc x.nv x.outs with
       |none=>none
       |some y=>some ⟨y.outs,y.nv,x.sd++y.sd⟩
      else none
    else none
def vI (g:Tm):List Out->Tm
 |[]=>.lb true
 |_::_=>g
def Iz (P:Program)(rs:List ResultVar):Pc->Nat->List Out->Option (List (Tm×SV)×Nat×List (Pc×Side))
 |_,nv,[]=>some ([],nv,[])
 |pc,nv,o::r=>match Iy P rs (jl (vI o.g r) true pc) nv o with
  |none=>none
  |some x=>match (Fj x.th x.nv x.v).1.lV (thN x.th awT) with
   |none=>none
   |some v=>match Iz P rs (jl o.g false pc) (Fj x.th x.nv x.v).2.1 r with
    |none=>none
    |some (l,uj,sd)=>some ((o.g,v.nrm)::l,uj,(x.sd++tag (jl (vI o.g r) true pc) (Fj x.th x.nv x.v).2.2 [])++sd)
def agc : List (Tm×SV)->Option SV
 |[]=>none
 |[x]=>some x.2
 |x::y::r=>match agc (y::r) with
  |none=>none
  |some v=>afZ x.1 x.2 v
 mutual
def SV.lit : SV->Bool
  | .sc _ t=>(match t with | .lb _ | .li _ | .lf _ | .ls _ | .nl=>true|_=>false)
  | .c _ | .nil | .mp _=>true
  | .sf t=>(match t with | .nl=>true|_=>false)
  | .agg l | .eG l=>ZX l
  | .slc r _=>amV r
  | .vp r _=>ZX r
  | .fn _ x y=>ZX x&&ZX y
  | .lT _ v=>v.lit
  | .os _ _ _ t=>(match t with | .li _=>true|_=>false)
  | .op _ _ t _=>(match t with | .li _=>true|_=>false)
def ZX : List SV->Bool
  |[]=>true
  |x::r=>x.lit&&ZX r
def amV : List (List SV)->Bool
  |[]=>true
  |x::r=>ZX x&&amV r
end
 mutual
def SV.KZ (th:Tr SB):SV->Bool
  | .sc .sl _=>false
  | .sc _ _=>true
  | .c _ | .nil=>true
  | .agg l | .eG l=>aeg th l
  | .lT _ v=>v.KZ th
  | .slc [] _=>true
  | .os b _ _ _=>match th.get b with|some (.rows _ rs)=>rs.all abW|_=>false
  |_=>false
def aeg (th:Tr SB):List SV->Bool
  |[]=>true
  |x::r=>x.KZ th&&aeg th r
end
def zK (P:Program)(rs:List ResultVar):Pc->Nat->List Out->Bool
 |_,_,[]=>true
 |pc,nv,o::r=>match Iy P rs (jl (vI o.g r) true pc) nv o with
  |none=>false
  |some x=>x.v.KZ x.th&&zK P rs (jl o.g false pc) (Fj x.th x.nv x.v).2.1 r
def acy (P:Program)(X0:pG)(L:pG×DX)(md:Md)(FC:FuncId->y8)(tV CF:Nat):pG:=fun pc nv f args=>
 bif Nat.beq (md f) 1||(Nat.beq (md f) 3&&ZX args) then
  match P.funcs[f]? with
  |none=>none
  |some fn=>match fn.body with
   |none=>none
   |some c=>bif oh fn&&Nat.ble args.length fn.ntmps then
     match sU P ⟨L.1,is2 md,L.2,tV⟩ {FC f with N:=fn.ntmps} CF pc ⟨AU 0 args,.e,0⟩ nv c with
     |none=>none
     |some x=>bif x.aw.isEmpty then
       match Iz P fn.results.toList pc x.nv x.outs with
       |none=>none
       |some (l,uj,sd)=>match agc l with
        |none=>none
        |some v=>some (v,uj,x.sd++sd,zK P fn.results.toList pc x.nv x.outs)
      else none
    else none
 else X0 pc nv f args
def ML (P:Program)(X0:pG)(I0:DX)(md:Md)(FC:FuncId->y8)(tV CF:Nat):Nat->pG×DX
 |0=>(X0,I0)
 |n+1=>(acy P X0 (ML P X0 I0 md FC tV CF n) md FC tV CF,aiL P I0 (ML P X0 I0 md FC tV CF n) md FC tV CF)
section
variable {P : Program} {ρ:List AV} {N:Nat}
theorem ND.canon {base:Nat}{w:World}{E:Env}{fr:lH}{ah:AH}{nx:Nat}{a:Act}{st:rU}(hs:GX ρ N st fr ah nx)(jc:ND base w E fr ah nx a) :
  ∃EI,Vt ρ st.fr EI/\EJ ρ st.ah (h_ ρ st.ah)/\EI.length=N/\ND base w E EI (h_ ρ st.ah) st.nx a:=by
 have hf:Vt ρ st.fr (SL ρ N st.fr):=by
  intro t e he
  obtain ⟨a,ha,-⟩:=hs.fr t e he
  have:=BN ha
  rw [hs.len] at this
  rw [Af,if_pos this,he];rfl
 have ha:EJ ρ st.ah (h_ ρ st.ah):=fun b k hk=>by unfold h_;rw [hk];rfl
 refine ⟨_,hf,ha,by simp [SL],⟨fun b k hb=>?_,fun b b' k k' c o c' o' hne h1 h2=>?_,fun b hb=>jc.heap.fresh b (b_ hs.nx hb),jc.heap.jT,jc.heap.bs,jc.heap.jW⟩,⟨?_,fun i x hx=>?_,jc.fr.Ku⟩,jc.defers⟩
 .unfold h_ at hb
  simp only [aB] at hb
  obtain ⟨k1,hk1,rfl⟩:=hb
  obtain ⟨k0,h0,hw⟩:=hs.ah b k1 hk1
  exact hw _ _ _ _ (jc.heap.blk b k0 h0)
 .unfold h_ at h1 h2
  simp only [aB] at h1 h2
  obtain ⟨k1,hk1,rfl⟩:=h1
  obtain ⟨k2,hk2,rfl⟩:=h2
  obtain ⟨j1,q1,-⟩:=hs.ah b k1 hk1
  obtain ⟨j2,q2,-⟩:=hs.ah b' k2 hk2
  exact jc.heap.sep b b' j1 j2 c o c' o' hne q1 q2
 .have:=jc.fr.size
  rw [hs.len] at this
  simpa [SL] using this
 .rw [Af] at hx
  split at hx
  .simp only [aB] at hx
   obtain ⟨e,he,rfl⟩:=hx
   obtain ⟨y,hy,hw⟩:=hs.fr i e he
   obtain ⟨v,hv,hr⟩:=jc.fr.get i y hy
   exact ⟨v,hv,hw _ _ _ hr⟩
  .cases hx
theorem XO {pc:Pc}{st:rU}{fr:lH}{ah:AH}(hp:pc.holds ρ)(hf:Vt ρ st.fr fr)(ha:EJ ρ st.ah ah):∀{l:List ResultVar} {nv uj:Nat} {vs:List SV} {sd:List Side},acw P pc st nv l=some (vs,uj,sd)->(∀s∈sd,s.holds P ρ)->
  ∀{k:List AV->Prop},k (dN ρ vs)->DJ P fr ah l k
 |[],nv,uj,vs,sd,h,hs,k,hk=>by
  simp only [acw,au,aN] at h
  obtain ⟨rfl,rfl,rfl⟩:=h
  exact hk
 | .tmp t::r,nv,uj,vs,sd,h,hs,k,hk=>by
  simp only [acw] at h
  split at h
  .cases h
  .rename_i v hv
   split at h
   .cases h
   .rename_i l nv1 sd1 hl
    simp only [au,aN] at h
    obtain ⟨rfl,rfl,rfl⟩:=h
    exact dG.2 ⟨_,iq hp hf hv,XO hp hf ha hl hs hk⟩
 | .cell t ty::r,nv,uj,vs,sd,h,hs,k,hk=>by
  simp only [acw] at h
  split at h
  .cases h
  .rename_i p hv
   split at h
   .cases h
   .rename_i x hx
    split at h
    .cases h
    .rename_i l nv1 sd1 hl
     simp only [au,aN] at h
     obtain ⟨rfl,rfl,rfl⟩:=h
     exact dG.2 ⟨_,iq hp hf hv,Y7 ha hx (fun s hm=>hs s (by simp [hm])) (XO hp hf ha hl (fun s hm=>hs s (by simp [hm])) hk)⟩
theorem aiM {l:List SV}:one (dN ρ l)=(aqp l).den ρ:=by
 match l with
 |[]=>rfl
 |[a]=>rfl
 |a::b::r=>rfl
def IB (P:Program)(fn:Func)(base:Nat)(w:World)(E:Env)(v:AV)(ah:AH)(nx:Nat)(a':Act)(w':World):Prop:=
 a'.defers=[]/\∃E' val,(results fn a'.tmps).run P w'=.ok val w'/\Rep w' E' v val/\Step base w E w' E'/\dQ base w' E' ah (fun b=>nx<=b)
theorem IB.weak {fn:Func}{base:Nat}{w:World}{E:Env}{v v':AV}{ah fK:AH}{nx nx':Nat}{a':Act}{w':World}(h:IB P fn base w E v ah nx a' w')(hv:Weak v v')(hah:∀b k',fK b=some k'->∃k,ah b=some k/\pY k k')(hn:nx<=nx') :
  IB P fn base w E v' fK nx' a' w':=by
 obtain ⟨h0,E',val,h1,h2,h3,h4⟩:=h
 refine ⟨h0,E',val,h1,hv _ _ _ h2,h3,⟨fun b k hb=>?_,fun b b' k k' c o c' o' hne q1 q2=>?_,fun b hb=>h4.fresh b (b_ hn hb),h4.jT,h4.bs,h4.jW⟩⟩
 .obtain ⟨k0,q,hw⟩:=hah b k hb;exact hw _ _ _ _ (h4.blk b k0 q)
 .obtain ⟨j1,e1,-⟩:=hah b k q1
  obtain ⟨j2,e2,-⟩:=hah b' k' q2
  exact h4.sep b b' j1 j2 c o c' o' hne e1 e2
theorem acz (fn:Func)(tmps:Array Value):results fn tmps=(do
  let vs <- fn.results.mapM (Pj tmps)
  pure (if h:vs.size=1 then vs[0] else .tuple vs)):=by
 unfold results
 congr 1
theorem y9 {fn:Func}{pc:Pc}{nv:Nat}{o:Out}{x:Lf}(h:Iy P fn.results.toList pc nv o=some x)(hp:pc.holds ρ)(hs:iW P ρ x.sd){base:Nat}{w w':World}{E E':Env}{fr:lH}{ah:AH}{nx:Nat}{a':Act}
  (hst:GX ρ N o.st fr ah nx) (jc:ND base w' E' fr ah nx a') (hstep:Step base w E w' E'):Iw o.e=true/\IB P fn base w E (x.v.den ρ) (h_ ρ x.th) x.nx a' w':=by
 unfold Iy at h
 cases he:Iw o.e
 .simp [he] at h
 .simp only [he,cond_true] at h
  split at h
  .cases h
  .rename_i l uj sd hl
   simp only [au] at h;subst h
   refine ⟨rfl,?_⟩
   obtain ⟨EI,hf,hah,hN,aiN⟩:=ND.canon hst jc
   have hres:=XO (P:=P) hp hf hah hl ((Fp hs).1 hp) (k:=fun az=>az=dN ρ l) rfl
   obtain ⟨az,vs',rfl,hrun,hrep⟩:=tK aiN hres
   refine ⟨aiN.defers,E',(if h:vs'.toArray.size=1 then vs'.toArray[0] else .tuple vs'.toArray),?_,?_,hstep,aiN.heap⟩
   .rw [acz,Array.mapM_eq_mapM_toList,Sem.run_bind,Sem.run_map,hrun]
    rfl
   .have:=Xh hrep
    rw [aiM] at this
    exact this
theorem aiO {g:Tm}{x y:Tr SB}:∀b k',h_ ρ (Tr.mrg (Zr g) x y) b=some k'->(bif (g.den ρ).B then (∃k,h_ ρ x b=some k/\pY k k') else (∃k,h_ ρ y b=some k/\pY k k'))=True:=by
 intro b k' h
 unfold h_ at h
 simp only [aB] at h
 obtain ⟨z,hz,rfl⟩:=h
 obtain ⟨u,v,h1,h2,h3⟩:=Tr.FD hz
 have:=KW (ρ:=ρ) h3
 cases hg:(g.den ρ).B
 .rw [hg] at this
  simp only [cond_false,eq_iff_iff,iff_true]
  exact ⟨_,by unfold h_;rw [h2];rfl,this⟩
 .rw [hg] at this
  simp only [cond_true,eq_iff_iff,iff_true]
  exact ⟨_,by unfold h_;rw [h1];rfl,this⟩
theorem alj {low:Nat}{g:Tm}{c d m:CO}(h:ali low g c d=some m){fn:Func}{base:Nat}{w w':World}{E:Env}{a':Act}
  (hq:bif (g.den ρ).B then IB P fn base w E (c.v.den ρ) (h_ ρ c.th) c.nx a' w' else IB P fn base w E (d.v.den ρ) (h_ ρ d.th) d.nx a' w'):IB P fn base w E (m.v.den ρ) (h_ ρ m.th) m.nx a' w':=by
 unfold ali at h
 split at h
 .cases h
 .rename_i v hv
  dsimp only at h
  generalize (air low v.E_ c.th d.th _)=q at h
  cases q
  .simp only [cond_false,au] at h;subst h
   have hw:=(Qq (ρ:=ρ) hv).1
   have hm:=aiO (ρ:=ρ) (g:=g) (x:=c.th) (y:=d.th)
   cases hg:(g.den ρ).B
   .rw [hg] at hq hw hm
    exact IB.weak hq hw (fun b k' hk=>of_eq_true (hm b k' hk)) (Nat.le_max_right _ _)
   .rw [hg] at hq hw hm
    exact IB.weak hq hw (fun b k' hk=>of_eq_true (hm b k' hk)) (Nat.le_max_left _ _)
  .cases h
theorem aeh {low:Nat}{g:Tm}{c:CO}{l:List (Tm×CO)}(hl:l≠[]){fn:Func}{base:Nat}{w w':World}{E:Env}{a':Act}
  (hq:bif (g.den ρ).B then IB P fn base w E (c.v.den ρ) (h_ ρ c.th) c.nx a' w' else ∃d,rF ρ l=some d/\IB P fn base w E (d.v.den ρ) (h_ ρ d.th) d.nx a' w') :
  ∃d,rF ρ (agb low g c l)=some d/\IB P fn base w E (d.v.den ρ) (h_ ρ d.th) d.nx a' w':=by
 match l,hl with
 |x::r,_=>
  simp only [agb]
  cases hm:ali low g c x.2 with
  |none=>
   dsimp only
   simp only [rF]
   cases hg:(g.den ρ).B
   .rw [hg] at hq;exact hq
   .rw [hg] at hq;exact ⟨_,rfl,hq⟩
  |some m=>
   dsimp only
   have hmk:=fun h=>alj (P:=P) (ρ:=ρ) hm (fn:=fn) (base:=base) (w:=w) (w':=w') (E:=E) (a':=a') h
   cases hg:(g.den ρ).B
   .rw [hg] at hq hmk
    simp only [cond_false] at hq hmk
    obtain ⟨d,h1,h2⟩:=hq
    cases r with
    |nil=>
     simp only [rF,au] at h1;subst h1
     exact ⟨m,rfl,hmk h2⟩
    |cons y r=>
     simp only [rF,HY,hg,Bool.false_or] at h1 ⊢
     cases hx:(x.1.den ρ).B
     .rw [hx] at h1;exact ⟨d,h1,h2⟩
     .rw [hx] at h1
      simp only [cond_true,au] at h1;subst h1
      exact ⟨m,rfl,hmk h2⟩
   .rw [hg] at hq hmk
    simp only [cond_true] at hq hmk
    cases r with
    |nil=>exact ⟨m,rfl,hmk hq⟩
    |cons y r=>exact ⟨m,by simp only [rF,HY,hg,Bool.true_or,cond_true],hmk hq⟩
theorem alk {low:Nat}{g:Tm}{c:CO}{l:List (Tm×CO)}:agb low g c l≠[]:=by
 cases l with
 |nil=>simp [agb]
 |cons x r=>simp only [agb];split<;>simp
theorem aiP {low:Nat}{rs:List ResultVar}:∀{l:List Out} {pc:Pc} {nv:Nat} {x:EQ},J3 P low rs pc nv l=some x->x.outs≠[]
 |[],pc,nv,x,h=>by simp [J3] at h
 |[o],pc,nv,x,h=>by
  simp only [J3] at h
  split at h
  .cases h
  .simp only [au] at h;subst h;simp
 |o::o'::r,pc,nv,x,h=>by
  simp only [J3] at h
  split at h
  .cases h
  .split at h
   .cases h
   .simp only [au] at h;subst h;exact alk
theorem ZY {fn:Func}{low:Nat}:∀{l:List Out} {pc:Pc} {nv:Nat} {x:EQ},J3 P low fn.results.toList pc nv l=some x->pc.holds ρ->iW P ρ x.sd->∀{base:Nat} {w w':World} {E E':Env} {fr:lH} {ah:AH} {nx:Nat} {a':Act} {e:Exit},
  FH ρ N l e fr ah nx->ND base w' E' fr ah nx a'->Step base w E w' E'->Iw e=true/\∃d,rF ρ x.outs=some d/\IB P fn base w E (d.v.den ρ) (h_ ρ d.th) d.nx a' w'
 |[],pc,nv,x,h,_,_,_,_,_,_,_,_,_,_,_,_,_,_,_=>by simp [J3] at h
 |[o],pc,nv,x,h,hp,hs,base,w,w',E,E',fr,ah,nx,a',e,hsel,jc,hstep=>by
  obtain ⟨st,h1,h2⟩:=hsel
  simp only [sel,au,aN] at h1
  obtain ⟨rfl,rfl⟩:=h1
  simp only [J3] at h
  split at h
  .cases h
  .rename_i y hy
   simp only [au] at h;subst h
   obtain ⟨q1,q2⟩:=y9 (P:=P) hy hp hs h2 jc hstep
   exact ⟨q1,_,rfl,q2⟩
 |o::o'::r,pc,nv,x,h,hp,hs,base,w,w',E,E',fr,ah,nx,a',e,hsel,jc,hstep=>by
  obtain ⟨st,h1,h2⟩:=hsel
  simp only [sel] at h1
  simp only [J3] at h
  split at h
  .cases h
  .rename_i y hy
   split at h
   .cases h
   .rename_i z hz
    simp only [au] at h;subst h
    have hzn:=aiP hz
    cases hg:(o.g.den ρ).B
    .rw [hg] at h1
     obtain ⟨q1,q2⟩:=ZY hz (fP hg hp) (oI hs) ⟨st,h1,h2⟩ jc hstep
     exact ⟨q1,aeh (P:=P) hzn (by rw [hg];exact q2)⟩
    .rw [hg] at h1
     simp only [cond_true,au,aN] at h1
     obtain ⟨rfl,rfl⟩:=h1
     obtain ⟨q1,q2⟩:=y9 (P:=P) hy (fP hg hp) (lY hs) h2 jc hstep
     exact ⟨q1,aeh (P:=P) hzn (by rw [hg];exact q2)⟩
theorem V3 : ∀{l:List SV} {i t:Nat} {e:oQ},(AU i l).get t=some e->∃j a,t=i+j/\l[j]?=some a/\e=⟨[],a⟩
 |[],i,t,e,h=>by simp [AU,Tr.get] at h
 |a::r,i,t,e,h=>by
  simp only [AU] at h
  rcases Tr.oH _ _ _ _ _ _ h with ⟨rfl,h1⟩|⟨-,h1⟩
  .simp only [au] at h1;exact ⟨0,a,rfl,rfl,h1.symm⟩
  .obtain ⟨j,b,rfl,h2,h3⟩:=V3 h1
   exact ⟨j+1,b,by omega,by simpa using h2,h3⟩
theorem Jo : ∀(l:List AV) (m i:Nat),iP (l.map some++List.replicate m none) i=l[i]?
 |[],0,i=>by simp [iP]
 |[],m+1,0=>by simp [List.replicate_succ,iP]
 |[],m+1,i+1=>by
  have:=Jo [] m i
  simp only [List.map_nil,List.nil_append,List.replicate_succ,iP] at this ⊢
  rw [this];simp
 |a::l,m,0=>by simp [iP]
 |a::l,m,i+1=>by
  have:=Jo l m i
  simp only [aZ,bZ,iP] at this ⊢
  rw [this];simp
def AX (N:Nat)(l:List AV):lH:=l.map some++List.replicate (N-l.length) none
theorem MN {l:List SV}:Vt ρ (AU 0 l) (AX N (dN ρ l)):=by
 intro t e he
 obtain ⟨j,a,rfl,h1,rfl⟩:=V3 he
 rw [AX,Jo,mY,bT]
 simp [h1,oQ.den]
theorem zM {l:List AV}(h:l.length<=N):(AX N l).length=N:=by simp [AX];omega
theorem Jp {w:World}{E:Env}{l:List AV}{vs:List Value}(hG:GOk w E.fix)(h:gK w E l vs)(hN:l.length<=N):uQ w E (AX N l) (vs.toArray++Array.replicate (N-vs.toArray.size) undef):=by
 refine ⟨?_,fun i x hx=>?_,hG⟩
 .simp [AX,h.1]
 .rw [AX,Jo] at hx
  have hi:=(aC.1 hx).1
  have hvl:i<vs.length:=by rw [<- h.1];exact hi
  refine ⟨vs[i],?_,h.2 i x _ hx (by simp [hvl])⟩
  rw [Array.getElem?_append_left (by simpa using hvl)]
  simp [hvl]
theorem aiQ {I0:DX}{L:pG×DX}{md:Md}{FC:FuncId->y8}{tV CF:Nat}(hm:P.follows .mixedOrders=true)(h0:∀σ:List AV,iC σ=true->nN P σ I0)(hX:∀σ:List AV,iC σ=true->n_ P σ L.1)(hI:∀σ:List AV,iC σ=true->nN P σ L.2)(hρ:iC ρ=true) :
 nN P ρ (aiL P I0 L md FC tV CF):=fun pc th nx nv f args R h hp hs base w E ah vs hah hh hG hrep o a he next Q hnext=>by
 simp only [aiL] at h
 split at h
 .rename_i R0 hR0
  simp only [au] at h;subst h
  exact h0 ρ hρ _ _ _ _ _ _ _ hR0 hp hs _ _ _ _ _ hah hh hG hrep o a he next Q hnext
 split at h
 .cases h
 .rename_i fn hfn
  split at h
  .cases h
  .rename_i c hc
   cases hg:oh fn&&Nat.ble args.length fn.ntmps
   .simp [hg] at h
   .simp only [hg,cond_true] at h
    simp only [ay] at hg
    have hname:fn.name≠ "runtime.NumGoroutine" :=by simpa [oh] using hg.1
    have hlen:=aG hg.2
    split at h
    .cases h
    .rename_i x hx
     cases haw:x.aw.isEmpty
     .simp [haw] at h
     .simp only [haw,cond_true] at h
      split at h
      .cases h
      .rename_i y hy
       simp only [au] at h;subst h
       have aiR:Oq P ρ x.aw:=by
        have:x.aw=[]:=by simpa using haw
        rw [this];exact trivial
       have hlenA:(dN ρ args).length<=fn.ntmps:=by rw [fM];exact hlen
       have hst:GX ρ fn.ntmps ⟨AU 0 args,th,nx⟩ (AX fn.ntmps (dN ρ args)) ah nx:=GX.of MN hah (zM hlenA) (dF _)
       have acA:=og (G:=⟨L.1,is2 md,L.2,tV⟩) (F:={FC f with N:=fn.ntmps,keep:=⟨(FC f).keep.ks,nx⟩}) hm hX hI hρ _ _ _ _ hx hp (lY hs) aiR _ _ _ hst
       have jc:ND base w E (AX fn.ntmps (dN ρ args)) ah nx {tmps:=vs.toArray++Array.replicate (fn.ntmps-vs.toArray.size) undef,defers:=[]}:=
        ⟨hh,Jp hG hrep hlenA,rfl⟩
       have hcall:(callFunc f vs.toArray).run P w=.ok (.enter f vs.toArray) w:=by
        have e1:(fn.name == "runtime.NumGoroutine")=false:=by simpa using hname
        have e2:fn.body.isNone=false:=by rw [hc];rfl
        simp only [callFunc,Sem.run_bind,run_program,Result.andThen_ok,hfn,e1,aU,if_false,e2,Sem.run_pure]
       unfold Oper.wp
       rw [he,hcall]
       have aok:Calls P f vs.toArray w fun e w'=>∃d v E',rF ρ y.outs=some d/\e=.returned v/\Step base w E w' E'/\dQ base w' E' (h_ ρ d.th) (fun b=>d.nx<=b)/\Rep w' E' (d.v.den ρ) v:=by
        refine calls_of_wp hfn hc (wp_mono (acA base w E _ jc) fun e a' w' hp'=>?_)
        obtain ⟨E',fr',fK,nx',hsel,Tf,hstep⟩:=hp'
        obtain ⟨q1,d,hd,q2⟩:=ZY (P:=P) (fn:=fn) hy hp (oI hs) hsel Tf hstep
        obtain ⟨h0,E2,val,h1,h2,h3,h4⟩:=q2
        have fin:a'.defers=[]/\∃v,(results fn a'.tmps).run P w'=.ok v w'/\∃d u E',rF ρ y.outs=some d/\Ending.returned v=.returned u/\Step base w E w' E'/\dQ base w' E' (h_ ρ d.th) (fun b=>d.nx<=b)/\Rep w' E' (d.v.den ρ) u:=
         ⟨h0,val,h1,d,val,E2,hd,rfl,h3,h4,h2⟩
        cases e<;>first|exact fin|(simp [Iw] at q1)
       refine aok.mono fun e w' hq=>?_
       obtain ⟨d,v,E',hd,rfl,q1,q2,q3⟩:=hq
       exact hnext d hd v w' E' (h_ ρ d.th) (fun b k hk=>by unfold h_;rw [hk];rfl) q1 q2 q3
 mutual
theorem MO (hρ:iC ρ=true){th:Tr SB}:∀{x:SV},x.KZ th=true->(x.den ρ).GI=true/\∀b∈(x.den ρ).refs,∀k,h_ ρ th b=some k->k.Gi=true
  | .sc k t,h=>by cases k<;>first|(simp [SV.KZ] at h;done)|exact ⟨rfl,fun b hb=>by cases hb⟩
  | .c v,_=>⟨rfl,fun b hb=>by cases hb⟩
  | .nil,_=>⟨rfl,fun b hb=>by cases hb⟩
  | .agg l,h=>by
   have:=Ov hρ (l:=l) (by simpa [SV.KZ] using h)
   exact ⟨by simpa [SV.den,AV.GI] using this.1,by simpa [SV.den,AV.refs] using this.2⟩
  | .eG l,h=>by
   have:=Ov hρ (l:=l) (by simpa [SV.KZ] using h)
   exact ⟨by simpa [SV.den,AV.GI] using this.1,by simpa [SV.den,AV.refs] using this.2⟩
  | .lT t v,h=>by
   have:=MO hρ (x:=v) (by simpa [SV.KZ] using h)
   exact ⟨by simpa [SV.den,AV.GI] using this.1,by simpa [SV.den,AV.refs] using this.2⟩
  | .slc [] f,_=>⟨rfl,fun b hb=>by cases hb⟩
  | .slc (x::r) f,h=>by simp [SV.KZ] at h
  | .os b sz off l,h=>by
   refine ⟨rfl,fun b' hb k hk=>?_⟩
   simp only [SV.den,AV.refs,bV] at hb
   subst hb
   simp only [SV.KZ] at h
   unfold h_ at hk
   simp only [aB] at hk
   obtain ⟨z,hz,rfl⟩:=hk
   rw [hz] at h
   cases z with
   |rows sz rs=>
    simp only [aH] at h
    simp only [SB.den,uz.Gi,lG,List.all_map,aH]
    intro row hr
    exact Ic (h row hr)
   |fE sz t=>cases h
   |map es=>cases h
   |zy m t=>cases h
   |it m n k=>cases h
   |jZ ty sz rs=>cases h
  | .sf t,h=>by simp [SV.KZ] at h
  | .vp row off,h=>by simp [SV.KZ] at h
  | .op b sz t off,h=>by simp [SV.KZ] at h
  | .fn f x y,h=>by simp [SV.KZ] at h
  | .mp b,h=>by simp [SV.KZ] at h
theorem Ov (hρ:iC ρ=true){th:Tr SB}:∀{l:List SV},aeg th l=true->O9 (dN ρ l)=true/\∀b∈lS (dN ρ l),∀k,h_ ρ th b=some k->k.Gi=true
  |[],_=>⟨rfl,fun b hb=>by cases hb⟩
  |x::r,h=>by
   simp only [aeg,ay] at h
   have h1:=MO hρ (x:=x) h.1
   have h2:=Ov hρ (l:=r) h.2
   refine ⟨by simp [dN,O9,h1.1,h2.1],fun b hb=>?_⟩
   simp only [dN,lS,aK] at hb
   rcases hb with hb|hb
   .exact h1.2 b hb
   .exact h2.2 b hb
end
def qy (ρ:List AV):List (Tm×SV)->AV
 |[]=>eu
 |[x]=>x.2.den ρ
 |x::y::r=>bif (x.1.den ρ).B then x.2.den ρ else qy ρ (y::r)
structure iL where
 rs:List (Tm×SV)
 sd:List (Pc×Side)
 aw:List Lo
theorem PG {rs:List ResultVar}{pc:Pc}{nv:Nat}{o:Out}{r:List Out}:Iz P rs pc nv (o::r)=(match Iy P rs (jl (vI o.g r) true pc) nv o with
 |none=>none
 |some x=>match (Fj x.th x.nv x.v).1.lV (thN x.th awT) with
  |none=>none
  |some v=>match Iz P rs (jl o.g false pc) (Fj x.th x.nv x.v).2.1 r with
   |none=>none
   |some (l,uj,sd)=>some ((o.g,v.nrm)::l,uj,(x.sd++tag (jl (vI o.g r) true pc) (Fj x.th x.nv x.v).2.2 [])++sd)):=rfl
theorem Z4 {fn:Func}(hρ:iC ρ=true):∀{l:List Out} {pc:Pc} {nv uj:Nat} {rs:List (Tm×SV)} {sd:List (Pc×Side)},Iz P fn.results.toList pc nv l=some (rs,uj,sd)->pc.holds ρ->iW P ρ sd->∀{base:Nat} {w w':World} {E E':Env} {fr:lH} {ah:AH} {nx:Nat} {a':Act} {e:Exit},
  FH ρ N l e fr ah nx->ND base w' E' fr ah nx a'->Step base w E w' E'->Iw e=true/\∃v v' fK nx',IB P fn base w E v fK nx' a' w'/\Go.Fw.lV (vZ fK awT) v=some v'/\Weak v' (qy ρ rs)/\(zK P fn.results.toList pc nv l=true->v.GI=true/\∀b∈v.refs,∀k,fK b=some k->k.Gi=true)
 |[],pc,nv,uj,rs,sd,h,hp,hs,base,w,w',E,E',fr,ah,nx,a',e,hsel,jc,hstep=>by
  obtain ⟨st,h1,-⟩:=hsel;cases h1
 |[o],pc,nv,uj,rs,sd,h,hp,hs,base,w,w',E,E',fr,ah,nx,a',e,hsel,jc,hstep=>by
  obtain ⟨st,h1,h2⟩:=hsel
  simp only [sel,au,aN] at h1
  obtain ⟨rfl,rfl⟩:=h1
  simp only [Iz,vI,jl] at h
  split at h
  .cases h
  .rename_i x hx
   split at h
   .cases h
   .rename_i v hv
    simp only [au,aN,cZ] at h
    obtain ⟨rfl,rfl,rfl⟩:=h
    obtain ⟨q1,q2⟩:=y9 (P:=P) hx hp (lY hs) h2 jc hstep
    have hpre:=(Fp (oI hs)).1 hp
    refine ⟨q1,_,_,_,_,q2,(RP (P:=P) hρ (fun b k hk=>by unfold h_;rw [hk];rfl) hpre).trans (L8 hρ (Fe hρ (fun b k hk=>by unfold h_;rw [hk];rfl) awT) hv),DU,fun hap=>?_⟩
    simp only [zK,vI,jl,hx,ay] at hap
    exact MO hρ hap.1
 |o::o'::r,pc,nv,uj,rs,sd,h,hp,hs,base,w,w',E,E',fr,ah,nx,a',e,hsel,jc,hstep=>by
  obtain ⟨st,h1,h2⟩:=hsel
  simp only [sel] at h1
  rw [PG] at h
  simp only [vI] at h
  split at h
  .cases h
  .rename_i x hx
   split at h
   .cases h
   .rename_i v hv
    split at h
    .cases h
    .rename_i l nv1 sd1 hl
     simp only [au,aN] at h
     obtain ⟨rfl,rfl,rfl⟩:=h
     have ZR:∃y s,l=y::s:=by
      rw [PG] at hl
      split at hl
      .cases hl
      .split at hl
       .cases hl
       .split at hl
        .cases hl
        .simp only [au,aN] at hl;exact ⟨_,_,hl.1.symm⟩
     cases hg:(o.g.den ρ).B
     .rw [hg] at h1
      obtain ⟨q1,v1,v2,a1,n1,q2,q3,q4,q5⟩:=Z4 hρ hl (fP hg hp) (oI hs) ⟨st,h1,h2⟩ jc hstep
      obtain ⟨y,s,rfl⟩:=ZR
      refine ⟨q1,v1,v2,a1,n1,q2,q3,by simpa [qy,hg] using q4,fun hap=>q5 ?_⟩
      rw [zK] at hap
      simp only [vI,hx,ay] at hap
      exact hap.2
     .rw [hg] at h1
      simp only [cond_true,au,aN] at h1
      obtain ⟨rfl,rfl⟩:=h1
      obtain ⟨q1,q2⟩:=y9 (P:=P) hx (fP hg hp) (lY (lY hs)) h2 jc hstep
      obtain ⟨y,s,rfl⟩:=ZR
      have hpre:=(Fp (oI (lY hs))).1 (fP hg hp)
      refine ⟨q1,_,_,_,_,q2,(RP (P:=P) hρ (fun b k hk=>by unfold h_;rw [hk];rfl) hpre).trans (L8 hρ (Fe hρ (fun b k hk=>by unfold h_;rw [hk];rfl) awT) hv),?_,fun hap=>?_⟩
      .simp only [qy,hg,cond_true]
       exact DU
      .rw [zK] at hap
       simp only [vI,hx,ay] at hap
       exact MO hρ hap.1
theorem V4 {L:pG×DX}{md:Md}{F:y8}{tV CF:Nat}(hm:P.follows .mixedOrders=true)(hX:∀σ:List AV,iC σ=true->n_ P σ L.1)(hI:∀σ:List AV,iC σ=true->nN P σ L.2)(hρ:iC ρ=true)
  {f:FuncId} {fn:Func} {c:Code} (hfn:P.funcs[f]?=some fn) (hc:fn.body=some c) {args:List SV} (hg:(oh fn&&Nat.ble args.length fn.ntmps)=true) {pc:Pc} {nv uj:Nat} {x:yC} (hp:pc.holds ρ)
  (hx:sU P ⟨L.1,is2 md,L.2,tV⟩ {F with N:=fn.ntmps} CF pc ⟨AU 0 args,.e,0⟩ nv c=some x) {l:List (Tm×SV)} {sd:List (Pc×Side)} (hl:Iz P fn.results.toList pc x.nv x.outs=some (l,uj,sd)) (hs:iW P ρ (x.sd++sd)) (haw:Oq P ρ x.aw) :
  PC P f (dN ρ args) (qy ρ l)/\(zK P fn.results.toList pc x.nv x.outs=true->PCa P f (dN ρ args) (qy ρ l)):=by
 simp only [ay] at hg
 have hname:fn.name≠ "runtime.NumGoroutine" :=by simpa [oh] using hg.1
 have hlen:=aG hg.2
 have hall:∀(w:World) (fix:Nat->Nat->Prop) (vs:List Value),(∀c o,fix c o->c<w.heap.size)->GOk w fix->gK w (eH fix) (dN ρ args) vs->
   Calls P f vs.toArray w fun e w'=>∃v lM,e=.returned v/\Step w.heap.size w (eH fix) w' (eH lM)/\
    (∀c o,lM c o->c<w'.heap.size)/\Rep w' (eH lM) (qy ρ l) v/\(zK P fn.results.toList pc x.nv x.outs=true->Rep w' (eH fun c o=>lM c o/\w.heap.size<=c) (qy ρ l) v):=?_
 .refine ⟨fun w fix vs hfix hG hargs=>?_,fun hap w fix vs hfix hG hargs=>?_⟩
  .rw [hfn]
   dsimp only
   rw [if_neg (by rw [hc];simp)]
   refine ⟨hname,(hall w fix vs hfix hG hargs).mono fun e w' hq=>?_⟩
   obtain ⟨v,lM,h1,h2,h3,h4,-⟩:=hq
   exact ⟨v,lM,h1,h2,h3,h4⟩
  .rw [hfn]
   dsimp only
   rw [if_neg (by rw [hc];simp)]
   refine ⟨hname,(hall w fix vs hfix hG hargs).mono fun e w' hq=>?_⟩
   obtain ⟨v,lM,h1,h2,h3,-,h4⟩:=hq
   exact ⟨v,lM,h1,h2,h3,h4 hap⟩
 intro w fix vs hfix hG hargs
 have hlenA:(dN ρ args).length<=fn.ntmps:=by rw [fM];exact hlen
 have hst:GX ρ fn.ntmps ⟨AU 0 args,.e,0⟩ (AX fn.ntmps (dN ρ args)) (fun _=>none) 0:=GX.of MN (fun b k h=>by simp [Tr.get] at h) (zM hlenA) (dF _)
 have acA:=og (G:=⟨L.1,is2 md,L.2,tV⟩) (F:={F with N:=fn.ntmps}) hm hX hI hρ _ _ _ _ hx hp (lY hs) haw _ _ _ hst
 have jc:ND w.heap.size w (eH fix) (AX fn.ntmps (dN ρ args)) (fun _=>none) 0 {tmps:=vs.toArray++Array.replicate (fn.ntmps-vs.toArray.size) undef,defers:=[]}:=
  ⟨⟨fun b k hb=>(by cases hb),fun b b' k k' c o c' o' _ hb=>(by cases hb),fun _ _=>rfl,hfix,dF _,fun b c o hb=>(by cases hb)⟩,Jp hG hargs hlenA,rfl⟩
 refine calls_of_wp hfn hc (wp_mono (acA _ w (eH fix) _ jc) fun e a' w' hp'=>?_)
 obtain ⟨E',fr',fK,nx',hsel,Tf,hst'⟩:=hp'
 obtain ⟨q1,v,v',ah2,nx2,⟨h0,E2,val,h1,h2,h3,h4⟩,hz,hwk,aqr⟩:=Z4 (P:=P) (fn:=fn) hρ hl hp (oI hs) hsel Tf hst'
 let lM:Nat->Nat->Prop:=fun c o=>E2.fix c o\/(w.heap.size<=c/\c<w'.heap.size)
 have hfr:=LG h4 (fix:=lM) (fun c o h=>.inl h) (fun b c o ho off=>.inr (h4.jW b c o ho)) awT h2 hz
 have KG:∃v lM,Ending.returned val=.returned v/\Step w.heap.size w (eH fix) w' (eH lM)/\
   (∀c o,lM c o->c<w'.heap.size)/\Rep w' (eH lM) (qy ρ l) v/\(zK P fn.results.toList pc x.nv x.outs=true->Rep w' (eH fun c o=>lM c o/\w.heap.size<=c) (qy ρ l) v):=by
  refine ⟨_,lM,rfl,⟨⟨fun c o h=>.inl (h3.ext.fix c o h),h3.ext.cell,fun b hb=>absurd rfl hb,h3.ext.arr⟩,h3.below,fun c o hc h=>?_,fun c hc _=>h3.below.block c hc,fun b c o h _=>(by cases h),fun c o h hc=>?_⟩,fun c o h=>?_,hwk _ _ _ hfr,fun hap=>?_⟩
  rotate_left 3
  .exact hwk _ _ _ (Vo h4 h2 (aqr hap).1 (aqr hap).2 hz (fun b _ c o ho off=>⟨.inr (h4.jW b c o ho),(h4.jW b c o ho).1⟩))
  .rcases h with h|⟨h,-⟩
   .exact h3.xQ c o hc h
   .omega
  .rcases h with h|⟨h,-⟩
   .exact h3.xR c o h hc |>.imp id (fun ⟨b,o',h⟩=>by cases h)
   .omega
  .rcases h with h|⟨-,h⟩
   .exact h4.jT c o h
   .exact h
 cases e<;>first|exact ⟨h0,_,h1,KG⟩|(simp [Iw] at q1)
theorem PC.weak {f:FuncId}{args:List AV}{r r':AV}(h:PC P f args r)(hw:Weak r r'):PC P f args r':=by
 intro w fix vs hfix hG hargs
 have:=h w fix vs hfix hG hargs
 split at this
 .exact this
 .rename_i fn hfn
  split at this
  .rename_i hb
   rw [if_pos hb]
   obtain ⟨v,h1,h2⟩:=this
   exact ⟨v,h1,hw _ _ _ h2⟩
  .rename_i hb
   rw [if_neg hb]
   refine ⟨this.1,this.2.mono fun e w' hq=>?_⟩
   obtain ⟨v,lM,h1,h2,h3,h4⟩:=hq
   exact ⟨v,lM,h1,h2,h3,hw _ _ _ h4⟩
theorem PCa.weak {f:FuncId}{args:List AV}{r r':AV}(h:PCa P f args r)(hw:Weak r r'):PCa P f args r':=by
 intro w fix vs hfix hG hargs
 have:=h w fix vs hfix hG hargs
 split at this
 .exact this
 .rename_i fn hfn
  split at this
  .rename_i hb
   rw [if_pos hb]
   obtain ⟨v,h1,h2⟩:=this
   exact ⟨v,h1,hw _ _ _ h2⟩
  .rename_i hb
   rw [if_neg hb]
   refine ⟨this.1,this.2.mono fun e w' hq=>?_⟩
   obtain ⟨v,lM,h1,h2,h3,h4⟩:=hq
   exact ⟨v,lM,h1,h2,h3,hw _ _ _ h4⟩
theorem XP : ∀{l:List (Tm×SV)} {v:SV},agc l=some v->Weak (qy ρ l) (v.den ρ)
 |[],v,h=>by simp [agc] at h
 |[x],v,h=>by simp only [agc,au] at h;subst h;exact Weak.refl _
 |x::y::r,v,h=>by
  simp only [agc] at h
  split at h
  .cases h
  .rename_i u hu
   have ih:=XP (l:=y::r) hu
   have hw:=(Qq (ρ:=ρ) h).1
   simp only [qy]
   cases hg:(x.1.den ρ).B
   .rw [hg] at hw;exact ih.trans hw
   .rw [hg] at hw;exact hw
theorem agd {X0:pG}{L:pG×DX}{md:Md}{FC:FuncId->y8}{tV CF:Nat}(hm:P.follows .mixedOrders=true)(hX0:∀σ:List AV,iC σ=true->n_ P σ X0)(hX:∀σ:List AV,iC σ=true->n_ P σ L.1)(hI:∀σ:List AV,iC σ=true->nN P σ L.2)(hρ:iC ρ=true) :
  n_ P ρ (acy P X0 L md FC tV CF):=fun pc nv f args r h hp hs=>by
 unfold acy at h
 cases h1:Nat.beq (md f) 1||(Nat.beq (md f) 3&&ZX args)
 .simp only [h1,cond_false] at h
  exact hX0 ρ hρ pc nv f args r h hp hs
 .simp only [h1,cond_true] at h
  split at h
  .cases h
  .rename_i fn hfn
   split at h
   .cases h
   .rename_i c hc
    cases hg:oh fn&&Nat.ble args.length fn.ntmps
    .simp [hg] at h
    .simp only [hg,cond_true] at h
     split at h
     .cases h
     .rename_i x hx
      cases haw:x.aw.isEmpty
      .simp [haw] at h
      .simp only [haw,cond_true] at h
       split at h
       .cases h
       .rename_i l uj sd hl
        split at h
        .cases h
        .rename_i v hv
         simp only [au] at h;subst h
         have aiR:Oq P ρ x.aw:=by
          have:x.aw=[]:=by simpa using haw
          rw [this];exact trivial
         have hpc:=V4 (F:=FC f) hm hX hI hρ hfn hc hg hp hx hl hs aiR
         exact ⟨hpc.1.weak (XP hv),fun hap=>(hpc.2 hap).weak (XP hv)⟩
theorem Qw {X0:pG}{I0:DX}{md:Md}{FC:FuncId->y8}{tV CF:Nat}(hm:P.follows .mixedOrders=true)(h0:∀σ:List AV,iC σ=true->nN P σ I0)(hX0:∀σ:List AV,iC σ=true->n_ P σ X0):∀n,(∀σ:List AV,iC σ=true->n_ P σ (ML P X0 I0 md FC tV CF n).1)/\∀σ:List AV,iC σ=true->nN P σ (ML P X0 I0 md FC tV CF n).2
 |0=>⟨hX0,h0⟩
 |n+1=>by
  obtain ⟨h1,h2⟩:=Qw (md:=md) (FC:=FC) (tV:=tV) (CF:=CF) hm h0 hX0 n
  exact ⟨fun σ hσ=>agd hm hX0 h1 h2 hσ,fun σ hσ=>aiQ hm h0 h1 h2 hσ⟩
def jU (P:Program)(X0:pG)(I0:DX)(md:Md)(FC:FuncId->y8)(tV CF:Nat)(f:FuncId)(args:List SV)(nv:Nat):Option iL:=
 match P.funcs[f]? with
 |none=>none
 |some fn=>match fn.body with
  |none=>none
  |some c=>bif oh fn&&Nat.ble args.length fn.ntmps then
    match sU P ⟨(ML P X0 I0 md FC tV CF CF).1,is2 md,(ML P X0 I0 md FC tV CF CF).2,tV⟩ {FC f with N:=fn.ntmps} CF [] ⟨AU 0 args,.e,0⟩ nv c with
    |none=>none
    |some x=>match Iz P fn.results.toList [] x.nv x.outs with
     |none=>none
     |some (l,_,sd)=>some ⟨l,x.sd++sd,x.aw⟩
   else none
theorem alm {X0:pG}{I0:DX}{md:Md}{FC:FuncId->y8}{tV CF:Nat}{f:FuncId}{args:List SV}{nv:Nat}{R:iL}(h:jU P X0 I0 md FC tV CF f args nv=some R)(hm:P.follows .mixedOrders=true)(hρ:iC ρ=true)(h0:∀σ:List AV,iC σ=true->nN P σ I0)(hX:∀σ:List AV,iC σ=true->n_ P σ X0)
  (hs:iW P ρ R.sd) (haw:Oq P ρ R.aw):PC P f (dN ρ args) (qy ρ R.rs):=by
 unfold jU at h
 split at h
 .cases h
 .rename_i fn hfn
  split at h
  .cases h
  .rename_i c hc
   cases hg:oh fn&&Nat.ble args.length fn.ntmps
   .simp [hg] at h
   .simp only [hg,cond_true] at h
    split at h
    .cases h
    .rename_i x hx
     split at h
     .cases h
     .rename_i l uj sd hl
      simp only [au] at h;subst h
      obtain ⟨h1,h2⟩:=Qw (md:=md) (FC:=FC) (tV:=tV) (CF:=CF) hm h0 hX CF
      exact (V4 (F:=FC f) hm h1 h2 hρ hfn hc hg (fun x hx=>by cases hx) hx hl hs haw).1
end
end Go.Fw
end
section
namespace Go.Fw
theorem aiS {α:Type}{f:α->List AV}{l:List α}(h:∀x,iC (f x)=true):P8 (l.map f)=true:=by
 induction l with
 |nil=>rfl
 |cons x l ih=>simp [P8,h x,ih]
theorem fzn : iC []=true:=rfl
theorem fF {a:AV}{l:List AV}(h:a.fz=true)(k:iC l=true):iC (a::l)=true:=by simp [iC,h,k]
theorem fzs {α:Type}{f:α->List AV}(h:∀x,iC (f x)=true)(l:List α):(AV.sl (List.map f l) false).fz=true:=by simp [AV.fz,aiS h]
theorem fzb {b:Bool}{x y:List AV}(h:iC x=true)(k:iC y=true):iC (bif b then x else y)=true:=by cases b<;>simpa
def rowB (b:Bool):List AV:=[.p (.bool b)]
def Dj (n:Int):List AV:=[.p (.int .i64 n)]
def aiT (n:Int):List AV:=[.p (.int .u8 n)]
def aol (s:List UInt8):List AV:=[.str s]
theorem aln (b:Bool):iC (rowB b)=true:=rfl
theorem alo (b:Int):iC (Dj b)=true:=rfl
theorem aiU (b:Int):iC (aiT b)=true:=rfl
theorem alp (b:List UInt8):iC (aol b)=true:=rfl
structure dJ where
 Kind:Int
 Num:Nat
 Str:List UInt8
 Ref:Int
 deriving DecidableEq,Inhabited
def dJ.enc (v:dJ):List AV:=[.p (.int .u8 v.Kind),.p (.float .f64 v.Num),.str v.Str,.p (.int .i64 v.Ref)]
def dJ.av (v:dJ):AV:=.agg v.enc
def dJ.fC : List Kd:=[.int .u8,.kJ,.str,.int .i64]
theorem dJ.iC (v:dJ):Go.Fw.iC v.enc=true:=fF rfl (fF rfl (fF rfl (fF rfl (fzn))))
theorem dJ.fz (v:dJ):v.av.fz=true:=dJ.iC v
theorem dJ.len (v:dJ):v.enc.length=4:=rfl
theorem dJ.JJ (l:List dJ):kW 4 (l.map dJ.enc):=by
 intro row h
 obtain ⟨x,-,rfl⟩:=aW.1 h
 rfl
structure dH where
 Str:List UInt8
 Sym:Int
 deriving DecidableEq,Inhabited
def dH.enc (v:dH):List AV:=[.str v.Str,.p (.int .i64 v.Sym)]
def dH.av (v:dH):AV:=.agg v.enc
def dH.fC : List Kd:=[.str,.int .i64]
theorem dH.iC (v:dH):Go.Fw.iC v.enc=true:=fF rfl (fF rfl (fzn))
theorem dH.fz (v:dH):v.av.fz=true:=dH.iC v
theorem dH.len (v:dH):v.enc.length=2:=rfl
theorem dH.JJ (l:List dH):kW 2 (l.map dH.enc):=by
 intro row h
 obtain ⟨x,-,rfl⟩:=aW.1 h
 rfl
structure dI where
 Has:Int
 Value:dJ
 Get:dJ
 Set:dJ
 eP:Bool
 dY:Bool
 Configurable:Bool
 deriving DecidableEq,Inhabited
def dI.enc (v:dI):List AV:=[.p (.int .u8 v.Has),.p (.int .u8 v.Value.Kind),.p (.float .f64 v.Value.Num),.str v.Value.Str,.p (.int .i64 v.Value.Ref),.p (.int .u8 v.Get.Kind),.p (.float .f64 v.Get.Num),.str v.Get.Str,.p (.int .i64 v.Get.Ref),.p (.int .u8 v.Set.Kind),.p (.float .f64 v.Set.Num),.str v.Set.Str,.p (.int .i64 v.Set.Ref),.p (.bool v.eP),.p (.bool v.dY),.p (.bool v.Configurable)]
def dI.av (v:dI):AV:=.agg v.enc
def dI.fC : List Kd:=[.int .u8,.int .u8,.kJ,.str,.int .i64,.int .u8,.kJ,.str,.int .i64,.int .u8,.kJ,.str,.int .i64,.bool,.bool,.bool]
theorem dI.iC (v:dI):Go.Fw.iC v.enc=true:=fF rfl (fF rfl (fF rfl (fF rfl (fF rfl (fF rfl (fF rfl (fF rfl (fF rfl (fF rfl (fF rfl (fF rfl (fF rfl (fF rfl (fF rfl (fF rfl (fzn))))))))))))))))
theorem dI.fz (v:dI):v.av.fz=true:=dI.iC v
theorem dI.len (v:dI):v.enc.length=16:=rfl
theorem dI.JJ (l:List dI):kW 16 (l.map dI.enc):=by
 intro row h
 obtain ⟨x,-,rfl⟩:=aW.1 h
 rfl
structure dL where
 Key:dH
 dR:dI
 deriving DecidableEq,Inhabited
def dL.enc (v:dL):List AV:=[.str v.Key.Str,.p (.int .i64 v.Key.Sym),.p (.int .u8 v.dR.Has),.p (.int .u8 v.dR.Value.Kind),.p (.float .f64 v.dR.Value.Num),.str v.dR.Value.Str,.p (.int .i64 v.dR.Value.Ref),.p (.int .u8 v.dR.Get.Kind),.p (.float .f64 v.dR.Get.Num),.str v.dR.Get.Str,.p (.int .i64 v.dR.Get.Ref),.p (.int .u8 v.dR.Set.Kind),.p (.float .f64 v.dR.Set.Num),.str v.dR.Set.Str,.p (.int .i64 v.dR.Set.Ref),.p (.bool v.dR.eP),.p (.bool v.dR.dY),.p (.bool v.dR.Configurable)]
def dL.av (v:dL):AV:=.agg v.enc
def dL.fC : List Kd:=[.str,.int .i64,.int .u8,.int .u8,.kJ,.str,.int .i64,.int .u8,.kJ,.str,.int .i64,.int .u8,.kJ,.str,.int .i64,.bool,.bool,.bool]
theorem dL.iC (v:dL):Go.Fw.iC v.enc=true:=fF rfl (fF rfl (fF rfl (fF rfl (fF rfl (fF rfl (fF rfl (fF rfl (fF rfl (fF rfl (fF rfl (fF rfl (fF rfl (fF rfl (fF rfl (fF rfl (fF rfl (fF rfl (fzn))))))))))))))))))
theorem dL.fz (v:dL):v.av.fz=true:=dL.iC v
theorem dL.len (v:dL):v.enc.length=18:=rfl
theorem dL.JJ (l:List dL):kW 18 (l.map dL.enc):=by
 intro row h
 obtain ⟨x,-,rfl⟩:=aW.1 h
 rfl
structure dM where
 Kind:Int
 eY:dJ
 Ext:Bool
 Props:List dL
 Target:dJ
 Handler:dJ
 Text:List UInt8
 Calls:Bool
 Makes:Bool
 deriving DecidableEq,Inhabited
def dM.enc (v:dM):List AV:=[.p (.int .u8 v.Kind),.p (.int .u8 v.eY.Kind),.p (.float .f64 v.eY.Num),.str v.eY.Str,.p (.int .i64 v.eY.Ref),.p (.bool v.Ext),.sl (List.map dL.enc v.Props) false,.p (.int .u8 v.Target.Kind),.p (.float .f64 v.Target.Num),.str v.Target.Str,.p (.int .i64 v.Target.Ref),.p (.int .u8 v.Handler.Kind),.p (.float .f64 v.Handler.Num),.str v.Handler.Str,.p (.int .i64 v.Handler.Ref),.str v.Text,.p (.bool v.Calls),.p (.bool v.Makes)]
def dM.av (v:dM):AV:=.agg v.enc
def dM.fC : List Kd:=[.int .u8,.int .u8,.kJ,.str,.int .i64,.bool,.sl,.int .u8,.kJ,.str,.int .i64,.int .u8,.kJ,.str,.int .i64,.str,.bool,.bool]
theorem dM.iC (v:dM):Go.Fw.iC v.enc=true:=fF rfl (fF rfl (fF rfl (fF rfl (fF rfl (fF rfl (fF (fzs dL.iC _) (fF rfl (fF rfl (fF rfl (fF rfl (fF rfl (fF rfl (fF rfl (fF rfl (fF rfl (fF rfl (fF rfl (fzn))))))))))))))))))
theorem dM.fz (v:dM):v.av.fz=true:=dM.iC v
theorem dM.len (v:dM):v.enc.length=18:=rfl
theorem dM.JJ (l:List dM):kW 18 (l.map dM.enc):=by
 intro row h
 obtain ⟨x,-,rfl⟩:=aW.1 h
 rfl
structure dK where
 Objects:List dM
 deriving DecidableEq,Inhabited
def dK.enc (v:dK):List AV:=[.sl (List.map dM.enc v.Objects) false]
def dK.av (v:dK):AV:=.agg v.enc
def dK.fC : List Kd:=[.sl]
theorem dK.iC (v:dK):Go.Fw.iC v.enc=true:=fF (fzs dM.iC _) (fzn)
theorem dK.fz (v:dK):v.av.fz=true:=dK.iC v
theorem dK.len (v:dK):v.enc.length=1:=rfl
theorem dK.JJ (l:List dK):kW 1 (l.map dK.enc):=by
 intro row h
 obtain ⟨x,-,rfl⟩:=aW.1 h
 rfl
structure gJ where
 Kind:Int
 Value:dJ
 Yes:Bool
 Found:Bool
 dR:dI
 Keys:List dH
 Error:Int
 Text:List UInt8
 deriving DecidableEq,Inhabited
def gJ.enc (v:gJ):List AV:=[.p (.int .u8 v.Kind),.p (.int .u8 v.Value.Kind),.p (.float .f64 v.Value.Num),.str v.Value.Str,.p (.int .i64 v.Value.Ref),.p (.bool v.Yes),.p (.bool v.Found),.p (.int .u8 v.dR.Has),.p (.int .u8 v.dR.Value.Kind),.p (.float .f64 v.dR.Value.Num),.str v.dR.Value.Str,.p (.int .i64 v.dR.Value.Ref),.p (.int .u8 v.dR.Get.Kind),.p (.float .f64 v.dR.Get.Num),.str v.dR.Get.Str,.p (.int .i64 v.dR.Get.Ref),.p (.int .u8 v.dR.Set.Kind),.p (.float .f64 v.dR.Set.Num),.str v.dR.Set.Str,.p (.int .i64 v.dR.Set.Ref),.p (.bool v.dR.eP),.p (.bool v.dR.dY),.p (.bool v.dR.Configurable),.sl (List.map dH.enc v.Keys) false,.p (.int .u8 v.Error),.str v.Text]
def gJ.av (v:gJ):AV:=.agg v.enc
def gJ.fC : List Kd:=[.int .u8,.int .u8,.kJ,.str,.int .i64,.bool,.bool,.int .u8,.int .u8,.kJ,.str,.int .i64,.int .u8,.kJ,.str,.int .i64,.int .u8,.kJ,.str,.int .i64,.bool,.bool,.bool,.sl,.int .u8,.str]
theorem gJ.iC (v:gJ):Go.Fw.iC v.enc=true:=fF rfl (fF rfl (fF rfl (fF rfl (fF rfl (fF rfl (fF rfl (fF rfl (fF rfl (fF rfl (fF rfl (fF rfl (fF rfl (fF rfl (fF rfl (fF rfl (fF rfl (fF rfl (fF rfl (fF rfl (fF rfl (fF rfl (fF rfl (fF (fzs dH.iC _) (fF rfl (fF rfl (fzn))))))))))))))))))))))))))
theorem gJ.fz (v:gJ):v.av.fz=true:=gJ.iC v
theorem gJ.len (v:gJ):v.enc.length=26:=rfl
theorem gJ.JJ (l:List gJ):kW 26 (l.map gJ.enc):=by
 intro row h
 obtain ⟨x,-,rfl⟩:=aW.1 h
 rfl
structure rY where
 aiV:Int
 Object:Int
 Method:Int
 Key:dH
 Throw:Bool
 Out:gJ
 deriving DecidableEq,Inhabited
def rY.enc (v:rY):List AV:=[.p (.int .i64 v.aiV),.p (.int .i64 v.Object),.p (.int .u8 v.Method),.str v.Key.Str,.p (.int .i64 v.Key.Sym),.p (.bool v.Throw),.p (.int .u8 v.Out.Kind),.p (.int .u8 v.Out.Value.Kind),.p (.float .f64 v.Out.Value.Num),.str v.Out.Value.Str,.p (.int .i64 v.Out.Value.Ref),.p (.bool v.Out.Yes),.p (.bool v.Out.Found),.p (.int .u8 v.Out.dR.Has),.p (.int .u8 v.Out.dR.Value.Kind),.p (.float .f64 v.Out.dR.Value.Num),.str v.Out.dR.Value.Str,.p (.int .i64 v.Out.dR.Value.Ref),.p (.int .u8 v.Out.dR.Get.Kind),.p (.float .f64 v.Out.dR.Get.Num),.str v.Out.dR.Get.Str,.p (.int .i64 v.Out.dR.Get.Ref),.p (.int .u8 v.Out.dR.Set.Kind),.p (.float .f64 v.Out.dR.Set.Num),.str v.Out.dR.Set.Str,.p (.int .i64 v.Out.dR.Set.Ref),.p (.bool v.Out.dR.eP),.p (.bool v.Out.dR.dY),.p (.bool v.Out.dR.Configurable),.sl (List.map dH.enc v.Out.Keys) false,.p (.int .u8 v.Out.Error),.str v.Out.Text]
def rY.av (v:rY):AV:=.agg v.enc
def rY.fC : List Kd:=[.int .i64,.int .i64,.int .u8,.str,.int .i64,.bool,.int .u8,.int .u8,.kJ,.str,.int .i64,.bool,.bool,.int .u8,.int .u8,.kJ,.str,.int .i64,.int .u8,.kJ,.str,.int .i64,.int .u8,.kJ,.str,.int .i64,.bool,.bool,.bool,.sl,.int .u8,.str]
theorem rY.iC (v:rY):Go.Fw.iC v.enc=true:=fF rfl (fF rfl (fF rfl (fF rfl (fF rfl (fF rfl (fF rfl (fF rfl (fF rfl (fF rfl (fF rfl (fF rfl (fF rfl (fF rfl (fF rfl (fF rfl (fF rfl (fF rfl (fF rfl (fF rfl (fF rfl (fF rfl (fF rfl (fF rfl (fF rfl (fF rfl (fF rfl (fF rfl (fF rfl (fF (fzs dH.iC _) (fF rfl (fF rfl (fzn))))))))))))))))))))))))))))))))
theorem rY.fz (v:rY):v.av.fz=true:=rY.iC v
theorem rY.len (v:rY):v.enc.length=32:=rfl
theorem rY.JJ (l:List rY):kW 32 (l.map rY.enc):=by
 intro row h
 obtain ⟨x,-,rfl⟩:=aW.1 h
 rfl
structure iI where
 Method:Int
 Object:Int
 Key:dH
 dR:dI
 Value:dJ
 Receiver:dJ
 Args:List dJ
 deriving DecidableEq,Inhabited
def iI.enc (v:iI):List AV:=[.p (.int .u8 v.Method),.p (.int .i64 v.Object),.str v.Key.Str,.p (.int .i64 v.Key.Sym),.p (.int .u8 v.dR.Has),.p (.int .u8 v.dR.Value.Kind),.p (.float .f64 v.dR.Value.Num),.str v.dR.Value.Str,.p (.int .i64 v.dR.Value.Ref),.p (.int .u8 v.dR.Get.Kind),.p (.float .f64 v.dR.Get.Num),.str v.dR.Get.Str,.p (.int .i64 v.dR.Get.Ref),.p (.int .u8 v.dR.Set.Kind),.p (.float .f64 v.dR.Set.Num),.str v.dR.Set.Str,.p (.int .i64 v.dR.Set.Ref),.p (.bool v.dR.eP),.p (.bool v.dR.dY),.p (.bool v.dR.Configurable),.p (.int .u8 v.Value.Kind),.p (.float .f64 v.Value.Num),.str v.Value.Str,.p (.int .i64 v.Value.Ref),.p (.int .u8 v.Receiver.Kind),.p (.float .f64 v.Receiver.Num),.str v.Receiver.Str,.p (.int .i64 v.Receiver.Ref),.sl (List.map dJ.enc v.Args) false]
def iI.av (v:iI):AV:=.agg v.enc
def iI.fC : List Kd:=[.int .u8,.int .i64,.str,.int .i64,.int .u8,.int .u8,.kJ,.str,.int .i64,.int .u8,.kJ,.str,.int .i64,.int .u8,.kJ,.str,.int .i64,.bool,.bool,.bool,.int .u8,.kJ,.str,.int .i64,.int .u8,.kJ,.str,.int .i64,.sl]
theorem iI.iC (v:iI):Go.Fw.iC v.enc=true:=fF rfl (fF rfl (fF rfl (fF rfl (fF rfl (fF rfl (fF rfl (fF rfl (fF rfl (fF rfl (fF rfl (fF rfl (fF rfl (fF rfl (fF rfl (fF rfl (fF rfl (fF rfl (fF rfl (fF rfl (fF rfl (fF rfl (fF rfl (fF rfl (fF rfl (fF rfl (fF rfl (fF rfl (fF (fzs dJ.iC _) (fzn)))))))))))))))))))))))))))))
theorem iI.fz (v:iI):v.av.fz=true:=iI.iC v
theorem iI.len (v:iI):v.enc.length=29:=rfl
theorem iI.JJ (l:List iI):kW 29 (l.map iI.enc):=by
 intro row h
 obtain ⟨x,-,rfl⟩:=aW.1 h
 rfl
structure rZ where
 Kind:Int
 Ask:iI
 Func:dJ
 This:dJ
 For:dJ
 Args:List dJ
 Object:dM
 Out:gJ
 deriving DecidableEq,Inhabited
def rZ.enc (v:rZ):List AV:=[.p (.int .u8 v.Kind),.p (.int .u8 v.Ask.Method),.p (.int .i64 v.Ask.Object),.str v.Ask.Key.Str,.p (.int .i64 v.Ask.Key.Sym),.p (.int .u8 v.Ask.dR.Has),.p (.int .u8 v.Ask.dR.Value.Kind),.p (.float .f64 v.Ask.dR.Value.Num),.str v.Ask.dR.Value.Str,.p (.int .i64 v.Ask.dR.Value.Ref),.p (.int .u8 v.Ask.dR.Get.Kind),.p (.float .f64 v.Ask.dR.Get.Num),.str v.Ask.dR.Get.Str,.p (.int .i64 v.Ask.dR.Get.Ref),.p (.int .u8 v.Ask.dR.Set.Kind),.p (.float .f64 v.Ask.dR.Set.Num),.str v.Ask.dR.Set.Str,.p (.int .i64 v.Ask.dR.Set.Ref),.p (.bool v.Ask.dR.eP),.p (.bool v.Ask.dR.dY),.p (.bool v.Ask.dR.Configurable),.p (.int .u8 v.Ask.Value.Kind),.p (.float .f64 v.Ask.Value.Num),.str v.Ask.Value.Str,.p (.int .i64 v.Ask.Value.Ref),.p (.int .u8 v.Ask.Receiver.Kind),.p (.float .f64 v.Ask.Receiver.Num),.str v.Ask.Receiver.Str,.p (.int .i64 v.Ask.Receiver.Ref),.sl (List.map dJ.enc v.Ask.Args) false,.p (.int .u8 v.Func.Kind),.p (.float .f64 v.Func.Num),.str v.Func.Str,.p (.int .i64 v.Func.Ref),.p (.int .u8 v.This.Kind),.p (.float .f64 v.This.Num),.str v.This.Str,.p (.int .i64 v.This.Ref),.p (.int .u8 v.For.Kind),.p (.float .f64 v.For.Num),.str v.For.Str,.p (.int .i64 v.For.Ref),.sl (List.map dJ.enc v.Args) false,.p (.int .u8 v.Object.Kind),.p (.int .u8 v.Object.eY.Kind),.p (.float .f64 v.Object.eY.Num),.str v.Object.eY.Str,.p (.int .i64 v.Object.eY.Ref),.p (.bool v.Object.Ext),.sl (List.map dL.enc v.Object.Props) false,.p (.int .u8 v.Object.Target.Kind),.p (.float .f64 v.Object.Target.Num),.str v.Object.Target.Str,.p (.int .i64 v.Object.Target.Ref),.p (.int .u8 v.Object.Handler.Kind),.p (.float .f64 v.Object.Handler.Num),.str v.Object.Handler.Str,.p (.int .i64 v.Object.Handler.Ref),.str v.Object.Text,.p (.bool v.Object.Calls),.p (.bool v.Object.Makes),.p (.int .u8 v.Out.Kind),.p (.int .u8 v.Out.Value.Kind),.p (.float .f64 v.Out.Value.Num),.str v.Out.Value.Str,.p (.int .i64 v.Out.Value.Ref),.p (.bool v.Out.Yes),.p (.bool v.Out.Found),.p (.int .u8 v.Out.dR.Has),.p (.int .u8 v.Out.dR.Value.Kind),.p (.float .f64 v.Out.dR.Value.Num),.str v.Out.dR.Value.Str,.p (.int .i64 v.Out.dR.Value.Ref),.p (.int .u8 v.Out.dR.Get.Kind),.p (.float .f64 v.Out.dR.Get.Num),.str v.Out.dR.Get.Str,.p (.int .i64 v.Out.dR.Get.Ref),.p (.int .u8 v.Out.dR.Set.Kind),.p (.float .f64 v.Out.dR.Set.Num),.str v.Out.dR.Set.Str,.p (.int .i64 v.Out.dR.Set.Ref),.p (.bool v.Out.dR.eP),.p (.bool v.Out.dR.dY),.p (.bool v.Out.dR.Configurable),.sl (List.map dH.enc v.Out.Keys) false,.p (.int .u8 v.Out.Error),.str v.Out.Text]
def rZ.av (v:rZ):AV:=.agg v.enc
def rZ.fC : List Kd:=[.int .u8,.int .u8,.int .i64,.str,.int .i64,.int .u8,.int .u8,.kJ,.str,.int .i64,.int .u8,.kJ,.str,.int .i64,.int .u8,.kJ,.str,.int .i64,.bool,.bool,.bool,.int .u8,.kJ,.str,.int .i64,.int .u8,.kJ,.str,.int .i64,.sl,.int .u8,.kJ,.str,.int .i64,.int .u8,.kJ,.str,.int .i64,.int .u8,.kJ,.str,.int .i64,.sl,.int .u8,.int .u8,.kJ,.str,.int .i64,.bool,.sl,.int .u8,.kJ,.str,.int .i64,.int .u8,.kJ,.str,.int .i64,.str,.bool,.bool,.int .u8,.int .u8,.kJ,.str,.int .i64,.bool,.bool,.int .u8,.int .u8,.kJ,.str,.int .i64,.int .u8,.kJ,.str,.int .i64,.int .u8,.kJ,.str,.int .i64,.bool,.bool,.bool,.sl,.int .u8,.str]
theorem rZ.iC (v:rZ):Go.Fw.iC v.enc=true:=fF rfl (fF rfl (fF rfl (fF rfl (fF rfl (fF rfl (fF rfl (fF rfl (fF rfl (fF rfl (fF rfl (fF rfl (fF rfl (fF rfl (fF rfl (fF rfl (fF rfl (fF rfl (fF rfl (fF rfl (fF rfl (fF rfl (fF rfl (fF rfl (fF rfl (fF rfl (fF rfl (fF rfl (fF rfl (fF (fzs dJ.iC _) (fF rfl (fF rfl (fF rfl (fF rfl (fF rfl (fF rfl (fF rfl (fF rfl (fF rfl (fF rfl (fF rfl (fF rfl (fF (fzs dJ.iC _) (fF rfl (fF rfl (fF rfl (fF rfl (fF rfl (fF rfl (fF (fzs dL.iC _) (fF rfl (fF rfl (fF rfl (fF rfl (fF rfl (fF rfl (fF rfl (fF rfl (fF rfl (fF rfl (fF rfl (fF rfl (fF rfl (fF rfl (fF rfl (fF rfl (fF rfl (fF rfl (fF rfl (fF rfl (fF rfl (fF rfl (fF rfl (fF rfl (fF rfl (fF rfl (fF rfl (fF rfl (fF rfl (fF rfl (fF rfl (fF rfl (fF rfl (fF rfl (fF (fzs dH.iC _) (fF rfl (fF rfl (fzn)))))))))))))))))))))))))))))))))))))))))))))))))))))))))))))))))))))))))))))))))))))))
theorem rZ.fz (v:rZ):v.av.fz=true:=rZ.iC v
theorem rZ.len (v:rZ):v.enc.length=87:=rfl
theorem rZ.JJ (l:List rZ):kW 87 (l.map rZ.enc):=by
 intro row h
 obtain ⟨x,-,rfl⟩:=aW.1 h
 rfl
structure zf where
 shut:Bool
 proto:dJ
 keys:List dH
 found:Bool
 desc:dI
 deriving DecidableEq,Inhabited
def zf.enc (v:zf):List AV:=[.p (.bool v.shut),.p (.int .u8 v.proto.Kind),.p (.float .f64 v.proto.Num),.str v.proto.Str,.p (.int .i64 v.proto.Ref),.sl (List.map dH.enc v.keys) false,.p (.bool v.found),.p (.int .u8 v.desc.Has),.p (.int .u8 v.desc.Value.Kind),.p (.float .f64 v.desc.Value.Num),.str v.desc.Value.Str,.p (.int .i64 v.desc.Value.Ref),.p (.int .u8 v.desc.Get.Kind),.p (.float .f64 v.desc.Get.Num),.str v.desc.Get.Str,.p (.int .i64 v.desc.Get.Ref),.p (.int .u8 v.desc.Set.Kind),.p (.float .f64 v.desc.Set.Num),.str v.desc.Set.Str,.p (.int .i64 v.desc.Set.Ref),.p (.bool v.desc.eP),.p (.bool v.desc.dY),.p (.bool v.desc.Configurable)]
def zf.av (v:zf):AV:=.agg v.enc
def zf.fC : List Kd:=[.bool,.int .u8,.kJ,.str,.int .i64,.sl,.bool,.int .u8,.int .u8,.kJ,.str,.int .i64,.int .u8,.kJ,.str,.int .i64,.int .u8,.kJ,.str,.int .i64,.bool,.bool,.bool]
theorem zf.iC (v:zf):Go.Fw.iC v.enc=true:=fF rfl (fF rfl (fF rfl (fF rfl (fF rfl (fF (fzs dH.iC _) (fF rfl (fF rfl (fF rfl (fF rfl (fF rfl (fF rfl (fF rfl (fF rfl (fF rfl (fF rfl (fF rfl (fF rfl (fF rfl (fF rfl (fF rfl (fF rfl (fF rfl (fzn)))))))))))))))))))))))
theorem zf.fz (v:zf):v.av.fz=true:=zf.iC v
theorem zf.len (v:zf):v.enc.length=23:=rfl
theorem zf.JJ (l:List zf):kW 23 (l.map zf.enc):=by
 intro row h
 obtain ⟨x,-,rfl⟩:=aW.1 h
 rfl
structure ny where
 Ext:Bool
 eY:dJ
 Found:Bool
 dR:dI
 Keys:List dH
 Own:List dI
 deriving DecidableEq,Inhabited
def ny.enc (v:ny):List AV:=[.p (.bool v.Ext),.p (.int .u8 v.eY.Kind),.p (.float .f64 v.eY.Num),.str v.eY.Str,.p (.int .i64 v.eY.Ref),.p (.bool v.Found),.p (.int .u8 v.dR.Has),.p (.int .u8 v.dR.Value.Kind),.p (.float .f64 v.dR.Value.Num),.str v.dR.Value.Str,.p (.int .i64 v.dR.Value.Ref),.p (.int .u8 v.dR.Get.Kind),.p (.float .f64 v.dR.Get.Num),.str v.dR.Get.Str,.p (.int .i64 v.dR.Get.Ref),.p (.int .u8 v.dR.Set.Kind),.p (.float .f64 v.dR.Set.Num),.str v.dR.Set.Str,.p (.int .i64 v.dR.Set.Ref),.p (.bool v.dR.eP),.p (.bool v.dR.dY),.p (.bool v.dR.Configurable),.sl (List.map dH.enc v.Keys) false,.sl (List.map dI.enc v.Own) false]
def ny.av (v:ny):AV:=.agg v.enc
def ny.fC : List Kd:=[.bool,.int .u8,.kJ,.str,.int .i64,.bool,.int .u8,.int .u8,.kJ,.str,.int .i64,.int .u8,.kJ,.str,.int .i64,.int .u8,.kJ,.str,.int .i64,.bool,.bool,.bool,.sl,.sl]
theorem ny.iC (v:ny):Go.Fw.iC v.enc=true:=fF rfl (fF rfl (fF rfl (fF rfl (fF rfl (fF rfl (fF rfl (fF rfl (fF rfl (fF rfl (fF rfl (fF rfl (fF rfl (fF rfl (fF rfl (fF rfl (fF rfl (fF rfl (fF rfl (fF rfl (fF rfl (fF rfl (fF (fzs dH.iC _) (fF (fzs dI.iC _) (fzn))))))))))))))))))))))))
theorem ny.fz (v:ny):v.av.fz=true:=ny.iC v
theorem ny.len (v:ny):v.enc.length=24:=rfl
theorem ny.JJ (l:List ny):kW 24 (l.map ny.enc):=by
 intro row h
 obtain ⟨x,-,rfl⟩:=aW.1 h
 rfl
end Go.Fw
end
section
namespace Go.Fw
variable [jK]
def X0 : pG:=fun _ _ _ _=>none
def uY (P:Program)(ρ:List AV):List (Pc×Side)->Prop
 |[]=>True
 |x::r=>(Pc.holds ρ x.1->x.2.holds P ρ)/\uY P ρ r
theorem uY.ok {P:Program}{ρ:List AV}:∀{l:List (Pc×Side)},uY P ρ l->iW P ρ l
 |[],_,x,hx=>nomatch hx
 |y::r,h,x,hx=>by
  cases hx with
  |head=>exact h.1
  |tail _ hx=>exact uY.ok h.2 x hx
theorem sc {P:Program}{ρ:List AV}{pc:Pc}{s:Side}{l:List (Pc×Side)}(h:Pc.holds ρ pc->s.holds P ρ)(k:uY P ρ l):uY P ρ ((pc,s)::l):=⟨h,k⟩
theorem Pc.holds.at {ρ:List AV}{pc:Pc}(h:Pc.holds ρ pc)(k:Nat){x:Tm×Bool}(e:pc[k]?=some x):(x.1.den ρ).B=x.2:=h x (aJ e)
theorem jQ {ρ:List AV}{g:Tm}{v:SV}{A:AV}(h:v.den ρ=A):qy ρ [(g,v)]=A:=h
theorem gI {α:Type}{ρ:List AV}{g:Tm}{v:SV}{y:Tm×SV}{r:List (Tm×SV)}(enc:α->AV){c:Bool}{a b:α}(hg:(g.den ρ).B=c)(ha:v.den ρ=enc a)(hb:qy ρ (y::r)=enc b) :
  qy ρ ((g,v)::y::r)=enc (bif c then a else b):=by
 simp only [qy,hg]
 cases c
 .exact hb
 .exact ha
def iM {α:Type}(f:α->List AV)(l:List α):Int:=mF (List.map f l)
theorem ji {α:Type}(f:α->List AV)(l:List α):iM f l=l.length:=by simp [iM,mF]
end Go.Fw
end
section
namespace Go.Fw
variable [jK]
theorem aqs {i:Int}(h0:0<=i)(h1:i<9223372036854775807):dZ .i64 i 1=i+1:=by
 have e:IntKind.wrap .i64 (i+1)=if (i+1) % 18446744073709551616>=9223372036854775808 then (i+1) % 18446744073709551616-18446744073709551616 else (i+1) % 18446744073709551616:=by
  show (if (true&&decide ((i+1) % 2 ^ 64>=2 ^ (64-1)))=true then (i+1) % 2 ^ 64-2 ^ 64 else (i+1) % 2 ^ 64)=_
  simp
 have h3:(i+1) % 18446744073709551616=i+1:=by omega
 show IntKind.wrap .i64 (i+1)=i+1
 rw [e,h3,if_neg (by omega)]
def mZ (b:Bool):Int:=bif b then 0 else 1
theorem alq (b:Bool):dS (mZ b) 0=b:=by cases b<;>rfl
def Z5 (b:Bool)(l0 l1:List AV):Nat×List AV:=bif b then (0,l0) else (1,l1)
theorem aiW {ρ:List AV}{p:Nat}{l:List AV}(h:(ρ.drop p).take l.length=l):∀(i:Nat) (u:AV),l[i]?=some u->ρ.getD (p+i) eu=u:=by
 intro i u hu
 have hi:=(aC.1 hu).1
 rw [<- h,bJ,if_pos hi,List.getElem?_drop] at hu
 simp [aF,hu]
theorem J4 {a b:Int}:iK a b=true↔a≠b:=by simp [iK]
theorem uF {a b:Int}:iK a b=false↔a=b:=by simp [iK]
theorem nO {a b:Int}:dS a b=true↔a=b:=by simp [dS]
theorem zh {a b:Int}:dS a b=false↔a≠b:=by simp [dS]
theorem amW {α:Type}[Inhabited α]{f:α->List AV}{l:List α}{i:Int}(h0:0<=i)(h1:i<(l.length:Int)):0<=i/\(List.map f l)[i.toNat]?=some (f (l.getD i.toNat default)):=by
 refine ⟨h0,?_⟩
 have h3:i.toNat<l.length:=by omega
 simp [aF,h3]
end Go.Fw
end
section
namespace Go.Fw
variable [jK]
def IC (n:Nat):Prop:=∀s t,FloatKind.f64.format.read n≠.nan s t
theorem aiX {m n:Nat}{o:Ordering}(h:FloatKind.f64.format.order m n=some o):IC m/\IC n:=by
 unfold Ieee.Format.order at h
 constructor<;>intro s t e
 .rw [e] at h;simp [Ieee.Datum.order] at h
 .rw [e] at h;cases hm:FloatKind.f64.format.read m<;>rw [hm] at h<;>simp [Ieee.Datum.order] at h
theorem asl {m n:Nat}(h:KH m n=false):IC m:=(aiX (by simpa [KH] using h)).1
def nU (x:Nat):Int:=x
def oV (n:Int):Nat:=n.toNat
def jd (x:Nat):Nat:=FloatKind.f64.encode ((FloatKind.f64.decode x).integral .zero)
theorem agh {x:Nat}(h:IC x):Extern.MathFloor.toIntegral "math.archTrunc" .zero #[.float .f64 x]=pure (.float .f64 (jd x)):=by
 have e:Extern.MathFloor.toIntegral "math.archTrunc" .zero #[.float .f64 x]=(match FloatKind.f64.decode x with
  | .nan s t=>
   if FloatKind.f64.format.quiet t=t then pure (.float .f64 x) else do
   let kept <- choose (.extern "math.Floor,Ceil,Trunc,RoundToEven.signallingNaN kept" 2)
   pure (.float .f64 (if kept == 1 then x else FloatKind.f64.encode (.nan s (FloatKind.f64.format.quiet t))))
  |d=>pure (.float .f64 (FloatKind.f64.encode (d.integral .zero)))):=by kernel_rfl
 rw [e]
 unfold jd
 cases hd:FloatKind.f64.decode x with
 |nan s t=>exact absurd hd (h s t)
 |_=>rfl
theorem XQ {P:Program}{f:FuncId}{fn:Func}{e:Array Value->Sem Value}{a u:Value}{r:AV}(hf:P.funcs[f]?=some fn)(hb:fn.body.isNone=true)(hname:(fn.name == "runtime.NumGoroutine")=false)
  (hn:Extern.findNext fn=none) (he:Extern.find fn=some e) (ha:GZ a=true) (hrun:e #[a]=pure u) (hr:GZ u=true) (hu:r=.p u):PC P f [.p a] r:=by
 intro w fix vs hfix hG hargs
 rw [hf]
 dsimp only
 rw [if_pos hb]
 obtain ⟨v0,rfl⟩:∃v0,vs=[v0]:=by
  have:=hargs.1
  match vs,this with
  |[v0],_=>exact ⟨v0,rfl⟩
 have h0:=hargs.2 0 (.p a) v0 rfl rfl
 obtain rfl:=h0.gq
 subst hu
 refine ⟨u,?_,.p hr⟩
 have hm:(mark (.extern f)).run P w=.ok () w:=rfl
 simp only [callFunc,Sem.run_bind,run_program,Result.andThen_ok,hf,hname,aU,if_false,hb,if_true,hm,hn,he]
 simp [hrun]
def XR (n:Nat):Bool:=match FloatKind.f64.format.read n with | .nan _ _=>true|_=>false
theorem agi {n:Nat}(h:XR n=false):IC n:=by
 intro s t e
 unfold XR at h
 rw [e] at h
 cases h
def aom (a b c:FuncId):pG:=fun _ nv f args=>
 match args with
 |[.sc .kJ (.lf n)]=>bif Nat.beq f a then some (.sc (.int .u64) (.li (.ofNat n)),nv,[],false) else bif Nat.beq f c&&!XR n then NW (jd n) fun m=>some (.sc .kJ (.lf m),nv,[],false) else none
 |[.sc (.int .u64) (.li (.ofNat n))]=>bif Nat.beq f b then some (.sc .kJ (.lf n),nv,[],false) else none
 |_=>none
theorem alr {P:Program}{a b c:FuncId}(h1:∀x,PC P a [.p (.float .f64 x)] (.p (.int .u64 (nU x))))(h2:∀x,PC P b [.p (.int .u64 x)] (.p (.float .f64 (oV x))))
  (h3:∀x,IC x->PC P c [.p (.float .f64 x)] (.p (.float .f64 (jd x)))):∀σ:List AV,iC σ=true->n_ P σ (aom a b c):=by
 intro σ _ pc nv f args r h _ _
 unfold aom at h
 split at h
 .rename_i n
  cases h4:Nat.beq f a
  .simp only [h4,cond_false] at h
   cases h5:Nat.beq f c&&!XR n
   .simp [h5] at h
   .simp only [h5,cond_true,wE,au] at h;subst h
    simp only [ay,Bool.not_eq_true'] at h5
    have:=aA h5.1
    subst this
    exact ⟨h3 n (agi h5.2),fun h=>by cases h⟩
  .simp only [h4,cond_true,au] at h;subst h
   have:=aA h4
   subst this
   exact ⟨h1 n,fun h=>by cases h⟩
 .rename_i n
  cases h4:Nat.beq f b
  .simp [h4] at h
  .simp only [h4,cond_true,au] at h;subst h
   have:=aA h4
   subst this
   exact ⟨h2 n,fun h=>by cases h⟩
 .cases h
theorem Ox : FloatKind.f64.format.read 4845873199050653695=.number false 9007199254740991 0:=by rfl
theorem K_ : FloatKind.f64.format.read 14069245235905429503=.number true 9007199254740991 0:=by rfl
theorem MP (s:Bool)(n d:Nat):Ieee.Toward.cut .zero s n d=n / 2 ^ d:=by
 unfold Ieee.Toward.cut
 simp only [Nat.shiftLeft_eq,Nat.one_mul,Bool.toNat_false,Nat.add_zero]
 rcases Nat.le_total d (n.log2+2) with h|h
 .rw [Nat.min_eq_left h]
 .rw [Nat.min_eq_right h]
  have h1:n<2 ^ (n.log2+2):=cu Nat.lt_log2_self (Nat.pow_le_pow_right (by decide) (by omega))
  have h2:n<2 ^ d:=cu h1 (Nat.pow_le_pow_right (by decide) h)
  rw [Nat.div_eq_of_lt h1,Nat.div_eq_of_lt h2]
theorem aon : FloatKind.f64.format.read 4652218415073722368=.number false 4503599627370496 (-42):=by decide +kernel
theorem aoo : FloatKind.f64.format.read 0=.number false 0 (-1074):=by decide +kernel
theorem aiY {m:Nat}(h1:YV m 0=true)(h2:Xi m 4652218415073722368=true):∃s k i,FloatKind.f64.format.read m=.number s k i/\k*2 ^ i.toNat / 2 ^ (-i).toNat<=4503599627370496/\(s=false\/k=0)/\(s=false->k*2 ^ (i-min i (-42)).toNat<=4503599627370496*2 ^ ((-42)-min i (-42)).toNat):=by
 unfold YV at h1
 unfold Xi at h2
 unfold Ieee.Format.order at h1 h2
 rw [aoo] at h1
 rw [aon] at h2
 cases hm:FloatKind.f64.format.read m with
 |nan s t=>rw [hm] at h1;simp [Ieee.Datum.order] at h1
 |infinity s=>rw [hm] at h1 h2;cases s<;>simp [Ieee.Datum.order] at h1 h2
 |number s k i=>
  rw [hm] at h1 h2
  simp only [Ieee.Datum.order,Ieee.signed,Nat.shiftLeft_eq,aU,if_false,if_true] at h1 h2
  have c1:∀a b:Int,((some (compare a b) == some Ordering.gt)||(some (compare a b) == some Ordering.eq))=true->b<=a:=by
   intro a b h
   have hc:compare a b=if a<b then Ordering.lt else if a=b then Ordering.eq else Ordering.gt:=rfl
   rw [hc] at h
   by_cases h':a<b
   .rw [if_pos h'] at h;simp at h
   .omega
  have c2:∀a b:Int,((some (compare a b) == some Ordering.lt)||(some (compare a b) == some Ordering.eq))=true->a<=b:=by
   intro a b h
   have hc:compare a b=if a<b then Ordering.lt else if a=b then Ordering.eq else Ordering.gt:=rfl
   rw [hc] at h
   by_cases h':a<b
   .omega
   .rw [if_neg h'] at h
    by_cases h2:a=b
    .omega
    .rw [if_neg h2] at h;simp at h
  have g1:=c1 _ _ h1
  have g2:=c2 _ _ h2
  have hs:s=false\/k=0:=by
   cases s
   .exact .inl rfl
   .right
    simp only [if_true] at g1
    have hp:0<2 ^ (i-min i (-1074)).toNat:=Nat.two_pow_pos _
    rcases Nat.eq_zero_or_pos k with h|h
    .exact h
    .have:0<k*2 ^ (i-min i (-1074)).toNat:=Nat.mul_pos h hp
     have h3:(0:Int) <= -((k*2 ^ (i-min i (-1074)).toNat:Nat):Int):=by simpa using g1
     omega
  have key:s=false->k*2 ^ (i-min i (-42)).toNat<=4503599627370496*2 ^ ((-42)-min i (-42)).toNat:=by
   intro e;subst e
   simp only [aU,if_false] at g2
   exact_mod_cast g2
  refine ⟨s,k,i,rfl,?_,hs,key⟩
  rcases hs with hs|hs
  .have key:=key hs
   rcases Int.le_total i (-42) with hi|hi
   .rw [Int.min_eq_left hi] at key
    have e1:i.toNat=0:=by omega
    have e2:(i-i).toNat=0:=by simp
    rw [e1,Nat.pow_zero,Nat.mul_one]
    rw [e2,Nat.pow_zero,Nat.mul_one] at key
    have h3:2 ^ ((-42)-i).toNat<=2 ^ (-i).toNat:=Nat.pow_le_pow_right (by decide) (by omega)
    exact Nat.div_le_of_le_mul (b_ key (by rw [Nat.mul_comm];exact bW _ h3))
   .rw [Int.min_eq_right hi] at key
    have e3:((-42:Int) - -42).toNat=0:=by decide
    rw [e3,Nat.pow_zero,Nat.mul_one] at key
    have h3:2 ^ i.toNat<=2 ^ (i - -42).toNat:=Nat.pow_le_pow_right (by decide) (by omega)
    exact b_ (Nat.div_le_self _ _) (b_ (Nat.mul_le_mul_left _ h3) key)
  .subst hs;simp
theorem als {m:Nat}(h1:YV m 0=true)(h2:Xi m 4652218415073722368=true):∃q:Nat,(FloatKind.f64.decode m).toInt .zero=some (q:Int)/\q<=4503599627370496:=by
 obtain ⟨s,k,i,hm,hb,hs,-⟩:=aiY h1 h2
 refine ⟨k*2 ^ i.toNat / 2 ^ (-i).toNat,?_,hb⟩
 unfold FloatKind.decode
 rw [hm]
 simp only [Ieee.Datum.toInt,Ieee.Datum.integral,MP,Nat.shiftLeft_eq]
 rcases hs with rfl|rfl
 .simp [Ieee.signed]
 .cases s<;>simp [Ieee.signed]
theorem asn {P:Program}{ρ:List AV}{x:Tm}(h1:YV (x.den ρ).F 0=true)(h2:Xi (x.den ρ).F 4652218415073722368=true):Side.holds P ρ (.num .i64 x (.YW x)):=by
 obtain ⟨q,hq,hb⟩:=als h1 h2
 have e:((Tm.YW x).den ρ).I=(q:Int):=by
  show ((FloatKind.f64.decode (x.den ρ).F).toInt .zero).getD 0=_
  rw [hq];rfl
 refine ⟨by rw [e];exact hq,?_,?_⟩
 .rw [e];have:IntKind.i64.min = -9223372036854775808:=rfl;omega
 .rw [e];have:IntKind.i64.max=9223372036854775807:=rfl;omega
end Go.Fw
end
section
namespace Go.Fw
variable [jK]
section
variable {P : Program}
theorem axU {w:World}{E:Env}{t e:TypeId}(hu:P.underlying t=some (.slice e)){rows:List (List AV)}{full:Bool}{v:Value}(h:Rep w E (.sl rows full) v)(ox oy:Operand) :
  ∃b:Bool,(do eqGuard .eql t ox oy v (.slice none 0 0);binOp .eql t v (.slice none 0 0):Sem Value).run P w=.ok (.bool b) w/\(b=true->rows=[]):=by
 have run:∀(a:Option Addr) (n c:Nat),(do eqGuard .eql t ox oy (.slice a n c) (.slice none 0 0);binOp .eql t (.slice a n c) (.slice none 0 0):Sem Value).run P w=.ok (.bool a.isNone) w:=by
  intro a n c
  have key:∀d,(Op.equalIn (d+1) t (.slice a n c) (.slice none 0 0)).run P w=.ok a.isNone w:=by
   intro d
   cases a<;>simp [Op.equalIn,run_underlying hu]
  have key2:(Op.equal t (.slice a n c) (.slice none 0 0)).run P w=.ok a.isNone w:=key 9999
  simp [eqGuard,binOp,key2]
 cases h with
 |slnil _ a=>exact ⟨_,run a 0 0,fun _=>rfl⟩
 |sl _ _ sz c o cap g=>exact ⟨_,run _ _ _,fun h=>by cases h⟩
theorem aiZ {id:Nat}{ops:Array Oper}{o0 o1:Oper}{t e:TypeId}{yt:TypeId}{fr:lH}{ah:AH}{nx:Nat}{Q:AQ}{rows:List (List AV)}{full:Bool}(hops:ops=#[o0,o1])(h0:o0.op=.move (.tmp 0))(g0:o0.guard=none)(d0:o0.dst=some 3)
  (h1:o1.op=.binOp .eql t (.tmp 3) (.const (.slice none 0 0)) yt) (g1:o1.guard=none) (d1:o1.dst=some 4) (hu:P.underlying t=some (.slice e)) (hfr:iP fr 0=some (.sl rows full)) (hlen:4<fr.length)
  (hQ:∀b:Bool,(b=true->rows=[])->Q .normal (vY (vY fr 3 (.sl rows full)) 4 (.p (.bool b))) ah (nx+2)):AW P (.region id ops false) fr ah nx Q:=by
 subst hops
 intro base w E a hs
 refine wp_region ?_
 show wpOps P #[o0,o1] _ [0,1] a w
 rw [wpOps_cons]
 unfold wpOp
 simp only [List.getElem?_toArray,List.getElem?_cons_zero]
 obtain ⟨v,hv,hr⟩:=hs.fr.get 0 _ hfr
 have ev0:a.eval (.tmp 0)=v:=by simp [Act.eval,hv]
 rw [if_pos (by simp [Region.wanted,g0])]
 refine .inl (awN (P:=P) (s:=pure (.value v)) (v:=v) (w':=w) (by simp [execOp,h0,ev0]) rfl ?_)
 rw [wpOps_cons]
 unfold wpOp
 simp only [List.getElem?_toArray,List.getElem?_cons_zero,List.getElem?_cons_succ]
 rw [if_pos (by simp [Region.wanted,g1])]
 have aqt:=hs.fr.put o0.dst hr
 have hput:iP (xC fr o0.dst (.sl rows full)) 3=some (.sl rows full):=by rw [d0];simp only [xC,tH];rw [if_pos ⟨trivial,by omega⟩]
 obtain ⟨v1,hv1,hr1⟩:=aqt.get 3 _ hput
 have ev1:(a.put o0.dst v).eval (.tmp 3)=v1:=by simp [Act.eval,hv1]
 have ev2:(a.put o0.dst v).eval (.const (.slice none 0 0))=.slice none 0 0:=rfl
 obtain ⟨b,hb,hbr⟩:=axU (P:=P) hu hr1 (.tmp 3) (.const (.slice none 0 0))
 refine .inl (awN (P:=P) (s:=do pure (.value (<- (do eqGuard .eql t (.tmp 3) (.const (.slice none 0 0)) v1 (.slice none 0 0);binOp .eql t v1 (.slice none 0 0):Sem Value)))) (v:=.bool b) (w':=w) (by simp only [execOp,h1,ev1,ev2]) ?_ ?_)
 .rw [Sem.run_bind,hb];rfl
 .show Gj base w E Q .normal _ _
  have hfr2:=aqt.put (x:=.p (.bool b)) o1.dst (.p rfl)
  have e1:xC (xC fr o0.dst (.sl rows full)) o1.dst (.p (.bool b))=vY (vY fr 3 (.sl rows full)) 4 (.p (.bool b)):=by rw [d0,d1];rfl
  rw [e1] at hfr2
  exact ⟨E,_,ah,nx+2,hQ b hbr,⟨hs.heap.weaken (fun b hb=>by omega),hfr2,by rw [awH,awH];exact hs.defers⟩,Step.refl _ _ _⟩
def AY (fn:Func):Option TypeId:=
 match fn.body with
 |some (.seq (.region _ r0 false) (.seq (.seq (.region _ r1 false) (.cond (.tmp 4) (.seq (.region _ r2 false) .ret) .skip)) (.seq (.region _ r3 false) .ret)))=>
  match r0.toList,r1.toList,r2.toList,r3.toList with
  |[a0],[b0,b1],[c0],[d0,d1,d2,d3]=>
   match a0.op,b0.op,b1.op,c0.op,d0.op,d1.op,d2.op,d3.op with
   | .assign (.const (.slice none 0 0)),.move (.tmp 0),.binOp .eql t (.tmp 3) (.const (.slice none 0 0)) _,.assign (.const (.slice none 0 0)),.buildSlice t1 0 ps,.move (.tmp 0),.call ⟨.builtin .append,az,ts⟩,.assign (.tmp 7)=>
    match az.toList,ts.toList with
    |[.tmp 5,.tmp 6],[t2,t3]=>
     bif [a0,b0,b1,c0,d0,d1,d2,d3].all (fun o=>o.guard.isNone)&&([a0,b0,b1,c0,d0,d1,d2,d3].map (·.dst) == [some 2,some 3,some 4,some 2,some 5,some 6,some 7,some 2])&&(Nat.beq t t1&&(Nat.beq t t2&&(Nat.beq t t3&&ps.isEmpty)))
      &&Nat.beq fn.ntmps 8&&decide (fn.name≠ "runtime.NumGoroutine")&&(match fn.results.toList with | [.tmp 2]=>true|_=>false) then some t else none
    |_,_=>none
   |_,_,_,_,_,_,_,_=>none
  |_,_,_,_=>none
 |_=>none
theorem ai0 {f:FuncId}{fn:Func}{t e:TypeId}{i:TypeInfo}{z:List AV}(hfn:P.funcs[f]?=some fn)(h:AY fn=some t)(hu:P.underlying t=some (.slice e))(hi:P.info? e=some i)(hz:awM P e=some z)
  (hzl:z.length=i.size) (hby:i.bytes<=4096) (hsz:i.size≠0) {rows:List (List AV)} (hr:kW i.size rows) (hc:jr rows=true) (hl:rows.length<=4294967296):PC P f [.sl rows false] (.sl rows false):=by
 unfold AY at h
 split at h
 .rename_i Xd r0 id1 r1 id2 r2 id3 r3 hbody
  split at h
  .rename_i a0 b0 b1 c0 d0 d1 d2 d3 e0 e1 e2 e3
   split at h
   .rename_i t' yt t1 ps az ts q0 q1 q2 q3 q4 q5 q6 q7
    split at h
    .rename_i t2 t3 eas ets
     generalize hg:(([a0,b0,b1,c0,d0,d1,d2,d3].all (fun o=>o.guard.isNone)&&([a0,b0,b1,c0,d0,d1,d2,d3].map (·.dst) == [some 2,some 3,some 4,some 2,some 5,some 6,some 7,some 2])&&(Nat.beq t' t1&&(Nat.beq t' t2&&(Nat.beq t' t3&&ps.isEmpty)))
      &&Nat.beq fn.ntmps 8&&decide (fn.name≠ "runtime.NumGoroutine")&&(match fn.results.toList with | [.tmp 2]=>true|_=>false)))=g at h
     cases g
     .cases h
     .simp only [cond_true,au] at h
      subst h
      simp only [ay,decide_eq_true_eq,beq_iff_eq] at hg
      obtain ⟨⟨⟨⟨⟨hgu,hds⟩,hty,aop,aoq,hps⟩,hnt⟩,hname⟩,hres⟩:=hg
      have ht1:=aA hty
      have ht2:=aA aop
      have ht3:=aA aoq
      subst ht1;subst ht2;subst ht3
      have hnt:=aA hnt
      simp only [List.all_cons,List.all_nil,Bool.and_true,ay,Option.isNone_iff_eq_none] at hgu
      obtain ⟨ga0,gb0,gb1,gc0,gd0,gd1,gd2,gd3⟩:=hgu
      simp only [aZ,List.map_nil,List.cons.injEq,and_true] at hds
      obtain ⟨da0,db0,db1,dc0,dd0,dd1,dd2,dd3⟩:=hds
      have aor:ps.toList=[]:=by
       have:ps=#[]:=by simpa using hps
       rw [this]
      have Z7:fn.results.toList=[.tmp 2]:=by
       split at hres
       .assumption
       .cases hres
      have er1:r1=#[b0,b1]:=by apply Array.ext';simpa using e1
      have one:∀(id:Nat) (ops:Array Oper) (l:List Oper) (fr:lH) (ah:AH) (nx:Nat) (Q:AQ),ops.toList=l->P5 P ops none nx 0 l fr ah [] (fun fr' fK=>Q .normal fr' fK (nx+ops.size))->AW P (.region id ops false) fr ah nx Q:=by
       intro id ops l fr ah nx Q hl h
       subst hl
       exact Vp h
      have huE:awM P e=some z:=hz
      have aos:lU P t'=some (i.size,i.bytes):=by simp [lU,hu,hi]
      refine aho hfn hbody hname (by rw [hnt];simp) ?_
      rw [hnt]
      refine wB (one _ _ _ _ _ _ _ e0 ?_)
      simp only [P5,mJ,ga0,aIf,Yv,q0,ev,ofV,ofC,fQ,aw3,da0,xC,true_and]
      refine wB (wB (aiZ er1 q1 gb0 db0 q2 gb1 db1 hu (rows:=rows) (full:=false) (by rfl) (by simp [gG]) fun b hb=>?_))
      refine Xg b (by rfl) ?_
      cases b with
      |true=>
       have hrn:=hb rfl
       subst hrn
       rw [if_pos rfl]
       refine wB (one _ _ _ _ _ _ _ e2 ?_)
       simp only [P5,mJ,gc0,aIf,Yv,q3,ev,ofV,ofC,fQ,aw3,dc0,xC,true_and]
       refine Rj ⟨.inr rfl,?_⟩
       rw [Z7]
       rfl
      |false=>
       rw [if_neg (by simp)]
       refine Xf ?_
       refine wB (one _ _ _ _ _ _ _ e3 ?_)
       have happ:∀(ah:AH) (id1 id2:Nat) (K:qY->Prop),ah id1=some (.rows i.size [])->K ⟨.os id2 i.size 0 (0+rows.length),[(id1,none),(id2,some (.rows i.size (((([]:List (List AV)).drop 0).take 0)++rows)))],id1::[]⟩->
         yQ P id2 ah t' t' (.os id1 i.size 0 0) (.sl rows false) K:=by
        intro ah id1 id2 K hab hK
        refine dG.2 ⟨_,aos,hby,hsz,?_,?_,hr,rfl,?_⟩
        .rw [hu];trivial
        .rw [hu];simp [huE,hzl]
        .rw [hab];exact ⟨rfl,by simp,by simpa using hl,hK⟩
       have hbs:∀(id:Nat) (K:qY->Prop),K ⟨.os id i.size 0 0,[(id,some (.rows i.size (awR i.size 0 [])))],[]⟩->lI P t' id 0 [] K:=by
        intro id K hK
        unfold lI
        rw [hu]
        exact dG.2 ⟨i,hi,dG.2 ⟨z,huE,hzl,by simp,dG.2 ⟨[],rfl,hK⟩⟩⟩
       simp only [P5,mJ,gd0,gd1,gd2,gd3,aIf,Yv,q4,q5,q6,q7,aor,U5,eas,ets,aw3,dd0,dd1,dd2,dd3,true_and]
       refine dG.2 ⟨[],rfl,hbs _ _ ?_⟩
       refine dG.2 ⟨.sl rows false,rfl,?_⟩
       refine dG.2 ⟨[.os _ i.size 0 0,.sl rows false],rfl,?_⟩
       have hts:ts=#[t',t']:=by apply Array.ext';simpa using ets
       subst hts
       refine dG.2 ⟨t',rfl,dG.2 ⟨t',rfl,.inl<|happ _ _ _ _ (by simp [qx,upd,awR]) ?_⟩⟩
       refine dG.2 ⟨.os _ i.size 0 (0+rows.length),rfl,?_⟩
       refine Rj ⟨.inr rfl,?_⟩
       rw [Z7]
       refine dG.2 ⟨.os _ i.size 0 (0+rows.length),rfl,?_⟩
       exact LM (by simp [qx,upd]) hc (by simp)
    .cases h
   .cases h
  .cases h
 .cases h
theorem agj {f:FuncId}{fn:Func}{t e:TypeId}{i:TypeInfo}{z:List AV}(hfn:P.funcs[f]?=some fn)(h:AY fn=some t)(hu:P.underlying t=some (.slice e))(hi:P.info? e=some i)(hz:awM P e=some z)
  (hzl:z.length=i.size) (hby:i.bytes<=4096) (hsz:i.size≠0) {rows:List (List AV)} (hr:kW i.size rows) (hc:jr rows=true) (hl:rows.length<=4294967296) (hfl:rows.all yY=true):PCa P f [.sl rows false] (.sl rows false):=by
 unfold AY at h
 split at h
 .rename_i Xd r0 id1 r1 id2 r2 id3 r3 hbody
  split at h
  .rename_i a0 b0 b1 c0 d0 d1 d2 d3 e0 e1 e2 e3
   split at h
   .rename_i t' yt t1 ps az ts q0 q1 q2 q3 q4 q5 q6 q7
    split at h
    .rename_i t2 t3 eas ets
     generalize hg:(([a0,b0,b1,c0,d0,d1,d2,d3].all (fun o=>o.guard.isNone)&&([a0,b0,b1,c0,d0,d1,d2,d3].map (·.dst) == [some 2,some 3,some 4,some 2,some 5,some 6,some 7,some 2])&&(Nat.beq t' t1&&(Nat.beq t' t2&&(Nat.beq t' t3&&ps.isEmpty)))
      &&Nat.beq fn.ntmps 8&&decide (fn.name≠ "runtime.NumGoroutine")&&(match fn.results.toList with | [.tmp 2]=>true|_=>false)))=g at h
     cases g
     .cases h
     .simp only [cond_true,au] at h
      subst h
      simp only [ay,decide_eq_true_eq,beq_iff_eq] at hg
      obtain ⟨⟨⟨⟨⟨hgu,hds⟩,hty,aop,aoq,hps⟩,hnt⟩,hname⟩,hres⟩:=hg
      have ht1:=aA hty
      have ht2:=aA aop
      have ht3:=aA aoq
      subst ht1;subst ht2;subst ht3
      have hnt:=aA hnt
      simp only [List.all_cons,List.all_nil,Bool.and_true,ay,Option.isNone_iff_eq_none] at hgu
      obtain ⟨ga0,gb0,gb1,gc0,gd0,gd1,gd2,gd3⟩:=hgu
      simp only [aZ,List.map_nil,List.cons.injEq,and_true] at hds
      obtain ⟨da0,db0,db1,dc0,dd0,dd1,dd2,dd3⟩:=hds
      have aor:ps.toList=[]:=by
       have:ps=#[]:=by simpa using hps
       rw [this]
      have Z7:fn.results.toList=[.tmp 2]:=by
       split at hres
       .assumption
       .cases hres
      have er1:r1=#[b0,b1]:=by apply Array.ext';simpa using e1
      have one:∀(id:Nat) (ops:Array Oper) (l:List Oper) (fr:lH) (ah:AH) (nx:Nat) (Q:AQ),ops.toList=l->P5 P ops none nx 0 l fr ah [] (fun fr' fK=>Q .normal fr' fK (nx+ops.size))->AW P (.region id ops false) fr ah nx Q:=by
       intro id ops l fr ah nx Q hl h
       subst hl
       exact Vp h
      have huE:awM P e=some z:=hz
      have aos:lU P t'=some (i.size,i.bytes):=by simp [lU,hu,hi]
      refine afo hfn hbody hname (by rw [hnt];simp) ?_
      rw [hnt]
      refine wB (one _ _ _ _ _ _ _ e0 ?_)
      simp only [P5,mJ,ga0,aIf,Yv,q0,ev,ofV,ofC,fQ,aw3,da0,xC,true_and]
      refine wB (wB (aiZ er1 q1 gb0 db0 q2 gb1 db1 hu (rows:=rows) (full:=false) (by rfl) (by simp [gG]) fun b hb=>?_))
      refine Xg b (by rfl) ?_
      cases b with
      |true=>
       have hrn:=hb rfl
       subst hrn
       rw [if_pos rfl]
       refine wB (one _ _ _ _ _ _ _ e2 ?_)
       simp only [P5,mJ,gc0,aIf,Yv,q3,ev,ofV,ofC,fQ,aw3,dc0,xC,true_and]
       refine Rj ⟨.inr rfl,?_⟩
       rw [Z7]
       exact ⟨rfl,rfl,fun b hb=>by cases hb⟩
      |false=>
       rw [if_neg (by simp)]
       refine Xf ?_
       refine wB (one _ _ _ _ _ _ _ e3 ?_)
       have happ:∀(ah:AH) (id1 id2:Nat) (K:qY->Prop),ah id1=some (.rows i.size [])->K ⟨.os id2 i.size 0 (0+rows.length),[(id1,none),(id2,some (.rows i.size (((([]:List (List AV)).drop 0).take 0)++rows)))],id1::[]⟩->
         yQ P id2 ah t' t' (.os id1 i.size 0 0) (.sl rows false) K:=by
        intro ah id1 id2 K hab hK
        refine dG.2 ⟨_,aos,hby,hsz,?_,?_,hr,rfl,?_⟩
        .rw [hu];trivial
        .rw [hu];simp [huE,hzl]
        .rw [hab];exact ⟨rfl,by simp,by simpa using hl,hK⟩
       have hbs:∀(id:Nat) (K:qY->Prop),K ⟨.os id i.size 0 0,[(id,some (.rows i.size (awR i.size 0 [])))],[]⟩->lI P t' id 0 [] K:=by
        intro id K hK
        unfold lI
        rw [hu]
        exact dG.2 ⟨i,hi,dG.2 ⟨z,huE,hzl,by simp,dG.2 ⟨[],rfl,hK⟩⟩⟩
       simp only [P5,mJ,gd0,gd1,gd2,gd3,aIf,Yv,q4,q5,q6,q7,aor,U5,eas,ets,aw3,dd0,dd1,dd2,dd3,true_and]
       refine dG.2 ⟨[],rfl,hbs _ _ ?_⟩
       refine dG.2 ⟨.sl rows false,rfl,?_⟩
       refine dG.2 ⟨[.os _ i.size 0 0,.sl rows false],rfl,?_⟩
       have hts:ts=#[t',t']:=by apply Array.ext';simpa using ets
       subst hts
       refine dG.2 ⟨t',rfl,dG.2 ⟨t',rfl,.inl<|happ _ _ _ _ (by simp [qx,upd,awR]) ?_⟩⟩
       refine dG.2 ⟨.os _ i.size 0 (0+rows.length),rfl,?_⟩
       refine Rj ⟨.inr rfl,?_⟩
       rw [Z7]
       refine dG.2 ⟨.os _ i.size 0 (0+rows.length),rfl,?_⟩
       refine ⟨?_,rfl,fun b hb k hk=>?_⟩
       .exact LM (by simp [qx,upd]) hc (by simp)
       .have hb':b=_:=bV.1 hb
        subst hb'
        have hk':some (uz.rows i.size ((([]:List (List AV)).drop 0).take 0++rows))=some k:=by rw [<- hk];simp [qx,upd]
        cases hk'
        simpa [uz.Gi] using hfl
    .cases h
   .cases h
  .cases h
 .cases h
def Jq (P:Program)(f:FuncId):Option Nat:=
 match P.funcs[f]? with
 |none=>none
 |some fn=>match AY fn with
  |none=>none
  |some t=>match P.underlying t with
   |some (.slice e)=>match P.info? e,(awM P e).map List.length with
    |some i,some n=>bif Nat.beq n i.size&&(Nat.ble i.bytes 4096&&!Nat.beq i.size 0) then some i.size else none
    |_,_=>none
   |_=>none
def acB (P:Program):pG:=fun pc nv f args=>
 match args with
 |[.sc .sl tm]=>match Jq P f with
  |some n=>some (.sc .sl tm,nv,[(pc,.JJ n tm),(pc,.len2 0 tm)],false)
  |none=>none
 |[.slc rows false]=>match Jq P f with
  |some n=>bif rows.all (fun r=>Nat.beq r.length n)&&(BZ rows&&Nat.ble rows.length 4294967296) then some (.slc rows false,nv,[],rows.all abW) else none
  |none=>none
 |_=>none
theorem Ti {f:FuncId}{n:Nat}(h:Jq P f=some n){rows:List (List AV)}(hr:kW n rows)(hc:jr rows=true)(hl:rows.length<=4294967296):PC P f [.sl rows false] (.sl rows false):=by
 unfold Jq at h
 split at h
 .cases h
 .rename_i fn hfn
  split at h
  .cases h
  .rename_i t ht
   split at h
   .rename_i e hu
    split at h
    .rename_i i m hi hm
     cases hg:Nat.beq m i.size&&(Nat.ble i.bytes 4096&&!Nat.beq i.size 0)
     .simp [hg] at h
     .simp only [hg,cond_true,au] at h;subst h
      simp only [ay,Bool.not_eq_true'] at hg
      simp only [aB] at hm
      obtain ⟨z,hz,hzm⟩:=hm
      exact ai0 hfn ht hu hi hz (by rw [hzm];exact aA hg.1) (aG hg.2.1) (fun e0=>by rw [e0] at hg;exact absurd hg.2.2 (by decide)) hr hc hl
    .cases h
   .cases h
theorem Z8 {f:FuncId}{n:Nat}(h:Jq P f=some n){rows:List (List AV)}(hr:kW n rows)(hc:jr rows=true)(hl:rows.length<=4294967296)(hfl:rows.all yY=true):PCa P f [.sl rows false] (.sl rows false):=by
 unfold Jq at h
 split at h
 .cases h
 .rename_i fn hfn
  split at h
  .cases h
  .rename_i t ht
   split at h
   .rename_i e hu
    split at h
    .rename_i i m hi hm
     cases hg:Nat.beq m i.size&&(Nat.ble i.bytes 4096&&!Nat.beq i.size 0)
     .simp [hg] at h
     .simp only [hg,cond_true,au] at h;subst h
      simp only [ay,Bool.not_eq_true'] at hg
      simp only [aB] at hm
      obtain ⟨z,hz,hzm⟩:=hm
      exact agj hfn ht hu hi hz (by rw [hzm];exact aA hg.1) (aG hg.2.1) (fun e0=>by rw [e0] at hg;exact absurd hg.2.2 (by decide)) hr hc hl hfl
    .cases h
   .cases h
theorem agk : ∀σ:List AV,iC σ=true->n_ P σ (acB P):=by
 intro σ hσ pc nv f args r h hp hs
 unfold acB at h
 split at h
 .rename_i tm
  split at h
  .rename_i n hn
   simp only [au] at h;subst h
   have h1:kW n (tm.den σ).R:=hs (pc,.JJ n tm) (by simp) hp
   have h2:0+(tm.den σ).R.length<=4294967296:=hs (pc,.len2 0 tm) (by simp) hp
   exact ⟨Ti hn h1 (jL (Tm.pF hσ tm)) (by omega),fun h=>by cases h⟩
  .cases h
 .rename_i rows
  split at h
  .rename_i n hn
   cases hg:rows.all (fun r=>Nat.beq r.length n)&&(BZ rows&&Nat.ble rows.length 4294967296)
   .simp [hg] at h
   .simp only [hg,cond_true,au] at h;subst h
    simp only [ay] at hg
    have hlen:(gY σ rows).length<=4294967296:=by rw [fO];exact aG hg.2.2
    refine ⟨Ti hn (E5 hg.1) (Ad hσ hg.2.1) hlen,fun hf=>Z8 hn (E5 hg.1) (Ad hσ hg.2.1) hlen ?_⟩
    have hf:rows.all abW=true:=hf
    rw [lG,List.all_map,aH]
    intro row hr
    exact Ic (aH.1 hf row hr)
  .cases h
 .cases h
def xOr (X Y:pG):pG:=fun pc nv f args=>match X pc nv f args with|some r=>some r|none=>Y pc nv f args
theorem aot {X Y:pG}(hX:∀σ:List AV,iC σ=true->n_ P σ X)(hY:∀σ:List AV,iC σ=true->n_ P σ Y):∀σ:List AV,iC σ=true->n_ P σ (xOr X Y):=by
 intro σ hσ pc nv f args r h hp hs
 unfold xOr at h
 split at h
 .rename_i r' hr
  simp only [au] at h;subst h
  exact hX σ hσ _ _ _ _ _ hr hp hs
 .exact hY σ hσ _ _ _ _ _ h hp hs
end
end Go.Fw
end
section
namespace Go.Fw
variable [jK]
section
variable {P : Program}
def alu (X Y:DX):DX:=fun pc th nx nv f args=>match X pc th nx nv f args with|some r=>some r|none=>Y pc th nx nv f args
theorem aei {X Y:DX}(hX:∀σ:List AV,iC σ=true->nN P σ X)(hY:∀σ:List AV,iC σ=true->nN P σ Y):∀σ:List AV,iC σ=true->nN P σ (alu X Y):=by
 intro σ hσ pc th nx nv f args R h hp hs
 unfold alu at h
 split at h
 .rename_i r' hr
  simp only [au] at h;subst h
  exact hX σ hσ _ _ _ _ _ _ _ hr hp hs
 .exact hY σ hσ _ _ _ _ _ _ _ h hp hs
end
end Go.Fw
end
section
namespace Go.Fw
variable [jK]
end Go.Fw
namespace Go.Fw
variable [jK]
def mdT (n:Nat):Md:=fun g=>(n / 4 ^ g) % 4
end Go.Fw
namespace Go.Fw
variable [jK]
end Go.Fw
namespace Go.Fw
variable [jK]
def rG (kA:List (List Nat))(f:Nat)(keep:List Nat)(l:List (Nat×JY)):FuncId->y8:=fun g=>bif Nat.beq g f then ⟨0,⟨keep,0⟩,fun id=>(l.find? fun x=>Nat.beq x.1 id).map (·.2)⟩ else ⟨0,⟨kA.getD g [],0⟩,fun _=>none⟩
end Go.Fw
namespace Go.Fw
variable [jK]
end Go.Fw
end
section
namespace Go.Fw
variable [jK]
open Go.Lib
structure XT where
 vo:FuncId
 ln:FuncId
 sw:FuncId
 l1:FuncId
 l2:FuncId
 l9:FuncId
def Tj (P:Program)(f:FuncId)(e:Array Value->Sem Value):Prop:=
 ∀args w,(callFunc f args).run P w=((e args).run P w).andThen fun v w'=>.ok (.value v) w'
structure amX (P:Program)(c:XT):Prop where
 vo:Tj P c.vo fun args=>Extern.ReflectliteValue.unpack (args.getD 0 (.tuple #[]))
 ln:Tj P c.ln (Extern.ReflectliteValue.method (Extern.ReflectliteValue.valueError "reflectlite.Value.Len" 0) Extern.ReflectliteValue.len)
 sw:Tj P c.sw (Extern.ReflectliteSwapper.swapper "internal/reflectlite" (Extern.ReflectliteValue.valueError "Swapper"))
 l9:Tj P c.l9 (Extern.ReflectliteSwapper.swap false)
 n1:P.funcs.findIdx? (·.name == "internal/reflectlite" ++ ".Swapper$" ++toString 1)=some c.l1
 n2:P.funcs.findIdx? (·.name == "internal/reflectlite" ++ ".Swapper$" ++toString 2)=some c.l2
 n9:P.funcs.findIdx? (·.name == "internal/reflectlite" ++ ".Swapper$" ++toString 9)=some c.l9
def ai1 (P:Program)(t:TypeId):Option TypeId:=
 match P.info? t with
 |some i=>match i.desc with
  | .slice e=>bif !P.packed t then some e else none
  |_=>none
 |none=>none
theorem XU {P:Program}{t e:TypeId}(h:ai1 P t=some e):∃i,P.info? t=some i/\i.desc=.slice e/\P.packed t=false:=by
 unfold ai1 at h
 split at h
 .rename_i i hi
  split at h
  .rename_i e' he
   cases hp:P.packed t
   .simp [hp] at h;subst h;exact ⟨i,hi,he,rfl⟩
   .simp [hp] at h
  .cases h
 .cases h
def ai2 : TypeDesc->Bool
 | .struct _=>true
 |_=>false
def aej (P:Program)(e:TypeId):Bool:=
 match P.info? e with
 |some ie=>ie.hasPointers&&(!(ie.bytes == 8)&&(match ie.desc with
  | .struct _=>true
  | .named _ u=>(match P.info? u with|some iu=>ai2 iu.desc|none=>false)
  |_=>false))
 |none=>false
theorem ai3 {P:Program}{e:TypeId}(h:aej P e=true):∃ie,P.info? e=some ie/\(∀w,(Extern.Rtype.kind e).run P w=.ok 25 w)/\∀n,swapperK n ie 25=if n=0 then 1 else if n=1 then 2 else 9:=by
 unfold aej at h
 split at h
 .rename_i ie hie
  simp only [ay,Bool.not_eq_true'] at h
  obtain ⟨h1,h2,h3⟩:=h
  refine ⟨ie,hie,fun w=>?_,fun n=>?_⟩
  .split at h3
   .rename_i fs hd
    simp [Extern.Rtype.kind,Extern.Rtype.under,rl_info e ie hie,hd,Result.andThen]
   .rename_i nm u hd
    split at h3
    .rename_i iu hiu
     cases hs:iu.desc with
     |struct fs=>simp [Extern.Rtype.kind,Extern.Rtype.under,rl_info e ie hie,hd,rl_info u iu hiu,hs,Result.andThen]
     |_=>rw [hs] at h3;simp [ai2] at h3
    .cases h3
   .cases h3
  .unfold swapperK
   by_cases e0:n=0
   .simp [e0]
   .by_cases e1:n=1
    .simp [e1]
    .simp [e0,e1,h1,h2]
 .cases h
theorem Tn {w:World}{E:Env}{b sz off n:Nat}{v:Value}(h:Rep w E (.os b sz off n) v):∃p c,v=.slice p n c:=by
 cases h<;>exact ⟨_,_,rfl⟩
theorem aek {w:World}{E:Env}{t:TypeId}{a:AV}{v:Value}(h:Rep w E (.lT t a) v):∃u,v=.iface t u/\Rep w E a u:=by
 cases h with|lT t a v h=>exact ⟨_,rfl,h⟩
theorem vJ {P:Program}{o:Oper}{a:Act}{w w':World}{f:FuncId}{args:Array Value}{v:Value}{next:Act->World->Prop}{Q:Exit->Act->World->Prop}{e:Array Value->Sem Value}(he:Tj P f e)
  (h:∀w',(execOp a.eval o).run P w'=(callFunc f args).run P w') (hr:(e args).run P w=.ok v w') (hn:next (a.put o.dst v) w'):o.wp P a w next Q:=by
 unfold Oper.wp
 rw [h,he,hr]
 exact hn
theorem Tq {w:World}{E:Env}{a:AV}{vs:List Value}(h:gK w E [a] vs):∃v,vs=[v]/\Rep w E a v:=by
 match vs,h.1 with
 |[v],_=>exact ⟨v,rfl,h.2 0 _ _ rfl rfl⟩
theorem acC {P:Program}{t:TypeId}{a:Addr}{w:World}:(Instr.loadAt t (.pointer (some a))).run P w=(loadVar t a).run P w:=by
 simp [Instr.loadAt,Instr.sureAddr]
theorem Z9 {P:Program}{t:TypeId}{a:Addr}{v:Value}{w:World}:(Instr.storeAt t (.pointer (some a)) v).run P w=(storeVar t a v).run P w:=by
 simp [Instr.storeAt,Instr.sureAddr]
theorem aw_ {row cs:List AV}(h:cs.length=row.length):lay row 0 cs=cs:=by
 simp [lay,h]
theorem acD {P:Program}{e:TypeId}{b:Bool}{sz:Nat}(h:Ak P e=some (b,sz))(w:World):(sizeOf e).run P w=.ok sz w:=by
 unfold Ak at h
 simp only [aV,aB] at h
 obtain ⟨d,hd,i,hi,he⟩:=h
 cases he
 simp [sizeOf,rl_info e i hi,Result.andThen]
theorem axO (i j:Int)(a:Addr)(n cap:Nat)(h:Value):Extern.ReflectliteSwapper.swap false #[.int .i64 i,.int .i64 j,.slice (some a) n cap,h]=(do
 if i<0||i>=n||j<0||j>=n then Extern.ReflectliteSwapper.outOfRange
 Extern.ReflectliteSwapper.exchange (<- Extern.Rtype.ofHandle h) a i.toNat j.toNat):=rfl
theorem ai4 (i j:Nat)(a:Addr)(n cap:Nat)(h:Value)(hi:i<n)(hj:j<n):Extern.ReflectliteSwapper.swap false #[.int .i64 i,.int .i64 j,.slice (some a) n cap,h]=(do Extern.ReflectliteSwapper.exchange (<- Extern.Rtype.ofHandle h) a i j):=by
 rw [axO,if_neg (by simp;omega)]
 simp
end Go.Fw
end
section
namespace Go.Fw
variable [jK]
def wY : List Nat->SV->SV->SV
 |[],_,y=>y
 |j::p,.agg l,y=>.agg (l.set j (wY p (l.getD j .nil) y))
 |j::p,.eG l,y=>.eG (l.set j (wY p (l.getD j .nil) y))
 |_::_,a,_=>a
def yD : List Nat->SV->Option SV
 |[],x=>some x
 |j::p,.agg l=>match BA l j with|some x=>yD p x|none=>none
 |j::p,.eG l=>match BA l j with|some x=>yD p x|none=>none
 |_::_,_=>none
theorem vK {ρ:List AV}{l:List SV}{j:Nat}{x:SV}(h:BA l j=some x):(dN ρ l).getD j eu=x.den ρ/\l.getD j .nil=x:=by
 have h2:=DN (ρ:=ρ) h
 rw [wF] at h
 exact ⟨by simp [aF,h2],by simp [aF,h]⟩
theorem Jr {ρ:List AV}{l:List SV}{j:Nat}{x:SV}:dN ρ (l.set j x)=(dN ρ l).set j (x.den ρ):=by simp [mY,List.map_set]
theorem IE {ρ:List AV}{y:SV}:∀{p:List Nat} {x z:SV},yD p x=some z->(wY p x y).den ρ=uX p (x.den ρ) (y.den ρ)
 |[],x,z,h=>rfl
 |j::p,.agg l,z,h=>by
  simp only [yD] at h
  split at h
  .rename_i x hx
   obtain ⟨e1,e2⟩:=vK (ρ:=ρ) hx
   simp only [wY,SV.den,uX,Jr,e1,e2,IE h]
  .cases h
 |j::p,.eG l,z,h=>by
  simp only [yD] at h
  split at h
  .rename_i x hx
   obtain ⟨e1,e2⟩:=vK (ρ:=ρ) hx
   simp only [wY,SV.den,uX,Jr,e1,e2,IE h]
  .cases h
 |j::p,.sc ..,z,h|j::p,.c _,z,h|j::p,.nil,z,h|j::p,.sf _,z,h|j::p,.slc ..,z,h|j::p,.vp ..,z,h|j::p,.os ..,z,h|j::p,.op ..,z,h|j::p,.fn ..,z,h|j::p,.lT ..,z,h|j::p,.mp _,z,h=>by simp [yD] at h
theorem D_ {ρ:List AV}:∀{p:List Nat} {x z:SV},yD p x=some z->awJ (x.den ρ) p=z.den ρ
 |[],x,z,h=>by simp only [yD,au] at h;subst h;cases x<;>rfl
 |j::p,.agg l,z,h=>by
  simp only [yD] at h
  split at h
  .rename_i x hx
   simp only [SV.den,awJ,(vK (ρ:=ρ) hx).1,D_ h]
  .cases h
 |j::p,.eG l,z,h=>by
  simp only [yD] at h
  split at h
  .rename_i x hx
   simp only [SV.den,awJ,(vK (ρ:=ρ) hx).1,D_ h]
  .cases h
 |j::p,.sc ..,z,h|j::p,.c _,z,h|j::p,.nil,z,h|j::p,.sf _,z,h|j::p,.slc ..,z,h|j::p,.vp ..,z,h|j::p,.os ..,z,h|j::p,.op ..,z,h|j::p,.fn ..,z,h|j::p,.lT ..,z,h|j::p,.mp _,z,h=>by simp [yD] at h
theorem agl {y y':AV}(hs:y'.jy=y.jy):∀{p:List Nat} {a:AV},(uX p a y').jy=(uX p a y).jy
 |[],a=>hs
 |j::p,a=>by cases a<;>rfl
theorem MQ {l:List AV}{j:Nat}(hj:j<l.length):l.getD j eu=l[j]:=by simp [aF,hj]
theorem Ea {l:List AV}{j i:Nat}{x c:AV}(hij:j≠i)(hi:l[i]?=some c):(l.set j x)[i]?=some c:=by rw [List.getElem?_set_ne hij];exact hi
theorem MR {w:World}{E E':Env}{y y':AV}(Q:AV->Prop)(hagg:∀l,Q (.agg l)->∀(i:Nat) (c:AV),l[i]?=some c->Q c)(Z_:∀l,Q (.eG l)->∀(i:Nat) (c:AV),l[i]?=some c->Q c)(hs:y'.jy=y.jy)(hy:∀u,Rep w E y u->Rep w E' y' u)(hall:∀x u,Rep w E x u->Q x->Rep w E' x u):∀{p:List Nat} {a:AV} {v:Value},Q (uX p a (.sl [] true))->awJ a p≠eu->Rep w E (uX p a y) v->Rep w E' (uX p a y') v
 |[],a,v,_,_,h=>hy _ h
 |j::p,.agg l,v,hc,hne,h=>by
  simp only [awJ] at hne
  simp only [uX] at h hc ⊢
  have hj:j<l.length:=by
   refine Nat.lt_of_not_le fun hle=>hne ?_
   have e:l.getD j eu=eu:=by simp [aF,bP hle]
   rw [e]
   cases p<;>rfl
  have hcj:=hagg _ hc j _ (by rw [bQ hj])
  cases h with
  |agg cs vs hl hsc h=>
   refine .agg _ _ (by simpa using hl) ?_ ?_
   .intro c hcm
    obtain ⟨i,hi⟩:=List.getElem?_of_mem hcm
    by_cases hij:j=i
    .subst hij
     rw [bQ (by simpa using hj)] at hi
     simp only [au] at hi;subst hi
     rw [agl hs]
     exact hsc _ (aJ (i:=j) (by rw [bQ hj]))
    .rw [List.getElem?_set_ne hij] at hi
     exact hsc c (aJ (i:=i) (Ea hij hi))
   .intro i c u hi hu
    by_cases hij:j=i
    .subst hij
     rw [bQ (by simpa using hj)] at hi
     simp only [au] at hi;subst hi
     exact MR Q hagg Z_ hs hy hall hcj hne (h j _ u (by rw [bQ hj]) hu)
    .rw [List.getElem?_set_ne hij] at hi
     exact hall _ _ (h i c u (Ea hij hi) hu) (hagg _ hc i c (Ea hij hi))
 |j::p,.eG l,v,hc,hne,h=>by
  simp only [awJ] at hne
  simp only [uX] at h hc ⊢
  have hj:j<l.length:=by
   refine Nat.lt_of_not_le fun hle=>hne ?_
   have e:l.getD j eu=eu:=by simp [aF,bP hle]
   rw [e]
   cases p<;>rfl
  have hcj:=Z_ _ hc j _ (by rw [bQ hj])
  cases h with
  |eG cs vs hl h=>
   refine .eG _ _ (by simpa using hl) ?_
   intro i c u hi hu
   by_cases hij:j=i
   .subst hij
    rw [bQ (by simpa using hj)] at hi
    simp only [au] at hi;subst hi
    exact MR Q hagg Z_ hs hy hall hcj hne (h j _ u (by rw [bQ hj]) hu)
   .rw [List.getElem?_set_ne hij] at hi
    exact hall _ _ (h i c u (Ea hij hi) hu) (Z_ _ hc i c (Ea hij hi))
 |_::_,.p _,_,_,hne,_|_::_,.str _,_,_,hne,_|_::_,.sl ..,_,_,hne,_|_::_,.vp ..,_,_,hne,_|_::_,.os ..,_,_,hne,_|_::_,.op ..,_,_,hne,_|_::_,.fn ..,_,_,hne,_|_::_,.lT ..,_,_,hne,_|_::_,.mp _,_,_,hne,_=>absurd rfl hne
theorem La {y:AV}(hy:y.clean=true):∀{p:List Nat} {a:AV},a.clean=true->(uX p a y).clean=true
 |[],a,_=>hy
 |j::p,.agg l,h=>by
  show kE (l.set j (uX p (l.getD j eu) y))=true
  refine AB fun x hx=>?_
  rcases List.mem_or_eq_of_mem_set hx with hx|rfl
  .exact Fv (l:=l) h hx
  .refine La hy ?_
   rw [aF]
   cases e:l[j]? with
   |none=>rfl
   |some z=>exact kQ (l:=l) h j z e
 |j::p,.eG l,h=>by
  show kE (l.set j (uX p (l.getD j eu) y))=true
  refine AB fun x hx=>?_
  rcases List.mem_or_eq_of_mem_set hx with hx|rfl
  .exact Fv (l:=l) h hx
  .refine La hy ?_
   rw [aF]
   cases e:l[j]? with
   |none=>rfl
   |some z=>exact kQ (l:=l) h j z e
 |_::_,.p _,h|_::_,.str _,h|_::_,.sl ..,h|_::_,.vp ..,h|_::_,.os ..,h|_::_,.op ..,h|_::_,.fn ..,h|_::_,.lT ..,h|_::_,.mp _,h=>h
abbrev aou :=FuncId->Option (List Nat×Nat×Bool)
def aov (P:Program)(oc:aou):DX:=fun pc th nx nv f args=>
 match oc f with
 |none=>none
 |some c=>
  match Gn (thN th awT) (Di th nv args).1 with
  |none=>none
  |some az=>match ahz P (Di th nv args).2.1 f with
   |none=>none
   |some r=>match yD c.1 r with
    |some (.sc .sl t)=>bif r.cln&&(Ib args||(c.2.2&&(wY c.1 r .nil).kJ)) then
     some ⟨[(.lb true,⟨wY c.1 r (.os nx c.2.1 0 (.rlen t)),wrT th [(nx,some (.fE c.2.1 t))],nx+1⟩)],(Di th nv args).2.1+1,(Di th nv args).2.2.map (fun s=>(pc,s))++[(pc,.JU f (xH az) r c.1 c.2.1 c.2.2)]⟩ else none
    |_=>none
theorem sW : ∀{l:List AV} {b:Nat},b∈lS l->∃(i:Nat) (x:AV),l[i]?=some x/\b∈x.refs
 |[],b,h=>by simp [lS] at h
 |y::r,b,h=>by
  simp only [lS,aK] at h
  rcases h with h|h
  .exact ⟨0,y,rfl,h⟩
  .obtain ⟨i,x,h1,h2⟩:=sW h;exact ⟨i+1,x,by simpa using h1,h2⟩
theorem Js : ∀{l:List (List AV)} {b:Nat},b∈lW l->∃(i:Nat) (x:List AV),l[i]?=some x/\b∈lS x
 |[],b,h=>by simp [lW] at h
 |y::r,b,h=>by
  simp only [lW,aK] at h
  rcases h with h|h
  .exact ⟨0,y,rfl,h⟩
  .obtain ⟨i,x,h1,h2⟩:=Js h;exact ⟨i+1,x,by simpa using h1,h2⟩
section
variable {P : Program}
theorem zN {w:World}{E:Env}{a:AV}{v:Value}(h:Rep w E a v):∀b∈a.refs,E.own b≠.free:=by
 induction h with
 |p|str|slnil=>intro b hb;simp [AV.refs,lW] at hb
 |agg cs vs hl hs h ih=>
  intro b hb
  obtain ⟨i,c,hi,hb⟩:=sW hb
  exact ih i c (vs[i]'(by rw [<- hl];exact (aC.1 hi).1)) hi (by simp) b hb
 |eG cs vs hl h ih=>
  intro b hb
  obtain ⟨i,c,hi,hb⟩:=sW hb
  exact ih i c (vs[i]'(by rw [<- hl];exact (aC.1 hi).1)) hi (by simp) b hb
 |sl rows full sz c o cap g h1 h2 h3 h4 h5 h6 h7 ih=>
  intro b hb
  obtain ⟨i,row,hi,hb⟩:=Js hb
  obtain ⟨j,x,hj,hb⟩:=sW hb
  exact ih i row j x hi hj b hb
 |vp row off c o g h1 h2 h3 h4 ih=>
  intro b hb
  obtain ⟨j,x,hj,hb⟩:=sW hb
  exact ih j x hj b hb
 |lQ b sz off a hb=>intro x hx;simp [AV.refs] at hx;subst hx;exact hb
 |os b sz off len c o cap hb=>intro x hx;simp [AV.refs] at hx;subst hx;rw [hb];simp
 |op b sz row off c o hb=>intro x hx;simp [AV.refs] at hx;subst hx;rw [hb];simp
 |fn f first captured vs us hl hl' h h' ih ih'=>
  intro b hb
  simp only [AV.refs,aK] at hb
  rcases hb with hb|hb
  .obtain ⟨i,c,hi,hb⟩:=sW hb
   exact ih i c (vs[i]'(by rw [<- hl];exact (aC.1 hi).1)) hi (by simp) b hb
  .obtain ⟨i,c,hi,hb⟩:=sW hb
   exact ih' i c (us[i]'(by rw [<- hl'];exact (aC.1 hi).1)) hi (by simp) b hb
 |lT t a v h ih=>exact ih
 |mp b c hb=>intro x hx;simp [AV.refs] at hx;subst hx;rw [hb];simp
theorem agm {base:Nat}{w:World}{E:Env}{b:Nat}{k:uz}(h:qA base w E b k){x:Nat}(hx:x∈k.vH):E.own x≠.free:=by
 cases k with
 |rows sz rs=>
  obtain ⟨i,row,hi,hx⟩:=Js hx
  obtain ⟨j,y,hj,hx⟩:=sW hx
  rcases h with ⟨-,q2⟩|⟨c,o,arr,ty,q1,q2,q3,q4,q5,q6,q7,q8⟩
  .rw [q2] at hi;simp at hi
  .obtain ⟨v,-,hr⟩:=q8 i row j y hi hj
   exact zN hr x hx
 |jZ ty sz rs=>
  obtain ⟨i,row,hi,hx⟩:=Js hx
  obtain ⟨j,y,hj,hx⟩:=sW hx
  rcases h with ⟨-,q2⟩|⟨c,o,arr,q1,q2,q3,q4,q5,q6,q7,q8⟩
  .rw [q2] at hi;simp at hi
  .obtain ⟨v,-,hr⟩:=q8 i row j y hi hj
   exact zN hr x hx
 |it m n k=>
  obtain ⟨c,cm,q1,q2,q3,q4,q5⟩:=h
  simp only [uz.vH,bV] at hx
  subst hx;rw [q5];simp
 |map es=>
  obtain ⟨c,kX,clock,q1,q2,q3,q4,q5,q6,q7⟩:=h
  simp only [uz.vH,aK] at hx
  rcases hx with hx|hx
  .obtain ⟨i,y,hi,hx⟩:=sW hx
   simp only [bT,aB] at hi
   obtain ⟨e,he,rfl⟩:=hi
   exact zN (q6 i e (kX[i]'(by rw [<- q5];exact (aC.1 he).1)) he (by simp)).1 x hx
  .obtain ⟨i,y,hi,hx⟩:=sW hx
   simp only [bT,aB] at hi
   obtain ⟨e,he,rfl⟩:=hi
   exact zN (q6 i e (kX[i]'(by rw [<- q5];exact (aC.1 he).1)) he (by simp)).2.1 x hx
theorem Lc {w:World}{E E':Env}(hf:∀c o,E.fix c o->E'.fix c o){a:AV}{v:Value}(h:Rep w E a v)(hc:a.clean=true):Rep w E' a v:=by
 refine uJ hf h fun b hb=>?_
 have:=jE (l:=[a]) (by simp [kE,hc])
 simp only [lS,cZ] at this
 rw [this] at hb;cases hb
theorem Tt {p:List Nat}{r:AV}{rows:List (List AV)}{f:Bool}(h:awJ r p=.sl rows f):awJ r p≠eu:=by rw [h];intro e;cases e
theorem alv {oc:aou}:∀σ:List AV,iC σ=true->nN P σ (aov P oc):=by
 intro ρ hρ pc th nx nv f args R h hp hs base w E ah vs hah hh hG hrep o a he next Q hnext
 unfold aov at h
 split at h
 .cases h
 rename_i c hc
 obtain ⟨p,sz,fl⟩:=c
 dsimp only at h
 split at h
 .cases h
 rename_i az has
 split at h
 .cases h
 rename_i r hr
 split at h
 rotate_left
 .cases h
 rename_i t ht
 cases hg:(r.cln&&(Ib args||(fl&&(wY p r .nil).kJ)))
 .simp [hg] at h
 simp only [hg,cond_true,au] at h
 subst h
 simp only [ay] at hg
 obtain ⟨hrc,hg⟩:=hg
 have hpre:∀s∈(Di th nv args).2.2,s.holds P ρ:=fun s hm=>hs (pc,s) (cO _ (aW.2 ⟨s,hm,rfl⟩)) hp
 obtain ⟨hpc,asK⟩:=hs (pc,.JU f (xH az) r p sz fl) (dh _ (bV.2 rfl)) hp
 have hfz:=(Ie hρ hah hpre (n:=awT)).trans (wL hρ (Fe hρ hah awT) has)
 have asL:(r.den ρ).clean=true:=Xv hρ hrc
 have hcell:awJ (r.den ρ) p=.sl (t.den ρ).R false:=D_ ht
 have hrows:BX p (r.den ρ)=(t.den ρ).R:=by unfold BX;rw [hcell];rfl
 
 obtain ⟨fix,hfix,WW,ahc,hback⟩:∃fix:Nat->Nat->Prop,(∀c o,E.fix c o->fix c o)/\(∀c o,fix c o->c<w.heap.size)/\gK w (eH fix) (dN ρ az) vs/\
   ((∀c o,fix c o->E.fix c o)\/((uX p (r.den ρ) (.sl [] true)).flat=true/\∀row∈BX p (r.den ρ),yY row=true)):=by
  rw [bf] at hg
  rcases hg with hcl|hcl
  .have hcl':=wJ hρ hcl
   rw [tJ hcl' (ah:=ah)] at hfz
   refine ⟨E.fix,fun _ _ h=>h,hh.jT,YK hh (fun _ _ h=>h) hrep hfz (fun b hb=>?_),.inl (fun _ _ h=>h)⟩
   rw [jE hcl'] at hb;cases hb
  .rw [ay] at hcl
   refine ⟨fun c o=>c<w.heap.size,hh.jT,fun c o h=>h,NQ hh hh.jT (fun b c o h off=>(hh.jW b c o h).2) awT hrep hfz,.inr ⟨?_,asK hcl.1⟩⟩
   have:=Jg (ρ:=ρ) hcl.2
   rwa [IE ht] at this
 have aqw:gK w (eH fix) (dN ρ (xH az)) vs:=gK.weak (rQ (ρ:=ρ)).length (fun i a b h1 h2=>((rQ (ρ:=ρ)).get i a b h1 h2).1) ahc
 have hq:=hpc w fix vs WW (hG.mono hfix fun _ _ _=>rfl) aqw
 split at hq
 .exact hq.elim
 rename_i fn hfn
 obtain ⟨hbody,hname,hq⟩:=hq
 have hcall:(callFunc f vs.toArray).run P w=.ok (.enter f vs.toArray) w:=by
  have:(fn.name == "runtime.NumGoroutine")=false:=by simpa using hname
  simp only [callFunc,Sem.run_bind,run_program,Result.andThen_ok,hfn,this,aU,if_false,hbody,Sem.run_pure]
 unfold Oper.wp
 rw [he,hcall]
 refine hq.mono fun e w' hq=>?_
 obtain ⟨v,E1,rfl,hst,hh1,hv⟩:=hq
 rw [hrows] at hh1 hv hback
 let E2:Env:=⟨fun c o=>E.fix c o\/(w.heap.size<=c/\E1.fix c o),fun b=>if b=nx then E1.own 0 else E.own b⟩
 have ael:E.own nx=.free:=hh.fresh nx (dF _)
 have IG:E2.own nx=E1.own 0:=if_pos rfl
 have own_ne:∀b,b≠nx->E2.own b=E.own b:=fun b h=>if_neg h
 have hblk:∀c,c<w.heap.size->w'.heap[c]?=w.heap[c]?:=hst.below.block
 have hown1:∀c o,E1.own 0=.at c o->w.heap.size<=c/\c<w'.heap.size:=fun c o h=>hh1.jW 0 c o h
 have hx:Ext w E w' E2:=by
  refine ⟨fun c o h=>.inl h,fun c o h=>World.cell?_of_block (w:=w) (hblk c (hh.jT c o h)),fun b hb=>own_ne b fun e=>hb (by rw [e];exact ael),fun c arr ty fz h=>⟨arr,fz,?_,rfl⟩⟩
  rw [hblk c (bG.1 h).1];exact h
 have amY:∀c o,E1.fix c o->(∀c o,fix c o->E.fix c o)->E2.fix c o:=fun c o h hb=>by
  rcases Nat.lt_or_ge c w.heap.size with hc|hc
  .exact .inl (hb c o (hst.xQ c o hc h))
  .exact .inr ⟨hc,h⟩
 refine hnext _ rfl v w' E2 (upd ah nx (some (.rows sz (t.den ρ).R))) ?_ ⟨hx,hst.below.mono hh.bs,fun c o hc h=>?_,fun c hc _=>hblk c hc,fun b c o h hc=>?_,fun c o h hc=>?_⟩ ?_ ?_
 .exact Oi (wr:=[(nx,some (.fE sz t))]) hah
 .rcases h with h|⟨h,-⟩
  .exact h
  .have:=hh.bs;omega
 .by_cases hb:b=nx
  .subst hb;rw [IG] at h;have:=(hown1 c o h).1;omega
  .rw [own_ne b hb] at h;exact ⟨b,o,h⟩
 .rcases h with h|⟨h,-⟩
  .exact .inl h
  .omega
 .have hb1:=hh1.blk 0 _ (by rfl:ah1 (.rows sz (t.den ρ).R) 0=some _)
  refine ⟨fun b k hb=>?_,fun b b' k k' c o c' o' hne h1 h2 h3 h4=>?_,fun b hb=>?_,fun c o h=>?_,b_ hh.bs hst.below.size,fun b c o h=>?_⟩
  .by_cases hbn:b=nx
   .subst hbn
    rw [pX rfl] at hb
    simp only [au] at hb;subst hb
    rcases hb1 with ⟨q1,q2⟩|⟨c,o,arr,ty,q1,q2,q3,q4,q5,q6,q7,q8⟩
    .exact .inl ⟨by rw [IG];exact q1,q2⟩
    .refine .inr ⟨c,o,arr,ty,by rw [IG];exact q1,b_ hh.bs q2,fun off h=>?_,q4,q5,q6,q7,fun i row j x hi hj=>?_⟩
     .rcases h with h|⟨-,h⟩
      .have:=hh.jT c off h;omega
      .exact q3 off h
     .obtain ⟨u,hu,hxu⟩:=q8 i row j x hi hj
      refine ⟨u,hu,?_⟩
      rcases hback with hb|⟨-,hb⟩
      .refine Lc (fun c o h=>amY c o h hb) hxu ?_
       exact kQ (vC (jL (Tm.pF hρ t)) i row hi) j x hj
      .exact Au hxu (xY (hb row (aJ hi)) j x hj)
   .rw [awI hbn] at hb
    have hb':=hh.blk b k hb
    have hk:=hb'.keep (w':=w') (E':=⟨E2.fix,E.own⟩) ⟨fun c o h=>.inl h,hx.cell,fun _ _=>rfl,hx.arr⟩ (fun c o ho=>hblk c (hb'.lt ho).1) (fun c o off ho h=>?_)
    .refine hk.env (fun _ _ h=>h) (fun _ _ _ _ h=>h) (own_ne b hbn) fun x hxr=>own_ne x ?_
     intro e
     rw [e] at hxr
     exact agm hb' hxr ael
    .rcases h with h|⟨h,-⟩
     .exact h
     .have:=(hb'.lt ho).1;omega
  .have lt0:∀b k c o,b≠nx->ah b=some k->E.own b=.at c o->c<w.heap.size:=fun b k c o _ _ h=>(hh.jW b c o h).2
   by_cases e1:b=nx
   .subst e1
    rw [IG] at h3
    rw [own_ne b' (Ne.symm hne)] at h4
    have:=(hown1 c o h3).1
    have:=(hh.jW b' c' o' h4).2
    omega
   .rw [own_ne b e1] at h3
    by_cases e2:b'=nx
    .subst e2
     rw [IG] at h4
     have:=(hown1 c' o' h4).1
     have:=(hh.jW b c o h3).2
     omega
    .rw [own_ne b' e2] at h4
     rw [awI e1] at h1
     rw [awI e2] at h2
     exact hh.sep b b' k k' c o c' o' hne h1 h2 h3 h4
  .dsimp only at hb
   rw [own_ne b (by omega)];exact hh.fresh b (by omega)
  .rcases h with h|⟨-,h⟩
   .exact cu (hh.jT c o h) hst.below.size
   .exact hh1.jT c o h
  .by_cases hbn:b=nx
   .subst hbn;rw [IG] at h;exact ⟨b_ hh.bs (hown1 c o h).1,(hown1 c o h).2⟩
   .rw [own_ne b hbn] at h;exact ⟨(hh.jW b c o h).1,cu (hh.jW b c o h).2 hst.below.size⟩
 .rw [IE ht]
  have e9:(SV.os nx sz 0 (.rlen t)).den ρ=.os nx sz 0 (t.den ρ).R.length:=by simp [SV.den,Tm.den,mF,D.I]
  rw [e9]
  have hy:∀u,Rep w' E1 (.os 0 sz 0 (t.den ρ).R.length) u->Rep w' E2 (.os nx sz 0 (t.den ρ).R.length) u:=by
   intro u hu
   generalize (t.den ρ).R.length=len at hu ⊢
   cases hu with
   |lQ _ _ _ a1 hb1=>exact .lQ nx sz 0 a1 (by rw [IG];exact hb1)
   |os _ _ _ _ c o cap hb1 hcap hsize=>exact .os nx sz 0 len c o cap (by rw [IG];exact hb1) hcap hsize
  rcases hback with hb|⟨hb,-⟩
  .exact MR (fun x=>x.clean=true) (fun l h=>kQ (l:=l) h) (fun l h=>kQ (l:=l) h) (y:=.os 0 sz 0 (t.den ρ).R.length) (y':=.os nx sz 0 (t.den ρ).R.length) rfl hy (fun x u hx hc=>Lc (fun c o h=>amY c o h hb) hx hc) (La rfl asL) (Tt hcell) hv
  .exact MR (fun x=>x.flat=true) (fun l h=>xY (l:=l) h) (fun l h=>xY (l:=l) h) (y:=.os 0 sz 0 (t.den ρ).R.length) (y':=.os nx sz 0 (t.den ρ).R.length) rfl hy (fun x u hx hc=>Au hx hc) hb (Tt hcell) hv
end
end Go.Fw
end
section
namespace Go.Fw
variable [jK]
theorem alx {ah:AH}{l:List AV}{a':AV}(h:Go.Fw.lV ah (.agg l)=some a'):∃l',wu ah l=some l'/\a'=.agg l':=by
 simp only [Go.Fw.lV,aB] at h
 obtain ⟨l',h1,rfl⟩:=h;exact ⟨l',h1,rfl⟩
theorem aly {ah:AH}{l:List AV}{a':AV}(h:Go.Fw.lV ah (.eG l)=some a'):∃l',wu ah l=some l'/\a'=.eG l':=by
 simp only [Go.Fw.lV,aB] at h
 obtain ⟨l',h1,rfl⟩:=h;exact ⟨l',h1,rfl⟩
theorem aac {w:World}{E E':Env}{ah:AH}{y0 y':AV}(Q:AV->Prop)(hagg:∀l,Q (.agg l)->∀(i:Nat) (c:AV),l[i]?=some c->Q c)(Z_:∀l,Q (.eG l)->∀(i:Nat) (c:AV),l[i]?=some c->Q c)
  (hfr:∀x x' u,Rep w E x u->Q x->Go.Fw.lV ah x=some x'->Rep w E' x' u) (hs:y'.jy=true) (hne:y0≠eu) (hy:∀u,Rep w E y0 u->Rep w E' y' u) :
  ∀{p:List Nat} {a a':AV} {v:Value},Q (uX p a (.sl [] true))->awJ a p=y0->Rep w E a v->Go.Fw.lV ah (uX p a (.sl [] true))=some a'->Rep w E' (uX p a' y') v
 |[],a,a',v,_,hc,h,_=>hy _ (by cases a<;>(simp only [awJ] at hc;subst hc;exact h))
 |j::p,.agg l,a',v,hQ,hc,h,hz=>by
  simp only [awJ] at hc
  simp only [uX] at hz hQ
  have hj:j<l.length:=by
   refine Nat.lt_of_not_le fun hle=>hne ?_
   have e:l.getD j eu=eu:=by simp [aF,bP hle]
   rw [e] at hc;rw [<- hc]
   cases p<;>rfl
  obtain ⟨l',hl',rfl⟩:=alx hz
  obtain ⟨g1,g2⟩:=kT hl'
  have g1:l'.length=l.length:=by simpa using g1
  have hj':j<l'.length:=by omega
  have hlj:l[j]?=some (l.getD j eu):=by rw [MQ hj];simp [hj]
  obtain ⟨z,hz1,hz2⟩:=g2 j (l'.getD j eu) (by rw [MQ hj'];simp [hj'])
  rw [bQ hj] at hz1
  simp only [au] at hz1;subst hz1
  cases h with
  |agg cs vs hl hsc h=>
   have hsj:=hsc _ (aJ hlj)
   cases p with
   |cons k q=>
    exfalso
    apply hne
    rw [<- hc]
    generalize l.getD j eu=zz at hsj
    cases zz<;>first|rfl|(simp [AV.jy] at hsj)
   |nil=>
   simp only [uX]
   refine .agg _ _ (by simpa [g1] using hl) ?_ ?_
   .intro c hcm
    rcases List.mem_or_eq_of_mem_set hcm with hcm|rfl
    .obtain ⟨i,hi⟩:=List.getElem?_of_mem hcm
     obtain ⟨x,hx1,hx2⟩:=g2 i c hi
     refine Dx hx2 ?_
     by_cases hij:j=i
     .subst hij;rw [bQ hj] at hx1;simp only [au] at hx1;subst hx1;rfl
     .rw [List.getElem?_set_ne hij] at hx1;exact hsc x (aJ hx1)
    .exact hs
   .intro i c u hi hu
    by_cases hij:j=i
    .subst hij
     rw [bQ hj'] at hi
     simp only [au] at hi;subst hi
     refine hy u ?_
     rw [<- hc]
     have:=h j _ u hlj hu
     generalize l.getD j eu=zz at this ⊢
     cases zz<;>exact this
    .rw [List.getElem?_set_ne hij] at hi
     obtain ⟨x,hx1,hx2⟩:=g2 i c hi
     exact hfr x c u (h i x u (by rw [List.getElem?_set_ne hij] at hx1;exact hx1) hu) (hagg _ hQ i x hx1) hx2
 |j::p,.eG l,a',v,hQ,hc,h,hz=>by
  simp only [awJ] at hc
  simp only [uX] at hz hQ
  have hj:j<l.length:=by
   refine Nat.lt_of_not_le fun hle=>hne ?_
   have e:l.getD j eu=eu:=by simp [aF,bP hle]
   rw [e] at hc;rw [<- hc]
   cases p<;>rfl
  obtain ⟨l',hl',rfl⟩:=aly hz
  obtain ⟨g1,g2⟩:=kT hl'
  have g1:l'.length=l.length:=by simpa using g1
  have hj':j<l'.length:=by omega
  have hlj:l[j]?=some (l.getD j eu):=by rw [MQ hj];simp [hj]
  obtain ⟨z,hz1,hz2⟩:=g2 j (l'.getD j eu) (by rw [MQ hj'];simp [hj'])
  have hQj:=Z_ _ hQ j _ (by rw [bQ hj])
  rw [bQ hj] at hz1
  simp only [au] at hz1;subst hz1
  cases h with
  |eG cs vs hl h=>
   simp only [uX]
   refine .eG _ _ (by simpa [g1] using hl) ?_
   intro i c u hi hu
   by_cases hij:j=i
   .subst hij
    rw [bQ hj'] at hi
    simp only [au] at hi;subst hi
    exact aac Q hagg Z_ hfr hs hne hy hQj hc (h j _ u hlj hu) hz2
   .rw [List.getElem?_set_ne hij] at hi
    obtain ⟨x,hx1,hx2⟩:=g2 i c hi
    exact hfr x c u (h i x u (by rw [List.getElem?_set_ne hij] at hx1;exact hx1) hu) (Z_ _ hQ i x hx1) hx2
 |_::_,.p _,_,_,_,hc,_,_|_::_,.str _,_,_,_,hc,_,_|_::_,.sl ..,_,_,_,hc,_,_|_::_,.vp ..,_,_,_,hc,_,_|_::_,.os ..,_,_,_,hc,_,_|_::_,.op ..,_,_,_,hc,_,_|_::_,.fn ..,_,_,_,hc,_,_|_::_,.lT ..,_,_,_,hc,_,_|_::_,.mp _,_,_,_,hc,_,_=>absurd hc.symm hne
theorem Tv {y:SV}:∀{p:List Nat} {x z:SV},yD p x=some z->yD p (wY p x y)=some y
 |[],x,z,h=>rfl
 |j::p,.agg l,z,h=>by
  simp only [yD] at h
  split at h
  .rename_i x hx
   have hj:j<l.length:=by rw [wF] at hx;exact (aC.1 hx).1
   have e:=(vK (ρ:=[]) hx).2
   simp only [wY,yD,wF,bQ hj,e,Tv h]
  .cases h
 |j::p,.eG l,z,h=>by
  simp only [yD] at h
  split at h
  .rename_i x hx
   have hj:j<l.length:=by rw [wF] at hx;exact (aC.1 hx).1
   have e:=(vK (ρ:=[]) hx).2
   simp only [wY,yD,wF,bQ hj,e,Tv h]
  .cases h
 |j::p,.sc ..,z,h|j::p,.c _,z,h|j::p,.nil,z,h|j::p,.sf _,z,h|j::p,.slc ..,z,h|j::p,.vp ..,z,h|j::p,.os ..,z,h|j::p,.op ..,z,h|j::p,.fn ..,z,h|j::p,.lT ..,z,h|j::p,.mp _,z,h=>by simp [yD] at h
theorem Oy {ρ:List AV}{y:SV}{y':AV}:∀{p:List Nat} {x z:SV},yD p x=some z->uX p ((wY p x y).den ρ) y'=uX p (x.den ρ) y'
 |[],x,z,h=>rfl
 |j::p,.agg l,z,h=>by
  simp only [yD] at h
  split at h
  .rename_i x hx
   have hj:j<(dN ρ l).length:=by rw [wF] at hx;rw [fM];exact (aC.1 hx).1
   obtain ⟨e1,e2⟩:=vK (ρ:=ρ) hx
   simp only [wY,SV.den,uX,Jr,e2,e1]
   rw [show ((dN ρ l).set j ((wY p x y).den ρ)).getD j eu=(wY p x y).den ρ by simp [aF,hj],Oy h]
   simp
  .cases h
 |j::p,.eG l,z,h=>by
  simp only [yD] at h
  split at h
  .rename_i x hx
   have hj:j<(dN ρ l).length:=by rw [wF] at hx;rw [fM];exact (aC.1 hx).1
   obtain ⟨e1,e2⟩:=vK (ρ:=ρ) hx
   simp only [wY,SV.den,uX,Jr,e2,e1]
   rw [show ((dN ρ l).set j ((wY p x y).den ρ)).getD j eu=(wY p x y).den ρ by simp [aF,hj],Oy h]
   simp
  .cases h
 |j::p,.sc ..,z,h|j::p,.c _,z,h|j::p,.nil,z,h|j::p,.sf _,z,h|j::p,.slc ..,z,h|j::p,.vp ..,z,h|j::p,.os ..,z,h|j::p,.op ..,z,h|j::p,.fn ..,z,h|j::p,.lT ..,z,h|j::p,.mp _,z,h=>by simp [yD] at h
def alz (th':Tr SB)(nx b:Nat)(rr:List Nat):Bool:=th'.all (fun j k=>!Nat.beq j b&&(Nat.ble (j+1) nx&&k.E_.all (axp th')))&&rr.all (axp th')
def aqx (p:List Nat)(v y:SV):Option SV:=match yD p v with|some _=>some (wY p v y)|none=>none
def Oz (p:List Nat)(x:Lf)(b:Nat)(rr:List Nat)(y:Option SV):Option SV:=
 bif alz (awO x.th 60 rr .e) x.nx b rr then match (wY p x.v .nil).lV (thN (awO x.th 60 rr .e) awT),y with
  |some v,some y=>aqx p v y
  |_,_=>none
 else none
def aem (p:List Nat)(sz:Nat)(x:Lf):Option SV:=
 match yD p x.v with
 |some .nil=>Oz p x x.nx (wY p x.v .nil).E_ (some (.slc [] false))
 |some (.os b sz' off l)=>match x.th.get b with
  |none=>none
  |some k=>bif Nat.beq sz sz'&&(Nat.beq off 0&&P_ k l) then
    match k with
    | .fE sz2 t=>bif Nat.beq sz sz2 then Oz p x b (wY p x.v .nil).E_ (some (.sc .sl t)) else none
    | .rows sz2 rs=>bif Nat.beq sz sz2 then Oz p x b ((wY p x.v .nil).E_++B_ rs)
     (match KU (thN (awO x.th 60 ((wY p x.v .nil).E_++B_ rs) .e) awT) rs with|some rs'=>some (.slc rs' false)|none=>none) else none
    |_=>none
   else none
 |_=>none
def XV (p:List Nat)(x:Lf):List Side:=
 match yD p x.v with
 |some (.os b _ _ l)=>match x.th.get b with
  |some k=>VL k l
  |none=>[]
 |_=>[]
section
variable {P : Program} {ρ:List AV}
def ai5 (o:Own)(c:Nat):Prop:=∀o',o≠.at c o'
theorem axS {size:Nat}{w':World}{E2:Env}{th:Tr SB}{nx b:Nat}{rr:List Nat}(hρ:iC ρ=true)(hh:dQ size w' E2 (h_ ρ th) (fun b=>nx<=b))(hok:alz (awO th 60 rr .e) nx b rr=true)(ob:Own)(hob:∀c o,ob=.at c o->E2.own b=.at c o/\∃k,h_ ρ th b=some k) :
  ∀x x' u,Rep w' E2 x u->(∀j∈x.refs,j∈rr\/(h_ ρ (awO th 60 rr .e) j).isSome=true)->Go.Fw.lV (vZ (h_ ρ (awO th 60 rr .e)) awT) x=some x'->Rep w' (eH fun c o=>E2.fix c o\/(size<=c/\c<w'.heap.size/\ai5 ob c)) x' u:=by
 intro x x' u hx hrf hz
 unfold alz at hok
 simp only [ay] at hok
 obtain ⟨hall,hrr⟩:=hok
 have hsub:∀j k,h_ ρ (awO th 60 rr .e) j=some k->h_ ρ th j=some k:=fun j k h=>by
  obtain ⟨z,hz,rfl⟩:=yw h
  have:=D9 (acc:=.e) (fun b k h=>by simp [Tr.get] at h) j z hz
  unfold h_;rw [this];rfl
 have hin:∀{j k},h_ ρ (awO th 60 rr .e) j=some k->j≠b/\j<nx/\∀y∈k.vH,(h_ ρ (awO th 60 rr .e) y).isSome=true:=fun {j k} h=>by
  obtain ⟨z,hz,rfl⟩:=yw h
  have:=Tr.Ji hall hz
  simp only [ay,Bool.not_eq_true'] at this
  refine ⟨fun e=>by subst e;simp at this,aG this.2.1,fun y hy=>?_⟩
  rw [DW hρ] at hy
  exact MB hρ (aH.1 this.2.2 y hy)
 have hpart:=Oj hh hsub (nx:=nx) (fun j k h=>(hin h).2.1) (fun j k h=>(hin h).2.2)
 have asM:∀j∈x.refs,(h_ ρ (awO th 60 rr .e) j).isSome=true:=fun j hj=>by
  rcases hrf j hj with h|h
  .exact MB hρ (aH.1 hrr j h)
  .exact h
 have hx':=Si (nR:=h_ ρ (awO th 60 rr .e)) hx asM
 refine LG hpart (fix:=fun c o=>E2.fix c o\/(size<=c/\c<w'.heap.size/\ai5 ob c)) (fun c o h=>.inl h) (fun j c o ho off=>.inr ?_) awT hx' hz
 have hj:(h_ ρ (awO th 60 rr .e) j).isSome=true:=by
  refine Decidable.byContradiction fun h=>?_
  simp [Env.part,h] at ho
 have ho':E2.own j=.at c o:=by simpa [Env.part,hj] using ho
 obtain ⟨k,hk⟩:=Option.isSome_iff_exists.1 hj
 refine ⟨(hh.jW j c o ho').1,(hh.jW j c o ho').2,fun o' e=>?_⟩
 obtain ⟨e1,k',hk'⟩:=hob c o' e
 exact hh.sep j b k k' c o c o' (hin hk).1 (hsub j k hk) hk' ho' e1 rfl
def acE (P:Program)(fn:Func)(w:World)(fix:Nat->Nat->Prop)(r:AV)(p:List Nat)(sz:Nat)(a':Act)(w':World):Prop:=
 a'.defers=[]/\∃val E',(results fn a'.tmps).run P w'=.ok val w'/\Step w.heap.size w (eH fix) w' E'/\dQ w.heap.size w' E' (ah1 (.rows sz (BX p r))) (fun b=>1<=b)/\Rep w' E' (uX p r (.os 0 sz 0 (BX p r).length)) val
theorem OA {p:List Nat}{sz b:Nat}{x:Lf}{rr:List Nat}{y:SV}{yo:Option SV}{r:SV}(hyo:yo=some y)(hρ:iC ρ=true)(h:Oz p x b rr yo=some r){y0:SV}(hg:yD p x.v=some y0)(hy0:y0.den ρ≠eu){fn:Func}{w w':World}{fix:Nat->Nat->Prop}{a':Act}
  (hsz:∀c o,fix c o->c<w.heap.size) (he:IB P fn w.heap.size w (eH fix) (x.v.den ρ) (h_ ρ x.th) x.nx a' w') (hrr:∀j∈(wY p x.v .nil).E_,j∈rr) (rows:List (List AV)) (hrows:y.den ρ=.sl rows false)
  (hblk:∀E2,dQ w.heap.size w' E2 (h_ ρ x.th) (fun b=>x.nx<=b)->∃ob:Own,(∀c o,ob=.at c o->E2.own b=.at c o/\∃k,h_ ρ x.th b=some k)/\ob≠.free/\
   (∀E3:Env,E3.own 0=ob->(∀z z' u,Rep w' E2 z u->(∀j∈z.refs,j∈rr\/(h_ ρ (awO x.th 60 rr .e) j).isSome=true)->Go.Fw.lV (vZ (h_ ρ (awO x.th 60 rr .e)) awT) z=some z'->Rep w' E3 z' u)->(∀x u,Rep w' E2 x u->x.clean=true->Rep w' E3 x u)->
    (∀c o,ob=.at c o->∀off,¬E3.fix c off)->qA w.heap.size w' E3 0 (.rows sz rows)/\∀u,Rep w' E2 (y0.den ρ) u->Rep w' E3 (.os 0 sz 0 rows.length) u)) :
  acE P fn w fix (r.den ρ) p sz a' w':=by
 subst hyo
 unfold Oz at h
 cases hok:alz (awO x.th 60 rr .e) x.nx b rr
 .simp [hok] at h
 simp only [hok,cond_true] at h
 split at h
 rotate_left
 .cases h
 rename_i v y' hfz hyy
 simp only [au] at hyy;subst hyy
 unfold aqx at h
 split at h
 rotate_left
 .cases h
 rename_i z hz
 simp only [au] at h;subst h
 obtain ⟨h0,E2,val,h1,h2,h3,h4⟩:=he
 obtain ⟨ob,hob,auP,hend⟩:=hblk E2 h4
 let E3:Env:=⟨fun c o=>E2.fix c o\/(w.heap.size<=c/\c<w'.heap.size/\ai5 ob c),fun j=>if j=0 then ob else .free⟩
 have asN:=axS (ρ:=ρ) hρ h4 hok ob hob
 have hfr:∀x' x'' u,Rep w' E2 x' u->(∀j∈x'.refs,j∈rr\/(h_ ρ (awO x.th 60 rr .e) j).isSome=true)->Go.Fw.lV (vZ (h_ ρ (awO x.th 60 rr .e)) awT) x'=some x''->Rep w' E3 x'' u:=
  fun x' x'' u q1 q2 q3=>Hr (E:=E3) (fun _ _ h=>h) (asN x' x'' u q1 q2 q3)
 have hcl:∀x u,Rep w' E2 x u->x.clean=true->Rep w' E3 x u:=fun x u hx hc=>Lc (E':=E3) (fun c o h=>Or.inl h) hx hc
 obtain ⟨hb1,hb2⟩:=hend E3 rfl hfr hcl (fun c o e off hf=>by
  rcases hf with hf|⟨-,-,hf⟩
  .obtain ⟨e1,k,hk⟩:=hob c o e
   exact ((h4.blk b k hk).lt e1).2.2 off hf
  .exact hf o e)
 have hcell:awJ ((wY p v y).den ρ) p=.sl rows false:=by rw [D_ (Tv hz),hrows]
 have hrp:BX p ((wY p v y).den ρ)=rows:=by unfold BX;rw [hcell];rfl
 refine ⟨h0,val,E3,h1,⟨⟨fun c o h=>.inl (h3.ext.fix c o h),h3.ext.cell,fun b hb=>absurd rfl hb,h3.ext.arr⟩,h3.below,fun c o hc h=>?_,fun c hc _=>h3.below.block c hc,fun j c o h hc=>?_,fun c o h hc=>?_⟩,?_,?_⟩
 .rcases h with h|⟨h,-⟩
  .exact h3.xQ c o hc h
  .omega
 .change (if j=0 then ob else Own.free)=.at c o at h
  split at h
  .obtain ⟨e1,-⟩:=hob c o h
   have:=(h4.jW b c o e1).1;omega
  .cases h
 .rcases h with h|⟨h,-⟩
  .exact (h3.xR c o h hc).imp id (fun ⟨b,o',h⟩=>by cases h)
  .omega
 .rw [hrp]
  refine ⟨fun j k hj=>?_,fun j j' k k' c o c' o' hne e1 e2 _ _=>?_,fun j hj=>?_,fun c o h=>?_,h4.bs,fun j c o h=>?_⟩
  .unfold ah1 at hj
   split at hj
   .rename_i e;subst e
    simp only [au] at hj;subst hj;exact hb1
   .cases hj
  .unfold ah1 at e1 e2
   split at e1
   .split at e2
    .omega
    .cases e2
   .cases e1
  .show (if j=0 then ob else Own.free)=.free
   rw [if_neg (by omega)]
  .rcases h with h|⟨-,h,-⟩
   .exact h4.jT c o h
   .exact h
  .change (if j=0 then ob else Own.free)=.at c o at h
   split at h
   .exact h4.jW b c o (hob c o h).1
   .cases h
 .rw [hrp,Oy hz]
  have hQ0:(uX p (x.v.den ρ) (.sl [] true))=(wY p x.v .nil).den ρ:=(IE (ρ:=ρ) (y:=.nil) hg).symm
  refine aac (E:=E2) (E':=E3) (ah:=vZ (h_ ρ (awO x.th 60 rr .e)) awT) (y0:=y0.den ρ) (fun a=>∀j∈a.refs,j∈rr\/(h_ ρ (awO x.th 60 rr .e) j).isSome=true) (fun l hq i c hi j hj=>hq j (iV i c hi hj)) (fun l hq i c hi j hj=>hq j (iV i c hi hj))
   (fun x' x'' u q1 q2 q3=>hfr x' x'' u q1 q2 q3) rfl hy0 hb2 ?_ (D_ hg) h2 ?_
  .intro j hj
   rw [hQ0,wK hρ] at hj
   exact .inl (hrr j hj)
  .rw [hQ0]
   exact L8 hρ (Fe hρ (fun b k hk=>by unfold h_;rw [hk];rfl) awT) hfz
theorem aad {p:List Nat}{sz:Nat}{x:Lf}{r:SV}(hρ:iC ρ=true)(h:aem p sz x=some r)(hsd:∀s∈XV p x,s.holds P ρ){fn:Func}{w w':World}{fix:Nat->Nat->Prop}{a':Act}
  (hsz:∀c o,fix c o->c<w.heap.size) (he:IB P fn w.heap.size w (eH fix) (x.v.den ρ) (h_ ρ x.th) x.nx a' w'):acE P fn w fix (r.den ρ) p sz a' w':=by
 unfold aem at h
 split at h
 .rename_i hg
  refine OA rfl hρ h hg (by intro e;cases e) hsz he (fun j hj=>hj) [] rfl (fun E2 h4=>⟨.empty,fun c o e=>(by cases e),(by intro e;cases e),fun E3 h0 hfr hcl hno=>⟨.inl ⟨h0,rfl⟩,fun u hu=>?_⟩⟩)
  have:∃a1,u=.slice a1 0 0:=by
   cases hu with
   |slnil full a1=>exact ⟨a1,rfl⟩
   |sl _ _ _ _ _ cap _ _ hfull=>have:=hfull rfl;subst this;exact ⟨_,rfl⟩
  obtain ⟨a1,rfl⟩:=this
  exact .lQ 0 sz 0 a1 (by rw [h0];intro e;cases e)
 .rename_i b sz' off l hg
  split at h
  .cases h
  rename_i k hk
  cases hc:Nat.beq sz sz'&&(Nat.beq off 0&&P_ k l)
  .simp [hc] at h
  simp only [hc,cond_true] at h
  simp only [ay] at hc
  obtain ⟨c1,c2,c3⟩:=hc
  have c4:∀s∈VL k l,s.holds P ρ:=fun s hm=>hsd s (by simp only [XV,hg,hk];exact hm)
  obtain rfl:=aA c1
  obtain rfl:=aA c2
  have hkb:h_ ρ x.th b=some (k.den ρ):=by unfold h_;rw [hk];rfl
  have hos:∀{E2 E3:Env} {n m:Nat},n=m->E3.own 0=E2.own b->∀u,Rep w' E2 (.os b sz 0 n) u->Rep w' E3 (.os 0 sz 0 m) u:=by
   intro E2 E3 n m e h0 u hu
   subst e
   cases hu with
   |lQ _ _ _ a1 hb1=>exact .lQ 0 sz 0 a1 (by rw [h0];exact hb1)
   |os _ _ _ _ c o cap hb1 hcap hsize=>exact .os 0 sz 0 n c o cap (by rw [h0];exact hb1) hcap hsize
  split at h
  .rename_i sz2 t
   cases hs2:Nat.beq sz sz2
   .simp [hs2] at h
   simp only [hs2,cond_true] at h
   obtain rfl:=aA hs2
   refine OA rfl hρ h hg (by intro e;cases e) hsz he (fun j hj=>hj) (t.den ρ).R rfl (fun E2 h4=>⟨E2.own b,fun c o e=>⟨e,_,hkb⟩,(h4.blk b _ hkb).own,fun E3 h0 hfr hcl hno=>⟨?_,?_⟩⟩)
   .rcases h4.blk b _ hkb with ⟨q1,q2⟩|⟨c,o,arr,ty,q1,q2,q3,q4,q5,q6,q7,q8⟩
    .exact .inl ⟨by rw [h0];exact q1,q2⟩
    .refine .inr ⟨c,o,arr,ty,by rw [h0];exact q1,q2,hno c o q1,q4,q5,q6,q7,fun i row j y hi hj=>?_⟩
     obtain ⟨u,hu,hyu⟩:=q8 i row j y hi hj
     exact ⟨u,hu,hcl y u hyu (kQ (vC (jL (Tm.pF hρ t)) i row hi) j y hj)⟩
   .exact hos (SE (ρ:=ρ) c3 c4 rfl) h0
  .rename_i sz2 rs
   cases hs2:Nat.beq sz sz2
   .simp [hs2] at h
   simp only [hs2,cond_true] at h
   obtain rfl:=aA hs2
   split at h
   rotate_left
   .simp [Oz] at h
   rename_i rs' hrs
   have asO:=Jh hρ (Fe hρ (ah:=h_ ρ (awO x.th 60 ((wY p x.v .nil).E_++B_ rs) .e)) (fun b k hk=>by unfold h_;rw [hk];rfl) awT) hrs
   obtain ⟨g1,g2⟩:=ET asO
   refine OA rfl hρ h hg (by intro e;cases e) hsz he (fun j hj=>cO _ hj) (gY ρ rs') rfl (fun E2 h4=>⟨E2.own b,fun c o e=>⟨e,_,hkb⟩,(h4.blk b _ hkb).own,fun E3 h0 hfr hcl hno=>⟨?_,?_⟩⟩)
   .rcases h4.blk b _ hkb with ⟨q1,q2⟩|⟨c,o,arr,ty,q1,q2,q3,q4,q5,q6,q7,q8⟩
    .refine .inl ⟨by rw [h0];exact q1,?_⟩
     have:(gY ρ rs').length=0:=by rw [g1,q2];rfl
     exact List.eq_nil_of_length_eq_zero this
    .refine .inr ⟨c,o,arr,ty,by rw [h0];exact q1,q2,hno c o q1,q4,by rw [g1];exact q5,fun i row hi=>?_,fun row hm y hy=>?_,fun i row j y hi hj=>?_⟩
     .obtain ⟨row0,e1,e2⟩:=g2 i row hi
      rw [(kT e2).1];exact q6 i row0 e1
     .obtain ⟨i,hi⟩:=List.getElem?_of_mem hm
      obtain ⟨row0,e1,e2⟩:=g2 i row hi
      obtain ⟨j,hj⟩:=List.getElem?_of_mem hy
      obtain ⟨y0,e3,e4⟩:=(kT e2).2 j y hj
      exact Dx e4 (q7 row0 (aJ e1) y0 (aJ e3))
     .obtain ⟨row0,e1,e2⟩:=g2 i row hi
      obtain ⟨y0,e3,e4⟩:=(kT e2).2 j y hj
      obtain ⟨u,hu,hyu⟩:=q8 i row0 j y0 e1 e3
      refine ⟨u,hu,hfr y0 y u hyu (fun q hq=>.inl ?_) e4⟩
      have hq2:q∈lW (gY ρ rs):=uV i row0 e1 (iV j y0 e3 hq)
      rw [yu hρ] at hq2
      exact dh _ hq2
   .refine hos ?_ h0
    rw [g1]
    exact SE (ρ:=ρ) c3 c4 rfl
  .cases h
 .cases h
def OB (P:Program)(rs:List ResultVar)(p:List Nat)(sz:Nat):Pc->Nat->List Out->Option (List (Tm×SV)×Nat×List (Pc×Side))
 |_,nv,[]=>some ([],nv,[])
 |pc,nv,o::r=>match Iy P rs (jl (vI o.g r) true pc) nv o with
  |none=>none
  |some x=>match aem p sz x with
   |none=>none
   |some v=>match OB P rs p sz (jl o.g false pc) x.nv r with
    |none=>none
    |some (l,uj,sd)=>some ((o.g,v)::l,uj,(x.sd++tag (jl (vI o.g r) true pc) (XV p x) [])++sd)
theorem PI {rs:List ResultVar}{p:List Nat}{sz:Nat}{pc:Pc}{nv:Nat}{o:Out}{r:List Out}:OB P rs p sz pc nv (o::r)=(match Iy P rs (jl (vI o.g r) true pc) nv o with
 |none=>none
 |some x=>match aem p sz x with
  |none=>none
  |some v=>match OB P rs p sz (jl o.g false pc) x.nv r with
   |none=>none
   |some (l,uj,sd)=>some ((o.g,v)::l,uj,(x.sd++tag (jl (vI o.g r) true pc) (XV p x) [])++sd)):=rfl
theorem V5 {fn:Func}{N:Nat}(hρ:iC ρ=true){p:List Nat}{sz:Nat}:∀{l:List Out} {pc:Pc} {nv uj:Nat} {rs:List (Tm×SV)} {sd:List (Pc×Side)},OB P fn.results.toList p sz pc nv l=some (rs,uj,sd)->pc.holds ρ->iW P ρ sd->∀{w w':World} {fix:Nat->Nat->Prop} {E':Env} {fr:lH} {ah:AH} {nx:Nat} {a':Act} {e:Exit},
  (∀c o,fix c o->c<w.heap.size)->FH ρ N l e fr ah nx->ND w.heap.size w' E' fr ah nx a'->Step w.heap.size w (eH fix) w' E'->Iw e=true/\acE P fn w fix (qy ρ rs) p sz a' w'
 |[],pc,nv,uj,rs,sd,h,hp,hs,w,w',fix,E',fr,ah,nx,a',e,hsz,hsel,jc,hstep=>by
  obtain ⟨st,h1,-⟩:=hsel;cases h1
 |[o],pc,nv,uj,rs,sd,h,hp,hs,w,w',fix,E',fr,ah,nx,a',e,hsz,hsel,jc,hstep=>by
  obtain ⟨st,h1,h2⟩:=hsel
  simp only [sel,au,aN] at h1
  obtain ⟨rfl,rfl⟩:=h1
  simp only [OB,vI,jl] at h
  split at h
  .cases h
  .rename_i x hx
   split at h
   .cases h
   .rename_i v hv
    simp only [au,aN,cZ] at h
    obtain ⟨rfl,rfl,rfl⟩:=h
    obtain ⟨q1,q2⟩:=y9 (P:=P) hx hp (lY hs) h2 jc hstep
    exact ⟨q1,aad hρ hv ((Fp (oI hs)).1 hp) hsz q2⟩
 |o::o'::r,pc,nv,uj,rs,sd,h,hp,hs,w,w',fix,E',fr,ah,nx,a',e,hsz,hsel,jc,hstep=>by
  obtain ⟨st,h1,h2⟩:=hsel
  simp only [sel] at h1
  rw [PI] at h
  simp only [vI] at h
  split at h
  .cases h
  .rename_i x hx
   split at h
   .cases h
   .rename_i v hv
    split at h
    .cases h
    .rename_i l nv1 sd1 hl
     simp only [au,aN] at h
     obtain ⟨rfl,rfl,rfl⟩:=h
     have ZR:∃y s,l=y::s:=by
      rw [PI] at hl
      split at hl
      .cases hl
      .split at hl
       .cases hl
       .split at hl
        .cases hl
        .simp only [au,aN] at hl;exact ⟨_,_,hl.1.symm⟩
     obtain ⟨y,s,rfl⟩:=ZR
     cases hg:(o.g.den ρ).B
     .rw [hg] at h1
      obtain ⟨q1,q2⟩:=V5 hρ hl (fP hg hp) (oI hs) hsz ⟨st,h1,h2⟩ jc hstep
      exact ⟨q1,by simpa [qy,hg] using q2⟩
     .rw [hg] at h1
      simp only [cond_true,au,aN] at h1
      obtain ⟨rfl,rfl⟩:=h1
      obtain ⟨q1,q2⟩:=y9 (P:=P) hx (fP hg hp) (lY (lY hs)) h2 jc hstep
      exact ⟨q1,by simpa [qy,hg] using aad (P:=P) hρ hv ((Fp (oI (lY hs))).1 (fP hg hp)) hsz q2⟩
def acF (P:Program)(X0:pG)(I0:DX)(md:Md)(FC:FuncId->y8)(tV CF:Nat)(f:FuncId)(args:List SV)(nv:Nat)(p:List Nat)(sz:Nat):Option iL:=
 match P.funcs[f]? with
 |none=>none
 |some fn=>match fn.body with
  |none=>none
  |some c=>bif oh fn&&Nat.ble args.length fn.ntmps then
    match sU P ⟨(ML P X0 I0 md FC tV CF CF).1,is2 md,(ML P X0 I0 md FC tV CF CF).2,tV⟩ {FC f with N:=fn.ntmps} CF [] ⟨AU 0 args,.e,0⟩ nv c with
    |none=>none
    |some x=>match OB P fn.results.toList p sz [] x.nv x.outs with
     |none=>none
     |some (l,_,sd)=>some ⟨l,x.sd++sd,x.aw⟩
   else none
theorem alA {X0:pG}{I0:DX}{md:Md}{FC:FuncId->y8}{tV CF:Nat}{f:FuncId}{args:List SV}{nv:Nat}{p:List Nat}{sz:Nat}{R:iL}(h:acF P X0 I0 md FC tV CF f args nv p sz=some R)(hm:P.follows .mixedOrders=true)(hρ:iC ρ=true)(h0:∀σ:List AV,iC σ=true->nN P σ I0)(hX:∀σ:List AV,iC σ=true->n_ P σ X0)
  (hs:iW P ρ R.sd) (haw:Oq P ρ R.aw):PCo P f (dN ρ args) (qy ρ R.rs) p sz:=by
 unfold acF at h
 split at h
 .cases h
 rename_i fn hfn
 split at h
 .cases h
 rename_i c hc
 cases hg:oh fn&&Nat.ble args.length fn.ntmps
 .simp [hg] at h
 simp only [hg,cond_true] at h
 split at h
 .cases h
 rename_i x hx
 split at h
 .cases h
 rename_i l uj sd hl
 simp only [au] at h;subst h
 obtain ⟨h1,h2⟩:=Qw (md:=md) (FC:=FC) (tV:=tV) (CF:=CF) hm h0 hX CF
 simp only [ay] at hg
 have hname:fn.name≠ "runtime.NumGoroutine" :=by simpa [oh] using hg.1
 have hlen:=aG hg.2
 intro w fix vs hfix hG hargs
 rw [hfn]
 dsimp only
 refine ⟨by rw [hc];rfl,hname,?_⟩
 have hlenA:(dN ρ args).length<=fn.ntmps:=by rw [fM];exact hlen
 have hst:GX ρ fn.ntmps ⟨AU 0 args,.e,0⟩ (AX fn.ntmps (dN ρ args)) (fun _=>none) 0:=GX.of MN (fun b k h=>by simp [Tr.get] at h) (zM hlenA) (dF _)
 have acA:=og (G:=⟨(ML P X0 I0 md FC tV CF CF).1,is2 md,(ML P X0 I0 md FC tV CF CF).2,tV⟩) (F:={FC f with N:=fn.ntmps}) hm h1 h2 hρ _ _ _ _ hx (fun x hx=>by cases hx) (lY hs) haw _ _ _ hst
 have jc:ND w.heap.size w (eH fix) (AX fn.ntmps (dN ρ args)) (fun _=>none) 0 {tmps:=vs.toArray++Array.replicate (fn.ntmps-vs.toArray.size) undef,defers:=[]}:=
  ⟨⟨fun b k hb=>(by cases hb),fun b b' k k' c o c' o' _ hb=>(by cases hb),fun _ _=>rfl,hfix,dF _,fun b c o hb=>(by cases hb)⟩,Jp hG hargs hlenA,rfl⟩
 refine calls_of_wp hfn hc (wp_mono (acA _ w (eH fix) _ jc) fun e a' w' hp'=>?_)
 obtain ⟨E',fr',fK,nx',hsel,Tf,hst'⟩:=hp'
 obtain ⟨q1,q0,val,E3,q2,q3,q4,q5⟩:=V5 (P:=P) (fn:=fn) hρ hl (fun x hx=>by cases hx) (oI hs) hfix hsel Tf hst'
 have fin:a'.defers=[]/\∃v,(results fn a'.tmps).run P w'=.ok v w'/\∃u E',Ending.returned v=.returned u/\Step w.heap.size w (eH fix) w' E'/\dQ w.heap.size w' E' (ah1 (.rows sz (BX p (qy ρ l)))) (fun b=>1<=b)/\Rep w' E' (uX p (qy ρ l) (.os 0 sz 0 (BX p (qy ρ l)).length)) u:=
  ⟨q0,val,q2,val,E3,rfl,q3,q4,q5⟩
 cases e<;>first|exact fin|(simp [Iw] at q1)
theorem aox (hm:P.follows .mixedOrders=true){X:pG}(hX:∀σ:List AV,iC σ=true->n_ P σ X){I0:DX}(h0:∀σ:List AV,iC σ=true->nN P σ I0){md:Md}{FC:FuncId->y8}{tV CF f nv:Nat}{args:List SV}{ρ:List AV}{rs:List (Tm×SV)}{sd:List (Pc×Side)}{aw:List Lo}{az:List AV}{r:AV}{p:List Nat}{sz:Nat}
  (h:acF P X I0 md FC tV CF f args nv p sz=some ⟨rs,sd,aw⟩) (hρ:iC ρ=true) (hs:uY P ρ sd) (hl:Yx P aw ρ) (ha:dN ρ args=az) (hr:qy ρ rs=r):PCo P f az r p sz:=by
 subst ha;subst hr
 exact alA h hm hρ h0 hX hs.ok hl
end
end Go.Fw
namespace Go.Fw
variable [jK]
def ocT (l:List (Nat×List Nat×Nat×Bool)):aou:=fun f=>(l.find? fun x=>Nat.beq x.1 f).map (·.2)
def mdW (l:List Nat)(md:Md):Md:=fun g=>bif ab6 g l then 2 else md g
theorem ai6 {P:Program}(hm:P.follows .mixedOrders=true){X:pG}(hX:∀σ:List AV,iC σ=true->n_ P σ X){I0:DX}(h0:∀σ:List AV,iC σ=true->nN P σ I0){md:Md}{FC:FuncId->y8}{tV CF f nv:Nat}{args:List SV}{ρ:List AV}{rs:List (Tm×SV)}{sd:List (Pc×Side)}{aw:List Lo}{az:List AV}{r:AV}
  (h:jU P X I0 md FC tV CF f args nv=some ⟨rs,sd,aw⟩) (hρ:iC ρ=true) (hs:uY P ρ sd) (hl:Yx P aw ρ) (ha:dN ρ args=az) (hr:qy ρ rs=r):PC P f az r:=by
 subst ha;subst hr
 exact alm h hm hρ h0 hX hs.ok hl
end Go.Fw
end
section
namespace Go.Fw
variable [jK]
def vM : List (Nat×SB)->Nat->Option SB
 |[],_=>none
 |x::r,b=>bif Nat.beq x.1 b then some x.2 else vM r b
theorem uK {ρ:List AV}{b:Nat}:∀{bl:List (Nat×SB)},qB (EY ρ bl) b=(vM bl b).map (SB.den ρ)
 |[]=>rfl
 |x::r=>by
  simp only [EY,aZ,qB,vM]
  cases h:Nat.beq x.1 b
  .simp only [cond_false];exact uK (bl:=r)
  .rfl
def axr (th:Tr SB):List Nat->Option (List (Nat×SB))
 |[]=>some []
 |b::r=>match th.get b with
  |none=>none
  |some k=>match axr th r with
   |none=>none
   |some l=>some ((b,k)::l)
theorem V6 {th:Tr SB}:∀{ins:List Nat} {bl:List (Nat×SB)},axr th ins=some bl->∀b k,vM bl b=some k->th.get b=some k
 |[],bl,h,b,k,hb=>by simp only [axr,au] at h;subst h;cases hb
 |c::r,bl,h,b,k,hb=>by
  simp only [axr] at h
  split at h
  .cases h
  .rename_i k0 hk0
   split at h
   .cases h
   .rename_i l hl
    simp only [au] at h;subst h
    simp only [vM] at hb
    cases e:Nat.beq c b
    .simp only [e,cond_false] at hb;exact V6 hl b k hb
    .simp only [e,cond_true,au] at hb;subst hb
     rw [<- aA e];exact hk0
def axI : List (Nat×SB)->Tr SB->Tr SB
 |[],th=>th
 |(b,k)::r,th=>(axI r th).upd xM b (some k)
def inB (bl:List (Nat×SB))(b:Nat):Bool:=match vM bl b with|some _=>true|none=>false
def PK (uo:List (Nat×Nat)):Nat->List (Nat×SB)->Option (List (Nat×SB)×Nat)
 |nv,[]=>some ([],nv)
 |nv,(b,k)::r=>match uo.find? (fun x=>Nat.beq x.1 b) with
  |some (_,sz)=>(match k with
   | .fE sz' _=>bif Nat.beq sz sz' then (match PK uo (nv+1) r with|some (l,n)=>some ((b,.fE sz (.var nv []))::l,n)|none=>none) else none
   | .rows sz' _=>bif Nat.beq sz sz' then (match PK uo (nv+1) r with|some (l,n)=>some ((b,.fE sz (.var nv []))::l,n)|none=>none) else none
   |_=>none)
  |none=>match PK uo nv r with|some (l,n)=>some ((b,k)::l,n)|none=>none
abbrev aoy :=FuncId->Option (List (Nat×Nat))
def axY : List Nat->Nat
 |[]=>0
 |x::r=>Nat.max (x+1) (axY r)
def acG (ins:List Nat):List (Nat×Nat)->List (Nat×Nat)
 |[]=>[]
 |x::r=>match BA ins x.1 with|some b=>(b,x.2)::acG ins r|none=>acG ins r
def okW (bl GR:List (Nat×SB))(n0:Nat)(rf:List Nat):Bool:=
 (bl.all fun x=>Nat.ble (x.1+1) n0&&x.2.E_.all (inB bl))&&(rf.all (inB bl)&&(GR.all fun x=>inB bl x.1&&x.2.E_.all (inB bl)))
def aoz (P:Program)(wc:aoy):DX:=fun pc th nx nv f args=>
 match wc f with
 |none=>none
 |some c=>
  let ins:=(Om th 1000 (DT args) []).reverse
  match axr th ins with
  |none=>none
  |some bl=>match PK (acG ins c) nv bl with
   |none=>none
   |some (GR,uj)=>match ahz P uj f with
    |none=>none
    |some r=>bif r.kJ&&okW bl GR (axY ins) (DT args) then
     some ⟨[(.lb true,⟨r,axI GR th,nx⟩)],uj+1,[(pc,.oU f args bl (axY ins) r GR)]⟩ else none
def Env.MS (E E1:Env)(nR:AH):Env:=⟨E1.fix,fun b=>if (nR b).isSome=true then E1.own b else E.own b⟩
section
variable {base : Nat} {w:World} {E:Env} {ah nR:AH} {F:Nat->Prop}
theorem acH (hh:dQ base w E ah F)(hsub:∀b k,nR b=some k->ah b=some k)
  {w':World} {E1:Env} {fK:AH} {F':Nat->Prop} (hst:Step base w (E.part nR) w' E1) (hh':dQ base w' E1 fK F')
  (hlt':∀b k,fK b=some k->(nR b).isSome=true/\∀x∈k.vH,(nR x).isSome=true) {vZ:AH} (hN:∀b,vZ b=if (nR b).isSome=true then fK b else ah b) :
  Step base w E w' (E.MS E1 nR)/\dQ base w' (E.MS E1 nR) vZ F/\
   ∀a v,Rep w' E1 a v->(∀x∈a.refs,(nR x).isSome=true)->Rep w' (E.MS E1 nR) a v:=by
 have ab7:∀b,(nR b).isSome=true->(E.part nR).own b=E.own b:=fun b hb=>by simp [Env.part,hb]
 have Me:∀b c o,(E.part nR).own b=.at c o->(nR b).isSome=true/\E.own b=.at c o:=fun b c o h=>by
  by_cases hb:(nR b).isSome=true
  .rw [ab7 b hb] at h;exact ⟨hb,h⟩
  .simp [Env.part,hb] at h
 have in1:∀b,(nR b).isSome=true->(E.MS E1 nR).own b=E1.own b:=fun b hb=>by
  simp only [Env.MS];rw [if_pos hb]
 have out1:∀b,¬(nR b).isSome=true->(E.MS E1 nR).own b=E.own b:=fun b hb=>by
  simp only [Env.MS];rw [if_neg hb]
 
 have extra:∀b k c o,¬(nR b).isSome=true->ah b=some k->E.own b=.at c o->∀b' o',(E.part nR).own b'≠.at c o':=fun b k c o hb hk ho b' o' h=>by
  obtain ⟨h1,h2⟩:=Me b' c o' h
  obtain ⟨k',hk'⟩:=Option.isSome_iff_exists.1 h1
  exact hh.sep b' b k' k c o' c o (fun e=>hb (by rw [<- e];exact h1)) (hsub _ _ hk') hk h2 ho rfl
 have hx:Ext w E w' (E.MS E1 nR):=by
  refine ⟨hst.ext.fix,hst.ext.cell,fun b hb=>?_,hst.ext.arr⟩
  by_cases hin:(nR b).isSome=true
  .rw [in1 b hin]
   have:=hst.ext.own b (by rw [ab7 b hin];exact hb)
   rw [this,ab7 b hin]
  .exact out1 b hin
 refine ⟨⟨hx,hst.below,hst.xQ,fun c hc hno=>hst.keep c hc fun b o h=>hno b o (Me b c o h).2,fun b c o h hc=>?_,fun c o h hc=>?_⟩,⟨fun b k hb=>?_,fun b b' k k' c o c' o' hne h1 h2 h3 h4=>?_,fun b hb=>?_,hh'.jT,hh'.bs,fun b c o h=>?_⟩,fun a v hr hrf=>?_⟩
 .by_cases hin:(nR b).isSome=true
  .rw [in1 b hin] at h
   obtain ⟨b',o',h'⟩:=hst.CZ b c o h hc
   exact ⟨b',o',(Me b' c o' h').2⟩
  .rw [out1 b hin] at h;exact ⟨b,o,h⟩
 .exact (hst.xR c o h hc).imp id fun ⟨b',o',h'⟩=>⟨b',o',(Me b' c o' h').2⟩
 .rw [hN b] at hb
  split at hb
  .rename_i hin
   exact (hh'.blk b k hb).env (fun _ _ h=>h) (fun _ _ _ _ h=>h) (in1 b hin) fun x hx=>in1 x ((hlt' b k hb).2 x hx)
  .rename_i hle
   have hb0:=hh.blk b k hb
   refine hb0.keep hx (fun c o ho=>hst.keep c (hb0.lt ho).1 (extra b k c o hle hb ho)) (fun c o off ho h=>?_)
   rcases hst.xR c off h (hb0.lt ho).1 with h|⟨b',o',h⟩
   .exact h
   .exact absurd h (extra b k c o hle hb ho b' o')
 .have mix:∀b b' k c o c' o',¬(nR b).isSome=true->ah b=some k->E.own b=.at c o->E1.own b'=.at c' o'->c≠c':=by
   intro b b' k c o c' o' h1 h2 h3 h6 e
   subst e
   obtain ⟨x,y,hxy⟩:=hst.CZ b' c o' h6 ((hh.blk b k h2).lt h3).1
   exact extra b k c o h1 h2 h3 x y hxy
  rw [hN b] at h1
  rw [hN b'] at h2
  split at h1
  .rename_i g1
   rw [in1 b g1] at h3
   split at h2
   .rename_i g2
    rw [in1 b' g2] at h4
    exact hh'.sep b b' k k' c o c' o' hne h1 h2 h3 h4
   .rename_i g2
    rw [out1 b' g2] at h4
    exact (mix b' b k' c' o' c o g2 h2 h4 h3).symm
  .rename_i g1
   rw [out1 b g1] at h3
   split at h2
   .rename_i g2
    rw [in1 b' g2] at h4
    exact mix b b' k c o c' o' g1 h1 h3 h4
   .rename_i g2
    rw [out1 b' g2] at h4
    exact hh.sep b b' k k' c o c' o' hne h1 h2 h3 h4
 .have h0:=hh.fresh b hb
  rw [out1 b fun h=>?_]
  .exact h0
  .obtain ⟨k0,hk0⟩:=Option.isSome_iff_exists.1 h
   exact (hh.blk b k0 (hsub _ _ hk0)).own h0
 .by_cases hin:(nR b).isSome=true
  .rw [in1 b hin] at h;exact hh'.jW b c o h
  .rw [out1 b hin] at h
   have:=hh.jW b c o h
   exact ⟨this.1,cu this.2 hst.below.size⟩
 .exact uJ (E:=E1) (E':=E.MS E1 nR) (fun _ _ h=>h) hr fun x hx=>in1 x (hrf x hx)
end
theorem V7 {uo:List (Nat×Nat)}:∀{bl GR:List (Nat×SB)} {nv uj:Nat},PK uo nv bl=some (GR,uj)->∀b,(vM GR b).isSome=(vM bl b).isSome
 |[],GR,nv,uj,h,b=>by simp only [PK,au,aN] at h;obtain ⟨rfl,rfl⟩:=h;rfl
 |(c,k)::r,GR,nv,uj,h,b=>by
  simp only [PK] at h
  have fin:∀{k':SB} {l:List (Nat×SB)} {n m:Nat},PK uo n r=some (l,m)->(vM ((c,k')::l) b).isSome=(vM ((c,k)::r) b).isSome:=fun {k' l n m} hl=>by
   simp only [vM]
   cases e:Nat.beq c b
   .simp only [cond_false];exact V7 hl b
   .rfl
  split at h
  .split at h
   .rename_i sz _ _ sz' _
    cases e:Nat.beq sz sz'
    .simp [e] at h
    .simp only [e,cond_true] at h
     split at h
     .rename_i l n hl
      simp only [au,aN] at h;obtain ⟨rfl,rfl⟩:=h
      exact fin hl
     .cases h
   .rename_i sz _ _ sz' _
    cases e:Nat.beq sz sz'
    .simp [e] at h
    .simp only [e,cond_true] at h
     split at h
     .rename_i l n hl
      simp only [au,aN] at h;obtain ⟨rfl,rfl⟩:=h
      exact fin hl
     .cases h
   .cases h
  .split at h
   .rename_i l n hl
    simp only [au,aN] at h;obtain ⟨rfl,rfl⟩:=h
    exact fin hl
   .cases h
theorem Tz {b:Nat}{k:SB}:∀{bl:List (Nat×SB)} {th:Tr SB},(axI bl th).get b=some k->vM bl b=some k\/(vM bl b=none/\th.get b=some k)
 |[],th,h=>.inr ⟨rfl,h⟩
 |(c,x)::r,th,h=>by
  simp only [axI] at h
  simp only [vM]
  rcases Tr.oH _ _ _ _ _ _ h with ⟨rfl,h1⟩|⟨hne,h1⟩
  .exact .inl (by simp only [Nat.beq_refl,cond_true];exact h1)
  .have e:Nat.beq c b=false:=by
    cases e:Nat.beq c b
    .rfl
    .exact absurd (aA e).symm hne
   rw [e]
   exact Tz h1
theorem acI {ρ:List AV}{bl:List (Nat×SB)}{b:Nat}(h:inB bl b=true):(qB (EY ρ bl) b).isSome=true:=by
 unfold inB at h
 rw [uK]
 split at h
 .rename_i k hk;rw [hk];rfl
 .cases h
theorem Ag : ∀{bl:List (Nat×SB)} {b:Nat} {k:SB},vM bl b=some k->(b,k)∈bl
 |[],b,k,h=>by cases h
 |x::r,b,k,h=>by
  simp only [vM] at h
  cases e:Nat.beq x.1 b
  .simp only [e,cond_false] at h;exact aP _ (Ag h)
  .simp only [e,cond_true,au] at h;subst h
   rw [<- aA e];exact bg
section
variable {P : Program}
theorem alB {wc:aoy}:∀σ:List AV,iC σ=true->nN P σ (aoz P wc):=by
 intro ρ hρ pc th nx nv f args R h hp hs base w E ah vs hah hh hG hrep o a he next Q hnext
 unfold aoz at h
 split at h
 .cases h
 rename_i c hc
 dsimp only at h
 generalize (Om th 1000 (DT args) []).reverse=ins at h
 generalize axY ins=n0 at h
 split at h
 .cases h
 rename_i bl hbl
 split at h
 .cases h
 rename_i GR uj asP
 split at h
 .cases h
 rename_i r hr
 cases hg:(r.kJ&&okW bl GR n0 (DT args))
 .simp [hg] at h
 simp only [hg,cond_true,au] at h
 subst h
 simp only [ay] at hg
 obtain ⟨hrf,hg⟩:=hg
 unfold okW at hg
 simp only [ay,aH] at hg
 obtain ⟨g1,g2,g3⟩:=hg
 have hpw:=hs (pc,.oU f args bl n0 r GR) (bV.2 rfl) hp
 have hsub:∀b k,qB (EY ρ bl) b=some k->ah b=some k:=fun b k h=>by
  rw [uK] at h
  simp only [aB] at h
  obtain ⟨z,hz,rfl⟩:=h
  exact hah b z (V6 hbl b z hz)
 have hlt:∀b k,qB (EY ρ bl) b=some k->b<n0:=fun b k h=>by
  rw [uK] at h
  simp only [aB] at h
  obtain ⟨z,hz,rfl⟩:=h
  exact aG (g1 _ (Ag hz)).1
 have hrefs:∀b k,qB (EY ρ bl) b=some k->∀x∈k.vH,(qB (EY ρ bl) x).isSome=true:=fun b k h x hx=>by
  rw [uK] at h
  simp only [aB] at h
  obtain ⟨z,hz,rfl⟩:=h
  rw [DW hρ] at hx
  exact acI ((g1 _ (Ag hz)).2 x hx)
 have hpart:=Oj hh hsub hlt hrefs
 have aqy:gK w (E.part (qB (EY ρ bl))) (dN ρ args) vs:=⟨hrep.1,fun i a v ha hv=>Si (hrep.2 i a v ha hv) fun x hx=>by
  have:x∈lS (dN ρ args):=iV i a ha hx
  rw [rE hρ] at this
  exact acI (g2 x this)⟩
 have hq:=hpw base w (E.part (qB (EY ρ bl))) vs hpart hG aqy
 split at hq
 .exact hq.elim
 rename_i fn hfn
 obtain ⟨hbody,hname,hq⟩:=hq
 have hcall:(callFunc f vs.toArray).run P w=.ok (.enter f vs.toArray) w:=by
  have:(fn.name == "runtime.NumGoroutine")=false:=by simpa using hname
  simp only [callFunc,Sem.run_bind,run_program,Result.andThen_ok,hfn,this,aU,if_false,hbody,Sem.run_pure]
 unfold Oper.wp
 rw [he,hcall]
 refine hq.mono fun e w' hq=>?_
 obtain ⟨v,E1,rfl,hst,hh1,hv⟩:=hq
 have hsome:∀b,(qB (EY ρ GR) b).isSome=(qB (EY ρ bl) b).isSome:=fun b=>by
  rw [uK,uK];simp only [Option.isSome_map];exact V7 asP b
 obtain ⟨q1,q2,q3⟩:=acH (vZ:=fun b=>if (qB (EY ρ bl) b).isSome=true then qB (EY ρ GR) b else ah b) hh hsub hst hh1 (fun b k h=>by
  refine ⟨by rw [<- hsome,h];rfl,fun x hx=>?_⟩
  rw [uK] at h
  simp only [aB] at h
  obtain ⟨z,hz,rfl⟩:=h
  rw [DW hρ] at hx
  exact acI ((g3 _ (Ag hz)).2 x hx)) (fun b=>rfl)
 refine hnext _ rfl v w' _ _ (fun b k hb=>?_) q1 q2 (q3 _ _ hv fun x hx=>?_)
 .rcases Tz hb with h1|⟨h1,h2⟩
  .have h3:(qB (EY ρ bl) b).isSome=true:=by rw [<- hsome,uK,h1];rfl
   show (if (qB (EY ρ bl) b).isSome=true then qB (EY ρ GR) b else ah b)=_
   rw [if_pos h3,uK,h1];rfl
  .have h3:¬(qB (EY ρ bl) b).isSome=true:=by rw [<- hsome,uK,h1];simp
   show (if (qB (EY ρ bl) b).isSome=true then qB (EY ρ GR) b else ah b)=_
   rw [if_neg h3];exact hah b k h2
 .have:=KC (Jg (ρ:=ρ) hrf)
  have h0:=jE (l:=[r.den ρ]) (by simp [kE,this])
  simp only [lS,cZ] at h0
  rw [h0] at hx;cases hx
end
def TA (uo:List (Nat×Nat))(th:Tr SB):List (Nat×SB)->Option (List SV)
 |[]=>some []
 |(b,k)::r=>match th.get b with
  |none=>none
  |some k'=>match uo.find? (fun x=>Nat.beq x.1 b) with
   |some (_,sz)=>(match wS sz k',TA uo th r with|some v,some l=>some (v::l)|_,_=>none)
   |none=>bif k'.beq k then TA uo th r else none
def ai7 (bl:List (Nat×SB))(n0:Nat):Bool:=bl.all fun x=>Nat.ble (x.1+1) n0
def aoA (bl:List (Nat×SB))(n0:Nat)(th:Tr SB):Bool:=bl.all fun x=>match th.get x.1 with|some k=>k.E_.all (fun b=>Nat.ble (b+1) n0)|none=>true
def aen (bl:List (Nat×SB))(uo:List (Nat×Nat))(n0:Nat)(x:Lf):Option SV:=bif x.v.kJ&&aoA bl n0 x.th then (match TA uo x.th bl with|some l=>bif Il l then some (.eG (x.v::l)) else none|none=>none) else none
def sZ (ρ:List AV)(uo:List (Nat×Nat))(cs:List AV):Nat->List (Nat×SB)->List (Nat×uz)
 |_,[]=>[]
 |j,(b,k)::r=>match uo.find? (fun x=>Nat.beq x.1 b) with
  |some (_,sz)=>(b,.rows sz (cs.getD j eu).D.R)::sZ ρ uo cs (j+1) r
  |none=>(b,k.den ρ)::sZ ρ uo cs j r
section
variable {P : Program} {ρ:List AV}
theorem AZ {uo:List (Nat×Nat)}{th:Tr SB}:∀{bl:List (Nat×SB)} {l:List SV} {pre:List AV},TA uo th bl=some l->∀b k,qB (sZ ρ uo (pre++dN ρ l) pre.length bl) b=some k->∃k',th.get b=some k'/\pY (k'.den ρ) k/\(inB bl b=true)/\(k=k'.den ρ\/∃sz v R,v∈l/\v.den ρ=.sl R false/\k=.rows sz R)
 |[],l,pre,h,b,k,hb=>by simp [sZ,qB] at hb
 |(c,kc)::r,l,pre,h,b,k,hb=>by
  simp only [TA] at h
  split at h
  .cases h
  rename_i k' hk'
  simp only [sZ] at hb
  split at h
  .rename_i x sz hf
   rw [hf] at hb
   split at h
   rotate_left
   .cases h
   rename_i v l' hv hl
   simp only [au] at h;subst h
   obtain ⟨rs,R,d1,d2,d3,-⟩:=Cj (ρ:=ρ) hv
   simp only [qB] at hb
   cases e:Nat.beq c b
   .simp only [e,cond_false] at hb
    have e2:pre++dN ρ (v::l')=(pre++[v.den ρ])++dN ρ l':=by simp [dN]
    rw [e2] at hb
    obtain ⟨k2,g1,g2,g3,g4⟩:=AZ (pre:=pre++[v.den ρ]) hl b k (by simpa using hb)
    refine ⟨k2,g1,g2,?_,g4.imp id fun ⟨a1,a2,a3,a4,a5⟩=>⟨a1,a2,a3,aP _ a4,a5⟩⟩
    unfold inB at g3 ⊢
    simp only [vM,e,cond_false];exact g3
   .simp only [e,cond_true,au] at hb
    have eb:=aA e
    subst eb
    have e3:(pre++dN ρ (v::l')).getD pre.length eu=v.den ρ:=by simp [dN,aF]
    rw [e3,d2] at hb
    subst hb
    refine ⟨k',hk',by rw [d1];exact pY.rows d3,by unfold inB;simp [vM],.inr ⟨sz,v,R,bg,d2,rfl⟩⟩
  .rename_i hf
   rw [hf] at hb
   cases hq:k'.beq kc
   .simp [hq] at h
   simp only [hq,cond_true] at h
   have ek:=SB.beq_eq hq
   subst ek
   simp only [qB] at hb
   cases e:Nat.beq c b
   .simp only [e,cond_false] at hb
    obtain ⟨k2,g1,g2,g3,g4⟩:=AZ (bl:=r) (l:=l) h b k hb
    refine ⟨k2,g1,g2,?_,g4⟩
    unfold inB at g3 ⊢
    simp only [vM,e,cond_false];exact g3
   .simp only [e,cond_true,au] at hb
    have eb:=aA e
    subst eb;subst hb
    exact ⟨k',hk',pY.refl _,by unfold inB;simp [vM],.inl rfl⟩
def aeo (P:Program)(fn:Func)(base:Nat)(w:World)(E:Env)(bl:List (Nat×SB))(uo:List (Nat×Nat))(ρ:List AV)(n0:Nat)(t:AV)(a':Act)(w':World):Prop:=
 ∃r cs,t=.eG (r::cs)/\a'.defers=[]/\∃val E',(results fn a'.tmps).run P w'=.ok val w'/\Step base w E w' E'/\dQ base w' E' (qB (sZ ρ uo cs 0 bl)) (fun b=>n0<=b)/\Rep w' E' r val
theorem aae {bl:List (Nat×SB)}{uo:List (Nat×Nat)}{n0:Nat}{x:Lf}{t:SV}(hρ:iC ρ=true)(h:aen bl uo n0 x=some t)(hbl:ai7 bl n0=true){fn:Func}{base:Nat}{w w':World}{E:Env}{a':Act}(hE:∀b,n0<=b->E.own b=.free)
  (he:IB P fn base w E (x.v.den ρ) (h_ ρ x.th) x.nx a' w'):aeo P fn base w E bl uo ρ n0 (t.den ρ) a' w':=by
 unfold aen at h
 cases hg:(x.v.kJ&&aoA bl n0 x.th)
 .simp [hg] at h
 simp only [hg,cond_true] at h
 simp only [ay] at hg
 split at h
 rotate_left
 .cases h
 rename_i l hl
 cases hn:Il l
 .simp [hn] at h
 simp only [hn,cond_true,au] at h;subst h
 obtain ⟨h0,E2,val,h1,h2,h3,h4⟩:=he
 let E3:Env:=⟨E2.fix,fun b=>if b<n0 then E2.own b else .free⟩
 have lo:∀b,b<n0->E3.own b=E2.own b:=fun b hb=>if_pos hb
 have at3:∀b c o,E3.own b=.at c o->E2.own b=.at c o:=fun b c o h=>by
  by_cases hb:b<n0
  .rw [lo b hb] at h;exact h
  .change (if b<n0 then _ else Own.free)=_ at h;rw [if_neg hb] at h;cases h
 have asQ:∀{b},inB bl b=true->b<n0:=fun {b} h=>by
  unfold inB at h
  split at h
  .rename_i k hk
   unfold ai7 at hbl
   rw [aH] at hbl
   exact aG (hbl _ (Ag hk))
  .cases h
 refine ⟨_,_,rfl,h0,val,E3,h1,⟨⟨h3.ext.fix,h3.ext.cell,fun b hb=>?_,h3.ext.arr⟩,h3.below,h3.xQ,h3.keep,fun b c o h hc=>h3.CZ b c o (at3 b c o h) hc,h3.xR⟩,⟨fun b k hb=>?_,fun b b' k k' c o c' o' hne e1 e2 e3 e4=>?_,fun b hb=>?_,h4.jT,h4.bs,fun b c o h=>h4.jW b c o (at3 b c o h)⟩,Au h2 (Jg hg.1)⟩
 .have hlt:b<n0:=Nat.lt_of_not_le fun hle=>hb (hE b hle)
  rw [lo b hlt];exact h3.ext.own b hb
 .obtain ⟨k',g1,g2,g3,g4⟩:=AZ (ρ:=ρ) (pre:=[]) hl b k hb
  have hb2:=g2 _ _ _ _ (h4.blk b (k'.den ρ) (by unfold h_;rw [g1];rfl))
  refine hb2.env (fun _ _ h=>h) (fun _ _ _ _ h=>h) (lo b (asQ g3)) fun y hy=>lo y ?_
  rcases g4 with rfl|⟨sz,v,R,a1,a2,rfl⟩
  .rw [DW hρ] at hy
   have hq:=hg.2
   unfold aoA at hq
   rw [aH] at hq
   unfold inB at g3
   split at g3
   .rename_i kk hkk
    have:=hq _ (Ag hkk)
    dsimp only at this
    rw [g1] at this
    exact aG (aH.1 this y hy)
   .cases g3
  .obtain ⟨i,hi⟩:=List.getElem?_of_mem a1
   have hnr:=sS hn hi
   have hv:(v.den ρ).refs=[]:=by rw [wK hρ,hnr]
   rw [a2] at hv
   simp only [uz.vH] at hy
   simp only [AV.refs] at hv
   rw [hv] at hy;cases hy
 .obtain ⟨k1,g1,-,-,-⟩:=AZ (ρ:=ρ) (pre:=[]) hl b k e1
  obtain ⟨k2,g2,-,-,-⟩:=AZ (ρ:=ρ) (pre:=[]) hl b' k' e2
  exact h4.sep b b' (k1.den ρ) (k2.den ρ) c o c' o' hne (by unfold h_;rw [g1];rfl) (by unfold h_;rw [g2];rfl) (at3 _ _ _ e3) (at3 _ _ _ e4)
 .show (if b<n0 then _ else Own.free)=_
  rw [if_neg (by omega)]
def OC (P:Program)(rs:List ResultVar)(bl:List (Nat×SB))(uo:List (Nat×Nat))(n0:Nat):Pc->Nat->List Out->Option (List (Tm×SV)×Nat×List (Pc×Side))
 |_,nv,[]=>some ([],nv,[])
 |pc,nv,o::r=>match Iy P rs (jl (vI o.g r) true pc) nv o with
  |none=>none
  |some x=>match aen bl uo n0 x with
   |none=>none
   |some v=>match OC P rs bl uo n0 (jl o.g false pc) x.nv r with
    |none=>none
    |some (l,uj,sd)=>some ((o.g,v)::l,uj,x.sd++sd)
theorem PL {rs:List ResultVar}{bl:List (Nat×SB)}{uo:List (Nat×Nat)}{n0:Nat}{pc:Pc}{nv:Nat}{o:Out}{r:List Out}:OC P rs bl uo n0 pc nv (o::r)=(match Iy P rs (jl (vI o.g r) true pc) nv o with
 |none=>none
 |some x=>match aen bl uo n0 x with
  |none=>none
  |some v=>match OC P rs bl uo n0 (jl o.g false pc) x.nv r with
   |none=>none
   |some (l,uj,sd)=>some ((o.g,v)::l,uj,x.sd++sd)):=rfl
theorem V8 {fn:Func}{N:Nat}(hρ:iC ρ=true){bl:List (Nat×SB)}{uo:List (Nat×Nat)}{n0:Nat}(hbl:ai7 bl n0=true):∀{l:List Out} {pc:Pc} {nv uj:Nat} {rs:List (Tm×SV)} {sd:List (Pc×Side)},OC P fn.results.toList bl uo n0 pc nv l=some (rs,uj,sd)->pc.holds ρ->iW P ρ sd->∀{base:Nat} {w w':World} {E E':Env} {fr:lH} {ah:AH} {nx:Nat} {a':Act} {e:Exit},
  (∀b,n0<=b->E.own b=.free)->FH ρ N l e fr ah nx->ND base w' E' fr ah nx a'->Step base w E w' E'->Iw e=true/\aeo P fn base w E bl uo ρ n0 (qy ρ rs) a' w'
 |[],pc,nv,uj,rs,sd,h,hp,hs,base,w,w',E,E',fr,ah,nx,a',e,hE,hsel,jc,hstep=>by
  obtain ⟨st,h1,-⟩:=hsel;cases h1
 |[o],pc,nv,uj,rs,sd,h,hp,hs,base,w,w',E,E',fr,ah,nx,a',e,hE,hsel,jc,hstep=>by
  obtain ⟨st,h1,h2⟩:=hsel
  simp only [sel,au,aN] at h1
  obtain ⟨rfl,rfl⟩:=h1
  simp only [OC,vI,jl] at h
  split at h
  .cases h
  .rename_i x hx
   split at h
   .cases h
   .rename_i v hv
    simp only [au,aN,cZ] at h
    obtain ⟨rfl,rfl,rfl⟩:=h
    obtain ⟨q1,q2⟩:=y9 (P:=P) hx hp hs h2 jc hstep
    exact ⟨q1,aae hρ hv hbl hE q2⟩
 |o::o'::r,pc,nv,uj,rs,sd,h,hp,hs,base,w,w',E,E',fr,ah,nx,a',e,hE,hsel,jc,hstep=>by
  obtain ⟨st,h1,h2⟩:=hsel
  simp only [sel] at h1
  rw [PL] at h
  simp only [vI] at h
  split at h
  .cases h
  .rename_i x hx
   split at h
   .cases h
   .rename_i v hv
    split at h
    .cases h
    .rename_i l nv1 sd1 hl
     simp only [au,aN] at h
     obtain ⟨rfl,rfl,rfl⟩:=h
     have ZR:∃y s,l=y::s:=by
      rw [PL] at hl
      split at hl
      .cases hl
      .split at hl
       .cases hl
       .split at hl
        .cases hl
        .simp only [au,aN] at hl;exact ⟨_,_,hl.1.symm⟩
     obtain ⟨y,s,rfl⟩:=ZR
     cases hg:(o.g.den ρ).B
     .rw [hg] at h1
      obtain ⟨q1,q2⟩:=V8 hρ hbl hl (fP hg hp) (oI hs) hE ⟨st,h1,h2⟩ jc hstep
      exact ⟨q1,by simpa [qy,hg] using q2⟩
     .rw [hg] at h1
      simp only [cond_true,au,aN] at h1
      obtain ⟨rfl,rfl⟩:=h1
      obtain ⟨q1,q2⟩:=y9 (P:=P) hx (fP hg hp) (lY hs) h2 jc hstep
      exact ⟨q1,by simpa [qy,hg] using aae (P:=P) hρ hv hbl hE q2⟩
def MV (P:Program)(X0:pG)(I0:DX)(md:Md)(FC:FuncId->y8)(tV CF:Nat)(f:FuncId)(args:List SV)(nv:Nat)(bl:List (Nat×SB))(uo:List (Nat×Nat))(n0:Nat):Option iL:=
 match P.funcs[f]? with
 |none=>none
 |some fn=>match fn.body with
  |none=>none
  |some c=>bif oh fn&&(Nat.ble args.length fn.ntmps&&ai7 bl n0) then
    match sU P ⟨(ML P X0 I0 md FC tV CF CF).1,is2 md,(ML P X0 I0 md FC tV CF CF).2,tV⟩ {FC f with N:=fn.ntmps} CF [] ⟨AU 0 args,axI bl .e,n0⟩ nv c with
    |none=>none
    |some x=>match OC P fn.results.toList bl uo n0 [] x.nv x.outs with
     |none=>none
     |some (l,_,sd)=>some ⟨l,x.sd++sd,x.aw⟩
   else none
theorem alC {X0:pG}{I0:DX}{md:Md}{FC:FuncId->y8}{tV CF:Nat}{f:FuncId}{args:List SV}{nv:Nat}{bl:List (Nat×SB)}{uo:List (Nat×Nat)}{n0:Nat}{R:iL}(h:MV P X0 I0 md FC tV CF f args nv bl uo n0=some R)(hm:P.follows .mixedOrders=true)(hρ:iC ρ=true)(h0:∀σ:List AV,iC σ=true->nN P σ I0)(hX:∀σ:List AV,iC σ=true->n_ P σ X0)
  (hs:iW P ρ R.sd) (haw:Oq P ρ R.aw) {r:AV} {cs:List AV} (hr:qy ρ R.rs=.eG (r::cs)):PWL P f (dN ρ args) (EY ρ bl) n0 r (sZ ρ uo cs 0 bl):=by
 unfold MV at h
 split at h
 .cases h
 rename_i fn hfn
 split at h
 .cases h
 rename_i c hc
 cases hg:oh fn&&(Nat.ble args.length fn.ntmps&&ai7 bl n0)
 .simp [hg] at h
 simp only [hg,cond_true] at h
 split at h
 .cases h
 rename_i x hx
 split at h
 .cases h
 rename_i l uj sd hl
 simp only [au] at h;subst h
 obtain ⟨h1,h2⟩:=Qw (md:=md) (FC:=FC) (tV:=tV) (CF:=CF) hm h0 hX CF
 simp only [ay] at hg
 obtain ⟨hg1,hg2,hbl⟩:=hg
 have hname:fn.name≠ "runtime.NumGoroutine" :=by simpa [oh] using hg1
 have hlen:=aG hg2
 intro base w E vs hheap hG hargs
 rw [hfn]
 dsimp only
 refine ⟨by rw [hc];rfl,hname,?_⟩
 have hlenA:(dN ρ args).length<=fn.ntmps:=by rw [fM];exact hlen
 have hah:EJ ρ (axI bl .e) (qB (EY ρ bl)):=fun b k hb=>by
  rcases Tz hb with h1|⟨-,h2⟩
  .rw [uK,h1];rfl
  .simp [Tr.get] at h2
 have hst:GX ρ fn.ntmps ⟨AU 0 args,axI bl .e,n0⟩ (AX fn.ntmps (dN ρ args)) (qB (EY ρ bl)) n0:=GX.of MN hah (zM hlenA) (dF _)
 have acA:=og (G:=⟨(ML P X0 I0 md FC tV CF CF).1,is2 md,(ML P X0 I0 md FC tV CF CF).2,tV⟩) (F:={FC f with N:=fn.ntmps}) hm h1 h2 hρ _ _ _ _ hx (fun x hx=>by cases hx) (lY hs) haw _ _ _ hst
 have jc:ND base w E (AX fn.ntmps (dN ρ args)) (qB (EY ρ bl)) n0 {tmps:=vs.toArray++Array.replicate (fn.ntmps-vs.toArray.size) undef,defers:=[]}:=
  ⟨hheap,Jp hG hargs hlenA,rfl⟩
 refine calls_of_wp hfn hc (wp_mono (acA _ w E _ jc) fun e a' w' hp'=>?_)
 obtain ⟨E',fr',fK,nx',hsel,Tf,hst'⟩:=hp'
 obtain ⟨q1,r',cs',er,q0,val,E3,q2,q3,q4,q5⟩:=V8 (P:=P) (fn:=fn) hρ hbl hl (fun x hx=>by cases hx) (oI hs) (fun b hb=>hheap.fresh b hb) hsel Tf hst'
 rw [hr] at er
 simp only [AV.eG.injEq,List.cons.injEq] at er
 obtain ⟨rfl,rfl⟩:=er
 have fin:a'.defers=[]/\∃v,(results fn a'.tmps).run P w'=.ok v w'/\∃u E',Ending.returned v=.returned u/\Step base w E w' E'/\dQ base w' E' (qB (sZ ρ uo cs 0 bl)) (fun b=>n0<=b)/\Rep w' E' r u:=
  ⟨q0,val,q2,val,E3,rfl,q3,q4,q5⟩
 cases e<;>first|exact fin|(simp [Iw] at q1)
theorem aqz (hm:P.follows .mixedOrders=true){X:pG}(hX:∀σ:List AV,iC σ=true->n_ P σ X){I0:DX}(h0:∀σ:List AV,iC σ=true->nN P σ I0){md:Md}{FC:FuncId->y8}{tV CF f nv:Nat}{args:List SV}{ρ:List AV}{rs:List (Tm×SV)}{sd:List (Pc×Side)}{aw:List Lo}{az:List AV}{r:AV}{cs:List AV}{bl:List (Nat×SB)}{uo:List (Nat×Nat)}{n0:Nat}{bin JI:List (Nat×uz)}
  (h:MV P X I0 md FC tV CF f args nv bl uo n0=some ⟨rs,sd,aw⟩) (hρ:iC ρ=true) (hs:uY P ρ sd) (hl:Yx P aw ρ) (ha:dN ρ args=az) (hb:EY ρ bl=bin) (hr:qy ρ rs=.eG (r::cs)) (hb2:sZ ρ uo cs 0 bl=JI):PWL P f az bin n0 r JI:=by
 subst ha;subst hb;subst hb2
 exact alC h hm hρ h0 hX hs.ok hl hr
def wcT (l:List (Nat×List (Nat×Nat))):aoy:=fun f=>(l.find? fun x=>Nat.beq x.1 f).map (·.2)
end
end Go.Fw
end
section
namespace Go.Fw
variable [jK]
theorem aep {P:Program}{f:FuncId}{args:List AV}{r:AV}{p:List Nat}{sz:Nat}(h:JK args->PCo P f args r p sz):PCo P f args r p sz:=by
 intro w fix vs hfix hG hargs
 refine h (FM fun a ha=>?_) w fix vs hfix hG hargs
 obtain ⟨i,hi⟩:=bH.1 ha
 have hlt:i<vs.length:=by rw [<- hargs.1];exact (aC.1 hi).1
 exact Qu (hargs.2 i a vs[i] hi (by simp [hlt]))
theorem aoB {P:Program}{f:FuncId}{args:List AV}{r:AV}{bin JI:List (Nat×uz)}{n0:Nat}(h:JK args->PWL P f args bin n0 r JI):PWL P f args bin n0 r JI:=by
 intro base w E vs hheap hG hargs
 refine h (FM fun a ha=>?_) base w E vs hheap hG hargs
 obtain ⟨i,hi⟩:=bH.1 ha
 have hlt:i<vs.length:=by rw [<- hargs.1];exact (aC.1 hi).1
 exact Qu (hargs.2 i a vs[i] hi (by simp [hlt]))
def zi {K V:Type}(f:K->List AV)(g:V->List AV)(e:K×V):List AV:=f e.1++g e.2
theorem alD {K V:Type}{f:K->List AV}{g:V->List AV}(hf:∀x,iC (f x)=true)(hg:∀x,iC (g x)=true)(e:K×V):iC (zi f g e)=true:=by
 have app:∀{a b:List AV},iC a=true->iC b=true->iC (a++b)=true:=by
  intro a
  induction a with
  |nil=>intro b _ h;exact h
  |cons x r ih=>intro b h1 h2;simp only [iC,ay,bZ] at h1 ⊢;exact ⟨h1.1,ih h1.2 h2⟩
 exact app (hf _) (hg _)
def nC {K V:Type}[DecidableEq K](z:V)(k:K):List (K×V)->Bool×V
 |[]=>(false,z)
 |e::r=>if k=e.1 then (true,e.2) else nC z k r
def nD {K V:Type}[DecidableEq K](k:K)(v:V):List (K×V)->List (K×V)
 |[]=>[(k,v)]
 |e::r=>if k=e.1 then (k,v)::r else e::nD k v r
section
variable {P : Program} {K V:Type} [DecidableEq K] {f:K->List AV} {g:V->List AV} {kt:TypeId} {m:MSh}
theorem Ah (hf:∀k,(f k).length=m.kn)(e:K×V):qC m (zi f g e)=(mO m.ka (f e.1),mO m.va (g e.2)):=by
 unfold qC zi
 rw [<- hf e.1];simp
theorem V9 (hk:∀a b:K,aeq P 10000 kt (mO m.ka (f a)) (mO m.ka (f b))=some (decide (a=b)))(hf:∀k,(f k).length=m.kn)(k:K)(z:V):∀(l:List (K×V)),
  ∃r,xI P kt (mO m.ka (f k)) ((l.map (zi f g)).map (qC m))=some r/\(nC z k l).1=r.isSome/\mO m.va (g (nC z k l).2)=(match r with|none=>mO m.va (g z)|some q=>q.2)
 |[]=>⟨none,rfl,rfl,rfl⟩
 |e::r=>by
  simp only [aZ,Ah hf,xI,hk,nC]
  by_cases h:k=e.1
  .simp only [h,decide_true,if_true];exact ⟨_,rfl,rfl,rfl⟩
  .simp only [h,decide_false,if_false]
   obtain ⟨q,h1,h2,h3⟩:=V9 hk hf k z r
   rw [h1]
   cases q with
   |none=>exact ⟨_,rfl,h2,h3⟩
   |some q=>exact ⟨_,rfl,h2,h3⟩
theorem aaf (hk:∀a b:K,aeq P 10000 kt (mO m.ka (f a)) (mO m.ka (f b))=some (decide (a=b)))(hf:∀k,(f k).length=m.kn)(k:K)(v:V):∀(l:List (K×V)),
  ∃r,xI P kt (mO m.ka (f k)) ((l.map (zi f g)).map (qC m))=some r/\(∀q,r=some q->(((l.map (zi f g)).map (qC m))[q.1]?).map (·.1)=some (mO m.ka (f k)))/\
   ((nD k v l).map (zi f g)).map (qC m)=(match r with|none=>(l.map (zi f g)).map (qC m)++[(mO m.ka (f k),mO m.va (g v))]|some q=>((l.map (zi f g)).map (qC m)).set q.1 (mO m.ka (f k),mO m.va (g v)))
 |[]=>⟨none,rfl,(fun q h=>by cases h),by simp [nD,Ah hf]⟩
 |e::r=>by
  simp only [aZ,Ah hf,xI,hk,nD]
  by_cases h:k=e.1
  .simp only [h,decide_true,if_true]
   refine ⟨_,rfl,fun q hq=>?_,?_⟩
   .simp only [au] at hq;subst hq;simp
   .simp [Ah hf]
  .simp only [h,decide_false,if_false]
   obtain ⟨q,h1,h2,h3⟩:=aaf hk hf k v r
   rw [h1]
   cases q with
   |none=>exact ⟨_,rfl,(fun q h=>by cases h),by simp only [aZ,Ah hf,h3];rfl⟩
   |some q=>exact ⟨_,rfl,(fun q' hq=>by simp only [au] at hq;subst hq;simpa using h2 q rfl),by simp only [aZ,Ah hf,h3,List.set_cons_succ]⟩
end
theorem alE {α:Type}[Inhabited α]{f:α->List AV}{l:List α}{i:Int}{off n:Nat}{cells:List AV}(y:α)(h0:0<=i)(h1:i<(l.length:Int))(hn:∀x,(f x).length=n)(hc:Nat.ble (off+cells.length) n=true)(hy:f y=lay (f (l.getD i.toNat default)) off cells) :
  ∃row,(List.map f l)[i.toNat]?=some row/\off+cells.length<=row.length/\List.map f (l.set i.toNat y)=(List.map f l).set i.toNat (lay row off cells):=by
 have h3:i.toNat<l.length:=by omega
 refine ⟨f (l.getD i.toNat default),by simp [aF,h3],by rw [hn];exact aG hc,?_⟩
 rw [List.map_set,hy]
theorem axF {α:Type}:(∀(f:α->List AV) (l:List α),iM f l=l.length)/\(∀l:List UInt8,sLen l=l.length)/\(∀a b:List α,(a++b).length=a.length+b.length)/\(∀(l:List α) i x,(l.set i x).length=l.length)/\
  (∀n (x:α),(List.replicate n x).length=n)/\(∀n (l:List α),(l.take n).length=min n l.length)/\(∀n (l:List α),(l.drop n).length=l.length-n)/\(∀(x:α) l,(x::l).length=l.length+1)/\([]:List α).length=0:=
 ⟨ji,fun _=>rfl,fun _ _=>bI,fun _ _ _=>List.length_set,fun _ _=>List.length_replicate,fun _ _=>List.length_take,fun _ _=>List.length_drop,fun _ _=>dB,List.length_nil⟩
theorem wZ {α:Type}{c:Bool}{a b:List α}{n:Nat}(ha:a.length=n)(hb:b.length=n):(bif c then a else b).length=n:=by cases c<;>simp [ha,hb]
theorem asR {x:Int}(h0:0<=x)(h1:x<9223372036854775808):IntKind.wrap .i64 (iZ .u64 (IntKind.wrap .u64 x) 1)=x / 2:=by
 have e1:IntKind.wrap .u64 x=x:=by
  show (if (false&&decide (x % 2 ^ 64>=2 ^ (64-1)))=true then x % 2 ^ 64-2 ^ 64 else x % 2 ^ 64)=_
  simp;omega
 have e2:iZ .u64 x 1=x / 2:=by
  show x.fdiv (2 ^ (min (1:Int).toNat 64))=_
  rw [Int.fdiv_eq_ediv_of_nonneg _ (by decide)];rfl
 rw [e1,e2]
 have e:IntKind.wrap .i64 (x / 2)=if (x / 2) % 18446744073709551616>=9223372036854775808 then (x / 2) % 18446744073709551616-18446744073709551616 else (x / 2) % 18446744073709551616:=by
  show (if (true&&decide ((x / 2) % 2 ^ 64>=2 ^ (64-1)))=true then (x / 2) % 2 ^ 64-2 ^ 64 else (x / 2) % 2 ^ 64)=_
  simp
 rw [e]
 split<;>omega
theorem ai8 {P:Program}{f:FuncId}{args:List AV}{r:AV}(hr:r.flat=true)(h:PWL P f args [] 0 r []):PC P f args r:=by
 intro w fix vs hfix hG hrep
 have hp:=h w.heap.size w (eH fix) vs ⟨fun b k hb=>by simp [qB] at hb,fun b b' k k' c o c' o' _ hb=>by simp [qB] at hb,fun b _=>rfl,hfix,dF _,fun b c o hb=>by simp [eH] at hb⟩ hG hrep
 split at hp
 .exact hp.elim
 .rename_i fn hfn
  simp only [hfn]
  obtain ⟨h1,h2,h3⟩:=hp
  rw [if_neg (by rw [h1];simp)]
  refine ⟨h2,h3.mono fun e w' hq=>?_⟩
  obtain ⟨v,E',q1,q2,q3,q4⟩:=hq
  exact ⟨v,E'.fix,q1,⟨⟨q2.ext.fix,q2.ext.cell,fun b hb=>absurd rfl hb,q2.ext.arr⟩,q2.below,q2.xQ,q2.keep,fun b c o hb=>by simp [eH] at hb,q2.xR⟩,q3.jT,Au q4 hr⟩
def MW (m:List (Int×Bool))(d:List Bool):List Bool:=d.mapIdx fun i b=>b||m.any fun e=>Nat.beq e.1.toNat i
theorem Gq {a b:Int}(h0 : -9223372036854775808<=a+b)(h1:a+b<9223372036854775808):dZ .i64 a b=a+b:=by
 have e:IntKind.wrap .i64 (a+b)=if (a+b) % 18446744073709551616>=9223372036854775808 then (a+b) % 18446744073709551616-18446744073709551616 else (a+b) % 18446744073709551616:=by
  show (if (true&&decide ((a+b) % 2 ^ 64>=2 ^ (64-1)))=true then (a+b) % 2 ^ 64-2 ^ 64 else (a+b) % 2 ^ 64)=_
  simp
 unfold dZ
 rw [e]
 split<;>omega
theorem ai9 {a b:Int}(h0 : -9223372036854775808<=a-b)(h1:a-b<9223372036854775808):jk .i64 a b=a-b:=by
 have e:IntKind.wrap .i64 (a-b)=if (a-b) % 18446744073709551616>=9223372036854775808 then (a-b) % 18446744073709551616-18446744073709551616 else (a-b) % 18446744073709551616:=by
  show (if (true&&decide ((a-b) % 2 ^ 64>=2 ^ (64-1)))=true then (a-b) % 2 ^ 64-2 ^ 64 else (a-b) % 2 ^ 64)=_
  simp
 unfold jk
 rw [e]
 split<;>omega
theorem axd {a b:Int}:(a == b)=decide (a=b):=by by_cases h:a=b<;>simp [h]
end Go.Fw
namespace Go.Fw
variable [jK]
end Go.Fw
end
section
namespace Go.Fw
variable [jK]
open Go.ChangeShapes Go.WideShapes Go.RowKit
structure Qa {H:Type}(f:DataW H->Nat)(fa:List (DataW H)->Nat):Prop where
 str:∀b,f (.lit (.string b))=b.length+1
 sl:∀e s,f (.slice e s)=fa e+fa s+1
 agg:∀p,f (.agg p)=fa p+1
 nil:fa []=0
 cons:∀d r,fa (d::r)=f d+fa r
 one:∀d,1<=f d
theorem Qa.append {H:Type}{f:DataW H->Nat}{fa}(hb:Qa f fa)(a b:List (DataW H)):fa (a++b)=fa a+fa b:=by
 induction a with
 |nil=>simp [hb.nil]
 |cons x a ih=>simp [hb.cons,ih];omega
theorem Qa.get {H:Type}{f:DataW H->Nat}{fa}(hb:Qa f fa):∀{a:List (DataW H)} {i:Nat} {x},a[i]?=some x->f x<=fa a
 |y::a,0,x,h=>by simp at h;subst h;rw [hb.cons];omega
 |y::a,i+1,x,h=>by have:=hb.get (a:=a) (i:=i) (by simpa using h);rw [hb.cons];omega
theorem Qa.len {H:Type}{f:DataW H->Nat}{fa}(hb:Qa f fa)(a:List (DataW H)):a.length<=fa a:=by
 induction a with
 |nil=>simp
 |cons x a ih=>have:=hb.one x;simp [hb.cons];omega
abbrev lim : Nat:=1048576
def TD (w:World):Env:=eH fun c _=>c<w.heap.size
structure Rd (P:Program)(t:TypeId){α:Type}(row:α->List AV)(wf:α->Prop):Prop where
 get:∀{H:Type} {enc:TypeId×Value->H} {f:DataW H->Nat} {fa:List (DataW H)->Nat} (_:Qa f fa) {w:World} {fuel:Nat} {cs:List Value} {x:DataW H×List MemPlace},
  DataW.trod enc P w 0 (fun _=>true) true fuel t cs=some x->f x.1<=lim->∃a,wf a/\gK w (TD w) (row a) cs/\∀c∈row a,c.jy=true
theorem Rd.to {P t}{α β:Type}{row:α->List AV}{wf:α->Prop}(h:Rd P t row wf)(g:α->β){row':β->List AV}{wf':β->Prop}(hr:∀a,row' (g a)=row a)(hw:∀a,wf a->wf' (g a)):Rd P t row' wf':=by
 constructor
 intro H enc f fa hb w fuel cs x hx hl
 obtain ⟨a,h1,h2,h3⟩:=h.get hb hx hl
 exact ⟨g a,hw a h1,by rw [hr];exact h2,by rw [hr];exact h3⟩
theorem gK.one {w E a v}(h:Rep w E a v):gK w E [a] [v]:=
 ⟨rfl,fun i x y hx hy=>by cases i with|zero=>simp at hx hy;subst hx;subst hy;exact h|succ i=>simp at hx⟩
theorem Jt {P t}(ht:P.underlying t=some .bool):Rd P t (fun b:Bool=>[.p (.bool b)]) (fun _=>True):=by
 constructor
 intro H enc f fa hb w fuel cs x hx hl
 obtain ⟨b,rfl,rfl⟩:=DataW.trod_bool ht hx
 exact ⟨b,trivial,gK.one (.p rfl),by simp [AV.jy]⟩
def XW (k:IntKind)(n:Int):Prop:=k.min<=n/\n<=k.max
theorem OD {P t}{k:IntKind}(ht:P.underlying t=some (.int k)):Rd P t (fun n:Int=>[.p (.int k n)]) (XW k):=by
 constructor
 intro H enc f fa hb w fuel cs x hx hl
 obtain ⟨n,rfl,rfl,hw⟩:=DataW.trod_int ht hx
 exact ⟨n,by simpa [Lit.wf,XW] using hw,gK.one (.p rfl),by simp [AV.jy]⟩
theorem acJ {H:Type}{enc:TypeId×Value->H}{P:Program}{w:World}{base:Nat}{spare:Nat->Bool}{held:Bool}{fuel:Nat}{t:TypeId}{cs:List Value}{x:DataW H×List MemPlace}{k}(ht:P.underlying t=some (.float k))
  (h:DataW.trod enc P w base spare held fuel t cs=some x):∃n,cs=[.float k n]/\x=(.lit (.float k n),[])/\(Lit.float k n).wf=true:=by
 cases fuel with
 |zero=>simp [DataW.trod] at h
 |succ n=>
  unfold DataW.trod at h
  rw [ht] at h
  split at h<;>simp_all
theorem ai_ {P t}(ht:P.underlying t=some (.float .f64)):Rd P t (fun n:Nat=>[.p (.float .f64 n)]) (fun n=>n<2 ^ 64):=by
 constructor
 intro H enc f fa hb w fuel cs x hx hl
 obtain ⟨n,rfl,rfl,hw⟩:=acJ ht hx
 exact ⟨n,by simpa [Lit.wf,XW] using hw,gK.one (.p rfl),by simp [AV.jy]⟩
theorem acK {P t}(ht:P.underlying t=some .string):Rd P t (fun s:List UInt8=>[.str s]) (fun s=>s.length<=lim):=by
 constructor
 intro H enc f fa hb w fuel cs x hx hl
 obtain ⟨s,rfl,rfl,hw⟩:=DataW.trod_string ht hx
 refine ⟨s.data.toList,?_,gK.one (.str s _ rfl),by simp [AV.jy]⟩
 rw [hb.str] at hl
 omega
theorem gK.length {w E az vs}(h:gK w E az vs):az.length=vs.length:=h.1
theorem gK.get {w E az vs}(h:gK w E az vs){i:Nat}{a:AV}(ha:az[i]?=some a):∃v,vs[i]?=some v/\Rep w E a v:=by
 have hlt:i<vs.length:=by rw [<- h.1];exact (aC.1 ha).1
 exact ⟨vs[i],by simp [hlt],h.2 i a _ ha (by simp [hlt])⟩
theorem axu {w:World}{a:Addr}{v}(h:w.cell? a=some v):a.spot=none:=World.cell?_spot h
theorem PN {α:Type}{p:Nat->α->Prop}:∀(n:Nat),(∀i,i<n->∃a,p i a)->∃l:List α,l.length=n/\∀i a,l[i]?=some a->p i a
 |0,_=>⟨[],rfl,by simp⟩
 |n+1,h=>by
  obtain ⟨l,h1,h2⟩:=PN n (fun i hi=>h i (by omega))
  obtain ⟨a,ha⟩:=h n (by omega)
  refine ⟨l++[a],by simp [h1],fun i x hx=>?_⟩
  by_cases hi:i<n
  .rw [bC (by omega)] at hx
   exact h2 i x hx
  .have:i=n:=by
    have:=(aC.1 hx).1
    simp at this;omega
   subst this
   rw [bK (by omega)] at hx
   simp [h1] at hx
   subst hx
   exact ha
def aw9 {α:Type}(wf:α->Prop)(l:List α):Prop:=l.length<=lim/\∀x∈l,wf x
theorem aag {P:Program}{t e:TypeId}{α:Type}{row:α->List AV}{wf:α->Prop}{m:Nat}(ht:P.underlying t=some (.slice e))(hm:P.cellsOf e=m)(hpos:0<m)(hrow:∀a,(row a).length=m)(he:Rd P e row wf) :
  Rd P t (fun l:List α=>[.sl (l.map row) false]) (aw9 wf):=by
 constructor
 intro H enc f fa hb w fuel cs x hx hl
 rcases DataW.trod_slice ht hx with ⟨rfl,rfl⟩|⟨a,len,cap,elems,rest,n,-,rfl,rfl,-,hlc,-,hlen,hel,hsp,-⟩
 .exact ⟨[],⟨by simp,by simp⟩,gK.one (.slnil false none),by simp [AV.jy]⟩
 .subst hm
  obtain ⟨hrl,hre⟩:=hsp rfl
  dsimp only at hl
  rw [hb.sl] at hl
  have hone:∀i,i<len->∃b:α,wf b/\(∀c∈row b,c.jy=true)/\∃cs',w.cells? 0 (a.add (i*P.cellsOf e)) (P.cellsOf e)=some cs'/\gK w (TD w) (row b) cs':=by
   intro i hi
   have h:=hel i hi
   have hi':i<elems.length:=by omega
   rw [aY hi',aV] at h
   obtain ⟨cs',h1,h2⟩:=h
   have hbd:f elems[i].1<=lim:=by
    have h3:f elems[i].1<=fa (elems.map (·.1)):=hb.get (a:=elems.map (·.1)) (i:=i) (x:=elems[i].1) (by simp [hi'])
    omega
   obtain ⟨b,g1,g2,g3⟩:=he.get hb h2 hbd
   exact ⟨b,g1,g3,cs',h1,g2⟩
  obtain ⟨l,hl1,hl2⟩:=PN len hone
  refine ⟨l,⟨?_,fun x hx=>?_⟩,?_,by simp [AV.jy]⟩
  .have:=hb.len (elems.map (·.1))
   simp at this
   omega
  .obtain ⟨i,hi⟩:=bH.1 hx
   exact (hl2 i x hi).1
  .apply gK.one
   by_cases hc0:cap=0
   .subst hc0
    obtain rfl:len=0:=by omega
    obtain rfl:l=[]:=List.eq_nil_of_length_eq_zero hl1
    exact .slnil false _
   .have hspot:a.spot=none:=by
     have key:∃cs',w.cells? 0 (a.add 0) (P.cellsOf e)=some cs':=by
      by_cases hlz:len=0
      .have h:=hre 0 (by omega)
       have hi':0<rest.length:=by omega
       rw [aY hi',aV] at h
       obtain ⟨cs',h1,h2⟩:=h
       subst hlz
       exact ⟨cs',by simpa using h1⟩
      .obtain ⟨b,-,-,cs',h1,-⟩:=hone 0 (by omega)
       exact ⟨cs',by simpa using h1⟩
     obtain ⟨cs',h1⟩:=key
     obtain ⟨-,q1,q2⟩:=World.cells?_some h1
     have:=q2 0 hpos
     rw [aY (by omega)] at this
     have:=axu this
     obtain ⟨bl,o,s⟩:=a
     cases s with
     |none=>rfl
     |some s=>simp [Addr.add] at this
    obtain ⟨bl,o,s⟩:=a
    cases hspot
    have cell:∀(i:Nat) (b:α) (j:Nat) (y:AV),l[i]?=some b->(row b)[j]?=some y->∃v,w.cell? ⟨bl,o+i*P.cellsOf e+j,none⟩=some v/\Rep w (TD w) y v:=by
     intro i b j y hi hj
     obtain ⟨-,-,cs',h1,h2⟩:=hl2 i b hi
     obtain ⟨v,hv,hr⟩:=h2.get hj
     obtain ⟨-,q1,q2⟩:=World.cells?_some h1
     refine ⟨v,?_,hr⟩
     have hjl:j<P.cellsOf e:=by rw [<- hrow b];exact (aC.1 hj).1
     have:=q2 j hjl
     rw [hv,WideShapes.add_plain,WideShapes.add_plain] at this
     exact this
    have hlim:lim=1048576:=rfl
    have hlen2:=hb.len (elems.map (·.1))
    simp only [dA] at hlen2
    have:=Rep.sl (w:=w) (E:=TD w) (l.map row) false (P.cellsOf e) bl o cap (fun i j=>(w.cell? ⟨bl,o+i*P.cellsOf e+j,none⟩).getD .nilIface) (by simp;omega) (by simp)
     (fun i r hr=>by
      simp only [bT,aB] at hr
      obtain ⟨b,-,rfl⟩:=hr
      exact hrow b)
     (fun i r j y hr hy=>by
      simp only [bT,aB] at hr
      obtain ⟨b,hb',rfl⟩:=hr
      obtain ⟨v,hv,-⟩:=cell i b j y hb' hy
      exact World.block_lt_of_cell? w _ hv)
     (fun i r j y hr hy=>by
      simp only [bT,aB] at hr
      obtain ⟨b,hb',rfl⟩:=hr
      obtain ⟨v,hv,-⟩:=cell i b j y hb' hy
      simp [hv])
     (fun r hr y hy=>by
      obtain ⟨b,hb',rfl⟩:=aW.1 hr
      obtain ⟨i,hi⟩:=bH.1 hb'
      exact (hl2 i b hi).2.1 y hy)
     (fun i r j y hr hy=>by
      simp only [bT,aB] at hr
      obtain ⟨b,hb',rfl⟩:=hr
      obtain ⟨v,hv,hrp⟩:=cell i b j y hb' hy
      simpa [hv] using hrp)
    simp only [dA,hl1] at this
    exact this
structure RdF (P:Program)(fs:List Field)(off:Nat){α:Type}(row:α->List AV)(wf:α->Prop):Prop where
 get:∀{H:Type} {enc:TypeId×Value->H} {f:DataW H->Nat} {fa:List (DataW H)->Nat} (_:Qa f fa) {w:World} {n:Nat} {cs:List Value} {xs:List (DataW H×List MemPlace)},
  xs.length=fs.length->(∀(i:Nat) (fd:Field),fs[i]?=some fd->DataW.trod enc P w 0 (fun _=>true) true n fd.type ((cs.drop fd.offset).take (P.cellsOf fd.type))=xs[i]?)->
  cs.length=off+(fs.map fun fd=>P.cellsOf fd.type).sum->fa (xs.map (·.1))<=lim->∃a,wf a/\gK w (TD w) (row a) (cs.drop off)/\∀c∈row a,c.jy=true
theorem Ju {P off}:RdF P [] off (fun _:Unit=>[]) (fun _=>True):=by
 constructor
 intro H enc f fa hb w n cs xs hx hf hl hbd
 refine ⟨(),trivial,?_,by simp⟩
 have:cs.drop off=[]:=List.drop_eq_nil_of_le (by simp at hl;omega)
 rw [this]
 exact ⟨rfl,fun i a v h=>by simp at h⟩
theorem jB {P:Program}{fd:Field}{fs:List Field}{off m:Nat}{α β:Type}{row:α->List AV}{wf:α->Prop}{row':β->List AV}{wf':β->Prop}(ho:fd.offset=off)(hm:P.cellsOf fd.type=m)(h:Rd P fd.type row wf)
  (h':RdF P fs (off+m) row' wf'):RdF P (fd::fs) off (fun x:α×β=>row x.1++row' x.2) (fun x=>wf x.1/\wf' x.2):=by
 subst ho hm
 constructor
 intro H enc f fa hb w n cs xs hx hf hl hbd
 match xs,hx with
 |x::xs,hx=>
  have h0:=hf 0 fd rfl
  simp only [List.getElem?_cons_zero] at h0
  simp only [aZ,hb.cons] at hbd
  obtain ⟨a,a1,a2,a3⟩:=h.get hb h0 (by omega)
  obtain ⟨b,b1,b2,b3⟩:=h'.get hb (xs:=xs) (by simpa using hx) (fun i fd' hi=>by simpa using hf (i+1) fd' (by simpa using hi)) (by simp at hl;omega) (by omega)
  refine ⟨(a,b),⟨a1,b1⟩,?_,fun c hc=>?_⟩
  .have:cs.drop fd.offset=(cs.drop fd.offset).take (P.cellsOf fd.type)++cs.drop (fd.offset+P.cellsOf fd.type):=by
    rw [<- List.drop_drop,List.take_append_drop]
   rw [this]
   exact a2.append b2
  .rcases aK.1 hc with hc|hc
   .exact a3 c hc
   .exact b3 c hc
theorem Ai {P:Program}{t:TypeId}{fs:Array Field}{α:Type}{row:α->List AV}{wf:α->Prop}(ht:P.underlying t=some (.struct fs))(hs:P.cellsOf t=(fs.toList.map fun fd=>P.cellsOf fd.type).sum)(h:RdF P fs.toList 0 row wf) :
  Rd P t row wf:=by
 constructor
 intro H enc f fa hb w fuel cs x hx hl
 obtain ⟨xs,n,-,rfl,hlen,hxs,hf⟩:=DataW.trod_struct ht hx
 dsimp only at hl
 rw [hb.agg] at hl
 obtain ⟨a,a1,a2,a3⟩:=h.get hb (xs:=xs) (w:=w) (n:=n) (cs:=cs) (by simpa using hxs) (fun i fd hi=>hf i fd (by simpa using hi)) (by rw [hlen,hs];simp) (by omega)
 exact ⟨a,a1,by simpa using a2,a3⟩
structure RdV (P:Program)(t:TypeId){α:Type}(av:α->AV)(wf:α->Prop):Prop where
 get:∀{H:Type} {enc:TypeId×Value->H} {f:DataW H->Nat} {fa:List (DataW H)->Nat} (_:Qa f fa) {w:World} {base:Nat} {v:Value} {d:DataW H} {ps:List MemPlace},
  Value.okWide P w .any base t v->DataW.Trod enc P w 0 (fun _=>true) true t v d ps->f d<=lim->∃a,wf a/\Rep w (TD w) (av a) v
theorem gK.alF {w E a v}(h:gK w E [a] [v]):Rep w E a v:=h.2 0 a v rfl rfl
theorem alG {P:Program}{t:TypeId}{α:Type}{av:α->AV}{wf:α->Prop}(h:Rd P t (fun a=>[av a]) wf)(hc:∀{w base v},Value.okWide P w .any base t v->v.cells.toList=[v]):RdV P t av wf:=by
 constructor
 intro H enc f fa hb w base v d ps hok ⟨fuel,htr⟩ hl
 rw [hc hok] at htr
 obtain ⟨a,h1,h2,-⟩:=h.get hb htr hl
 exact ⟨a,h1,h2.alF⟩
theorem alH {P t}{k:IntKind}(ht:P.underlying t=some (.int k)):RdV P t (fun n:Int=>.p (.int k n)) (XW k):=
 alG (OD ht) (fun h=>by obtain ⟨b,rfl⟩:=okWide_int ht h;rfl)
theorem TF {P:Program}{t:TypeId}{fs:Array Field}{α:Type}{row:α->List AV}{wf:α->Prop}(ht:P.underlying t=some (.struct fs))(h:Rd P t row wf):RdV P t (fun a=>.agg (row a)) wf:=by
 constructor
 intro H enc f fa hb w base v d ps hok ⟨fuel,htr⟩ hl
 obtain ⟨cs,rfl,-⟩:=okWide_struct ht hok
 obtain ⟨a,h1,h2,h3⟩:=h.get hb htr hl
 refine ⟨a,h1,.agg _ _ ?_ h3 (fun i c v hc hv=>h2.2 i c v hc ?_)⟩
 .simpa [Value.cells] using h2.1
 .simpa [Value.cells] using hv
structure RdA (P:Program)(ts:List TypeId){α:Type}(avs:α->List AV)(wf:α->Prop):Prop where
 get:∀{H:Type} {enc:TypeId×Value->H} {f:DataW H->Nat} {fa:List (DataW H)->Nat} (_:Qa f fa) {w:World} {base:Nat} {vs:List Value} {ds:List (DataW H)} {ps:List MemPlace},
  (∀(j:Nat) t v,ts[j]?=some t->vs[j]?=some v->Value.okWide P w .any base t v)->DataW.TrodAll enc P w 0 (fun _=>true) true ts vs ds ps->fa ds<=lim->∃a,wf a/\gK w (TD w) (avs a) vs
theorem alI {P}:RdA P [] (fun _:Unit=>[]) (fun _=>True):=by
 constructor
 intro H enc f fa hb w base vs ds ps hok h hl
 obtain ⟨rfl,-,-⟩:=trodAll_nil h
 exact ⟨(),trivial,rfl,fun i a v h=>by simp at h⟩
theorem TG {P:Program}{t:TypeId}{ts:List TypeId}{α β:Type}{av:α->AV}{wf:α->Prop}{avs:β->List AV}{wf':β->Prop}(h:RdV P t av wf)(h':RdA P ts avs wf') :
  RdA P (t::ts) (fun x:α×β=>av x.1::avs x.2) (fun x=>wf x.1/\wf' x.2):=by
 constructor
 intro H enc f fa hb w base vs ds ps hok ht hl
 obtain ⟨v,vs,d,ds,p,q,rfl,rfl,rfl,h1,h2⟩:=trodAll_cons ht
 rw [hb.cons] at hl
 obtain ⟨a,a1,a2⟩:=h.get hb (hok 0 t v rfl rfl) h1 (by omega)
 obtain ⟨b,b1,b2⟩:=h'.get hb (fun j t v hj hv=>hok (j+1) t v (by simpa using hj) (by simpa using hv)) h2 (by omega)
 exact ⟨(a,b),⟨a1,b1⟩,(gK.one a2).append b2⟩
theorem J5 {H:Type}{enc:TypeId×Value->H}{P:Program}(hl:laidOutB P=true){W W':World}{sp':Nat->Bool}:∀{ts:List TypeId} (_:∀t∈ts,P.readableRec t=true/\t<P.types.size) {vs:List Value} {ds:List (DataW H)} {ps:List MemPlace},
  DataW.TrodAll enc P W 0 (fun _=>true) true ts vs ds ps->(∀p∈ps,W.sameAt W' p)->(∀p∈ps,sp' p.block=true)->DataW.TrodAll enc P W' 0 sp' true ts vs ds ps
 |[],_,_,_,_,h,_,_=>by
  obtain ⟨rfl,rfl,rfl⟩:=trodAll_nil h
  exact trodAll_mk0
 |t::ts,hr,_,_,_,h,hs,hsp=>by
  obtain ⟨v,vs,d,ds,p,q,rfl,rfl,rfl,h1,h2⟩:=trodAll_cons h
  exact trodAll_cons_mk (WideElems.Trod_stays hl (hr t (by simp)).1 (hr t (by simp)).2 h1 (fun p hp=>hs p (by simp [hp])) (fun p hp=>hsp p (by simp [hp])))
   (J5 hl (fun t ht=>hr t (by simp [ht])) h2 (fun p hp=>hs p (by simp [hp])) (fun p hp=>hsp p (by simp [hp])))
section
variable {H : Type} {enc:TypeId×Value->H} {P:Program}
theorem acL {f:Func}{s:ChangeSpec}{apart fresh handsOn axz:Bool}{W W':World}{args:Array Value}{v:Value}{ds gs:List (DataW H)}{before pa pv:List MemPlace}
  (hW:DataW.Whole enc P f.params.toList s.vars apart W args.toList ds gs before)
  (hres:∀(b:Nat) (sp:Nat->Bool) (hd:Bool),DataW.TrodAll enc P W' b sp hd f.resultTypes.toList (v.resultList f.resultTypes.size) (s.fn H (ds++gs)).results [])
  (hargs:∀sp:Nat->Bool,(∀p∈before,sp p.block=true)->DataW.TrodAll enc P W' 0 sp true f.params.toList args.toList (s.fn H (ds++gs)).args pa)
  (hvars:∀sp:Nat->Bool,(∀p∈before,sp p.block=true)->DataW.TrodVars enc P W' sp s.vars (s.fn H (ds++gs)).vars pv)
  (hps:before=pa++pv) (hb:Below W.heap.size W W')
  (hok:∀(j:Nat) (t:TypeId) (r:Value),f.resultTypes[j]?=some t->(v.resultList f.resultTypes.size)[j]?=some r->Value.okWide P W' .any 0 t r) :
  s.post enc P f apart fresh handsOn axz W args v W':=by
 have hlt:∀p∈before,p.block<W.heap.size:=fun p hp=>hW.lt p hp
 have hold:∀p∈before,(fun b=>decide (b<W.heap.size)) p.block=true:=fun p hp=>by simpa using hlt p hp
 refine ⟨ds,gs,before,[],pa,pv,hW,hres _ _ _,hargs _ hold,hvars _ hold,World.keptBut_mono (fun p hp=>⟨hp,?_⟩) (hb.frame (·∈before)),fun _=>?_⟩
 .rw [hps,aK] at hp
  exact Or.inr hp
 .obtain ⟨_,_,_,_,_,hz,hn⟩:=hW
  refine ⟨hok,_,_,([]++pa)++pv,⟨[]++pa,pv,trodAll_append (hargs _ (fun _ _=>rfl)) (hres _ _ _),hvars _ (fun _ _=>rfl),rfl,?_,?_⟩,?_⟩
  .intro b off hp
   have hin:MemPlace.cell b off∈before:=by rw [hps];simpa using hp
   rw [hb.frozen (hlt _ hin)]
   exact hz b off hin
  .intro ha
   have:=hn ha
   rw [hps] at this
   simpa using this
  .intro p hp _
   rw [hps]
   simpa using hp
end
theorem XY {P:Program}{fid:FuncId}{fn:Func}{s:ChangeSpec}{apart fresh handsOn axz:Bool}{α:Type}{avs:α->List AV}{wf:α->Prop}{tb:TypeId}
  (hf:P.funcs[fid]?=some fn) (hbody:fn.body.isNone=false) (hlaid:laidOutB P=true) (hread:∀t∈fn.params.toList,P.readableRec t=true/\t<P.types.size)
  (hrt:fn.resultTypes=#[tb]) (htb:P.underlying tb=some .bool) (hvars:s.vars=[])
  (hs:∀(H:Type) (ds:List (DataW H)),ds.length=fn.params.size->s.fn H ds={results:=[.lit (.bool true)],args:=ds})
  (ra:RdA P fn.params.toList avs wf) (pc:∀a,wf a->PC P fid (avs a) (.p (.bool true)))
  {H:Type} {enc:TypeId×Value->H} {f:DataW H->Nat} {fa:List (DataW H)->Nat} (hb:Qa f fa) {W:World} {base:Nat} {args:Array Value} {ds gs:List (DataW H)} {before:List MemPlace}
  (hval:∀(j:Nat) t v,fn.params[j]?=some t->args[j]?=some v->Value.okWide P W .any base t v)
  (hW:DataW.Whole enc P fn.params.toList s.vars apart W args.toList ds gs before) (hbd:fa (ds++gs)<=lim) (hG:GOk W (fun c _=>c<W.heap.size)) :
  Calls P fid args W fun e W'=>∃v,e=.returned v/\s.post enc P fn apart fresh handsOn axz W args v W':=by
 have hW':=hW
 obtain ⟨p,q,hA,hV,rfl,hfz,hnd⟩:=hW
 rw [hvars] at hV
 obtain ⟨rfl,rfl⟩:=trodVars_none hV
 simp only [cZ] at hW' hbd
 have hlen:∀{ts:List TypeId} {vs:List Value} {ds:List (DataW H)} {ps:List MemPlace},DataW.TrodAll enc P W 0 (fun _=>true) true ts vs ds ps->ds.length=ts.length:=by
  intro ts
  induction ts with
  |nil=>intro vs ds ps h;obtain ⟨-,rfl,-⟩:=trodAll_nil h;rfl
  |cons t ts ih=>intro vs ds ps h;obtain ⟨_,_,_,_,_,_,_,rfl,_,_,h2⟩:=trodAll_cons h;simp [ih h2]
 obtain ⟨a,ha,hrep⟩:=ra.get hb (fun j t v hj hv=>hval j t v (by simpa using hj) (by simpa using hv)) hA hbd
 have hpc:=pc a ha W (fun c _=>c<W.heap.size) args.toList (fun c o h=>h) hG hrep
 rw [hf] at hpc
 dsimp only at hpc
 rw [if_neg (by simp [hbody])] at hpc
 have hc:=hpc.2
 simp only [Array.toArray_toList] at hc
 refine hc.mono fun e W' ⟨v,lM,he,hstep,_,hr⟩=>?_
 obtain rfl:=hr.gq
 have hbel:=hstep.below
 have hspec:=hs H ds (by rw [hlen hA];simp)
 refine ⟨_,he,acL (pa:=p) (pv:=[]) (gs:=[]) hW' ?_ ?_ ?_ (by simp) hbel ?_⟩
 .intro b sp hd
  rw [cZ,hspec,hrt]
  exact trodAll_cons_mk (shut_bool htb _) trodAll_mk0
 .intro sp hsp
  rw [cZ,hspec]
  exact J5 hlaid hread hA (fun x hx=>hbel.same (hW'.lt x hx)) hsp
 .intro sp hsp
  rw [cZ,hspec,hvars]
  rfl
 .exact ok_one hrt rfl (okWide_bool_mk htb _)
end Go.Fw
end
section
namespace Go.Fw
structure dJ.wf (v:dJ):Prop where
 Kind:XW .u8 v.Kind
 Num:v.Num<2 ^ 64
 Str:v.Str.length<=lim
 Ref:XW .i64 v.Ref
structure dH.wf (v:dH):Prop where
 Str:v.Str.length<=lim
 Sym:XW .i64 v.Sym
structure dI.wf (v:dI):Prop where
 Has:XW .u8 v.Has
 Value:v.Value.wf
 Get:v.Get.wf
 Set:v.Set.wf
structure dL.wf (v:dL):Prop where
 Key:v.Key.wf
 dR:v.dR.wf
structure dM.wf (v:dM):Prop where
 Kind:XW .u8 v.Kind
 eY:v.eY.wf
 Props:aw9 dL.wf v.Props
 Target:v.Target.wf
 Handler:v.Handler.wf
 Text:v.Text.length<=lim
structure dK.wf (v:dK):Prop where
 Objects:aw9 dM.wf v.Objects
structure gJ.wf (v:gJ):Prop where
 Kind:XW .u8 v.Kind
 Value:v.Value.wf
 dR:v.dR.wf
 Keys:aw9 dH.wf v.Keys
 Error:XW .u8 v.Error
 Text:v.Text.length<=lim
structure rY.wf (v:rY):Prop where
 aiV:XW .i64 v.aiV
 Object:XW .i64 v.Object
 Method:XW .u8 v.Method
 Key:v.Key.wf
 Out:v.Out.wf
structure iI.wf (v:iI):Prop where
 Method:XW .u8 v.Method
 Object:XW .i64 v.Object
 Key:v.Key.wf
 dR:v.dR.wf
 Value:v.Value.wf
 Receiver:v.Receiver.wf
 Args:aw9 dJ.wf v.Args
structure rZ.wf (v:rZ):Prop where
 Kind:XW .u8 v.Kind
 Ask:v.Ask.wf
 Func:v.Func.wf
 This:v.This.wf
 For:v.For.wf
 Args:aw9 dJ.wf v.Args
 Object:v.Object.wf
 Out:v.Out.wf
structure zf.wf (v:zf):Prop where
 proto:v.proto.wf
 keys:aw9 dH.wf v.keys
 desc:v.desc.wf
structure ny.wf (v:ny):Prop where
 eY:v.eY.wf
 dR:v.dR.wf
 Keys:aw9 dH.wf v.Keys
 Own:aw9 dI.wf v.Own
end Go.Fw
end
section
namespace Go.Fw
theorem aja (a b:Int):compare a b=if a<b then Ordering.lt else if a=b then Ordering.eq else Ordering.gt:=rfl
theorem ajb (a b:Int):((some (compare a b) == some Ordering.lt)||(some (compare a b) == some Ordering.eq))=decide (a<=b):=by
 rw [aja];split
 .simp;omega
 .split
  .simp;omega
  .simp;omega
theorem ajc (a b:Int):((some (compare a b) == some Ordering.gt)||(some (compare a b) == some Ordering.eq))=decide (b<=a):=by
 rw [aja];split
 .simp;omega
 .split
  .simp;omega
  .simp;omega
theorem axe (a b:Int):(some (compare a b) == some Ordering.eq)=decide (a=b):=by
 rw [aja];split
 .simp;omega
 .split
  .simp;assumption
  .simp;assumption
theorem aoC (a b:Int):(some (compare a b) != some Ordering.eq)=!decide (a=b):=by
 simp only [bne,axe]
abbrev jS (x:Nat):Ieee.Datum:=FloatKind.f64.format.read x
theorem aer : jS 0=.number false 0 (-1074):=by rfl
theorem aoD : jS 4607182418800017408=.number false 4503599627370496 (-52):=by rfl
theorem sg0 (s:Bool)(u:Nat):Ieee.signed s 0 u=0:=by cases s<;>simp [Ieee.signed]
theorem sgz {s:Bool}{m u:Nat}:Ieee.signed s m u=0↔m=0:=by
 have:(0:Nat)<2 ^ u:=Nat.two_pow_pos u
 have h2:m*2 ^ u=0↔m=0:=Nat.mul_eq_zero.trans ⟨fun h=>h.resolve_right (by omega),.inl⟩
 cases s
 .simp only [Ieee.signed,aU,if_false,Nat.shiftLeft_eq];omega
 .simp only [Ieee.signed,if_true,Nat.shiftLeft_eq];omega
def vN (x:Nat):Bool:=match jS x with | .nan ..=>true|_=>false
theorem A8 (x:Nat):KH x x=vN x:=by
 unfold KH vN Ieee.Format.order
 show (Ieee.Datum.order (jS x) (jS x) != some .eq)=_
 cases jS x with
 |nan s t=>simp [Ieee.Datum.order]
 |infinity s=>cases s<;>rfl
 |number s m i=>simp only [Ieee.Datum.order,aoC];simp
theorem aah (x:Nat):fEq x x=!vN x:=by
 have h:=A8 x
 unfold KH at h
 unfold fEq
 rw [<- h]
 cases h:(FloatKind.f64.format.order x x == some .eq)<;>simp [bne,h]
theorem MX (x y:Nat):KH x y=!fEq x y:=rfl
theorem ajd (x y:Nat):fEq x y=fEq y x:=by
 unfold fEq Ieee.Format.order
 show (Ieee.Datum.order (jS x) (jS y) == some .eq)=(Ieee.Datum.order (jS y) (jS x) == some .eq)
 generalize jS x=a
 generalize jS y=b
 match a,b with
 | .nan _ _,.nan _ _=>rfl
 | .nan _ _,.infinity _=>rfl
 | .nan _ _,.number _ _ _=>rfl
 | .infinity _,.nan _ _=>rfl
 | .number _ _ _,.nan _ _=>rfl
 | .infinity s,.infinity t=>cases s<;>cases t<;>rfl
 | .infinity s,.number _ _ _=>cases s<;>rfl
 | .number _ _ _,.infinity s=>cases s<;>rfl
 | .number s m i,.number t n j=>
  simp only [Ieee.Datum.order]
  rw [axe,axe,Int.min_comm j i]
  by_cases h:Ieee.signed s m (i-min i j).toNat=Ieee.signed t n (j-min i j).toNat
  .simp [h]
  .simp [h,Ne.symm h]
theorem Eb (x:Nat):fEq x 0=(jS x).isZero:=by
 unfold fEq Ieee.Format.order
 show (Ieee.Datum.order (jS x) (jS 0) == some .eq)=_
 rw [aer]
 cases jS x with
 |nan s t=>rfl
 |infinity s=>cases s<;>rfl
 |number s m i=>
  simp only [Ieee.Datum.order,axe,sg0]
  cases m with
  |zero=>simp [sg0,Ieee.Datum.isZero]
  |succ m=>simp [sgz,Ieee.Datum.isZero]
theorem am0 (x:Nat):(jS x).neg=(x / 9223372036854775808 % 2 == 1):=by
 unfold jS Ieee.Format.read
 have e:FloatKind.f64.format.signWeight=9223372036854775808:=by rfl
 simp only [e]
 split
 .rfl
 .split
  .rfl
  .split<;>rfl
theorem aoE (x:Nat):jS (x % 9223372036854775808)=match jS x with | .number _ m i=>.number false m i | .infinity _=>.infinity false | .nan _ t=>.nan false t:=by
 unfold jS Ieee.Format.read
 have e:FloatKind.f64.format.signWeight=9223372036854775808:=by rfl
 have e2:x % 9223372036854775808 / 9223372036854775808=0:=Nat.div_eq_of_lt (Nat.mod_lt _ (by decide))
 simp only [e,e2,Nat.mod_mod]
 split
 .rfl
 .split
  .rfl
  .split<;>rfl
theorem alJ {x:Nat}(h:x<2 ^ 64):decide (((IntKind.wrap .i64 (x:Int)):Int)<0)=(jS x).neg:=by
 rw [am0]
 have h2:(2:Nat) ^ 64=18446744073709551616:=by decide
 rw [h2] at h
 have e:IntKind.wrap .i64 (x:Int)=if (x:Int) % 18446744073709551616>=9223372036854775808 then (x:Int) % 18446744073709551616-18446744073709551616 else (x:Int) % 18446744073709551616:=by
  show (if (true&&decide ((x:Int) % 2 ^ 64>=2 ^ (64-1)))=true then (x:Int) % 2 ^ 64-2 ^ 64 else (x:Int) % 2 ^ 64)=_
  simp
 have h3:(x:Int) % 18446744073709551616=x:=by omega
 rw [e,h3]
 by_cases hx:(x:Int)>=9223372036854775808
 .have h4:x / 9223372036854775808=1:=by omega
  have h5:(x:Int)-18446744073709551616<0:=by omega
  simp [hx,h4,h5]
 .have h4:x / 9223372036854775808=0:=by omega
  have h5:¬(x:Int)<0:=by omega
  simp [hx,h4,h5]
theorem axC (b:BitVec 64):IntKind.wrap .u64 (b.toNat:Int)=b.toNat:=by
 have h:=b.isLt
 have h2:(2:Nat) ^ 64=18446744073709551616:=by decide
 rw [h2] at h
 show (if (false&&decide ((b.toNat:Int) % 2 ^ 64>=2 ^ (64-1)))=true then (b.toNat:Int) % 2 ^ 64-2 ^ 64 else (b.toNat:Int) % 2 ^ 64)=_
 simp
 omega
theorem axW {x:Nat}(h:x<2 ^ 64):(mM .u64 (x:Int) 9223372036854775808).toNat=x % 9223372036854775808:=by
 have e1:(BitVec.ofInt 64 (x:Int))=BitVec.ofNat 64 x:=by
  apply BitVec.eq_of_toNat_eq
  simp [BitVec.toNat_ofInt]
 have e2 : ~~~ (BitVec.ofInt 64 (9223372036854775808:Int))=BitVec.ofNat 64 (2 ^ 63-1):=by decide
 have e:mM .u64 (x:Int) 9223372036854775808=((BitVec.ofNat 64 x&&&BitVec.ofNat 64 (2 ^ 63-1)).toNat:Int):=by
  show IntKind.wrap .u64 ((BitVec.ofInt 64 (x:Int)&&&~~~ BitVec.ofInt 64 (9223372036854775808:Int)).toNat:Int)=_
  rw [e1,e2,axC]
 rw [e,aX,BitVec.toNat_and,BitVec.toNat_ofNat,BitVec.toNat_ofNat,Nat.mod_eq_of_lt h,Nat.mod_eq_of_lt (by decide:2 ^ 63-1<2 ^ 64),Nat.and_two_pow_sub_one_eq_mod]
theorem awZ {s:Bool}{i:Int}{x:Nat}(h:jS x=.number s 0 i):(FloatKind.f64.format.div 4607182418800017408 x).getD 0=FloatKind.f64.format.word s FloatKind.f64.format.infRung:=by
 unfold Ieee.Format.div
 show ((Ieee.Datum.quotient _ (jS 4607182418800017408) (jS x)).map _).getD 0=_
 rw [aoD,h]
 have e:Ieee.Datum.quotient (FloatKind.f64.format.fractionBits+2) (.number false 4503599627370496 (-52)) (.number s 0 i)=some (.infinity s):=by
  simp [Ieee.Datum.quotient]
 rw [e]
 rfl
theorem acM (s:Bool):jS (FloatKind.f64.format.word s 0)=.number s 0 (-1074):=by cases s<;>rfl
theorem aje {s:Bool}{i:Int}{x:Nat}(h:jS x=.number s 0 i):fLt ((FloatKind.f64.format.div 4607182418800017408 x).getD 0) 0=s:=by
 rw [awZ h];cases s<;>rfl
theorem acN {s:Bool}{i:Int}{x:Nat}(h:jS x=.number s 0 i):fGt ((FloatKind.f64.format.div 4607182418800017408 x).getD 0) 0=!s:=by
 rw [awZ h];cases s<;>rfl
theorem V_ (s:Bool):FloatKind.f64.format.nearest s 0 0=FloatKind.f64.format.word s 0:=by cases s<;>rfl
theorem ajf (x:Nat)(h:vN x=false):Xi (x % 9223372036854775808) 4845873199050653695=(YV x 14069245235905429503&&Xi x 4845873199050653695):=by
 unfold Xi YV Ieee.Format.order
 have e1:FloatKind.f64.format.read 4845873199050653695=.number false 9007199254740991 0:=Ox
 have e2:FloatKind.f64.format.read 14069245235905429503=.number true 9007199254740991 0:=K_
 rw [e1,e2]
 show ((Ieee.Datum.order (jS _) _ == _)||(Ieee.Datum.order (jS _) _ == _))=(((Ieee.Datum.order (jS x) _ == _)||(Ieee.Datum.order (jS x) _ == _))&&((Ieee.Datum.order (jS x) _ == _)||(Ieee.Datum.order (jS x) _ == _)))
 rw [aoE]
 unfold vN at h
 cases hx:jS x with
 |nan s t=>rw [hx] at h;cases h
 |infinity s=>cases s<;>rfl
 |number s m i=>
  simp only [Ieee.Datum.order,ajb,ajc]
  have hp:0<=((m <<< (i-min i 0).toNat:Nat):Int):=Int.natCast_nonneg _
  have hq:0<=((9007199254740991 <<< (0-min i 0).toNat:Nat):Int):=Int.natCast_nonneg _
  cases s
  .simp only [Ieee.signed,aU,if_false,if_true]
   generalize ((m <<< (i-min i 0).toNat:Nat):Int)=a at *
   generalize ((9007199254740991 <<< (0-min i 0).toNat:Nat):Int)=b at *
   by_cases h:a<=b<;>simp [h];omega
  .simp only [Ieee.signed,aU,if_false,if_true]
   generalize ((m <<< (i-min i 0).toNat:Nat):Int)=a at *
   generalize ((9007199254740991 <<< (0-min i 0).toNat:Nat):Int)=b at *
   by_cases h:a<=b
   .have : -b <= -a:=by omega
    simp [h,this];omega
   .have:¬(-b <= -a):=by omega
    simp [h,this]
theorem TI {x:Nat}{s:Bool}{m:Nat}{i:Int}(h:jS x=.number s m i)(y:Nat) :
  fEq (jd x) y=fEq (FloatKind.f64.nearest (((FloatKind.f64.decode x).toInt .zero).getD 0)) y:=by
 have e1:jd x=FloatKind.f64.format.nearest s (m*2 ^ i.toNat / 2 ^ (-i).toNat) 0:=by
  unfold jd FloatKind.decode FloatKind.encode
  show FloatKind.f64.format.write ((jS x).integral .zero)=_
  rw [h]
  simp only [Ieee.Datum.integral,MP,Nat.shiftLeft_eq,Ieee.Format.write]
 have e2:((FloatKind.f64.decode x).toInt .zero).getD 0=Ieee.signed s (m*2 ^ i.toNat / 2 ^ (-i).toNat) 0:=by
  unfold FloatKind.decode
  show ((jS x).toInt .zero).getD 0=_
  rw [h]
  simp only [Ieee.Datum.toInt,Ieee.Datum.integral,MP,Nat.shiftLeft_eq,Option.getD_some]
 rw [e1,e2]
 generalize m*2 ^ i.toNat / 2 ^ (-i).toNat=q
 have e3:FloatKind.f64.nearest (Ieee.signed s q 0)=FloatKind.f64.format.nearest (s&&decide (q≠0)) q 0:=by
  unfold FloatKind.nearest FloatKind.encode
  simp only [Ieee.Format.write]
  congr 1
  .cases s
   .simp [Ieee.signed]
   .cases q<;>simp [Ieee.signed]
  .cases s<;>simp [Ieee.signed]
 rw [e3]
 cases q with
 |succ q=>simp
 |zero=>
  simp only [ne_eq,not_true_eq_false,decide_false,Bool.and_false,V_]
  unfold fEq Ieee.Format.order
  show (Ieee.Datum.order (jS _) (jS y) == _)=(Ieee.Datum.order (jS _) (jS y) == _)
  rw [acM,acM]
  cases jS y with
  |nan=>rfl
  |infinity=>rfl
  |number t n j=>simp only [Ieee.Datum.order,sg0]
end Go.Fw
end
section
namespace Go.Fw
theorem agn (a:Int):iK a a=false:=by simp [iK]
theorem asT (a b:List UInt8):DK a b=decide (a=b):=rfl
theorem aoF (a b:Int):dS a b=decide (a=b):=by unfold dS;exact axd
theorem asU (a b:Int):iK a b=!decide (a=b):=by unfold iK bne;rw [axd]
theorem XZ {α:Type}[Inhabited α](l:List α)(k:Nat)(h:k<l.length):l.drop k=l.getD k default::l.drop (k+1):=by
 rw [List.drop_eq_getElem_cons h]
 simp [aF,h]
theorem ajg {α:Type}[Inhabited α](l:List α)(k:Nat)(h:k<l.length):l.take (k+1)=l.take k++[l.getD k default]:=by
 rw [List.take_add_one]
 simp [aF,h]
theorem aoG {α:Type}[Inhabited α](l:List α)(k:Nat)(h:k<l.length):l.getD k default∈l:=by
 simp [aF,h]
theorem ajh {k:Nat}(h:k<=4294967296):dZ .i64 (k:Int) 1=((k+1:Nat):Int):=by
 rw [aqs (by omega) (by omega)];omega
theorem agp (b:Bool):(!(dS (mZ b) 0))=!b:=by rw [alq]
theorem axX {α:Type}(f:α->List AV)(x:List α)(j:Nat):(!(decide ((j:Int)<(iM f x:Int))))=!decide (j<x.length):=by
 rw [ji];congr 1;exact decide_eq_decide.2 (by omega)
theorem axG (a b:dH):(DK a.Str b.Str&&dS a.Sym b.Sym)=decide (a=b):=by
 cases a;cases b
 simp [asT,aoF,Bool.decide_and]
end Go.Fw
end
