
import Derived.Test.YtookhagokgenhaaGreatFwD
import Derived.Lib.ReflectliteSlice
import Derived.Laws.Externs
import Derived.Test.YtookhagokgenhaaGreatFwA
import Derived.Test.YtookhagokgenhaaGreatFwB
import Derived.WideKeyArgs
import Derived.Below
import Derived.RowKit
import Derived.OpenShut
import Derived.ChangeMaps5
import Derived.ChangeSame
import Derived.ProofKit
import Derived.JoinedCond
set_option linter.unusedVariables false
set_option linter.unusedSimpArgs false
set_option linter.unusedSectionVars false
set_option linter.unnecessarySimpa false
section
namespace Go.Fw
variable [jU]
section
variable {P : Program} {ρ:List AV} {X:ql} {inl:Ew} {Ia:FuncId->Bool}
def KOk (P:Program)(ρ:List AV)(N:Nat)(k:Pc->sK->Nat->Option y9)(A:lY->AH->Nat->AQ->Prop):Prop:=
 ∀pc st nv x,k pc st nv=some x->Pc.holds ρ pc->jw P ρ x.sd->Pn P ρ x.aw->∀fr ah nx,Ic ρ N st fr ah nx->A fr ah nx (Gl ρ N x.outs)
theorem mY {a b:List (Pc×Side)}(h:jw P ρ (a++b)):jw P ρ a:=fun x hx=>h x (by simp [hx])
theorem o8 {a b:List (Pc×Side)}(h:jw P ρ (a++b)):jw P ρ b:=fun x hx=>h x (by simp [hx])
theorem Xd {a b:List Lo}(h:Pn P ρ (a++b)):Pn P ρ a:=(YF.1 h).1
theorem Xe {a b:List Lo}(h:Pn P ρ (a++b)):Pn P ρ b:=(YF.1 h).2
theorem EG {k:Pc->sK->Nat->Option y9}(hk:∀pc st nv x,k pc st nv=some x->x.outs≠[]):∀{l:List Out} {pc:Pc} {nv:Nat} {x:y9},EF k pc l nv=some x->x.outs≠[]
 |[],pc,nv,x,h=>by simp [EF] at h
 |[o],pc,nv,x,h=>by
  simp only [EF] at h
  cases hn:Zm o.e
  .simp only [hn,cond_false,Option.some.injEq] at h;subst h;simp
  .simp only [hn,cond_true] at h;exact hk _ _ _ _ h
 |o::o'::r,pc,nv,x,h=>by
  simp only [EF] at h
  cases hn:Zm o.e
  .simp only [hn,cond_false] at h
   split at h
   .cases h
   .simp only [Option.some.injEq] at h;subst h;simp
  .simp only [hn,cond_true] at h
   split at h
   .cases h
   .rename_i y hy
    split at h
    .cases h
    .rename_i z hz
     simp only [Option.some.injEq] at h;subst h
     have:=EG hk hz
     simp [this]
theorem Jb {N:Nat}{k:Pc->sK->Nat->Option y9}{A:lY->AH->Nat->AQ->Prop}(hA:∀fr ah nx (Q Q':AQ),(∀e fr ah nx,Q e fr ah nx->Q' e fr ah nx)->A fr ah nx Q->A fr ah nx Q')
  (hne:∀pc st nv x,k pc st nv=some x->x.outs≠[]) (hk:KOk P ρ N k A):∀{l:List Out} {pc:Pc} {nv:Nat} {x:y9},EF k pc l nv=some x->Pc.holds ρ pc->jw P ρ x.sd->Pn P ρ x.aw->
  ∀e fr ah nx,Gl ρ N l e fr ah nx->SY (fun fr ah nx=>A fr ah nx (Gl ρ N x.outs)) (Gl ρ N x.outs) e fr ah nx
 |[],pc,nv,x,h,hp,hs,ha,e,fr,ah,nx,hsel=>by simp [EF] at h
 |[o],pc,nv,x,h,hp,hs,ha,e,fr,ah,nx,hsel=>by
  obtain ⟨st,h1,h2⟩:=hsel
  simp only [sel,Option.some.injEq,Prod.mk.injEq] at h1
  obtain ⟨rfl,rfl⟩:=h1
  simp only [EF] at h
  cases hn:Zm o.e
  .simp only [hn,cond_false,Option.some.injEq] at h;subst h
   have hQ:Gl ρ N [o] o.e fr ah nx:=⟨o.st,rfl,h2⟩
   revert hQ hn
   generalize o.e=e
   intro hn hQ
   cases e<;>first|(simp [Zm] at hn;done)|exact hQ
  .simp only [hn,cond_true] at h
   rw [YD hn]
   exact hk _ _ _ _ h hp hs ha fr ah nx h2
 |o::o'::r,pc,nv,x,h,hp,hs,ha,e,fr,ah,nx,hsel=>by
  obtain ⟨st,h1,h2⟩:=hsel
  simp only [sel] at h1
  simp only [EF] at h
  cases hn:Zm o.e
  .simp only [hn,cond_false] at h
   split at h
   .cases h
   .rename_i y hy
    simp only [Option.some.injEq] at h;subst h
    have amv:=EG hne hy
    cases hg:(o.g.den ρ).B
    .rw [hg] at h1
     have ih:=Jb hA hne hk hy (gq hg hp) hs ha e fr ah nx ⟨st,h1,h2⟩
     have lift:∀e fr ah nx,Gl ρ N y.outs e fr ah nx->Gl ρ N (o::y.outs) e fr ah nx:=by
      intro e fr ah nx ⟨st,q1,q2⟩
      obtain ⟨z,s,hz⟩:=List.exists_cons_of_ne_nil amv
      rw [hz] at q1 ⊢
      exact ⟨st,by simp [sel,hg,q1],q2⟩
     cases e with
     |normal=>exact hA _ _ _ _ _ lift ih
     |_=>exact lift _ _ _ _ ih
    .rw [hg] at h1
     simp only [cond_true,Option.some.injEq,Prod.mk.injEq] at h1
     obtain ⟨rfl,rfl⟩:=h1
     obtain ⟨z,s,hz⟩:=List.exists_cons_of_ne_nil amv
     have hQ:Gl ρ N (o::y.outs) o.e fr ah nx:=⟨o.st,by rw [hz];simp [sel,hg],h2⟩
     revert hQ hn
     generalize hoe:o.e=e
     intro hn hQ
     cases e<;>first|(simp [Zm] at hn;done)|exact hQ
  .simp only [hn,cond_true] at h
   split at h
   .cases h
   .rename_i y hy
    split at h
    .cases h
    .rename_i z hz
     simp only [Option.some.injEq] at h;subst h
     have arL:=EG hne hz
     cases hg:(o.g.den ρ).B
     .rw [hg] at h1
      have ih:=Jb hA hne hk hz (gq hg hp) (o8 hs) (Xe ha) e fr ah nx ⟨st,h1,h2⟩
      have lift:∀e fr ah nx,Gl ρ N z.outs e fr ah nx->Gl ρ N (Ae o.g y.outs++z.outs) e fr ah nx:=by
       intro e fr ah nx ⟨st,q1,q2⟩
       exact ⟨st,by rw [yZ arL,hg];simpa using q1,q2⟩
      cases e with
      |normal=>exact hA _ _ _ _ _ lift ih
      |_=>exact lift _ _ _ _ ih
     .rw [hg] at h1
      simp only [cond_true,Option.some.injEq,Prod.mk.injEq] at h1
      obtain ⟨rfl,rfl⟩:=h1
      rw [YD hn]
      refine hA _ _ _ _ _ (fun e fr ah nx ⟨st,q1,q2⟩=>⟨st,?_,q2⟩) (hk _ _ _ _ hy (gq hg hp) (mY hs) (Xd ha) fr ah nx h2)
      have amv:y.outs≠[]:=aps q1
      rw [yZ arL,hg]
      simpa [amv] using q1
theorem aaP {l:List (Tm×RQ)}:sel ρ (l.map fun x=>(⟨x.1,.normal,⟨x.2.tr,x.2.th,x.2.nx⟩⟩:Out))=(su ρ l).map fun R=>(Exit.normal,(⟨R.tr,R.th,R.nx⟩:sK)):=by
 induction l with
 |nil=>rfl
 |cons x l ih=>
  cases l with
  |nil=>rfl
  |cons y r=>
   simp only [List.map_cons,sel,su] at ih ⊢
   rw [ih]
   cases (x.1.den ρ).B<;>rfl
theorem amw (l:Nat)(e:Exit):swE l (swE l e)=e:=by
 cases e with
 |normal=>simp [swE]
 |goto m=>
  simp only [swE]
  cases h:Nat.beq m l
  .simp [swE,h]
  .simp only [cond_true,swE]
   rw [Nat.eq_of_beq_eq_true h]
 |_=>rfl
theorem ae7 {l:Nat}:∀{o:List Out},sel ρ (swO l o)=(sel ρ o).map fun x=>(swE l x.1,x.2)
 |[]=>rfl
 |[x]=>rfl
 |x::y::r=>by
  have ih:=ae7 (l:=l) (o:=y::r)
  simp only [swO,List.map_cons,sel] at ih ⊢
  rw [ih]
  cases (x.g.den ρ).B<;>rfl
theorem Gl.sw {N l:Nat}{o:List Out}{e:Exit}{fr:lY}{ah:AH}{nx:Nat}(h:Gl ρ N o e fr ah nx):Gl ρ N (swO l o) (swE l e) fr ah nx:=by
 obtain ⟨st,h1,h2⟩:=h
 exact ⟨st,by rw [ae7,h1];rfl,h2⟩
theorem Jc : ∀{o:List Out} {x:Exit×sK},Po o=none->sel ρ o=some x->∀l,x.1≠.goto l
 |[],x,h,hs,l=>by simp [sel] at hs
 |[y],x,h,hs,l=>by
  simp only [sel,Option.some.injEq] at hs;subst hs
  simp only [Po] at h
  split at h
  .cases h
  .rename_i hn;exact hn l
 |y::z::r,x,h,hs,l=>by
  rw [Po] at h
  split at h
  .cases h
  .rename_i hn
   simp only [sel] at hs
   cases hb:(y.g.den ρ).B
   .rw [hb] at hs;exact Jc h hs l
   .rw [hb] at hs;simp only [cond_true,Option.some.injEq] at hs;subst hs;exact hn l
theorem YH {run:Pc->sK->Nat->Code->Option y9}{c:Code}(hne:∀pc st nv c x,run pc st nv c=some x->x.outs≠[]):∀{n:Nat} {pc:Pc} {outs:List Out} {nv:Nat} {y:y9},outs≠[]->aaG run c n pc outs nv=some y->y.outs≠[]
 |0,pc,outs,nv,y,_,h=>by simp [aaG] at h
 |n+1,pc,outs,nv,y,ho,h=>by
  simp only [aaG] at h
  split at h
  .simp only [Option.some.injEq] at h;subst h;exact ho
  .split at h
   .cases h
   .split at h
    .cases h
    .rename_i y0 hy
     split at h
     .simp only [Option.some.injEq] at h;subst h
      have:y0.outs≠[]:=EG (fun pc st nv x hx=>by
       split at hx
       .cases hx
       .rename_i x1 hx1
        split at hx
        .cases hx
        .rename_i y1 hy1
         simp only [Option.some.injEq] at hx;subst hx
         have:=YH hne (hne _ _ _ _ _ hx1) hy1
         simp [swO,this]) hy
      simp [swO,this]
     .cases h
theorem ae8 {N:Nat}{run:Pc->sK->Nat->Code->Option y9}{c:Code}(hrun:∀c,KOk P ρ N (fun pc st nv=>run pc st nv c) fun fr ah nx Q=>AW P c fr ah nx Q)(hne:∀pc st nv c x,run pc st nv c=some x->x.outs≠[]) :
  ∀{n:Nat} {pc:Pc} {outs:List Out} {nv:Nat} {y:y9},aaG run c n pc outs nv=some y->Pc.holds ρ pc->jw P ρ y.sd->Pn P ρ y.aw->∀e fr ah nx,Gl ρ N outs e fr ah nx->agm P c (Gl ρ N y.outs) e fr ah nx
 |0,pc,outs,nv,y,h,_,_,_,_,_,_,_,_=>by simp [aaG] at h
 |n+1,pc,outs,nv,y,h,hp,hs,haw,e,fr,ah,nx,hsel=>by
  simp only [aaG] at h
  split at h
  .rename_i hg
   simp only [Option.some.injEq] at h;subst h
   obtain ⟨st,h1,h2⟩:=hsel
   have:=Jc hg h1
   cases e with
   |goto l=>exact absurd rfl (this l)
   |_=>exact ⟨st,h1,h2⟩
  .rename_i l hl
   split at h
   .cases h
   .rename_i rest hf
    split at h
    .cases h
    .rename_i y0 hy0
     split at h
     .rename_i hgn
      simp only [Option.some.injEq] at h;subst h
      have key:=Jb (P:=P) (ρ:=ρ) (N:=N) (A:=fun fr ah nx Q=>BD P c rest fr ah nx (fun e fr ah nx=>Q (swE l e) fr ah nx))
       (fun _ _ _ _ _ hQ h=>BD.mono h fun e=>hQ (swE l e)) (fun pc st nv x hx=>by
        split at hx
        .cases hx
        .rename_i x1 hx1
         split at hx
         .cases hx
         .rename_i y1 hy1
          simp only [Option.some.injEq] at hx;subst hx
          have:=YH hne (hne _ _ _ _ _ hx1) hy1
          simp [swO,this])
       (fun pc st nv x hx hp hs haw fr ah nx hst=>by
        split at hx
        .cases hx
        .rename_i x1 hx1
         split at hx
         .cases hx
         .rename_i y1 hy1
          simp only [Option.some.injEq] at hx;subst hx
          refine Qm (AW.mono (hrun rest _ _ _ _ hx1 hp (mY hs) (Xd haw) fr ah nx hst) fun e fr ah nx hsel=>?_)
          have ih:=ae8 hrun hne hy1 hp (o8 hs) (Xe haw) e fr ah nx hsel
          cases e with
          |goto m=>
           simp only [agm] at ih ⊢
           split
           .rename_i r hr
            rw [hr] at ih
            exact BD.mono ih fun e fr ah nx h=>h.sw
           .rename_i hr
            rw [hr] at ih
            exact ih.sw
          |_=>exact Gl.sw ih) hy0 hp hs haw (swE l e) fr ah nx hsel.sw
      have conv:∀e fr ah nx,Gl ρ N y0.outs (swE l e) fr ah nx->Gl ρ N (swO l y0.outs) e fr ah nx:=by
       intro e fr ah nx h
       have:=h.sw (l:=l)
       rwa [amw] at this
      cases e with
      |normal=>exact conv .normal _ _ _ key
      |goto m=>
       by_cases hm:m=l
       .subst hm
        simp only [swE,Nat.beq_refl,cond_true] at key
        simp only [agm,hf]
        exact BD.mono key conv
       .have hb:Nat.beq m l=false:=by
         cases hb:Nat.beq m l
         .rfl
         .exact absurd (Nat.eq_of_beq_eq_true hb) hm
        have e1:swE l (.goto m)=.goto m:=by simp [swE,hb]
        rw [e1] at key
        have k2:Gl ρ N (swO l y0.outs) (.goto m) fr ah nx:=conv (.goto m) _ _ _ (by rw [e1];exact key)
        obtain ⟨st,q1,q2⟩:=k2
        exact absurd rfl (Jc hgn q1 m)
      |exit id=>exact conv (.exit id) _ _ _ key
      |ret=>exact conv .ret _ _ _ key
      |panic ch=>exact conv (.panic ch) _ _ _ key
      |outgrown=>exact conv .outgrown _ _ _ key
     .cases h
theorem amx {N:Nat}{pc:Pc}{st:sK}{nv:Nat}{id:Nat}{ops:Array Oper}{draw:Bool}{x:y9}(hm:P.follows .mixedOrders=true)(hρ:iT ρ=true)(hX:oJ P ρ X)(hI:n_ P ρ inl)(h:amn P X inl Ia N pc st nv ops draw=some x)
  (hp:Pc.holds ρ pc) (hs:jw P ρ x.sd) {fr:lY} {ah:AH} {nx:Nat} (hst:Ic ρ N st fr ah nx):AW P (.region id ops draw) fr ah nx (Gl ρ N x.outs):=by
 refine Uj hst fun Fp oq hf ha hN=>?_
 unfold amn at h
 split at h
 .cases h
 .rename_i R hR
  simp only [Option.some.injEq] at h;subst h
  cases draw with
  |true=>
   simp only [cond_true] at hR
   cases hc:Df ops&&FQ ops (ax_ ops.toList [])
   .simp [hc] at hR
   .simp only [hc,cond_true] at hR
    simp only [Bool.and_eq_true] at hc
    intro base w E a jB
    refine wp_region_any hm ?_
    obtain ⟨d1,d2⟩:=aey jB.heap (w.drawn+1)
    obtain ⟨R',L,Qw,Qx,q1,q2,q3,q4,q5,q6,q7,q8,q9⟩:=EC (P:=P) (base:=base) hρ hX hI ops.toList 0 Fp oq hR hp hs hf ha hN (by simp)
    have hsz:L.length=ops.size:=by rw [q2];simp
    have get:∀k,k<ops.size->∃o r,ops[k]?=some o/\L[k]?=some r/\I4 P ops base (ax_ ops.toList []) 0 ops.toList L Qw Qx R'.nx [] [] [] k o r:=fun k hk=>by
     have h1:ops[k]?=some ops[k]:=by simp [hk]
     have h2:L[k]?=some L[k]:=by simp [hsz,hk]
     exact ⟨_,_,h1,h2,q9 k _ _ (by simpa using h1) h2⟩
    have atS:∀{α:Type} (f:BJ->α) (e:α) (k:Nat) (r:BJ),L[k]?=some r->Gi f L e k=f r:=fun f e k r h=>by unfold Gi;rw [h]
    have arM:∀k,k<ops.size->Gi (·.nx) L R'.nx k<=Gi (·.nx) L R'.nx (k+1):=fun k hk=>by
     obtain ⟨o,r,h1,h2,g⟩:=get k hk
     rw [atS _ _ k r h2];exact g.nx
    have mono:∀n m,m+n<=ops.size->Gi (·.nx) L R'.nx m<=Gi (·.nx) L R'.nx (m+n):=by
     intro n
     induction n with
     |zero=>intro m _;exact Nat.le_refl _
     |succ n ih=>intro m hm;exact Nat.le_trans (ih m (by omega)) (arM (m+n) (by omega))
    have hend:Gi (·.nx) L R'.nx ops.size=R'.nx:=by unfold Gi;rw [List.getElem?_eq_none (by omega)]
    have arN:Gi (·.fr) L Qw ops.size=Qw:=by unfold Gi;rw [List.getElem?_eq_none (by omega)]
    have arO:Gi (·.ah) L Qx ops.size=Qx:=by unfold Gi;rw [List.getElem?_eq_none (by omega)]
    have hL:agj P ops base (ax_ ops.toList []) (fun b=>st.nx<=b) (fun k=>Gi (·.fr) L Qw k) (fun k=>Gi (·.ah) L Qx k) (fun k=>Gi (·.rv) L eX k) (fun k=>Gi (·.WR) L (fun _=>false) k) (fun k=>Gi (·.RD) L (fun _=>false) k)
      (fun k=>Gi (·.NEW) L (fun _=>False) k) (fun k=>Gi (·.X_) L (fun _=>False) k):=by
     refine ⟨fun j o ho=>?_,fun j o ho=>?_,fun j b hj=>?_,fun j hj j' hj'=>?_,fun j b hj=>?_,fun x y hx hy hxy=>?_⟩
     .have hj:=(Array.getElem?_eq_some_iff.1 ho).1
      obtain ⟨o',r,h1,h2,g⟩:=get j hj
      rw [ho] at h1;cases h1
      simp only [atS _ _ j r h2]
      have:=g.step
      rw [Nat.zero_add] at this
      exact this
     .have hj:=(Array.getElem?_eq_some_iff.1 ho).1
      obtain ⟨o',r,h1,h2,g⟩:=get j hj
      rw [ho] at h1;cases h1
      simp only [atS _ _ j r h2]
      exact g.fr
     .obtain ⟨o,r,h1,h2,g⟩:=get j hj
      simp only [atS _ _ j r h2]
      exact g.ah b
     .obtain ⟨o,r,h1,h2,g⟩:=get j hj
      obtain ⟨o',r',h1',h2',g'⟩:=get j' (by omega)
      simp only [atS _ _ j r h2,atS _ _ j' r' h2']
      have:=(g.prev j' r' hj' h2').1
      rw [Nat.zero_add,Nat.zero_add] at this
      exact this
     .obtain ⟨o,r,h1,h2,g⟩:=get j hj
      simp only [atS _ _ j r h2]
      intro hb
      have e1:=g.req b hb
      have e2:=mono j 0 (by omega)
      rw [Nat.zero_add,q8,atS _ _ j r h2] at e2
      exact Nat.le_trans e2 e1
     .obtain ⟨ox,rx,hx1,hx2,gx⟩:=get x hx
      obtain ⟨oy,ry,hy1,hy2,gy⟩:=get y hy
      simp only [atS _ _ x rx hx2,atS _ _ y ry hy2]
      rcases Nat.lt_or_gt_of_ne hxy with hlt|hgt
      .refine .inr fun b hb hn=>?_
       have e1:=gx.new b hn
       have e2:=gy.req b hb
       have e3:=mono (y-(x+1)) (x+1) (by omega)
       rw [show x+1+(y-(x+1))=y by omega,atS _ _ y ry hy2] at e3
       have:b<ry.nx:=Nat.lt_of_lt_of_le e1 e3
       omega
      .cases hcy:ry.call with
       |true=>
        rcases (gx.prev y ry hgt hy2).2.1 hcy with h|h
        .rw [Nat.zero_add,Nat.zero_add] at h;exact .inl h
        .exact .inr fun b hb hn=>h b hb hn
       |false=>
        cases hcx:rx.call with
        |true=>
         rcases (gx.prev y ry hgt hy2).2.2 hcx with h|h
         .rw [Nat.zero_add,Nat.zero_add] at h;exact .inl h
         .exact .inr fun b hb=>(h b hb).elim
        |false=>
         refine .inr fun b hb hn=>?_
         have e1:=(gy.plain hcy).1 b hb
         have e2:=(gx.plain hcx).2 b hn
         have e3:=mono (x-(y+1)) (y+1) (by omega)
         rw [show y+1+(x-(y+1))=x by omega,atS _ _ x rx hx2] at e3
         have:b<rx.nx:=Nat.lt_of_lt_of_le e1 e3
         omega
    refine agl hc.1 hc.2 hL (by simp only [q7];exact d2) (by simp only [q6];exact jB.fr.mono d1.ext) (fun a' w' hp'=>?_)
    obtain ⟨E',p1,p2,p3,p4⟩:=hp'
    simp only [arN,arO] at p2 p3
    refine ⟨E',Qw,Qx,R'.nx,⟨⟨R'.tr,R'.th,R'.nx⟩,by rw [aaP,q1];rfl,Ic.of q3 q4 q5 (Nat.le_refl _)⟩,⟨p2.weaken fun b hb=>⟨?_,fun i hi hn=>?_⟩,p3,by rw [p4];exact jB.defers⟩,d1.trans p1⟩
    .have:=mono ops.size 0 (by omega)
     rw [Nat.zero_add,hend,q8] at this
     exact Nat.le_trans this hb
    .obtain ⟨o,r,h1,h2,g⟩:=get i hi
     rw [atS _ _ i r h2] at hn
     have e1:=g.new b hn
     have e3:=mono (ops.size-(i+1)) (i+1) (by omega)
     rw [show i+1+(ops.size-(i+1))=ops.size by omega,hend] at e3
     have:b<R'.nx:=Nat.lt_of_lt_of_le e1 e3
     have hb':R'.nx<=b:=hb
     omega
  |false=>
   simp only [cond_false] at hR
   intro base w E a jB
   refine wp_region ?_
   have:=Dt (Ia:=Ia) (Q:=G5 base w E (Gl ρ N (R.outs.map fun x=>⟨x.1,.normal,⟨x.2.tr,x.2.th,x.2.nx⟩⟩))) (base:=base) hρ hX hI ops.toList 0 Fp oq w E a hR hp hs hf ha hN (by simp) jB.heap jB.fr (fun R' hR' a' w' hpost=>?_)
   .simpa [List.range_eq_range'] using this
   .obtain ⟨E',fr',fV,q1,q2,q3,q4,q5,q6,q7⟩:=hpost
    exact ⟨E',fr',fV,R'.nx,⟨⟨R'.tr,R'.th,R'.nx⟩,by rw [aaP,hR'];rfl,Ic.of q1 q2 q3 (Nat.le_refl _)⟩,⟨q5,q6,by rw [q7];exact jB.defers⟩,q4⟩
def Gq (P:Program)(c:Code)(Q:AQ):Nat->lY->AH->Nat->Prop
 |0,_,_,_=>False
 |n+1,fr,ah,nx=>AW P c fr ah nx (SY (Gq P c Q n) Q)
theorem Me {K K':lY->AH->Nat->Prop}{Q Q':AQ}(hK:∀fr ah nx,K fr ah nx->K' fr ah nx)(hQ:∀e fr ah nx,Q e fr ah nx->Q' e fr ah nx):∀e fr ah nx,SY K Q e fr ah nx->SY K' Q' e fr ah nx:=by
 intro e fr ah nx h
 cases e<;>first|exact hK _ _ _ h|exact hQ _ _ _ _ h
theorem NJ {c:Code}{Q Q':AQ}(hQ:∀e fr ah nx,Q e fr ah nx->Q' e fr ah nx):∀{n:Nat} {fr:lY} {ah:AH} {nx:Nat},Gq P c Q n fr ah nx->Gq P c Q' n fr ah nx
 |0,_,_,_,h=>h
 |n+1,fr,ah,nx,h=>AW.mono h (Me (fun _ _ _ h=>NJ hQ h) hQ)
theorem FT.refl : ∀fr:lY,FT fr fr
 |[]=>trivial
 |none::r=>FT.refl r
 |some a::r=>⟨rfl,FT.refl r⟩
theorem ag_ {c:Code}{Q:AQ}{n:Nat}{fr:lY}{ah:AH}{nx:Nat}(h:Gq P c Q n fr ah nx):AW P (.loop c) fr ah nx Q:=by
 refine alT (fun n fr ah nx=>Gq P c Q n fr ah nx) n fr (FT.refl fr) h fun n fr ah nx h K hK=>?_
 cases n with
 |zero=>exact h.elim
 |succ n=>exact AW.mono h (Me (fun fr ah nx h=>hK fr ah nx ⟨n,Nat.lt_succ_self n,fr,FT.refl fr,h⟩) fun _ _ _ _ h=>h)
theorem Ur {body:Pc->sK->Nat->Option y9}:∀{m:Nat} {pc:Pc} {st:sK} {nv:Nat} {x:y9},NI body m pc st nv=some x->x.outs≠[]
 |0,pc,st,nv,x,h=>by simp [NI] at h
 |m+1,pc,st,nv,x,h=>by
  simp only [NI] at h
  split at h
  .cases h
  .split at h
   .cases h
   .rename_i y hy
    simp only [Option.some.injEq] at h;subst h
    exact (EG (k:=NI body m) (fun _ _ _ _ h=>Ur h) hy:y.outs≠[])
theorem aaQ {N:Nat}{body:Pc->sK->Nat->Option y9}{c:Code}(hb:KOk P ρ N body fun fr ah nx Q=>AW P c fr ah nx Q):∀{m:Nat},KOk P ρ N (NI body m) fun fr ah nx Q=>Gq P c Q m fr ah nx
 |0=>fun pc st nv x h=>by simp [NI] at h
 |m+1=>fun pc st nv x h hp hs ha fr ah nx hst=>by
  simp only [NI] at h
  split at h
  .cases h
  .rename_i x1 hx1
   split at h
   .cases h
   .rename_i y hy
    simp only [Option.some.injEq] at h;subst h
    refine AW.mono (hb _ _ _ _ hx1 hp (mY hs) (Xd ha) fr ah nx hst) fun e fr ah nx hsel=>?_
    exact Jb (A:=fun fr ah nx Q=>Gq P c Q m fr ah nx) (fun _ _ _ _ _ hQ h=>NJ hQ h) (fun _ _ _ _ h=>Ur h) (aaQ hb) hy hp (o8 hs) (Xe ha) e fr ah nx hsel
theorem Us {tr:Tr pI}:∀{l:List Nat} {t:Nat} {e:pI},(Tr.only tr l).get t=some e->tr.get t=some e
 |[],t,e,h=>by simp [Tr.only,Tr.get] at h
 |s::r,t,e,h=>by
  simp only [Tr.only] at h
  split at h
  .rename_i x hx
   rcases Tr.o7 _ _ _ _ _ _ h with ⟨rfl,h1⟩|⟨-,h1⟩
   .simp only [Option.some.injEq] at h1;subst h1;exact hx
   .exact Us h1
  .exact Us h
theorem EH {th:Tr SB}:∀{n:Nat} {l:List Nat} {acc:Tr SB},(∀b k,acc.get b=some k->th.get b=some k)->∀b k,(ayc th n l acc).get b=some k->th.get b=some k
 |0,l,acc,h=>h
 |n+1,[],acc,h=>h
 |n+1,b::r,acc,h=>by
  simp only [ayc]
  split
  .exact EH h
  .split
   .exact EH h
   .rename_i k hk
    refine EH fun j y hj=>?_
    rcases Tr.o7 _ _ _ _ _ _ hj with ⟨rfl,h1⟩|⟨-,h1⟩
    .simp only [Option.some.injEq] at h1;subst h1;exact hk
    .exact h _ _ h1
theorem Ic.only {N:Nat}{st:sK}{fr:lY}{ah:AH}{nx:Nat}(h:Ic ρ N st fr ah nx)(l:List Nat):Ic ρ N (st.only l) fr ah nx:=
 ⟨fun t e he=>h.fr t e (Us he),fun b k hk=>h.ah b k (EH (acc:=.e) (fun b k h=>by simp [Tr.get] at h) b k hk),h.len,h.nx⟩
theorem Xf {id:Nat}:∀{l:List Out},sel ρ (leave id l)=(sel ρ l).map fun x=>(lvE id x.1,x.2)
 |[]=>rfl
 |[o]=>rfl
 |o::o'::r=>by
  have ih:=Xf (id:=id) (l:=o'::r)
  simp only [leave,List.map_cons,sel] at ih ⊢
  rw [ih]
  cases hb:(o.g.den ρ).B<;>rfl
theorem Gl.leave {N id:Nat}{l:List Out}{e:Exit}{fr:lY}{ah:AH}{nx:Nat}(h:Gl ρ N l e fr ah nx):AIn id (Gl ρ N (Go.Fw.leave id l)) e fr ah nx:=by
 obtain ⟨st,h1,h2⟩:=h
 have e1:=Xf (ρ:=ρ) (id:=id) (l:=l)
 rw [h1] at e1
 cases e with
 |exit j=>
  simp only [AIn]
  split
  .rename_i hj;subst hj;exact ⟨st,by rw [e1];simp [lvE],h2⟩
  .rename_i hj
   refine ⟨st,?_,h2⟩
   rw [e1]
   have:Nat.beq j id=false:=by
    cases hb:Nat.beq j id
    .rfl
    .exact absurd (Nat.eq_of_beq_eq_true hb) hj
   simp [lvE,this]
 |_=>exact ⟨st,e1,h2⟩
theorem Rq {keep:Kp}:∀{l:List Out},l≠[]->Mc keep l≠[]
 |[],h=>absurd rfl h
 |o::r,_=>by
  unfold Mc
  cases Zm o.e
  .simp
  .simp only [cond_true]
   split
   .simp
   .rename_i l n _
    cases Zm n.e
    .simp
    .simp only [cond_true];split<;>simp
theorem ajK {cs:sK}{nv k q:Nat}{x:Exit×BK}{r:List (Exit×BK)}:Dv cs nv k q (x::r)≠[]:=by cases r<;>simp [Dv]
theorem ajL {N:Nat}{pc:Pc}{st:sK}{nv id:Nat}{b:Code}{x:y9}(h:aaI P N pc st nv id b=some x):x.outs≠[]:=by
 unfold aaI at h
 split at h
 .cases h
 .unfold adn at h
  split at h
  .split at h
   .split at h
    .rw [Bool.cond_eq_ite] at h
     split at h
     .split at h
      .simp only [Option.some.injEq] at h;subst h;simp
      .cases h
     .cases h
    .cases h
   .cases h
  .cases h
theorem ug {G:Cfg}{F:zT}:∀{n:Nat} {pc:Pc} {st:sK} {nv:Nat} {c:Code} {x:y9},uf P G F n pc st nv c=some x->x.outs≠[]
 |0,pc,st,nv,c,x,h=>by simp [uf] at h
 |n+1,pc,st,nv,c,x,h=>by
  unfold uf at h
  split at h
  .simp only [Option.some.injEq] at h;subst h;simp
  .simp only [Option.some.injEq] at h;subst h;simp
  .simp only [Option.some.injEq] at h;subst h;simp
  .unfold amn at h
   rename_i id ops draw
   split at h
   .cases h
   .rename_i S hS
    simp only [Option.some.injEq] at h;subst h
    have:S.outs≠[]:=by
     cases draw
     .exact xQ hS
     .simp only [cond_true] at hS
      generalize (Df ops&&FQ ops (ax_ ops.toList []))=q at hS
      cases q
      .cases hS
      .exact Ez hS
    simp [this]
  .split at h
   .cases h
   .split at h
    .cases h
    .rename_i y hy
     simp only [Option.some.injEq] at h;subst h
     exact Rq (EG (fun _ _ _ _ h=>ug h) hy)
  .split at h
   .split at h
    .exact ug h
    .exact ug h
    .split at h
     .cases h
     .split at h
      .cases h
      .rename_i y hy
       simp only [Option.some.injEq] at h;subst h
       refine Rq ?_
       have:=ug hy
       simp [Rl,this]
   .cases h
  .split at h
   .rename_i c hh hm
    dsimp only at h
    split at h
    .cases h
    .split at h
     .cases h
     .split at h
      .rename_i x r hxs
       simp only [Option.some.injEq] at h;subst h
       rw [hxs]
       exact ajK
      .cases h
   .split at h
    .rename_i y hy
     simp only [Option.some.injEq] at h;subst h
     exact ajL hy
    .split at h
     .cases h
     .rename_i y hy
      simp only [Option.some.injEq] at h;subst h
      refine Rq ?_
      have:=ug hy
      simp [leave,this]
  .simp only [Option.some.injEq] at h;subst h;simp
  .simp only [Option.some.injEq] at h;subst h;simp
  .split at h
   .cases h
   .rename_i x1 hx1
    split at h
    .cases h
    .rename_i y hy
     simp only [Option.some.injEq] at h;subst h
     exact Rq (YH (fun _ _ _ _ _ h=>ug h) (ug hx1) hy)
  .exact Ur h
  .cases h
end
section
variable {P : Program}
theorem ajM {N:Nat}{ρ:List AV}{pc:Pc}{st:sK}{nv id:Nat}{b:Code}{x:y9}{fr:lY}{ah:AH}{nx:Nat}(hp:pc.holds ρ)(hs:jw P ρ x.sd)(hst:Ic ρ N st fr ah nx)(h:aaI P N pc st nv id b=some x) :
  AW P (.block id b) fr ah nx (Gl ρ N x.outs):=by
 unfold aaI at h
 split at h
 .cases h
 rename_i m hm
 obtain ⟨r1,r2,r3,id5,o1,o2,p1,p2,p3,q1,q2,q3,q4,hmo,rfl⟩:=aaH hm
 refine Uj hst fun fr ah hf ha hN=>?_
 unfold adn at h
 split at h
 .rename_i q sq bd len h1 h2
  split at h
  .rename_i mb n d h3 h4
   split at h
   .rename_i mk t h5
    rw [Bool.cond_eq_ite] at h
    split at h
    case isFalse=>cases h
    case isTrue hg=>
     split at h
     .rename_i e9 hT hTB
      simp only [Option.some.injEq] at h;subst h
      simp only [Bool.and_eq_true,List.all_eq_true,Bool.not_eq_true',List.contains_eq_mem,decide_eq_false_iff_not] at hg
      obtain ⟨g1,g2,g3,g4,g5,g6,g7,g8,g9⟩:=hg
      have bne:∀{a b:Nat},Nat.beq a b=false->a≠b:=fun {a b} h e=>by subst e;simp at h
      obtain rfl:=Tm.beq_eq g1
      obtain ⟨k1,k2,k3,k4⟩:=hs (pc,.mark mk t d len (.var nv [])) (by simp) hp
      have hq:jm fr m.it=some (.op q sq 0 0):=iR hp hf h1
      have hD:jm fr m.tD=some (.os bd 1 0 (len.den ρ).I.toNat):=iR hp hf h2
      have hqa:ah q=some (.it mb ((t.den ρ).R.map (qY mk)).length 0):=by
       rw [ha _ _ h3];simp [SB.den,Tm.den,D.I,m_]
      refine aml (es:=(t.den ρ).R.map (qY mk)) (rs:=(d.den ρ).R) hmo (fun t ht=>by rw [hN];exact Nat.le_of_ble_eq_true (g2 t ht)) g3 g4 (bne g5) (bne g6) hq hqa (ha _ _ h5) hD (ha _ _ h4) k1 hT hTB k2 (bne g7) (bne g8) (bne g9) ?_
      intro fr' rs' hl hfr hrl hrs
      refine ⟨_,rfl,Ic.of (fun t e he=>?_) (fun b k hk=>?_) (hl.trans hN) (Nat.le_refl _)⟩
      .obtain ⟨h6,h7⟩:=Ul he
       rw [hfr t h6];exact hf t e h7
      .rcases Tr.o7 _ _ _ _ _ _ hk with ⟨rfl,h6⟩|⟨hne,h6⟩
       .simp only [Option.some.injEq] at h6;subst h6
        rw [qy rfl]
        have:rs'=(Tm.den ρ (.var nv [])).R:=by
         apply List.ext_getElem?
         intro i
         by_cases hi:i<(d.den ρ).R.length
         .rw [hrs i hi,k4 i hi]
         .rw [List.getElem?_eq_none (by omega),List.getElem?_eq_none (by omega)]
        rw [this];rfl
       .rw [ax7 hne]
        rcases Tr.o7 _ _ _ _ _ _ h6 with ⟨_,h7⟩|⟨hne2,h7⟩
        .cases h7
        .rw [ax7 hne2];exact ha _ _ h7
     .cases h
   .cases h
  .cases h
 .cases h
theorem oK {G:Cfg}{F:zT}(hm:P.follows .mixedOrders=true)(hX:∀σ:List AV,iT σ=true->oJ P σ G.X)(hI:∀σ:List AV,iT σ=true->n_ P σ G.inl):∀{n:Nat} {c:Code} {ρ:List AV},iT ρ=true->KOk P ρ F.N (fun pc st nv=>uf P G F n pc st nv c) fun fr ah nx Q=>AW P c fr ah nx Q
 |0,c,ρ,hρ=>fun pc st nv x h=>by simp [uf] at h
 |n+1,c,ρ,hρ=>fun pc st nv x h hp hs ha fr ah nx hst=>by
  unfold uf at h
  dsimp only at h
  split at h
  .simp only [Option.some.injEq] at h;subst h;exact Ya ⟨st,rfl,hst⟩
  .simp only [Option.some.injEq] at h;subst h;exact alR ⟨st,rfl,hst⟩
  .simp only [Option.some.injEq] at h;subst h;exact S9 ⟨st,rfl,hst⟩
  .exact amx hm hρ (hX ρ hρ) (hI ρ hρ) h hp hs hst
  .split at h
   .cases h
   .rename_i x1 hx1
    split at h
    .cases h
    .rename_i y hy
     simp only [Option.some.injEq] at h;subst h
     refine xC (AW.mono (oK hm hX hI hρ _ _ _ _ hx1 hp (mY hs) (Xd ha) fr ah nx hst) fun e fr ah nx hsel=>?_)
     have:=Jb (A:=fun fr ah nx Q=>AW P _ fr ah nx Q) (fun _ _ _ _ _ hQ h=>AW.mono h hQ) (fun _ _ _ _ h=>ug h) (oK hm hX hI hρ) hy hp (o8 hs) (Xe ha) e fr ah nx hsel
     exact Me (fun fr ah nx h=>AW.mono h fun _ _ _ _ h=>xR h) (fun _ _ _ _ h=>xR h) _ _ _ _ this
  .split at h
   .rename_i t ht
    refine Uj hst fun Fp oq hf hah hN=>?_
    have hev:=iR hp hf ht
    have amy:Ic ρ F.N st Fp oq st.nx:=Ic.of hf hah hN (Nat.le_refl _)
    refine Yb (t.den ρ).B hev ?_
    split at h
    .rename_i hk
     rw [if_pos (Pc.gV hp hk)]
     exact oK hm hX hI hρ _ _ _ _ h hp hs ha Fp oq _ amy
    .rename_i hk
     rw [if_neg (by rw [Pc.gV hp hk];simp)]
     exact oK hm hX hI hρ _ _ _ _ h hp hs ha Fp oq _ amy
    .split at h
     .cases h
     .rename_i x1 hx1
      split at h
      .cases h
      .rename_i y hy
       simp only [Option.some.injEq] at h;subst h
       have n1:=ug hx1
       have n2:=ug hy
       cases hb:(t.den ρ).B
       .rw [if_neg (by simp)]
        refine AW.mono (oK hm hX hI hρ _ _ _ _ hy (gq hb hp) (o8 hs) (Xe ha) Fp oq _ amy) fun e fr ah nx ⟨st',q1,q2⟩=>xR ⟨st',?_,q2⟩
        rw [aeY n1 n2,hb];simpa using q1
       .rw [if_pos rfl]
        refine AW.mono (oK hm hX hI hρ _ _ _ _ hx1 (gq hb hp) (mY hs) (Xd ha) Fp oq _ amy) fun e fr ah nx ⟨st',q1,q2⟩=>xR ⟨st',?_,q2⟩
        rw [aeY n1 n2,hb];simpa using q1
   .cases h
  .rename_i id b
   split at h
   .rename_i c' hh hmm
    split at h
    .cases h
    .rename_i ent hent
     split at h
     .cases h
     .rename_i x1 hx1
      split at h
      .rename_i outs y r hcls hxs
       simp only [Option.some.injEq] at h;subst h
       obtain ⟨rfl,-⟩:=ag7 hmm
       refine ag8 hρ hp hent hcls (fun s hm=>hs (pc,s) (List.mem_map.2 ⟨s,hm,rfl⟩) hp) (fun x hx=>List.mem_append_right _ hx) (fun σ hσ h1 h2 h3 fr ah nx h4=>oK hm hX hI hσ _ _ _ _ hx1 h1 (mY h2) h3 fr ah nx h4) ?_ rfl hst
       exact ha.1
      .cases h
   .split at h
    .rename_i y hy
     simp only [Option.some.injEq] at h;subst h
     exact ajM hp hs hst hy
    .split at h
     .cases h
     rename_i y hy
     simp only [Option.some.injEq] at h;subst h
     refine ZJ (AW.mono (oK hm hX hI hρ _ _ _ _ hy hp hs ha fr ah nx hst) fun e fr ah nx hsel=>?_)
     have:=Gl.leave (id:=id) hsel
     cases e with
     |exit j=>
      simp only [AIn] at this ⊢
      split
      .rename_i hj;rw [if_pos hj] at this;exact xR this
      .rename_i hj;rw [if_neg hj] at this;exact xR this
     |_=>exact xR this
  .simp only [Option.some.injEq] at h;subst h;exact aiz ⟨st,rfl,hst⟩
  .simp only [Option.some.injEq] at h;subst h;exact alS ⟨st,rfl,hst⟩
  .split at h
   .cases h
   .rename_i x1 hx1
    split at h
    .cases h
    .rename_i y hy
     simp only [Option.some.injEq] at h;subst h
     refine aiA (Qm (AW.mono (oK hm hX hI hρ _ _ _ _ hx1 hp (mY hs) (Xd ha) fr ah nx hst) fun e fr ah nx hsel=>?_))
     have key:=ae8 (fun c=>oK hm hX hI hρ) (fun _ _ _ _ _ h=>ug h) hy hp (o8 hs) (Xe ha) e fr ah nx hsel
     cases e with
     |goto m=>
      simp only [agm] at key ⊢
      split
      .rename_i r hr;rw [hr] at key;exact BD.mono key fun e fr ah nx h=>xR h
      .rename_i hr;rw [hr] at key;exact xR key
     |_=>exact xR key
  .exact ag_ (aaQ (oK hm hX hI hρ) _ _ _ _ h hp hs ha fr ah nx hst)
  .cases h
end
end Go.Fw
end
section
namespace Go.Fw
variable [jU]
def BL : Nat->List SV->Tr pI
 |_,[]=>.e
 |i,a::r=>(BL (i+1) r).upd yG i (some ⟨[],a⟩)
def adq (P:Program)(pc:Pc)(st:sK):Nat->List ResultVar->Option (List SV×Nat×List Side)
 |nv,[]=>some ([],nv,[])
 |nv,.tmp t::r=>match Ai pc st.fr (.tmp t) with
  |none=>none
  |some v=>match adq P pc st nv r with
   |none=>none
   |some (l,u_,sd)=>some (v::l,u_,sd)
 |nv,.cell t ty::r=>match Ai pc st.fr (.tmp t) with
  |none=>none
  |some p=>match aeI P pc st.ah nv ty p with
   |none=>none
   |some x=>match adq P pc st x.nv r with
    |none=>none
    |some (l,u_,sd)=>some (x.v::l,u_,x.sd++sd)
def arP : List SV->SV
 |[a]=>a
 |l=>.fA l
def Jd : Exit->Bool | .normal | .ret=>true|_=>false
structure Lf where
 v:SV
 th:Tr SB
 nx:Nat
 nv:Nat
 sd:List (Pc×Side)
def Je (P:Program)(rs:List ResultVar)(pc:Pc)(nv:Nat)(o:Out):Option Lf:=
 bif Jd o.e then
  match adq P pc o.st nv rs with
  |none=>none
  |some (l,u_,sd)=>some ⟨arP l,o.st.ah,o.st.nx,u_,tag pc sd []⟩
 else none
structure EQ where
 outs:List (Tm×CO)
 nv:Nat
 sd:List (Pc×Side)
def amz (low:Nat)(g:Tm)(c d:CO):Option CO:=
 match ag0 g c.v d.v with
 |none=>none
 |some v=>
  let th:=Tr.mrg (aao g) c.th d.th
  bif ajt low v.FZ c.th d.th th then none else some ⟨v,th,Nat.max c.nx d.nx⟩
def aha (low:Nat)(g:Tm)(c:CO):List (Tm×CO)->List (Tm×CO)
 |[]=>[(g,c)]
 |x::r=>match amz low g c x.2 with
  |some m=>(azg g x.1,m)::r
  |none=>(g,c)::x::r
def KW (P:Program)(low:Nat)(rs:List ResultVar):Pc->Nat->List Out->Option EQ
 |_,_,[]=>none
 |pc,nv,[o]=>match Je P rs pc nv o with
  |none=>none
  |some x=>some ⟨[(.lb true,⟨x.v,x.th,x.nx⟩)],x.nv,x.sd⟩
 |pc,nv,o::o'::r=>match Je P rs (jG o.g true pc) nv o with
  |none=>none
  |some x=>match KW P low rs (jG o.g false pc) x.nv (o'::r) with
   |none=>none
   |some y=>some ⟨aha low o.g ⟨x.v,x.th,x.nx⟩ y.outs,y.nv,x.sd++y.sd⟩
def oL (fn:Func):Bool:=decide (fn.name≠ "runtime.NumGoroutine")
abbrev Md :=FuncId->Nat
def is2 (md:Md):FuncId->Bool:=fun f=>Nat.beq (md f) 2
def ajN (P:Program)(I0:Ew)(L:ql×Ew)(md:Md)(FC:FuncId->zT)(uJ CF:Nat):Ew:=fun pc th nx nv f args=>
 match I0 pc th nx nv f args with
 |some R=>some R
 |none=>
  match P.funcs[f]? with
  |none=>none
  |some fn=>match fn.body with
   |none=>none
   |some c=>bif oL fn&&Nat.ble args.length fn.ntmps then
     match uf P ⟨L.1,is2 md,L.2,uJ⟩ {FC f with N:=fn.ntmps,keep:=⟨(FC f).keep.ks,nx⟩} CF pc ⟨BL 0 args,th,nx⟩ nv c with
     |none=>none
     |some x=>bif x.aw.isEmpty then
       match KW P nx fn.results.toList pc x.nv x.outs with
       |none=>none
       |some y=>some ⟨y.outs,y.nv,x.sd++y.sd⟩
      else none
    else none
def wI (g:Tm):List Out->Tm
 |[]=>.lb true
 |_::_=>g
def Jf (P:Program)(rs:List ResultVar):Pc->Nat->List Out->Option (List (Tm×SV)×Nat×List (Pc×Side))
 |_,nv,[]=>some ([],nv,[])
 |pc,nv,o::r=>match Je P rs (jG (wI o.g r) true pc) nv o with
  |none=>none
  |some x=>match (F9 x.th x.nv x.v).1.mV (thN x.th ayi) with
   |none=>none
   |some v=>match Jf P rs (jG o.g false pc) (F9 x.th x.nv x.v).2.1 r with
    |none=>none
    |some (l,u_,sd)=>some ((o.g,v.nrm)::l,u_,(x.sd++tag (jG (wI o.g r) true pc) (F9 x.th x.nv x.v).2.2 [])++sd)
def ahb : List (Tm×SV)->Option SV
 |[]=>none
 |[x]=>some x.2
 |x::y::r=>match ahb (y::r) with
  |none=>none
  |some v=>ag0 x.1 x.2 v
 mutual
def SV.lit : SV->Bool
  | .sc _ t=>(match t with | .lb _ | .li _ | .lf _ | .ls _ | .nl=>true|_=>false)
  | .c _ | .nil | .mp _=>true
  | .sf t=>(match t with | .nl=>true|_=>false)
  | .agg l | .fA l=>aaR l
  | .slc r _=>aob r
  | .vp r _=>aaR r
  | .fn _ x y=>aaR x&&aaR y
  | .mP _ v=>v.lit
  | .os _ _ _ t=>(match t with | .li _=>true|_=>false)
  | .op _ _ t _=>(match t with | .li _=>true|_=>false)
def aaR : List SV->Bool
  |[]=>true
  |x::r=>x.lit&&aaR r
def aob : List (List SV)->Bool
  |[]=>true
  |x::r=>aaR x&&aob r
end
 mutual
def SV.MB (th:Tr SB):SV->Bool
  | .sc .sl _=>false
  | .sc _ _=>true
  | .c _ | .nil=>true
  | .agg l | .fA l=>ae9 th l
  | .mP _ v=>v.MB th
  | .slc [] _=>true
  | .os b _ _ _=>match th.get b with|some (.rows _ rs)=>rs.all acV|_=>false
  |_=>false
def ae9 (th:Tr SB):List SV->Bool
  |[]=>true
  |x::r=>x.MB th&&ae9 th r
end
def Am (P:Program)(rs:List ResultVar):Pc->Nat->List Out->Bool
 |_,_,[]=>true
 |pc,nv,o::r=>match Je P rs (jG (wI o.g r) true pc) nv o with
  |none=>false
  |some x=>x.v.MB x.th&&Am P rs (jG o.g false pc) (F9 x.th x.nv x.v).2.1 r
def adr (P:Program)(X0:ql)(L:ql×Ew)(md:Md)(FC:FuncId->zT)(uJ CF:Nat):ql:=fun pc nv f args=>
 bif Nat.beq (md f) 1||(Nat.beq (md f) 3&&aaR args) then
  match P.funcs[f]? with
  |none=>none
  |some fn=>match fn.body with
   |none=>none
   |some c=>bif oL fn&&Nat.ble args.length fn.ntmps then
     match uf P ⟨L.1,is2 md,L.2,uJ⟩ {FC f with N:=fn.ntmps} CF pc ⟨BL 0 args,.e,0⟩ nv c with
     |none=>none
     |some x=>bif x.aw.isEmpty then
       match Jf P fn.results.toList pc x.nv x.outs with
       |none=>none
       |some (l,u_,sd)=>match ahb l with
        |none=>none
        |some v=>some (v,u_,x.sd++sd,Am P fn.results.toList pc x.nv x.outs)
      else none
    else none
 else X0 pc nv f args
def NK (P:Program)(X0:ql)(I0:Ew)(md:Md)(FC:FuncId->zT)(uJ CF:Nat):Nat->ql×Ew
 |0=>(X0,I0)
 |n+1=>(adr P X0 (NK P X0 I0 md FC uJ CF n) md FC uJ CF,ajN P I0 (NK P X0 I0 md FC uJ CF n) md FC uJ CF)
section
variable {P : Program} {ρ:List AV} {N:Nat}
theorem OD.canon {base:Nat}{w:World}{E:Env}{fr:lY}{ah:AH}{nx:Nat}{a:Act}{st:sK}(hs:Ic ρ N st fr ah nx)(jB:OD base w E fr ah nx a) :
  ∃Fp,WA ρ st.fr Fp/\Fq ρ st.ah (iO ρ st.ah)/\Fp.length=N/\OD base w E Fp (iO ρ st.ah) st.nx a:=by
 have hf:WA ρ st.fr (Ui ρ N st.fr):=by
  intro t e he
  obtain ⟨a,ha,-⟩:=hs.fr t e he
  have:=C9 ha
  rw [hs.len] at this
  rw [Bf,if_pos this,he];rfl
 have ha:Fq ρ st.ah (iO ρ st.ah):=fun b k hk=>by unfold iO;rw [hk];rfl
 refine ⟨_,hf,ha,by simp [Ui],⟨fun b k hb=>?_,fun b b' k k' c o c' o' hne h1 h2=>?_,fun b hb=>jB.heap.fresh b (b_ hs.nx hb),jB.heap.kF,jB.heap.bs,jB.heap.kJ⟩,⟨?_,fun i x hx=>?_,jB.fr.Lm⟩,jB.defers⟩
 .unfold iO at hb
  simp only [aB] at hb
  obtain ⟨k1,hk1,rfl⟩:=hb
  obtain ⟨k0,h0,hw⟩:=hs.ah b k1 hk1
  exact hw _ _ _ _ (jB.heap.blk b k0 h0)
 .unfold iO at h1 h2
  simp only [aB] at h1 h2
  obtain ⟨k1,hk1,rfl⟩:=h1
  obtain ⟨k2,hk2,rfl⟩:=h2
  obtain ⟨j1,q1,-⟩:=hs.ah b k1 hk1
  obtain ⟨j2,q2,-⟩:=hs.ah b' k2 hk2
  exact jB.heap.sep b b' j1 j2 c o c' o' hne q1 q2
 .have:=jB.fr.size
  rw [hs.len] at this
  simpa [Ui] using this
 .rw [Bf] at hx
  split at hx
  .simp only [aB] at hx
   obtain ⟨e,he,rfl⟩:=hx
   obtain ⟨y,hy,hw⟩:=hs.fr i e he
   obtain ⟨v,hv,hr⟩:=jB.fr.get i y hy
   exact ⟨v,hv,hw _ _ _ hr⟩
  .cases hx
theorem YI {pc:Pc}{st:sK}{fr:lY}{ah:AH}(hp:pc.holds ρ)(hf:WA ρ st.fr fr)(ha:Fq ρ st.ah ah):∀{l:List ResultVar} {nv u_:Nat} {vs:List SV} {sd:List Side},adq P pc st nv l=some (vs,u_,sd)->(∀s∈sd,s.holds P ρ)->
  ∀{k:List AV->Prop},k (dQ ρ vs)->Ej P fr ah l k
 |[],nv,u_,vs,sd,h,hs,k,hk=>by
  simp only [adq,au,aN] at h
  obtain ⟨rfl,rfl,rfl⟩:=h
  exact hk
 | .tmp t::r,nv,u_,vs,sd,h,hs,k,hk=>by
  simp only [adq] at h
  split at h
  .cases h
  .rename_i v hv
   split at h
   .cases h
   .rename_i l nv1 sd1 hl
    simp only [au,aN] at h
    obtain ⟨rfl,rfl,rfl⟩:=h
    exact dH.2 ⟨_,iR hp hf hv,YI hp hf ha hl hs hk⟩
 | .cell t ty::r,nv,u_,vs,sd,h,hs,k,hk=>by
  simp only [adq] at h
  split at h
  .cases h
  .rename_i p hv
   split at h
   .cases h
   .rename_i x hx
    split at h
    .cases h
    .rename_i l nv1 sd1 hl
     simp only [au,aN] at h
     obtain ⟨rfl,rfl,rfl⟩:=h
     exact dH.2 ⟨_,iR hp hf hv,ZW ha hx (fun s hm=>hs s (by simp [hm])) (YI hp hf ha hl (fun s hm=>hs s (by simp [hm])) hk)⟩
theorem ajO {l:List SV}:one (dQ ρ l)=(arP l).den ρ:=by
 match l with
 |[]=>rfl
 |[a]=>rfl
 |a::b::r=>rfl
def Jg (P:Program)(fn:Func)(base:Nat)(w:World)(E:Env)(v:AV)(ah:AH)(nx:Nat)(a':Act)(w':World):Prop:=
 a'.defers=[]/\∃E' val,(results fn a'.tmps).run P w'=.ok val w'/\Rep w' E' v val/\Step base w E w' E'/\dU base w' E' ah (fun b=>nx<=b)
theorem Jg.weak {fn:Func}{base:Nat}{w:World}{E:Env}{v v':AV}{ah fV:AH}{nx nx':Nat}{a':Act}{w':World}(h:Jg P fn base w E v ah nx a' w')(hv:Weak v v')(hah:∀b k',fV b=some k'->∃k,ah b=some k/\qA k k')(hn:nx<=nx') :
  Jg P fn base w E v' fV nx' a' w':=by
 obtain ⟨h0,E',val,h1,h2,h3,h4⟩:=h
 refine ⟨h0,E',val,h1,hv _ _ _ h2,h3,⟨fun b k hb=>?_,fun b b' k k' c o c' o' hne q1 q2=>?_,fun b hb=>h4.fresh b (b_ hn hb),h4.kF,h4.bs,h4.kJ⟩⟩
 .obtain ⟨k0,q,hw⟩:=hah b k hb;exact hw _ _ _ _ (h4.blk b k0 q)
 .obtain ⟨j1,e1,-⟩:=hah b k q1
  obtain ⟨j2,e2,-⟩:=hah b' k' q2
  exact h4.sep b b' j1 j2 c o c' o' hne e1 e2
theorem ads (fn:Func)(tmps:Array Value):results fn tmps=(do
  let vs <- fn.results.mapM (Qn tmps)
  pure (if h:vs.size=1 then vs[0] else .tuple vs)):=by
 unfold results
 congr 1
theorem zV {fn:Func}{pc:Pc}{nv:Nat}{o:Out}{x:Lf}(h:Je P fn.results.toList pc nv o=some x)(hp:pc.holds ρ)(hs:jw P ρ x.sd){base:Nat}{w w':World}{E E':Env}{fr:lY}{ah:AH}{nx:Nat}{a':Act}
  (hst:Ic ρ N o.st fr ah nx) (jB:OD base w' E' fr ah nx a') (hstep:Step base w E w' E'):Jd o.e=true/\Jg P fn base w E (x.v.den ρ) (iO ρ x.th) x.nx a' w':=by
 unfold Je at h
 cases he:Jd o.e
 .simp [he] at h
 .simp only [he,cond_true] at h
  split at h
  .cases h
  .rename_i l u_ sd hl
   simp only [au] at h;subst h
   refine ⟨rfl,?_⟩
   obtain ⟨Fp,hf,hah,hN,ajP⟩:=OD.canon hst jB
   have hres:=YI (P:=P) hp hf hah hl ((Gf hs).1 hp) (k:=fun az=>az=dQ ρ l) rfl
   obtain ⟨az,vs',rfl,hrun,hrep⟩:=uH ajP hres
   refine ⟨ajP.defers,E',(if h:vs'.toArray.size=1 then vs'.toArray[0] else .tuple vs'.toArray),?_,?_,hstep,ajP.heap⟩
   .rw [ads,Array.mapM_eq_mapM_toList,Sem.run_bind,Sem.run_map,hrun]
    rfl
   .have:=Yc hrep
    rw [ajO] at this
    exact this
theorem ajQ {g:Tm}{x y:Tr SB}:∀b k',iO ρ (Tr.mrg (aao g) x y) b=some k'->(bif (g.den ρ).B then (∃k,iO ρ x b=some k/\qA k k') else (∃k,iO ρ y b=some k/\qA k k'))=True:=by
 intro b k' h
 unfold iO at h
 simp only [aB] at h
 obtain ⟨z,hz,rfl⟩:=h
 obtain ⟨u,v,h1,h2,h3⟩:=Tr.Gj hz
 have:=L_ (ρ:=ρ) h3
 cases hg:(g.den ρ).B
 .rw [hg] at this
  simp only [cond_false,eq_iff_iff,iff_true]
  exact ⟨_,by unfold iO;rw [h2];rfl,this⟩
 .rw [hg] at this
  simp only [cond_true,eq_iff_iff,iff_true]
  exact ⟨_,by unfold iO;rw [h1];rfl,this⟩
theorem amA {low:Nat}{g:Tm}{c d m:CO}(h:amz low g c d=some m){fn:Func}{base:Nat}{w w':World}{E:Env}{a':Act}
  (hq:bif (g.den ρ).B then Jg P fn base w E (c.v.den ρ) (iO ρ c.th) c.nx a' w' else Jg P fn base w E (d.v.den ρ) (iO ρ d.th) d.nx a' w'):Jg P fn base w E (m.v.den ρ) (iO ρ m.th) m.nx a' w':=by
 unfold amz at h
 split at h
 .cases h
 .rename_i v hv
  dsimp only at h
  generalize (ajt low v.FZ c.th d.th _)=q at h
  cases q
  .simp only [cond_false,au] at h;subst h
   have hw:=(Rk (ρ:=ρ) hv).1
   have hm:=ajQ (ρ:=ρ) (g:=g) (x:=c.th) (y:=d.th)
   cases hg:(g.den ρ).B
   .rw [hg] at hq hw hm
    exact Jg.weak hq hw (fun b k' hk=>of_eq_true (hm b k' hk)) (Nat.le_max_right _ _)
   .rw [hg] at hq hw hm
    exact Jg.weak hq hw (fun b k' hk=>of_eq_true (hm b k' hk)) (Nat.le_max_left _ _)
  .cases h
theorem ae_ {low:Nat}{g:Tm}{c:CO}{l:List (Tm×CO)}(hl:l≠[]){fn:Func}{base:Nat}{w w':World}{E:Env}{a':Act}
  (hq:bif (g.den ρ).B then Jg P fn base w E (c.v.den ρ) (iO ρ c.th) c.nx a' w' else ∃d,su ρ l=some d/\Jg P fn base w E (d.v.den ρ) (iO ρ d.th) d.nx a' w') :
  ∃d,su ρ (aha low g c l)=some d/\Jg P fn base w E (d.v.den ρ) (iO ρ d.th) d.nx a' w':=by
 match l,hl with
 |x::r,_=>
  simp only [aha]
  cases hm:amz low g c x.2 with
  |none=>
   dsimp only
   simp only [su]
   cases hg:(g.den ρ).B
   .rw [hg] at hq;exact hq
   .rw [hg] at hq;exact ⟨_,rfl,hq⟩
  |some m=>
   dsimp only
   have hmk:=fun h=>amA (P:=P) (ρ:=ρ) hm (fn:=fn) (base:=base) (w:=w) (w':=w') (E:=E) (a':=a') h
   cases hg:(g.den ρ).B
   .rw [hg] at hq hmk
    simp only [cond_false] at hq hmk
    obtain ⟨d,h1,h2⟩:=hq
    cases r with
    |nil=>
     simp only [su,au] at h1;subst h1
     exact ⟨m,rfl,hmk h2⟩
    |cons y r=>
     simp only [su,II,hg,Bool.false_or] at h1 ⊢
     cases hx:(x.1.den ρ).B
     .rw [hx] at h1;exact ⟨d,h1,h2⟩
     .rw [hx] at h1
      simp only [cond_true,au] at h1;subst h1
      exact ⟨m,rfl,hmk h2⟩
   .rw [hg] at hq hmk
    simp only [cond_true] at hq hmk
    cases r with
    |nil=>exact ⟨m,rfl,hmk hq⟩
    |cons y r=>exact ⟨m,by simp only [su,II,hg,Bool.true_or,cond_true],hmk hq⟩
theorem amB {low:Nat}{g:Tm}{c:CO}{l:List (Tm×CO)}:aha low g c l≠[]:=by
 cases l with
 |nil=>simp [aha]
 |cons x r=>simp only [aha];split<;>simp
theorem ajR {low:Nat}{rs:List ResultVar}:∀{l:List Out} {pc:Pc} {nv:Nat} {x:EQ},KW P low rs pc nv l=some x->x.outs≠[]
 |[],pc,nv,x,h=>by simp [KW] at h
 |[o],pc,nv,x,h=>by
  simp only [KW] at h
  split at h
  .cases h
  .simp only [au] at h;subst h;simp
 |o::o'::r,pc,nv,x,h=>by
  simp only [KW] at h
  split at h
  .cases h
  .split at h
   .cases h
   .simp only [au] at h;subst h;exact amB
theorem aaS {fn:Func}{low:Nat}:∀{l:List Out} {pc:Pc} {nv:Nat} {x:EQ},KW P low fn.results.toList pc nv l=some x->pc.holds ρ->jw P ρ x.sd->∀{base:Nat} {w w':World} {E E':Env} {fr:lY} {ah:AH} {nx:Nat} {a':Act} {e:Exit},
  Gl ρ N l e fr ah nx->OD base w' E' fr ah nx a'->Step base w E w' E'->Jd e=true/\∃d,su ρ x.outs=some d/\Jg P fn base w E (d.v.den ρ) (iO ρ d.th) d.nx a' w'
 |[],pc,nv,x,h,_,_,_,_,_,_,_,_,_,_,_,_,_,_,_=>by simp [KW] at h
 |[o],pc,nv,x,h,hp,hs,base,w,w',E,E',fr,ah,nx,a',e,hsel,jB,hstep=>by
  obtain ⟨st,h1,h2⟩:=hsel
  simp only [sel,au,aN] at h1
  obtain ⟨rfl,rfl⟩:=h1
  simp only [KW] at h
  split at h
  .cases h
  .rename_i y hy
   simp only [au] at h;subst h
   obtain ⟨q1,q2⟩:=zV (P:=P) hy hp hs h2 jB hstep
   exact ⟨q1,_,rfl,q2⟩
 |o::o'::r,pc,nv,x,h,hp,hs,base,w,w',E,E',fr,ah,nx,a',e,hsel,jB,hstep=>by
  obtain ⟨st,h1,h2⟩:=hsel
  simp only [sel] at h1
  simp only [KW] at h
  split at h
  .cases h
  .rename_i y hy
   split at h
   .cases h
   .rename_i z hz
    simp only [au] at h;subst h
    have hzn:=ajR hz
    cases hg:(o.g.den ρ).B
    .rw [hg] at h1
     obtain ⟨q1,q2⟩:=aaS hz (gq hg hp) (o8 hs) ⟨st,h1,h2⟩ jB hstep
     exact ⟨q1,ae_ (P:=P) hzn (by rw [hg];exact q2)⟩
    .rw [hg] at h1
     simp only [cond_true,au,aN] at h1
     obtain ⟨rfl,rfl⟩:=h1
     obtain ⟨q1,q2⟩:=zV (P:=P) hy (gq hg hp) (mY hs) h2 jB hstep
     exact ⟨q1,ae_ (P:=P) hzn (by rw [hg];exact q2)⟩
theorem Xg : ∀{l:List SV} {i t:Nat} {e:pI},(BL i l).get t=some e->∃j a,t=i+j/\l[j]?=some a/\e=⟨[],a⟩
 |[],i,t,e,h=>by simp [BL,Tr.get] at h
 |a::r,i,t,e,h=>by
  simp only [BL] at h
  rcases Tr.o7 _ _ _ _ _ _ h with ⟨rfl,h1⟩|⟨-,h1⟩
  .simp only [au] at h1;exact ⟨0,a,rfl,rfl,h1.symm⟩
  .obtain ⟨j,b,rfl,h2,h3⟩:=Xg h1
   exact ⟨j+1,b,by omega,by simpa using h2,h3⟩
theorem J5 : ∀(l:List AV) (m i:Nat),jm (l.map some++List.replicate m none) i=l[i]?
 |[],0,i=>by simp [jm]
 |[],m+1,0=>by simp [List.replicate_succ,jm]
 |[],m+1,i+1=>by
  have:=J5 [] m i
  simp only [List.map_nil,List.nil_append,List.replicate_succ,jm] at this ⊢
  rw [this];simp
 |a::l,m,0=>by simp [jm]
 |a::l,m,i+1=>by
  have:=J5 l m i
  simp only [aZ,bZ,jm] at this ⊢
  rw [this];simp
def BM (N:Nat)(l:List AV):lY:=l.map some++List.replicate (N-l.length) none
theorem NM {l:List SV}:WA ρ (BL 0 l) (BM N (dQ ρ l)):=by
 intro t e he
 obtain ⟨j,a,rfl,h1,rfl⟩:=Xg he
 rw [BM,J5,nN,bT]
 simp [h1,pI.den]
theorem Ap {l:List AV}(h:l.length<=N):(BM N l).length=N:=by simp [BM];omega
theorem J6 {w:World}{E:Env}{l:List AV}{vs:List Value}(hG:GOk w E.fix)(h:iE w E l vs)(hN:l.length<=N):vV w E (BM N l) (vs.toArray++Array.replicate (N-vs.toArray.size) undef):=by
 refine ⟨?_,fun i x hx=>?_,hG⟩
 .simp [BM,h.1]
 .rw [BM,J5] at hx
  have hi:=(aC.1 hx).1
  have hvl:i<vs.length:=by rw [<- h.1];exact hi
  refine ⟨vs[i],?_,h.2 i x _ hx (by simp [hvl])⟩
  rw [Array.getElem?_append_left (by simpa using hvl)]
  simp [hvl]
theorem ajS {I0:Ew}{L:ql×Ew}{md:Md}{FC:FuncId->zT}{uJ CF:Nat}(hm:P.follows .mixedOrders=true)(h0:∀σ:List AV,iT σ=true->n_ P σ I0)(hX:∀σ:List AV,iT σ=true->oJ P σ L.1)(hI:∀σ:List AV,iT σ=true->n_ P σ L.2)(hρ:iT ρ=true) :
 n_ P ρ (ajN P I0 L md FC uJ CF):=fun pc th nx nv f args R h hp hs base w E ah vs hah hh hG hrep o a he next Q hnext=>by
 simp only [ajN] at h
 split at h
 .rename_i R0 hR0
  simp only [au] at h;subst h
  exact h0 ρ hρ _ _ _ _ _ _ _ hR0 hp hs _ _ _ _ _ hah hh hG hrep o a he next Q hnext
 split at h
 .cases h
 .rename_i fn hfn
  split at h
  .cases h
  .rename_i c hc
   cases hg:oL fn&&Nat.ble args.length fn.ntmps
   .simp [hg] at h
   .simp only [hg,cond_true] at h
    simp only [ay] at hg
    have hname:fn.name≠ "runtime.NumGoroutine" :=by simpa [oL] using hg.1
    have hlen:=aG hg.2
    split at h
    .cases h
    .rename_i x hx
     cases haw:x.aw.isEmpty
     .simp [haw] at h
     .simp only [haw,cond_true] at h
      split at h
      .cases h
      .rename_i y hy
       simp only [au] at h;subst h
       have ajT:Pn P ρ x.aw:=by
        have:x.aw=[]:=by simpa using haw
        rw [this];exact trivial
       have hlenA:(dQ ρ args).length<=fn.ntmps:=by rw [fZ];exact hlen
       have hst:Ic ρ fn.ntmps ⟨BL 0 args,th,nx⟩ (BM fn.ntmps (dQ ρ args)) ah nx:=Ic.of NM hah (Ap hlenA) (dG _)
       have adt:=oK (G:=⟨L.1,is2 md,L.2,uJ⟩) (F:={FC f with N:=fn.ntmps,keep:=⟨(FC f).keep.ks,nx⟩}) hm hX hI hρ _ _ _ _ hx hp (mY hs) ajT _ _ _ hst
       have jB:OD base w E (BM fn.ntmps (dQ ρ args)) ah nx {tmps:=vs.toArray++Array.replicate (fn.ntmps-vs.toArray.size) undef,defers:=[]}:=
        ⟨hh,J6 hG hrep hlenA,rfl⟩
       have hcall:(callFunc f vs.toArray).run P w=.ok (.enter f vs.toArray) w:=by
        have e1:(fn.name == "runtime.NumGoroutine")=false:=by simpa using hname
        have e2:fn.body.isNone=false:=by rw [hc];rfl
        simp only [callFunc,Sem.run_bind,run_program,Result.andThen_ok,hfn,e1,aU,if_false,e2,Sem.run_pure]
       unfold Oper.wp
       rw [he,hcall]
       have apC:Calls P f vs.toArray w fun e w'=>∃d v E',su ρ y.outs=some d/\e=.returned v/\Step base w E w' E'/\dU base w' E' (iO ρ d.th) (fun b=>d.nx<=b)/\Rep w' E' (d.v.den ρ) v:=by
        refine calls_of_wp hfn hc (wp_mono (adt base w E _ jB) fun e a' w' hp'=>?_)
        obtain ⟨E',fr',fV,nx',hsel,Ut,hstep⟩:=hp'
        obtain ⟨q1,d,hd,q2⟩:=aaS (P:=P) (fn:=fn) hy hp (o8 hs) hsel Ut hstep
        obtain ⟨h0,E2,val,h1,h2,h3,h4⟩:=q2
        have fin:a'.defers=[]/\∃v,(results fn a'.tmps).run P w'=.ok v w'/\∃d u E',su ρ y.outs=some d/\Ending.returned v=.returned u/\Step base w E w' E'/\dU base w' E' (iO ρ d.th) (fun b=>d.nx<=b)/\Rep w' E' (d.v.den ρ) u:=
         ⟨h0,val,h1,d,val,E2,hd,rfl,h3,h4,h2⟩
        cases e<;>first|exact fin|(simp [Jd] at q1)
       refine apC.mono fun e w' hq=>?_
       obtain ⟨d,v,E',hd,rfl,q1,q2,q3⟩:=hq
       exact hnext d hd v w' E' (iO ρ d.th) (fun b k hk=>by unfold iO;rw [hk];rfl) q1 q2 q3
 mutual
theorem NP (hρ:iT ρ=true){th:Tr SB}:∀{x:SV},x.MB th=true->(x.den ρ).Hz=true/\∀b∈(x.den ρ).refs,∀k,iO ρ th b=some k->k.GZ=true
  | .sc k t,h=>by cases k<;>first|(simp [SV.MB] at h;done)|exact ⟨rfl,fun b hb=>by cases hb⟩
  | .c v,_=>⟨rfl,fun b hb=>by cases hb⟩
  | .nil,_=>⟨rfl,fun b hb=>by cases hb⟩
  | .agg l,h=>by
   have:=Pv hρ (l:=l) (by simpa [SV.MB] using h)
   exact ⟨by simpa [SV.den,AV.Hz] using this.1,by simpa [SV.den,AV.refs] using this.2⟩
  | .fA l,h=>by
   have:=Pv hρ (l:=l) (by simpa [SV.MB] using h)
   exact ⟨by simpa [SV.den,AV.Hz] using this.1,by simpa [SV.den,AV.refs] using this.2⟩
  | .mP t v,h=>by
   have:=NP hρ (x:=v) (by simpa [SV.MB] using h)
   exact ⟨by simpa [SV.den,AV.Hz] using this.1,by simpa [SV.den,AV.refs] using this.2⟩
  | .slc [] f,_=>⟨rfl,fun b hb=>by cases hb⟩
  | .slc (x::r) f,h=>by simp [SV.MB] at h
  | .os b sz off l,h=>by
   refine ⟨rfl,fun b' hb k hk=>?_⟩
   simp only [SV.den,AV.refs,bV] at hb
   subst hb
   simp only [SV.MB] at h
   unfold iO at hk
   simp only [aB] at hk
   obtain ⟨z,hz,rfl⟩:=hk
   rw [hz] at h
   cases z with
   |rows sz rs=>
    simp only [aH] at h
    simp only [SB.den,vH.GZ,lV,List.all_map,aH]
    intro row hr
    exact IW (h row hr)
   |fO sz t=>cases h
   |map es=>cases h
   |Ad m t=>cases h
   |it m n k=>cases h
   |kL ty sz rs=>cases h
  | .sf t,h=>by simp [SV.MB] at h
  | .vp row off,h=>by simp [SV.MB] at h
  | .op b sz t off,h=>by simp [SV.MB] at h
  | .fn f x y,h=>by simp [SV.MB] at h
  | .mp b,h=>by simp [SV.MB] at h
theorem Pv (hρ:iT ρ=true){th:Tr SB}:∀{l:List SV},ae9 th l=true->Qj (dQ ρ l)=true/\∀b∈mO (dQ ρ l),∀k,iO ρ th b=some k->k.GZ=true
  |[],_=>⟨rfl,fun b hb=>by cases hb⟩
  |x::r,h=>by
   simp only [ae9,ay] at h
   have h1:=NP hρ (x:=x) h.1
   have h2:=Pv hρ (l:=r) h.2
   refine ⟨by simp [dQ,Qj,h1.1,h2.1],fun b hb=>?_⟩
   simp only [dQ,mO,aK] at hb
   rcases hb with hb|hb
   .exact h1.2 b hb
   .exact h2.2 b hb
end
def qV (ρ:List AV):List (Tm×SV)->AV
 |[]=>eX
 |[x]=>x.2.den ρ
 |x::y::r=>bif (x.1.den ρ).B then x.2.den ρ else qV ρ (y::r)
structure jg where
 rs:List (Tm×SV)
 sd:List (Pc×Side)
 aw:List Lo
theorem Qz {rs:List ResultVar}{pc:Pc}{nv:Nat}{o:Out}{r:List Out}:Jf P rs pc nv (o::r)=(match Je P rs (jG (wI o.g r) true pc) nv o with
 |none=>none
 |some x=>match (F9 x.th x.nv x.v).1.mV (thN x.th ayi) with
  |none=>none
  |some v=>match Jf P rs (jG o.g false pc) (F9 x.th x.nv x.v).2.1 r with
   |none=>none
   |some (l,u_,sd)=>some ((o.g,v.nrm)::l,u_,(x.sd++tag (jG (wI o.g r) true pc) (F9 x.th x.nv x.v).2.2 [])++sd)):=rfl
theorem aaT {fn:Func}(hρ:iT ρ=true):∀{l:List Out} {pc:Pc} {nv u_:Nat} {rs:List (Tm×SV)} {sd:List (Pc×Side)},Jf P fn.results.toList pc nv l=some (rs,u_,sd)->pc.holds ρ->jw P ρ sd->∀{base:Nat} {w w':World} {E E':Env} {fr:lY} {ah:AH} {nx:Nat} {a':Act} {e:Exit},
  Gl ρ N l e fr ah nx->OD base w' E' fr ah nx a'->Step base w E w' E'->Jd e=true/\∃v v' fV nx',Jg P fn base w E v fV nx' a' w'/\Go.Fw.mV (xq fV ayi) v=some v'/\Weak v' (qV ρ rs)/\(Am P fn.results.toList pc nv l=true->v.Hz=true/\∀b∈v.refs,∀k,fV b=some k->k.GZ=true)
 |[],pc,nv,u_,rs,sd,h,hp,hs,base,w,w',E,E',fr,ah,nx,a',e,hsel,jB,hstep=>by
  obtain ⟨st,h1,-⟩:=hsel;cases h1
 |[o],pc,nv,u_,rs,sd,h,hp,hs,base,w,w',E,E',fr,ah,nx,a',e,hsel,jB,hstep=>by
  obtain ⟨st,h1,h2⟩:=hsel
  simp only [sel,au,aN] at h1
  obtain ⟨rfl,rfl⟩:=h1
  simp only [Jf,wI,jG] at h
  split at h
  .cases h
  .rename_i x hx
   split at h
   .cases h
   .rename_i v hv
    simp only [au,aN,cZ] at h
    obtain ⟨rfl,rfl,rfl⟩:=h
    obtain ⟨q1,q2⟩:=zV (P:=P) hx hp (mY hs) h2 jB hstep
    have hpre:=(Gf (o8 hs)).1 hp
    refine ⟨q1,_,_,_,_,q2,(TK (P:=P) hρ (fun b k hk=>by unfold iO;rw [hk];rfl) hpre).trans (Nr hρ (F6 hρ (fun b k hk=>by unfold iO;rw [hk];rfl) ayi) hv),Es,fun hap=>?_⟩
    simp only [Am,wI,jG,hx,ay] at hap
    exact NP hρ hap.1
 |o::o'::r,pc,nv,u_,rs,sd,h,hp,hs,base,w,w',E,E',fr,ah,nx,a',e,hsel,jB,hstep=>by
  obtain ⟨st,h1,h2⟩:=hsel
  simp only [sel] at h1
  rw [Qz] at h
  simp only [wI] at h
  split at h
  .cases h
  .rename_i x hx
   split at h
   .cases h
   .rename_i v hv
    split at h
    .cases h
    .rename_i l nv1 sd1 hl
     simp only [au,aN] at h
     obtain ⟨rfl,rfl,rfl⟩:=h
     have aaM:∃y s,l=y::s:=by
      rw [Qz] at hl
      split at hl
      .cases hl
      .split at hl
       .cases hl
       .split at hl
        .cases hl
        .simp only [au,aN] at hl;exact ⟨_,_,hl.1.symm⟩
     cases hg:(o.g.den ρ).B
     .rw [hg] at h1
      obtain ⟨q1,v1,v2,a1,n1,q2,q3,q4,q5⟩:=aaT hρ hl (gq hg hp) (o8 hs) ⟨st,h1,h2⟩ jB hstep
      obtain ⟨y,s,rfl⟩:=aaM
      refine ⟨q1,v1,v2,a1,n1,q2,q3,by simpa [qV,hg] using q4,fun hap=>q5 ?_⟩
      rw [Am] at hap
      simp only [wI,hx,ay] at hap
      exact hap.2
     .rw [hg] at h1
      simp only [cond_true,au,aN] at h1
      obtain ⟨rfl,rfl⟩:=h1
      obtain ⟨q1,q2⟩:=zV (P:=P) hx (gq hg hp) (mY (mY hs)) h2 jB hstep
      obtain ⟨y,s,rfl⟩:=aaM
      have hpre:=(Gf (o8 (mY hs))).1 (gq hg hp)
      refine ⟨q1,_,_,_,_,q2,(TK (P:=P) hρ (fun b k hk=>by unfold iO;rw [hk];rfl) hpre).trans (Nr hρ (F6 hρ (fun b k hk=>by unfold iO;rw [hk];rfl) ayi) hv),?_,fun hap=>?_⟩
      .simp only [qV,hg,cond_true]
       exact Es
      .rw [Am] at hap
       simp only [wI,hx,ay] at hap
       exact NP hρ hap.1
theorem Xh {L:ql×Ew}{md:Md}{F:zT}{uJ CF:Nat}(hm:P.follows .mixedOrders=true)(hX:∀σ:List AV,iT σ=true->oJ P σ L.1)(hI:∀σ:List AV,iT σ=true->n_ P σ L.2)(hρ:iT ρ=true)
  {f:FuncId} {fn:Func} {c:Code} (hfn:P.funcs[f]?=some fn) (hc:fn.body=some c) {args:List SV} (hg:(oL fn&&Nat.ble args.length fn.ntmps)=true) {pc:Pc} {nv u_:Nat} {x:y9} (hp:pc.holds ρ)
  (hx:uf P ⟨L.1,is2 md,L.2,uJ⟩ {F with N:=fn.ntmps} CF pc ⟨BL 0 args,.e,0⟩ nv c=some x) {l:List (Tm×SV)} {sd:List (Pc×Side)} (hl:Jf P fn.results.toList pc x.nv x.outs=some (l,u_,sd)) (hs:jw P ρ (x.sd++sd)) (haw:Pn P ρ x.aw) :
  PC P f (dQ ρ args) (qV ρ l)/\(Am P fn.results.toList pc x.nv x.outs=true->PCa P f (dQ ρ args) (qV ρ l)):=by
 simp only [ay] at hg
 have hname:fn.name≠ "runtime.NumGoroutine" :=by simpa [oL] using hg.1
 have hlen:=aG hg.2
 have hall:∀(w:World) (fix:Nat->Nat->Prop) (vs:List Value),(∀c o,fix c o->c<w.heap.size)->GOk w fix->iE w (fC fix) (dQ ρ args) vs->
   Calls P f vs.toArray w fun e w'=>∃v mF,e=.returned v/\Step w.heap.size w (fC fix) w' (fC mF)/\
    (∀c o,mF c o->c<w'.heap.size)/\Rep w' (fC mF) (qV ρ l) v/\(Am P fn.results.toList pc x.nv x.outs=true->Rep w' (fC fun c o=>mF c o/\w.heap.size<=c) (qV ρ l) v):=?_
 .refine ⟨fun w fix vs hfix hG hargs=>?_,fun hap w fix vs hfix hG hargs=>?_⟩
  .rw [hfn]
   dsimp only
   rw [if_neg (by rw [hc];simp)]
   refine ⟨hname,(hall w fix vs hfix hG hargs).mono fun e w' hq=>?_⟩
   obtain ⟨v,mF,h1,h2,h3,h4,-⟩:=hq
   exact ⟨v,mF,h1,h2,h3,h4⟩
  .rw [hfn]
   dsimp only
   rw [if_neg (by rw [hc];simp)]
   refine ⟨hname,(hall w fix vs hfix hG hargs).mono fun e w' hq=>?_⟩
   obtain ⟨v,mF,h1,h2,h3,-,h4⟩:=hq
   exact ⟨v,mF,h1,h2,h3,h4 hap⟩
 intro w fix vs hfix hG hargs
 have hlenA:(dQ ρ args).length<=fn.ntmps:=by rw [fZ];exact hlen
 have hst:Ic ρ fn.ntmps ⟨BL 0 args,.e,0⟩ (BM fn.ntmps (dQ ρ args)) (fun _=>none) 0:=Ic.of NM (fun b k h=>by simp [Tr.get] at h) (Ap hlenA) (dG _)
 have adt:=oK (G:=⟨L.1,is2 md,L.2,uJ⟩) (F:={F with N:=fn.ntmps}) hm hX hI hρ _ _ _ _ hx hp (mY hs) haw _ _ _ hst
 have jB:OD w.heap.size w (fC fix) (BM fn.ntmps (dQ ρ args)) (fun _=>none) 0 {tmps:=vs.toArray++Array.replicate (fn.ntmps-vs.toArray.size) undef,defers:=[]}:=
  ⟨⟨fun b k hb=>(by cases hb),fun b b' k k' c o c' o' _ hb=>(by cases hb),fun _ _=>rfl,hfix,dG _,fun b c o hb=>(by cases hb)⟩,J6 hG hargs hlenA,rfl⟩
 refine calls_of_wp hfn hc (wp_mono (adt _ w (fC fix) _ jB) fun e a' w' hp'=>?_)
 obtain ⟨E',fr',fV,nx',hsel,Ut,hst'⟩:=hp'
 obtain ⟨q1,v,v',ah2,nx2,⟨h0,E2,val,h1,h2,h3,h4⟩,hz,hwk,arQ⟩:=aaT (P:=P) (fn:=fn) hρ hl hp (o8 hs) hsel Ut hst'
 let mF:Nat->Nat->Prop:=fun c o=>E2.fix c o\/(w.heap.size<=c/\c<w'.heap.size)
 have hfr:=MW h4 (fix:=mF) (fun c o h=>.inl h) (fun b c o ho off=>.inr (h4.kJ b c o ho)) ayi h2 hz
 have LM:∃v mF,Ending.returned val=.returned v/\Step w.heap.size w (fC fix) w' (fC mF)/\
   (∀c o,mF c o->c<w'.heap.size)/\Rep w' (fC mF) (qV ρ l) v/\(Am P fn.results.toList pc x.nv x.outs=true->Rep w' (fC fun c o=>mF c o/\w.heap.size<=c) (qV ρ l) v):=by
  refine ⟨_,mF,rfl,⟨⟨fun c o h=>.inl (h3.ext.fix c o h),h3.ext.cell,fun b hb=>absurd rfl hb,h3.ext.arr⟩,h3.below,fun c o hc h=>?_,fun c hc _=>h3.below.block c hc,fun b c o h _=>(by cases h),fun c o h hc=>?_⟩,fun c o h=>?_,hwk _ _ _ hfr,fun hap=>?_⟩
  rotate_left 3
  .exact hwk _ _ _ (Wq h4 h2 (arQ hap).1 (arQ hap).2 hz (fun b _ c o ho off=>⟨.inr (h4.kJ b c o ho),(h4.kJ b c o ho).1⟩))
  .rcases h with h|⟨h,-⟩
   .exact h3.yK c o hc h
   .omega
  .rcases h with h|⟨h,-⟩
   .exact h3.yL c o h hc |>.imp id (fun ⟨b,o',h⟩=>by cases h)
   .omega
  .rcases h with h|⟨-,h⟩
   .exact h4.kF c o h
   .exact h
 cases e<;>first|exact ⟨h0,_,h1,LM⟩|(simp [Jd] at q1)
theorem PC.weak {f:FuncId}{args:List AV}{r r':AV}(h:PC P f args r)(hw:Weak r r'):PC P f args r':=by
 intro w fix vs hfix hG hargs
 have:=h w fix vs hfix hG hargs
 split at this
 .exact this
 .rename_i fn hfn
  split at this
  .rename_i hb
   rw [if_pos hb]
   obtain ⟨v,h1,h2⟩:=this
   exact ⟨v,h1,hw _ _ _ h2⟩
  .rename_i hb
   rw [if_neg hb]
   refine ⟨this.1,this.2.mono fun e w' hq=>?_⟩
   obtain ⟨v,mF,h1,h2,h3,h4⟩:=hq
   exact ⟨v,mF,h1,h2,h3,hw _ _ _ h4⟩
theorem PCa.weak {f:FuncId}{args:List AV}{r r':AV}(h:PCa P f args r)(hw:Weak r r'):PCa P f args r':=by
 intro w fix vs hfix hG hargs
 have:=h w fix vs hfix hG hargs
 split at this
 .exact this
 .rename_i fn hfn
  split at this
  .rename_i hb
   rw [if_pos hb]
   obtain ⟨v,h1,h2⟩:=this
   exact ⟨v,h1,hw _ _ _ h2⟩
  .rename_i hb
   rw [if_neg hb]
   refine ⟨this.1,this.2.mono fun e w' hq=>?_⟩
   obtain ⟨v,mF,h1,h2,h3,h4⟩:=hq
   exact ⟨v,mF,h1,h2,h3,hw _ _ _ h4⟩
theorem YJ : ∀{l:List (Tm×SV)} {v:SV},ahb l=some v->Weak (qV ρ l) (v.den ρ)
 |[],v,h=>by simp [ahb] at h
 |[x],v,h=>by simp only [ahb,au] at h;subst h;exact Weak.refl _
 |x::y::r,v,h=>by
  simp only [ahb] at h
  split at h
  .cases h
  .rename_i u hu
   have ih:=YJ (l:=y::r) hu
   have hw:=(Rk (ρ:=ρ) h).1
   simp only [qV]
   cases hg:(x.1.den ρ).B
   .rw [hg] at hw;exact ih.trans hw
   .rw [hg] at hw;exact hw
theorem ahc {X0:ql}{L:ql×Ew}{md:Md}{FC:FuncId->zT}{uJ CF:Nat}(hm:P.follows .mixedOrders=true)(hX0:∀σ:List AV,iT σ=true->oJ P σ X0)(hX:∀σ:List AV,iT σ=true->oJ P σ L.1)(hI:∀σ:List AV,iT σ=true->n_ P σ L.2)(hρ:iT ρ=true) :
  oJ P ρ (adr P X0 L md FC uJ CF):=fun pc nv f args r h hp hs=>by
 unfold adr at h
 cases h1:Nat.beq (md f) 1||(Nat.beq (md f) 3&&aaR args)
 .simp only [h1,cond_false] at h
  exact hX0 ρ hρ pc nv f args r h hp hs
 .simp only [h1,cond_true] at h
  split at h
  .cases h
  .rename_i fn hfn
   split at h
   .cases h
   .rename_i c hc
    cases hg:oL fn&&Nat.ble args.length fn.ntmps
    .simp [hg] at h
    .simp only [hg,cond_true] at h
     split at h
     .cases h
     .rename_i x hx
      cases haw:x.aw.isEmpty
      .simp [haw] at h
      .simp only [haw,cond_true] at h
       split at h
       .cases h
       .rename_i l u_ sd hl
        split at h
        .cases h
        .rename_i v hv
         simp only [au] at h;subst h
         have ajT:Pn P ρ x.aw:=by
          have:x.aw=[]:=by simpa using haw
          rw [this];exact trivial
         have hpc:=Xh (F:=FC f) hm hX hI hρ hfn hc hg hp hx hl hs ajT
         exact ⟨hpc.1.weak (YJ hv),fun hap=>(hpc.2 hap).weak (YJ hv)⟩
theorem Rt {X0:ql}{I0:Ew}{md:Md}{FC:FuncId->zT}{uJ CF:Nat}(hm:P.follows .mixedOrders=true)(h0:∀σ:List AV,iT σ=true->n_ P σ I0)(hX0:∀σ:List AV,iT σ=true->oJ P σ X0):∀n,(∀σ:List AV,iT σ=true->oJ P σ (NK P X0 I0 md FC uJ CF n).1)/\∀σ:List AV,iT σ=true->n_ P σ (NK P X0 I0 md FC uJ CF n).2
 |0=>⟨hX0,h0⟩
 |n+1=>by
  obtain ⟨h1,h2⟩:=Rt (md:=md) (FC:=FC) (uJ:=uJ) (CF:=CF) hm h0 hX0 n
  exact ⟨fun σ hσ=>ahc hm hX0 h1 h2 hσ,fun σ hσ=>ajS hm h0 h1 h2 hσ⟩
def kD (P:Program)(X0:ql)(I0:Ew)(md:Md)(FC:FuncId->zT)(uJ CF:Nat)(f:FuncId)(args:List SV)(nv:Nat):Option jg:=
 match P.funcs[f]? with
 |none=>none
 |some fn=>match fn.body with
  |none=>none
  |some c=>bif oL fn&&Nat.ble args.length fn.ntmps then
    match uf P ⟨(NK P X0 I0 md FC uJ CF CF).1,is2 md,(NK P X0 I0 md FC uJ CF CF).2,uJ⟩ {FC f with N:=fn.ntmps} CF [] ⟨BL 0 args,.e,0⟩ nv c with
    |none=>none
    |some x=>match Jf P fn.results.toList [] x.nv x.outs with
     |none=>none
     |some (l,_,sd)=>some ⟨l,x.sd++sd,x.aw⟩
   else none
theorem amC {X0:ql}{I0:Ew}{md:Md}{FC:FuncId->zT}{uJ CF:Nat}{f:FuncId}{args:List SV}{nv:Nat}{R:jg}(h:kD P X0 I0 md FC uJ CF f args nv=some R)(hm:P.follows .mixedOrders=true)(hρ:iT ρ=true)(h0:∀σ:List AV,iT σ=true->n_ P σ I0)(hX:∀σ:List AV,iT σ=true->oJ P σ X0)
  (hs:jw P ρ R.sd) (haw:Pn P ρ R.aw):PC P f (dQ ρ args) (qV ρ R.rs):=by
 unfold kD at h
 split at h
 .cases h
 .rename_i fn hfn
  split at h
  .cases h
  .rename_i c hc
   cases hg:oL fn&&Nat.ble args.length fn.ntmps
   .simp [hg] at h
   .simp only [hg,cond_true] at h
    split at h
    .cases h
    .rename_i x hx
     split at h
     .cases h
     .rename_i l u_ sd hl
      simp only [au] at h;subst h
      obtain ⟨h1,h2⟩:=Rt (md:=md) (FC:=FC) (uJ:=uJ) (CF:=CF) hm h0 hX CF
      exact (Xh (F:=FC f) hm h1 h2 hρ hfn hc hg (fun x hx=>by cases hx) hx hl hs haw).1
end
end Go.Fw
end
section
namespace Go.Fw
theorem ajU {α:Type}{f:α->List AV}{l:List α}(h:∀x,iT (f x)=true):QO (l.map f)=true:=by
 induction l with
 |nil=>rfl
 |cons x l ih=>simp [QO,h x,ih]
theorem fzn : iT []=true:=rfl
theorem fQ {a:AV}{l:List AV}(h:a.fz=true)(k:iT l=true):iT (a::l)=true:=by simp [iT,h,k]
theorem fzs {α:Type}{f:α->List AV}(h:∀x,iT (f x)=true)(l:List α):(AV.sl (List.map f l) false).fz=true:=by simp [AV.fz,ajU h]
theorem fzb {b:Bool}{x y:List AV}(h:iT x=true)(k:iT y=true):iT (bif b then x else y)=true:=by cases b<;>simpa
def rowB (b:Bool):List AV:=[.p (.bool b)]
def DY (n:Int):List AV:=[.p (.int .i64 n)]
def ajV (n:Int):List AV:=[.p (.int .u8 n)]
def apD (s:List UInt8):List AV:=[.str s]
theorem amD (b:Bool):iT (rowB b)=true:=rfl
theorem amE (b:Int):iT (DY b)=true:=rfl
theorem ajW (b:Int):iT (ajV b)=true:=rfl
theorem amF (b:List UInt8):iT (apD b)=true:=rfl
structure dL where
 Kind:Int
 Num:Nat
 Str:List UInt8
 Ref:Int
 deriving DecidableEq,Inhabited
def dL.enc (v:dL):List AV:=[.p (.int .u8 v.Kind),.p (.float .f64 v.Num),.str v.Str,.p (.int .i64 v.Ref)]
def dL.av (v:dL):AV:=.agg v.enc
def dL.fH : List Kd:=[.int .u8,.kS,.str,.int .i64]
theorem dL.iT (v:dL):Go.Fw.iT v.enc=true:=fQ rfl (fQ rfl (fQ rfl (fQ rfl (fzn))))
theorem dL.fz (v:dL):v.av.fz=true:=dL.iT v
theorem dL.len (v:dL):v.enc.length=4:=rfl
theorem dL.KF (l:List dL):lI 4 (l.map dL.enc):=by
 intro row h
 obtain ⟨x,-,rfl⟩:=aW.1 h
 rfl
structure dI where
 Str:List UInt8
 Sym:Int
 deriving DecidableEq,Inhabited
def dI.enc (v:dI):List AV:=[.str v.Str,.p (.int .i64 v.Sym)]
def dI.av (v:dI):AV:=.agg v.enc
def dI.fH : List Kd:=[.str,.int .i64]
theorem dI.iT (v:dI):Go.Fw.iT v.enc=true:=fQ rfl (fQ rfl (fzn))
theorem dI.fz (v:dI):v.av.fz=true:=dI.iT v
theorem dI.len (v:dI):v.enc.length=2:=rfl
theorem dI.KF (l:List dI):lI 2 (l.map dI.enc):=by
 intro row h
 obtain ⟨x,-,rfl⟩:=aW.1 h
 rfl
structure dJ where
 Has:Int
 Value:dL
 Get:dL
 Set:dL
 eG:Bool
 dV:Bool
 Configurable:Bool
 deriving DecidableEq,Inhabited
def dJ.enc (v:dJ):List AV:=[.p (.int .u8 v.Has),.p (.int .u8 v.Value.Kind),.p (.float .f64 v.Value.Num),.str v.Value.Str,.p (.int .i64 v.Value.Ref),.p (.int .u8 v.Get.Kind),.p (.float .f64 v.Get.Num),.str v.Get.Str,.p (.int .i64 v.Get.Ref),.p (.int .u8 v.Set.Kind),.p (.float .f64 v.Set.Num),.str v.Set.Str,.p (.int .i64 v.Set.Ref),.p (.bool v.eG),.p (.bool v.dV),.p (.bool v.Configurable)]
def dJ.av (v:dJ):AV:=.agg v.enc
def dJ.fH : List Kd:=[.int .u8,.int .u8,.kS,.str,.int .i64,.int .u8,.kS,.str,.int .i64,.int .u8,.kS,.str,.int .i64,.bool,.bool,.bool]
theorem dJ.iT (v:dJ):Go.Fw.iT v.enc=true:=fQ rfl (fQ rfl (fQ rfl (fQ rfl (fQ rfl (fQ rfl (fQ rfl (fQ rfl (fQ rfl (fQ rfl (fQ rfl (fQ rfl (fQ rfl (fQ rfl (fQ rfl (fQ rfl (fzn))))))))))))))))
theorem dJ.fz (v:dJ):v.av.fz=true:=dJ.iT v
theorem dJ.len (v:dJ):v.enc.length=16:=rfl
theorem dJ.KF (l:List dJ):lI 16 (l.map dJ.enc):=by
 intro row h
 obtain ⟨x,-,rfl⟩:=aW.1 h
 rfl
structure dM where
 Key:dI
 dS:dJ
 deriving DecidableEq,Inhabited
def dM.enc (v:dM):List AV:=[.str v.Key.Str,.p (.int .i64 v.Key.Sym),.p (.int .u8 v.dS.Has),.p (.int .u8 v.dS.Value.Kind),.p (.float .f64 v.dS.Value.Num),.str v.dS.Value.Str,.p (.int .i64 v.dS.Value.Ref),.p (.int .u8 v.dS.Get.Kind),.p (.float .f64 v.dS.Get.Num),.str v.dS.Get.Str,.p (.int .i64 v.dS.Get.Ref),.p (.int .u8 v.dS.Set.Kind),.p (.float .f64 v.dS.Set.Num),.str v.dS.Set.Str,.p (.int .i64 v.dS.Set.Ref),.p (.bool v.dS.eG),.p (.bool v.dS.dV),.p (.bool v.dS.Configurable)]
def dM.av (v:dM):AV:=.agg v.enc
def dM.fH : List Kd:=[.str,.int .i64,.int .u8,.int .u8,.kS,.str,.int .i64,.int .u8,.kS,.str,.int .i64,.int .u8,.kS,.str,.int .i64,.bool,.bool,.bool]
theorem dM.iT (v:dM):Go.Fw.iT v.enc=true:=fQ rfl (fQ rfl (fQ rfl (fQ rfl (fQ rfl (fQ rfl (fQ rfl (fQ rfl (fQ rfl (fQ rfl (fQ rfl (fQ rfl (fQ rfl (fQ rfl (fQ rfl (fQ rfl (fQ rfl (fQ rfl (fzn))))))))))))))))))
theorem dM.fz (v:dM):v.av.fz=true:=dM.iT v
theorem dM.len (v:dM):v.enc.length=18:=rfl
theorem dM.KF (l:List dM):lI 18 (l.map dM.enc):=by
 intro row h
 obtain ⟨x,-,rfl⟩:=aW.1 h
 rfl
structure dN where
 Kind:Int
 fB:dL
 Ext:Bool
 Props:List dM
 Target:dL
 Handler:dL
 Text:List UInt8
 Calls:Bool
 Makes:Bool
 deriving DecidableEq,Inhabited
def dN.enc (v:dN):List AV:=[.p (.int .u8 v.Kind),.p (.int .u8 v.fB.Kind),.p (.float .f64 v.fB.Num),.str v.fB.Str,.p (.int .i64 v.fB.Ref),.p (.bool v.Ext),.sl (List.map dM.enc v.Props) false,.p (.int .u8 v.Target.Kind),.p (.float .f64 v.Target.Num),.str v.Target.Str,.p (.int .i64 v.Target.Ref),.p (.int .u8 v.Handler.Kind),.p (.float .f64 v.Handler.Num),.str v.Handler.Str,.p (.int .i64 v.Handler.Ref),.str v.Text,.p (.bool v.Calls),.p (.bool v.Makes)]
def dN.av (v:dN):AV:=.agg v.enc
def dN.fH : List Kd:=[.int .u8,.int .u8,.kS,.str,.int .i64,.bool,.sl,.int .u8,.kS,.str,.int .i64,.int .u8,.kS,.str,.int .i64,.str,.bool,.bool]
theorem dN.iT (v:dN):Go.Fw.iT v.enc=true:=fQ rfl (fQ rfl (fQ rfl (fQ rfl (fQ rfl (fQ rfl (fQ (fzs dM.iT _) (fQ rfl (fQ rfl (fQ rfl (fQ rfl (fQ rfl (fQ rfl (fQ rfl (fQ rfl (fQ rfl (fQ rfl (fQ rfl (fzn))))))))))))))))))
theorem dN.fz (v:dN):v.av.fz=true:=dN.iT v
theorem dN.len (v:dN):v.enc.length=18:=rfl
theorem dN.KF (l:List dN):lI 18 (l.map dN.enc):=by
 intro row h
 obtain ⟨x,-,rfl⟩:=aW.1 h
 rfl
structure dK where
 Objects:List dN
 deriving DecidableEq,Inhabited
def dK.enc (v:dK):List AV:=[.sl (List.map dN.enc v.Objects) false]
def dK.av (v:dK):AV:=.agg v.enc
def dK.fH : List Kd:=[.sl]
theorem dK.iT (v:dK):Go.Fw.iT v.enc=true:=fQ (fzs dN.iT _) (fzn)
theorem dK.fz (v:dK):v.av.fz=true:=dK.iT v
theorem dK.len (v:dK):v.enc.length=1:=rfl
theorem dK.KF (l:List dK):lI 1 (l.map dK.enc):=by
 intro row h
 obtain ⟨x,-,rfl⟩:=aW.1 h
 rfl
structure gQ where
 Kind:Int
 Value:dL
 Yes:Bool
 Found:Bool
 dS:dJ
 Keys:List dI
 Error:Int
 Text:List UInt8
 deriving DecidableEq,Inhabited
def gQ.enc (v:gQ):List AV:=[.p (.int .u8 v.Kind),.p (.int .u8 v.Value.Kind),.p (.float .f64 v.Value.Num),.str v.Value.Str,.p (.int .i64 v.Value.Ref),.p (.bool v.Yes),.p (.bool v.Found),.p (.int .u8 v.dS.Has),.p (.int .u8 v.dS.Value.Kind),.p (.float .f64 v.dS.Value.Num),.str v.dS.Value.Str,.p (.int .i64 v.dS.Value.Ref),.p (.int .u8 v.dS.Get.Kind),.p (.float .f64 v.dS.Get.Num),.str v.dS.Get.Str,.p (.int .i64 v.dS.Get.Ref),.p (.int .u8 v.dS.Set.Kind),.p (.float .f64 v.dS.Set.Num),.str v.dS.Set.Str,.p (.int .i64 v.dS.Set.Ref),.p (.bool v.dS.eG),.p (.bool v.dS.dV),.p (.bool v.dS.Configurable),.sl (List.map dI.enc v.Keys) false,.p (.int .u8 v.Error),.str v.Text]
def gQ.av (v:gQ):AV:=.agg v.enc
def gQ.fH : List Kd:=[.int .u8,.int .u8,.kS,.str,.int .i64,.bool,.bool,.int .u8,.int .u8,.kS,.str,.int .i64,.int .u8,.kS,.str,.int .i64,.int .u8,.kS,.str,.int .i64,.bool,.bool,.bool,.sl,.int .u8,.str]
theorem gQ.iT (v:gQ):Go.Fw.iT v.enc=true:=fQ rfl (fQ rfl (fQ rfl (fQ rfl (fQ rfl (fQ rfl (fQ rfl (fQ rfl (fQ rfl (fQ rfl (fQ rfl (fQ rfl (fQ rfl (fQ rfl (fQ rfl (fQ rfl (fQ rfl (fQ rfl (fQ rfl (fQ rfl (fQ rfl (fQ rfl (fQ rfl (fQ (fzs dI.iT _) (fQ rfl (fQ rfl (fzn))))))))))))))))))))))))))
theorem gQ.fz (v:gQ):v.av.fz=true:=gQ.iT v
theorem gQ.len (v:gQ):v.enc.length=26:=rfl
theorem gQ.KF (l:List gQ):lI 26 (l.map gQ.enc):=by
 intro row h
 obtain ⟨x,-,rfl⟩:=aW.1 h
 rfl
structure sZ where
 ajX:Int
 Object:Int
 Method:Int
 Key:dI
 Throw:Bool
 Out:gQ
 deriving DecidableEq,Inhabited
def sZ.enc (v:sZ):List AV:=[.p (.int .i64 v.ajX),.p (.int .i64 v.Object),.p (.int .u8 v.Method),.str v.Key.Str,.p (.int .i64 v.Key.Sym),.p (.bool v.Throw),.p (.int .u8 v.Out.Kind),.p (.int .u8 v.Out.Value.Kind),.p (.float .f64 v.Out.Value.Num),.str v.Out.Value.Str,.p (.int .i64 v.Out.Value.Ref),.p (.bool v.Out.Yes),.p (.bool v.Out.Found),.p (.int .u8 v.Out.dS.Has),.p (.int .u8 v.Out.dS.Value.Kind),.p (.float .f64 v.Out.dS.Value.Num),.str v.Out.dS.Value.Str,.p (.int .i64 v.Out.dS.Value.Ref),.p (.int .u8 v.Out.dS.Get.Kind),.p (.float .f64 v.Out.dS.Get.Num),.str v.Out.dS.Get.Str,.p (.int .i64 v.Out.dS.Get.Ref),.p (.int .u8 v.Out.dS.Set.Kind),.p (.float .f64 v.Out.dS.Set.Num),.str v.Out.dS.Set.Str,.p (.int .i64 v.Out.dS.Set.Ref),.p (.bool v.Out.dS.eG),.p (.bool v.Out.dS.dV),.p (.bool v.Out.dS.Configurable),.sl (List.map dI.enc v.Out.Keys) false,.p (.int .u8 v.Out.Error),.str v.Out.Text]
def sZ.av (v:sZ):AV:=.agg v.enc
def sZ.fH : List Kd:=[.int .i64,.int .i64,.int .u8,.str,.int .i64,.bool,.int .u8,.int .u8,.kS,.str,.int .i64,.bool,.bool,.int .u8,.int .u8,.kS,.str,.int .i64,.int .u8,.kS,.str,.int .i64,.int .u8,.kS,.str,.int .i64,.bool,.bool,.bool,.sl,.int .u8,.str]
theorem sZ.iT (v:sZ):Go.Fw.iT v.enc=true:=fQ rfl (fQ rfl (fQ rfl (fQ rfl (fQ rfl (fQ rfl (fQ rfl (fQ rfl (fQ rfl (fQ rfl (fQ rfl (fQ rfl (fQ rfl (fQ rfl (fQ rfl (fQ rfl (fQ rfl (fQ rfl (fQ rfl (fQ rfl (fQ rfl (fQ rfl (fQ rfl (fQ rfl (fQ rfl (fQ rfl (fQ rfl (fQ rfl (fQ rfl (fQ (fzs dI.iT _) (fQ rfl (fQ rfl (fzn))))))))))))))))))))))))))))))))
theorem sZ.fz (v:sZ):v.av.fz=true:=sZ.iT v
theorem sZ.len (v:sZ):v.enc.length=32:=rfl
theorem sZ.KF (l:List sZ):lI 32 (l.map sZ.enc):=by
 intro row h
 obtain ⟨x,-,rfl⟩:=aW.1 h
 rfl
structure gK where
 Method:Int
 Object:Int
 Key:dI
 dS:dJ
 Value:dL
 Receiver:dL
 Args:List dL
 deriving DecidableEq,Inhabited
def gK.enc (v:gK):List AV:=[.p (.int .u8 v.Method),.p (.int .i64 v.Object),.str v.Key.Str,.p (.int .i64 v.Key.Sym),.p (.int .u8 v.dS.Has),.p (.int .u8 v.dS.Value.Kind),.p (.float .f64 v.dS.Value.Num),.str v.dS.Value.Str,.p (.int .i64 v.dS.Value.Ref),.p (.int .u8 v.dS.Get.Kind),.p (.float .f64 v.dS.Get.Num),.str v.dS.Get.Str,.p (.int .i64 v.dS.Get.Ref),.p (.int .u8 v.dS.Set.Kind),.p (.float .f64 v.dS.Set.Num),.str v.dS.Set.Str,.p (.int .i64 v.dS.Set.Ref),.p (.bool v.dS.eG),.p (.bool v.dS.dV),.p (.bool v.dS.Configurable),.p (.int .u8 v.Value.Kind),.p (.float .f64 v.Value.Num),.str v.Value.Str,.p (.int .i64 v.Value.Ref),.p (.int .u8 v.Receiver.Kind),.p (.float .f64 v.Receiver.Num),.str v.Receiver.Str,.p (.int .i64 v.Receiver.Ref),.sl (List.map dL.enc v.Args) false]
def gK.av (v:gK):AV:=.agg v.enc
def gK.fH : List Kd:=[.int .u8,.int .i64,.str,.int .i64,.int .u8,.int .u8,.kS,.str,.int .i64,.int .u8,.kS,.str,.int .i64,.int .u8,.kS,.str,.int .i64,.bool,.bool,.bool,.int .u8,.kS,.str,.int .i64,.int .u8,.kS,.str,.int .i64,.sl]
theorem gK.iT (v:gK):Go.Fw.iT v.enc=true:=fQ rfl (fQ rfl (fQ rfl (fQ rfl (fQ rfl (fQ rfl (fQ rfl (fQ rfl (fQ rfl (fQ rfl (fQ rfl (fQ rfl (fQ rfl (fQ rfl (fQ rfl (fQ rfl (fQ rfl (fQ rfl (fQ rfl (fQ rfl (fQ rfl (fQ rfl (fQ rfl (fQ rfl (fQ rfl (fQ rfl (fQ rfl (fQ rfl (fQ (fzs dL.iT _) (fzn)))))))))))))))))))))))))))))
theorem gK.fz (v:gK):v.av.fz=true:=gK.iT v
theorem gK.len (v:gK):v.enc.length=29:=rfl
theorem gK.KF (l:List gK):lI 29 (l.map gK.enc):=by
 intro row h
 obtain ⟨x,-,rfl⟩:=aW.1 h
 rfl
structure tq where
 Kind:Int
 Ask:gK
 Func:dL
 This:dL
 For:dL
 Args:List dL
 Object:dN
 Out:gQ
 deriving DecidableEq,Inhabited
def tq.enc (v:tq):List AV:=[.p (.int .u8 v.Kind),.p (.int .u8 v.Ask.Method),.p (.int .i64 v.Ask.Object),.str v.Ask.Key.Str,.p (.int .i64 v.Ask.Key.Sym),.p (.int .u8 v.Ask.dS.Has),.p (.int .u8 v.Ask.dS.Value.Kind),.p (.float .f64 v.Ask.dS.Value.Num),.str v.Ask.dS.Value.Str,.p (.int .i64 v.Ask.dS.Value.Ref),.p (.int .u8 v.Ask.dS.Get.Kind),.p (.float .f64 v.Ask.dS.Get.Num),.str v.Ask.dS.Get.Str,.p (.int .i64 v.Ask.dS.Get.Ref),.p (.int .u8 v.Ask.dS.Set.Kind),.p (.float .f64 v.Ask.dS.Set.Num),.str v.Ask.dS.Set.Str,.p (.int .i64 v.Ask.dS.Set.Ref),.p (.bool v.Ask.dS.eG),.p (.bool v.Ask.dS.dV),.p (.bool v.Ask.dS.Configurable),.p (.int .u8 v.Ask.Value.Kind),.p (.float .f64 v.Ask.Value.Num),.str v.Ask.Value.Str,.p (.int .i64 v.Ask.Value.Ref),.p (.int .u8 v.Ask.Receiver.Kind),.p (.float .f64 v.Ask.Receiver.Num),.str v.Ask.Receiver.Str,.p (.int .i64 v.Ask.Receiver.Ref),.sl (List.map dL.enc v.Ask.Args) false,.p (.int .u8 v.Func.Kind),.p (.float .f64 v.Func.Num),.str v.Func.Str,.p (.int .i64 v.Func.Ref),.p (.int .u8 v.This.Kind),.p (.float .f64 v.This.Num),.str v.This.Str,.p (.int .i64 v.This.Ref),.p (.int .u8 v.For.Kind),.p (.float .f64 v.For.Num),.str v.For.Str,.p (.int .i64 v.For.Ref),.sl (List.map dL.enc v.Args) false,.p (.int .u8 v.Object.Kind),.p (.int .u8 v.Object.fB.Kind),.p (.float .f64 v.Object.fB.Num),.str v.Object.fB.Str,.p (.int .i64 v.Object.fB.Ref),.p (.bool v.Object.Ext),.sl (List.map dM.enc v.Object.Props) false,.p (.int .u8 v.Object.Target.Kind),.p (.float .f64 v.Object.Target.Num),.str v.Object.Target.Str,.p (.int .i64 v.Object.Target.Ref),.p (.int .u8 v.Object.Handler.Kind),.p (.float .f64 v.Object.Handler.Num),.str v.Object.Handler.Str,.p (.int .i64 v.Object.Handler.Ref),.str v.Object.Text,.p (.bool v.Object.Calls),.p (.bool v.Object.Makes),.p (.int .u8 v.Out.Kind),.p (.int .u8 v.Out.Value.Kind),.p (.float .f64 v.Out.Value.Num),.str v.Out.Value.Str,.p (.int .i64 v.Out.Value.Ref),.p (.bool v.Out.Yes),.p (.bool v.Out.Found),.p (.int .u8 v.Out.dS.Has),.p (.int .u8 v.Out.dS.Value.Kind),.p (.float .f64 v.Out.dS.Value.Num),.str v.Out.dS.Value.Str,.p (.int .i64 v.Out.dS.Value.Ref),.p (.int .u8 v.Out.dS.Get.Kind),.p (.float .f64 v.Out.dS.Get.Num),.str v.Out.dS.Get.Str,.p (.int .i64 v.Out.dS.Get.Ref),.p (.int .u8 v.Out.dS.Set.Kind),.p (.float .f64 v.Out.dS.Set.Num),.str v.Out.dS.Set.Str,.p (.int .i64 v.Out.dS.Set.Ref),.p (.bool v.Out.dS.eG),.p (.bool v.Out.dS.dV),.p (.bool v.Out.dS.Configurable),.sl (List.map dI.enc v.Out.Keys) false,.p (.int .u8 v.Out.Error),.str v.Out.Text]
def tq.av (v:tq):AV:=.agg v.enc
def tq.fH : List Kd:=[.int .u8,.int .u8,.int .i64,.str,.int .i64,.int .u8,.int .u8,.kS,.str,.int .i64,.int .u8,.kS,.str,.int .i64,.int .u8,.kS,.str,.int .i64,.bool,.bool,.bool,.int .u8,.kS,.str,.int .i64,.int .u8,.kS,.str,.int .i64,.sl,.int .u8,.kS,.str,.int .i64,.int .u8,.kS,.str,.int .i64,.int .u8,.kS,.str,.int .i64,.sl,.int .u8,.int .u8,.kS,.str,.int .i64,.bool,.sl,.int .u8,.kS,.str,.int .i64,.int .u8,.kS,.str,.int .i64,.str,.bool,.bool,.int .u8,.int .u8,.kS,.str,.int .i64,.bool,.bool,.int .u8,.int .u8,.kS,.str,.int .i64,.int .u8,.kS,.str,.int .i64,.int .u8,.kS,.str,.int .i64,.bool,.bool,.bool,.sl,.int .u8,.str]
theorem tq.iT (v:tq):Go.Fw.iT v.enc=true:=fQ rfl (fQ rfl (fQ rfl (fQ rfl (fQ rfl (fQ rfl (fQ rfl (fQ rfl (fQ rfl (fQ rfl (fQ rfl (fQ rfl (fQ rfl (fQ rfl (fQ rfl (fQ rfl (fQ rfl (fQ rfl (fQ rfl (fQ rfl (fQ rfl (fQ rfl (fQ rfl (fQ rfl (fQ rfl (fQ rfl (fQ rfl (fQ rfl (fQ rfl (fQ (fzs dL.iT _) (fQ rfl (fQ rfl (fQ rfl (fQ rfl (fQ rfl (fQ rfl (fQ rfl (fQ rfl (fQ rfl (fQ rfl (fQ rfl (fQ rfl (fQ (fzs dL.iT _) (fQ rfl (fQ rfl (fQ rfl (fQ rfl (fQ rfl (fQ rfl (fQ (fzs dM.iT _) (fQ rfl (fQ rfl (fQ rfl (fQ rfl (fQ rfl (fQ rfl (fQ rfl (fQ rfl (fQ rfl (fQ rfl (fQ rfl (fQ rfl (fQ rfl (fQ rfl (fQ rfl (fQ rfl (fQ rfl (fQ rfl (fQ rfl (fQ rfl (fQ rfl (fQ rfl (fQ rfl (fQ rfl (fQ rfl (fQ rfl (fQ rfl (fQ rfl (fQ rfl (fQ rfl (fQ rfl (fQ rfl (fQ rfl (fQ rfl (fQ (fzs dI.iT _) (fQ rfl (fQ rfl (fzn)))))))))))))))))))))))))))))))))))))))))))))))))))))))))))))))))))))))))))))))))))))))
theorem tq.fz (v:tq):v.av.fz=true:=tq.iT v
theorem tq.len (v:tq):v.enc.length=87:=rfl
theorem tq.KF (l:List tq):lI 87 (l.map tq.enc):=by
 intro row h
 obtain ⟨x,-,rfl⟩:=aW.1 h
 rfl
structure qo where
 shut:Bool
 proto:dL
 keys:List dI
 found:Bool
 desc:dJ
 deriving DecidableEq,Inhabited
def qo.enc (v:qo):List AV:=[.p (.bool v.shut),.p (.int .u8 v.proto.Kind),.p (.float .f64 v.proto.Num),.str v.proto.Str,.p (.int .i64 v.proto.Ref),.sl (List.map dI.enc v.keys) false,.p (.bool v.found),.p (.int .u8 v.desc.Has),.p (.int .u8 v.desc.Value.Kind),.p (.float .f64 v.desc.Value.Num),.str v.desc.Value.Str,.p (.int .i64 v.desc.Value.Ref),.p (.int .u8 v.desc.Get.Kind),.p (.float .f64 v.desc.Get.Num),.str v.desc.Get.Str,.p (.int .i64 v.desc.Get.Ref),.p (.int .u8 v.desc.Set.Kind),.p (.float .f64 v.desc.Set.Num),.str v.desc.Set.Str,.p (.int .i64 v.desc.Set.Ref),.p (.bool v.desc.eG),.p (.bool v.desc.dV),.p (.bool v.desc.Configurable)]
def qo.av (v:qo):AV:=.agg v.enc
def qo.fH : List Kd:=[.bool,.int .u8,.kS,.str,.int .i64,.sl,.bool,.int .u8,.int .u8,.kS,.str,.int .i64,.int .u8,.kS,.str,.int .i64,.int .u8,.kS,.str,.int .i64,.bool,.bool,.bool]
theorem qo.iT (v:qo):Go.Fw.iT v.enc=true:=fQ rfl (fQ rfl (fQ rfl (fQ rfl (fQ rfl (fQ (fzs dI.iT _) (fQ rfl (fQ rfl (fQ rfl (fQ rfl (fQ rfl (fQ rfl (fQ rfl (fQ rfl (fQ rfl (fQ rfl (fQ rfl (fQ rfl (fQ rfl (fQ rfl (fQ rfl (fQ rfl (fQ rfl (fzn)))))))))))))))))))))))
theorem qo.fz (v:qo):v.av.fz=true:=qo.iT v
theorem qo.len (v:qo):v.enc.length=23:=rfl
theorem qo.KF (l:List qo):lI 23 (l.map qo.enc):=by
 intro row h
 obtain ⟨x,-,rfl⟩:=aW.1 h
 rfl
structure nR where
 Ext:Bool
 fB:dL
 Found:Bool
 dS:dJ
 Keys:List dI
 Own:List dJ
 deriving DecidableEq,Inhabited
def nR.enc (v:nR):List AV:=[.p (.bool v.Ext),.p (.int .u8 v.fB.Kind),.p (.float .f64 v.fB.Num),.str v.fB.Str,.p (.int .i64 v.fB.Ref),.p (.bool v.Found),.p (.int .u8 v.dS.Has),.p (.int .u8 v.dS.Value.Kind),.p (.float .f64 v.dS.Value.Num),.str v.dS.Value.Str,.p (.int .i64 v.dS.Value.Ref),.p (.int .u8 v.dS.Get.Kind),.p (.float .f64 v.dS.Get.Num),.str v.dS.Get.Str,.p (.int .i64 v.dS.Get.Ref),.p (.int .u8 v.dS.Set.Kind),.p (.float .f64 v.dS.Set.Num),.str v.dS.Set.Str,.p (.int .i64 v.dS.Set.Ref),.p (.bool v.dS.eG),.p (.bool v.dS.dV),.p (.bool v.dS.Configurable),.sl (List.map dI.enc v.Keys) false,.sl (List.map dJ.enc v.Own) false]
def nR.av (v:nR):AV:=.agg v.enc
def nR.fH : List Kd:=[.bool,.int .u8,.kS,.str,.int .i64,.bool,.int .u8,.int .u8,.kS,.str,.int .i64,.int .u8,.kS,.str,.int .i64,.int .u8,.kS,.str,.int .i64,.bool,.bool,.bool,.sl,.sl]
theorem nR.iT (v:nR):Go.Fw.iT v.enc=true:=fQ rfl (fQ rfl (fQ rfl (fQ rfl (fQ rfl (fQ rfl (fQ rfl (fQ rfl (fQ rfl (fQ rfl (fQ rfl (fQ rfl (fQ rfl (fQ rfl (fQ rfl (fQ rfl (fQ rfl (fQ rfl (fQ rfl (fQ rfl (fQ rfl (fQ rfl (fQ (fzs dI.iT _) (fQ (fzs dJ.iT _) (fzn))))))))))))))))))))))))
theorem nR.fz (v:nR):v.av.fz=true:=nR.iT v
theorem nR.len (v:nR):v.enc.length=24:=rfl
theorem nR.KF (l:List nR):lI 24 (l.map nR.enc):=by
 intro row h
 obtain ⟨x,-,rfl⟩:=aW.1 h
 rfl
end Go.Fw
end
section
namespace Go.Fw
variable [jU]
def X0 : ql:=fun _ _ _ _=>none
def wu (P:Program)(ρ:List AV):List (Pc×Side)->Prop
 |[]=>True
 |x::r=>(Pc.holds ρ x.1->x.2.holds P ρ)/\wu P ρ r
theorem wu.ok {P:Program}{ρ:List AV}:∀{l:List (Pc×Side)},wu P ρ l->jw P ρ l
 |[],_,x,hx=>nomatch hx
 |y::r,h,x,hx=>by
  cases hx with
  |head=>exact h.1
  |tail _ hx=>exact wu.ok h.2 x hx
theorem sc {P:Program}{ρ:List AV}{pc:Pc}{s:Side}{l:List (Pc×Side)}(h:Pc.holds ρ pc->s.holds P ρ)(k:wu P ρ l):wu P ρ ((pc,s)::l):=⟨h,k⟩
theorem Pc.holds.at {ρ:List AV}{pc:Pc}(h:Pc.holds ρ pc)(k:Nat){x:Tm×Bool}(e:pc[k]?=some x):(x.1.den ρ).B=x.2:=h x (aJ e)
theorem jZ {ρ:List AV}{g:Tm}{v:SV}{A:AV}(h:v.den ρ=A):qV ρ [(g,v)]=A:=h
theorem iC {α:Type}{ρ:List AV}{g:Tm}{v:SV}{y:Tm×SV}{r:List (Tm×SV)}(enc:α->AV){c:Bool}{a b:α}(hg:(g.den ρ).B=c)(ha:v.den ρ=enc a)(hb:qV ρ (y::r)=enc b) :
  qV ρ ((g,v)::y::r)=enc (bif c then a else b):=by
 simp only [qV,hg]
 cases c
 .exact hb
 .exact ha
def jy {α:Type}(f:α->List AV)(l:List α):Int:=m_ (List.map f l)
theorem iZ {α:Type}(f:α->List AV)(l:List α):jy f l=l.length:=by simp [jy,m_]
end Go.Fw
end
section
namespace Go.Fw
variable [jU]
theorem arR {i:Int}(h0:0<=i)(h1:i<9223372036854775807):dZ .i64 i 1=i+1:=by
 have e:IntKind.wrap .i64 (i+1)=if (i+1) % 18446744073709551616>=9223372036854775808 then (i+1) % 18446744073709551616-18446744073709551616 else (i+1) % 18446744073709551616:=by
  show (if (true&&decide ((i+1) % 2 ^ 64>=2 ^ (64-1)))=true then (i+1) % 2 ^ 64-2 ^ 64 else (i+1) % 2 ^ 64)=_
  simp
 have h3:(i+1) % 18446744073709551616=i+1:=by omega
 show IntKind.wrap .i64 (i+1)=i+1
 rw [e,h3,if_neg (by omega)]
def lW (b:Bool):Int:=bif b then 0 else 1
theorem amG (b:Bool):dW (lW b) 0=b:=by cases b<;>rfl
def Xi (b:Bool)(l0 l1:List AV):Nat×List AV:=bif b then (0,l0) else (1,l1)
theorem ajY {ρ:List AV}{p:Nat}{l:List AV}(h:(ρ.drop p).take l.length=l):∀(i:Nat) (u:AV),l[i]?=some u->ρ.getD (p+i) eX=u:=by
 intro i u hu
 have hi:=(aC.1 hu).1
 rw [<- h,bJ,if_pos hi,List.getElem?_drop] at hu
 simp [aF,hu]
theorem EI {a b:Int}:je a b=true↔a≠b:=by simp [je]
theorem qC {a b:Int}:je a b=false↔a=b:=by simp [je]
theorem mD {a b:Int}:dW a b=true↔a=b:=by simp [dW]
theorem yI {a b:Int}:dW a b=false↔a≠b:=by simp [dW]
theorem aoc {α:Type}[Inhabited α]{f:α->List AV}{l:List α}{i:Int}(h0:0<=i)(h1:i<(l.length:Int)):0<=i/\(List.map f l)[i.toNat]?=some (f (l.getD i.toNat default)):=by
 refine ⟨h0,?_⟩
 have h3:i.toNat<l.length:=by omega
 simp [aF,h3]
end Go.Fw
end
section
namespace Go.Fw
variable [jU]
def Jh (n:Nat):Prop:=∀s t,FloatKind.f64.format.read n≠.nan s t
theorem ajZ {m n:Nat}{o:Ordering}(h:FloatKind.f64.format.order m n=some o):Jh m/\Jh n:=by
 unfold Ieee.Format.order at h
 constructor<;>intro s t e
 .rw [e] at h;simp [Ieee.Datum.order] at h
 .rw [e] at h;cases hm:FloatKind.f64.format.read m<;>rw [hm] at h<;>simp [Ieee.Datum.order] at h
theorem atT {m n:Nat}(h:LP m n=false):Jh m:=(ajZ (by simpa [LP] using h)).1
def oC (x:Nat):Int:=x
def pK (n:Int):Nat:=n.toNat
def jC (x:Nat):Nat:=FloatKind.f64.encode ((FloatKind.f64.decode x).integral .zero)
theorem ahe {x:Nat}(h:Jh x):Extern.MathFloor.toIntegral "math.archTrunc" .zero #[.float .f64 x]=pure (.float .f64 (jC x)):=by
 have e:Extern.MathFloor.toIntegral "math.archTrunc" .zero #[.float .f64 x]=(match FloatKind.f64.decode x with
  | .nan s t=>
   if FloatKind.f64.format.quiet t=t then pure (.float .f64 x) else do
   let kept <- choose (.extern "math.Floor,Ceil,Trunc,RoundToEven.signallingNaN kept" 2)
   pure (.float .f64 (if kept == 1 then x else FloatKind.f64.encode (.nan s (FloatKind.f64.format.quiet t))))
  |d=>pure (.float .f64 (FloatKind.f64.encode (d.integral .zero)))):=by kernel_rfl
 rw [e]
 unfold jC
 cases hd:FloatKind.f64.decode x with
 |nan s t=>exact absurd hd (h s t)
 |_=>rfl
theorem YK {P:Program}{f:FuncId}{fn:Func}{e:Array Value->Sem Value}{a u:Value}{r:AV}(hf:P.funcs[f]?=some fn)(hb:fn.body.isNone=true)(hname:(fn.name == "runtime.NumGoroutine")=false)
  (hn:Extern.findNext fn=none) (he:Extern.find fn=some e) (ha:Ie a=true) (hrun:e #[a]=pure u) (hr:Ie u=true) (hu:r=.p u):PC P f [.p a] r:=by
 intro w fix vs hfix hG hargs
 rw [hf]
 dsimp only
 rw [if_pos hb]
 obtain ⟨v0,rfl⟩:∃v0,vs=[v0]:=by
  have:=hargs.1
  match vs,this with
  |[v0],_=>exact ⟨v0,rfl⟩
 have h0:=hargs.2 0 (.p a) v0 rfl rfl
 obtain rfl:=h0.iw
 subst hu
 refine ⟨u,?_,.p hr⟩
 have hm:(mark (.extern f)).run P w=.ok () w:=rfl
 simp only [callFunc,Sem.run_bind,run_program,Result.andThen_ok,hf,hname,aU,if_false,hb,if_true,hm,hn,he]
 simp [hrun]
def YL (n:Nat):Bool:=match FloatKind.f64.format.read n with | .nan _ _=>true|_=>false
theorem ahf {n:Nat}(h:YL n=false):Jh n:=by
 intro s t e
 unfold YL at h
 rw [e] at h
 cases h
def apE (a b c:FuncId):ql:=fun _ nv f args=>
 match args with
 |[.sc .kS (.lf n)]=>bif Nat.beq f a then some (.sc (.int .u64) (.li (.ofNat n)),nv,[],false) else bif Nat.beq f c&&!YL n then OW (jC n) fun m=>some (.sc .kS (.lf m),nv,[],false) else none
 |[.sc (.int .u64) (.li (.ofNat n))]=>bif Nat.beq f b then some (.sc .kS (.lf n),nv,[],false) else none
 |_=>none
theorem amH {P:Program}{a b c:FuncId}(h1:∀x,PC P a [.p (.float .f64 x)] (.p (.int .u64 (oC x))))(h2:∀x,PC P b [.p (.int .u64 x)] (.p (.float .f64 (pK x))))
  (h3:∀x,Jh x->PC P c [.p (.float .f64 x)] (.p (.float .f64 (jC x)))):∀σ:List AV,iT σ=true->oJ P σ (apE a b c):=by
 intro σ _ pc nv f args r h _ _
 unfold apE at h
 split at h
 .rename_i n
  cases h4:Nat.beq f a
  .simp only [h4,cond_false] at h
   cases h5:Nat.beq f c&&!YL n
   .simp [h5] at h
   .simp only [h5,cond_true,xE,au] at h;subst h
    simp only [ay,Bool.not_eq_true'] at h5
    have:=aA h5.1
    subst this
    exact ⟨h3 n (ahf h5.2),fun h=>by cases h⟩
  .simp only [h4,cond_true,au] at h;subst h
   have:=aA h4
   subst this
   exact ⟨h1 n,fun h=>by cases h⟩
 .rename_i n
  cases h4:Nat.beq f b
  .simp [h4] at h
  .simp only [h4,cond_true,au] at h;subst h
   have:=aA h4
   subst this
   exact ⟨h2 n,fun h=>by cases h⟩
 .cases h
theorem Px : FloatKind.f64.format.read 4845873199050653695=.number false 9007199254740991 0:=by rfl
theorem MC : FloatKind.f64.format.read 14069245235905429503=.number true 9007199254740991 0:=by rfl
theorem NQ (s:Bool)(n d:Nat):Ieee.Toward.cut .zero s n d=n / 2 ^ d:=by
 unfold Ieee.Toward.cut
 simp only [Nat.shiftLeft_eq,Nat.one_mul,Bool.toNat_false,Nat.add_zero]
 rcases Nat.le_total d (n.log2+2) with h|h
 .rw [Nat.min_eq_left h]
 .rw [Nat.min_eq_right h]
  have h1:n<2 ^ (n.log2+2):=cu Nat.lt_log2_self (Nat.pow_le_pow_right (by decide) (by omega))
  have h2:n<2 ^ d:=cu h1 (Nat.pow_le_pow_right (by decide) h)
  rw [Nat.div_eq_of_lt h1,Nat.div_eq_of_lt h2]
theorem apF : FloatKind.f64.format.read 4652218415073722368=.number false 4503599627370496 (-42):=by decide +kernel
theorem apG : FloatKind.f64.format.read 0=.number false 0 (-1074):=by decide +kernel
theorem aj0 {m:Nat}(h1:ZK m 0=true)(h2:Yd m 4652218415073722368=true):∃s k i,FloatKind.f64.format.read m=.number s k i/\k*2 ^ i.toNat / 2 ^ (-i).toNat<=4503599627370496/\(s=false\/k=0)/\(s=false->k*2 ^ (i-min i (-42)).toNat<=4503599627370496*2 ^ ((-42)-min i (-42)).toNat):=by
 unfold ZK at h1
 unfold Yd at h2
 unfold Ieee.Format.order at h1 h2
 rw [apG] at h1
 rw [apF] at h2
 cases hm:FloatKind.f64.format.read m with
 |nan s t=>rw [hm] at h1;simp [Ieee.Datum.order] at h1
 |infinity s=>rw [hm] at h1 h2;cases s<;>simp [Ieee.Datum.order] at h1 h2
 |number s k i=>
  rw [hm] at h1 h2
  simp only [Ieee.Datum.order,Ieee.signed,Nat.shiftLeft_eq,aU,if_false,if_true] at h1 h2
  have c1:∀a b:Int,((some (compare a b) == some Ordering.gt)||(some (compare a b) == some Ordering.eq))=true->b<=a:=by
   intro a b h
   have hc:compare a b=if a<b then Ordering.lt else if a=b then Ordering.eq else Ordering.gt:=rfl
   rw [hc] at h
   by_cases h':a<b
   .rw [if_pos h'] at h;simp at h
   .omega
  have c2:∀a b:Int,((some (compare a b) == some Ordering.lt)||(some (compare a b) == some Ordering.eq))=true->a<=b:=by
   intro a b h
   have hc:compare a b=if a<b then Ordering.lt else if a=b then Ordering.eq else Ordering.gt:=rfl
   rw [hc] at h
   by_cases h':a<b
   .omega
   .rw [if_neg h'] at h
    by_cases h2:a=b
    .omega
    .rw [if_neg h2] at h;simp at h
  have g1:=c1 _ _ h1
  have g2:=c2 _ _ h2
  have hs:s=false\/k=0:=by
   cases s
   .exact .inl rfl
   .right
    simp only [if_true] at g1
    have hp:0<2 ^ (i-min i (-1074)).toNat:=Nat.two_pow_pos _
    rcases Nat.eq_zero_or_pos k with h|h
    .exact h
    .have:0<k*2 ^ (i-min i (-1074)).toNat:=Nat.mul_pos h hp
     have h3:(0:Int) <= -((k*2 ^ (i-min i (-1074)).toNat:Nat):Int):=by simpa using g1
     omega
  have key:s=false->k*2 ^ (i-min i (-42)).toNat<=4503599627370496*2 ^ ((-42)-min i (-42)).toNat:=by
   intro e;subst e
   simp only [aU,if_false] at g2
   exact_mod_cast g2
  refine ⟨s,k,i,rfl,?_,hs,key⟩
  rcases hs with hs|hs
  .have key:=key hs
   rcases Int.le_total i (-42) with hi|hi
   .rw [Int.min_eq_left hi] at key
    have e1:i.toNat=0:=by omega
    have e2:(i-i).toNat=0:=by simp
    rw [e1,Nat.pow_zero,Nat.mul_one]
    rw [e2,Nat.pow_zero,Nat.mul_one] at key
    have h3:2 ^ ((-42)-i).toNat<=2 ^ (-i).toNat:=Nat.pow_le_pow_right (by decide) (by omega)
    exact Nat.div_le_of_le_mul (b_ key (by rw [Nat.mul_comm];exact bW _ h3))
   .rw [Int.min_eq_right hi] at key
    have e3:((-42:Int) - -42).toNat=0:=by decide
    rw [e3,Nat.pow_zero,Nat.mul_one] at key
    have h3:2 ^ i.toNat<=2 ^ (i - -42).toNat:=Nat.pow_le_pow_right (by decide) (by omega)
    exact b_ (Nat.div_le_self _ _) (b_ (Nat.mul_le_mul_left _ h3) key)
  .subst hs;simp
theorem amI {m:Nat}(h1:ZK m 0=true)(h2:Yd m 4652218415073722368=true):∃q:Nat,(FloatKind.f64.decode m).toInt .zero=some (q:Int)/\q<=4503599627370496:=by
 obtain ⟨s,k,i,hm,hb,hs,-⟩:=aj0 h1 h2
 refine ⟨k*2 ^ i.toNat / 2 ^ (-i).toNat,?_,hb⟩
 unfold FloatKind.decode
 rw [hm]
 simp only [Ieee.Datum.toInt,Ieee.Datum.integral,NQ,Nat.shiftLeft_eq]
 rcases hs with rfl|rfl
 .simp [Ieee.signed]
 .cases s<;>simp [Ieee.signed]
theorem atU {P:Program}{ρ:List AV}{x:Tm}(h1:ZK (x.den ρ).F 0=true)(h2:Yd (x.den ρ).F 4652218415073722368=true):Side.holds P ρ (.num .i64 x (.ZL x)):=by
 obtain ⟨q,hq,hb⟩:=amI h1 h2
 have e:((Tm.ZL x).den ρ).I=(q:Int):=by
  show ((FloatKind.f64.decode (x.den ρ).F).toInt .zero).getD 0=_
  rw [hq];rfl
 refine ⟨by rw [e];exact hq,?_,?_⟩
 .rw [e];have:IntKind.i64.min = -9223372036854775808:=rfl;omega
 .rw [e];have:IntKind.i64.max=9223372036854775807:=rfl;omega
end Go.Fw
end
section
namespace Go.Fw
variable [jU]
section
variable {P : Program}
theorem azl {w:World}{E:Env}{t e:TypeId}(hu:P.underlying t=some (.slice e)){rows:List (List AV)}{full:Bool}{v:Value}(h:Rep w E (.sl rows full) v)(ox oy:Operand) :
  ∃b:Bool,(do eqGuard .eql t ox oy v (.slice none 0 0);binOp .eql t v (.slice none 0 0):Sem Value).run P w=.ok (.bool b) w/\(b=true->rows=[]):=by
 have run:∀(a:Option Addr) (n c:Nat),(do eqGuard .eql t ox oy (.slice a n c) (.slice none 0 0);binOp .eql t (.slice a n c) (.slice none 0 0):Sem Value).run P w=.ok (.bool a.isNone) w:=by
  intro a n c
  have key:∀d,(Op.equalIn (d+1) t (.slice a n c) (.slice none 0 0)).run P w=.ok a.isNone w:=by
   intro d
   cases a<;>simp [Op.equalIn,run_underlying hu]
  have key2:(Op.equal t (.slice a n c) (.slice none 0 0)).run P w=.ok a.isNone w:=key 9999
  simp [eqGuard,binOp,key2]
 cases h with
 |slnil _ a=>exact ⟨_,run a 0 0,fun _=>rfl⟩
 |sl _ _ sz c o cap g=>exact ⟨_,run _ _ _,fun h=>by cases h⟩
theorem aj1 {id:Nat}{ops:Array Oper}{o0 o1:Oper}{t e:TypeId}{yt:TypeId}{fr:lY}{ah:AH}{nx:Nat}{Q:AQ}{rows:List (List AV)}{full:Bool}(hops:ops=#[o0,o1])(h0:o0.op=.move (.tmp 0))(g0:o0.guard=none)(d0:o0.dst=some 3)
  (h1:o1.op=.binOp .eql t (.tmp 3) (.const (.slice none 0 0)) yt) (g1:o1.guard=none) (d1:o1.dst=some 4) (hu:P.underlying t=some (.slice e)) (hfr:jm fr 0=some (.sl rows full)) (hlen:4<fr.length)
  (hQ:∀b:Bool,(b=true->rows=[])->Q .normal (xk (xk fr 3 (.sl rows full)) 4 (.p (.bool b))) ah (nx+2)):AW P (.region id ops false) fr ah nx Q:=by
 subst hops
 intro base w E a hs
 refine wp_region ?_
 show wpOps P #[o0,o1] _ [0,1] a w
 rw [wpOps_cons]
 unfold wpOp
 simp only [List.getElem?_toArray,List.getElem?_cons_zero]
 obtain ⟨v,hv,hr⟩:=hs.fr.get 0 _ hfr
 have ev0:a.eval (.tmp 0)=v:=by simp [Act.eval,hv]
 rw [if_pos (by simp [Region.wanted,g0])]
 refine .inl (ayb (P:=P) (s:=pure (.value v)) (v:=v) (w':=w) (by simp [execOp,h0,ev0]) rfl ?_)
 rw [wpOps_cons]
 unfold wpOp
 simp only [List.getElem?_toArray,List.getElem?_cons_zero,List.getElem?_cons_succ]
 rw [if_pos (by simp [Region.wanted,g1])]
 have arS:=hs.fr.put o0.dst hr
 have hput:jm (yx fr o0.dst (.sl rows full)) 3=some (.sl rows full):=by rw [d0];simp only [yx,uF];rw [if_pos ⟨trivial,by omega⟩]
 obtain ⟨v1,hv1,hr1⟩:=arS.get 3 _ hput
 have ev1:(a.put o0.dst v).eval (.tmp 3)=v1:=by simp [Act.eval,hv1]
 have ev2:(a.put o0.dst v).eval (.const (.slice none 0 0))=.slice none 0 0:=rfl
 obtain ⟨b,hb,hbr⟩:=azl (P:=P) hu hr1 (.tmp 3) (.const (.slice none 0 0))
 refine .inl (ayb (P:=P) (s:=do pure (.value (<- (do eqGuard .eql t (.tmp 3) (.const (.slice none 0 0)) v1 (.slice none 0 0);binOp .eql t v1 (.slice none 0 0):Sem Value)))) (v:=.bool b) (w':=w) (by simp only [execOp,h1,ev1,ev2]) ?_ ?_)
 .rw [Sem.run_bind,hb];rfl
 .show G5 base w E Q .normal _ _
  have hfr2:=arS.put (x:=.p (.bool b)) o1.dst (.p rfl)
  have e1:yx (yx fr o0.dst (.sl rows full)) o1.dst (.p (.bool b))=xk (xk fr 3 (.sl rows full)) 4 (.p (.bool b)):=by rw [d0,d1];rfl
  rw [e1] at hfr2
  exact ⟨E,_,ah,nx+2,hQ b hbr,⟨hs.heap.weaken (fun b hb=>by omega),hfr2,by rw [ax6,ax6];exact hs.defers⟩,Step.refl _ _ _⟩
def BN (fn:Func):Option TypeId:=
 match fn.body with
 |some (.seq (.region _ r0 false) (.seq (.seq (.region _ r1 false) (.cond (.tmp 4) (.seq (.region _ r2 false) .ret) .skip)) (.seq (.region _ r3 false) .ret)))=>
  match r0.toList,r1.toList,r2.toList,r3.toList with
  |[a0],[b0,b1],[c0],[d0,d1,d2,d3]=>
   match a0.op,b0.op,b1.op,c0.op,d0.op,d1.op,d2.op,d3.op with
   | .assign (.const (.slice none 0 0)),.move (.tmp 0),.binOp .eql t (.tmp 3) (.const (.slice none 0 0)) _,.assign (.const (.slice none 0 0)),.buildSlice t1 0 ps,.move (.tmp 0),.call ⟨.builtin .append,az,ts⟩,.assign (.tmp 7)=>
    match az.toList,ts.toList with
    |[.tmp 5,.tmp 6],[t2,t3]=>
     bif [a0,b0,b1,c0,d0,d1,d2,d3].all (fun o=>o.guard.isNone)&&([a0,b0,b1,c0,d0,d1,d2,d3].map (·.dst) == [some 2,some 3,some 4,some 2,some 5,some 6,some 7,some 2])&&(Nat.beq t t1&&(Nat.beq t t2&&(Nat.beq t t3&&ps.isEmpty)))
      &&Nat.beq fn.ntmps 8&&decide (fn.name≠ "runtime.NumGoroutine")&&(match fn.results.toList with | [.tmp 2]=>true|_=>false) then some t else none
    |_,_=>none
   |_,_,_,_,_,_,_,_=>none
  |_,_,_,_=>none
 |_=>none
theorem aj2 {f:FuncId}{fn:Func}{t e:TypeId}{i:TypeInfo}{z:List AV}(hfn:P.funcs[f]?=some fn)(h:BN fn=some t)(hu:P.underlying t=some (.slice e))(hi:P.info? e=some i)(hz:aya P e=some z)
  (hzl:z.length=i.size) (hby:i.bytes<=4096) (hsz:i.size≠0) {rows:List (List AV)} (hr:lI i.size rows) (hc:jJ rows=true) (hl:rows.length<=4294967296):PC P f [.sl rows false] (.sl rows false):=by
 unfold BN at h
 split at h
 .rename_i X9 r0 id1 r1 id2 r2 id3 r3 hbody
  split at h
  .rename_i a0 b0 b1 c0 d0 d1 d2 d3 e0 e1 e2 e3
   split at h
   .rename_i t' yt t1 ps az ts q0 q1 q2 q3 q4 q5 q6 q7
    split at h
    .rename_i t2 t3 eas ets
     generalize hg:(([a0,b0,b1,c0,d0,d1,d2,d3].all (fun o=>o.guard.isNone)&&([a0,b0,b1,c0,d0,d1,d2,d3].map (·.dst) == [some 2,some 3,some 4,some 2,some 5,some 6,some 7,some 2])&&(Nat.beq t' t1&&(Nat.beq t' t2&&(Nat.beq t' t3&&ps.isEmpty)))
      &&Nat.beq fn.ntmps 8&&decide (fn.name≠ "runtime.NumGoroutine")&&(match fn.results.toList with | [.tmp 2]=>true|_=>false)))=g at h
     cases g
     .cases h
     .simp only [cond_true,au] at h
      subst h
      simp only [ay,decide_eq_true_eq,beq_iff_eq] at hg
      obtain ⟨⟨⟨⟨⟨hgu,hds⟩,hty,apH,apI,hps⟩,hnt⟩,hname⟩,hres⟩:=hg
      have ht1:=aA hty
      have ht2:=aA apH
      have ht3:=aA apI
      subst ht1;subst ht2;subst ht3
      have hnt:=aA hnt
      simp only [List.all_cons,List.all_nil,Bool.and_true,ay,Option.isNone_iff_eq_none] at hgu
      obtain ⟨ga0,gb0,gb1,gc0,gd0,gd1,gd2,gd3⟩:=hgu
      simp only [aZ,List.map_nil,List.cons.injEq,and_true] at hds
      obtain ⟨da0,db0,db1,dc0,dd0,dd1,dd2,dd3⟩:=hds
      have apJ:ps.toList=[]:=by
       have:ps=#[]:=by simpa using hps
       rw [this]
      have aaU:fn.results.toList=[.tmp 2]:=by
       split at hres
       .assumption
       .cases hres
      have er1:r1=#[b0,b1]:=by apply Array.ext';simpa using e1
      have one:∀(id:Nat) (ops:Array Oper) (l:List Oper) (fr:lY) (ah:AH) (nx:Nat) (Q:AQ),ops.toList=l->QL P ops none nx 0 l fr ah [] (fun fr' fV=>Q .normal fr' fV (nx+ops.size))->AW P (.region id ops false) fr ah nx Q:=by
       intro id ops l fr ah nx Q hl h
       subst hl
       exact Ws h
      have huE:aya P e=some z:=hz
      have apK:mQ P t'=some (i.size,i.bytes):=by simp [mQ,hu,hi]
      refine aiB hfn hbody hname (by rw [hnt];simp) ?_
      rw [hnt]
      refine xC (one _ _ _ _ _ _ _ e0 ?_)
      simp only [QL,nH,ga0,aIf,Zl,q0,ev,ofV,ofC,gu,ayt,da0,yx,true_and]
      refine xC (xC (aj1 er1 q1 gb0 db0 q2 gb1 db1 hu (rows:=rows) (full:=false) (by rfl) (by simp [iy]) fun b hb=>?_))
      refine Yb b (by rfl) ?_
      cases b with
      |true=>
       have hrn:=hb rfl
       subst hrn
       rw [if_pos rfl]
       refine xC (one _ _ _ _ _ _ _ e2 ?_)
       simp only [QL,nH,gc0,aIf,Zl,q3,ev,ofV,ofC,gu,ayt,dc0,yx,true_and]
       refine S9 ⟨.inr rfl,?_⟩
       rw [aaU]
       rfl
      |false=>
       rw [if_neg (by simp)]
       refine Ya ?_
       refine xC (one _ _ _ _ _ _ _ e3 ?_)
       have happ:∀(ah:AH) (id1 id2:Nat) (K:rP->Prop),ah id1=some (.rows i.size [])->K ⟨.os id2 i.size 0 (0+rows.length),[(id1,none),(id2,some (.rows i.size (((([]:List (List AV)).drop 0).take 0)++rows)))],id1::[]⟩->
         zG P id2 ah t' t' (.os id1 i.size 0 0) (.sl rows false) K:=by
        intro ah id1 id2 K hab hK
        refine dH.2 ⟨_,apK,hby,hsz,?_,?_,hr,rfl,?_⟩
        .rw [hu];trivial
        .rw [hu];simp [huE,hzl]
        .rw [hab];exact ⟨rfl,by simp,by simpa using hl,hK⟩
       have hbs:∀(id:Nat) (K:rP->Prop),K ⟨.os id i.size 0 0,[(id,some (.rows i.size (ayf i.size 0 [])))],[]⟩->lZ P t' id 0 [] K:=by
        intro id K hK
        unfold lZ
        rw [hu]
        exact dH.2 ⟨i,hi,dH.2 ⟨z,huE,hzl,by simp,dH.2 ⟨[],rfl,hK⟩⟩⟩
       simp only [QL,nH,gd0,gd1,gd2,gd3,aIf,Zl,q4,q5,q6,q7,apJ,VX,eas,ets,ayt,dd0,dd1,dd2,dd3,true_and]
       refine dH.2 ⟨[],rfl,hbs _ _ ?_⟩
       refine dH.2 ⟨.sl rows false,rfl,?_⟩
       refine dH.2 ⟨[.os _ i.size 0 0,.sl rows false],rfl,?_⟩
       have hts:ts=#[t',t']:=by apply Array.ext';simpa using ets
       subst hts
       refine dH.2 ⟨t',rfl,dH.2 ⟨t',rfl,.inl<|happ _ _ _ _ (by simp [qU,upd,ayf]) ?_⟩⟩
       refine dH.2 ⟨.os _ i.size 0 (0+rows.length),rfl,?_⟩
       refine S9 ⟨.inr rfl,?_⟩
       rw [aaU]
       refine dH.2 ⟨.os _ i.size 0 (0+rows.length),rfl,?_⟩
       exact M_ (by simp [qU,upd]) hc (by simp)
    .cases h
   .cases h
  .cases h
 .cases h
theorem ahg {f:FuncId}{fn:Func}{t e:TypeId}{i:TypeInfo}{z:List AV}(hfn:P.funcs[f]?=some fn)(h:BN fn=some t)(hu:P.underlying t=some (.slice e))(hi:P.info? e=some i)(hz:aya P e=some z)
  (hzl:z.length=i.size) (hby:i.bytes<=4096) (hsz:i.size≠0) {rows:List (List AV)} (hr:lI i.size rows) (hc:jJ rows=true) (hl:rows.length<=4294967296) (hfl:rows.all zN=true):PCa P f [.sl rows false] (.sl rows false):=by
 unfold BN at h
 split at h
 .rename_i X9 r0 id1 r1 id2 r2 id3 r3 hbody
  split at h
  .rename_i a0 b0 b1 c0 d0 d1 d2 d3 e0 e1 e2 e3
   split at h
   .rename_i t' yt t1 ps az ts q0 q1 q2 q3 q4 q5 q6 q7
    split at h
    .rename_i t2 t3 eas ets
     generalize hg:(([a0,b0,b1,c0,d0,d1,d2,d3].all (fun o=>o.guard.isNone)&&([a0,b0,b1,c0,d0,d1,d2,d3].map (·.dst) == [some 2,some 3,some 4,some 2,some 5,some 6,some 7,some 2])&&(Nat.beq t' t1&&(Nat.beq t' t2&&(Nat.beq t' t3&&ps.isEmpty)))
      &&Nat.beq fn.ntmps 8&&decide (fn.name≠ "runtime.NumGoroutine")&&(match fn.results.toList with | [.tmp 2]=>true|_=>false)))=g at h
     cases g
     .cases h
     .simp only [cond_true,au] at h
      subst h
      simp only [ay,decide_eq_true_eq,beq_iff_eq] at hg
      obtain ⟨⟨⟨⟨⟨hgu,hds⟩,hty,apH,apI,hps⟩,hnt⟩,hname⟩,hres⟩:=hg
      have ht1:=aA hty
      have ht2:=aA apH
      have ht3:=aA apI
      subst ht1;subst ht2;subst ht3
      have hnt:=aA hnt
      simp only [List.all_cons,List.all_nil,Bool.and_true,ay,Option.isNone_iff_eq_none] at hgu
      obtain ⟨ga0,gb0,gb1,gc0,gd0,gd1,gd2,gd3⟩:=hgu
      simp only [aZ,List.map_nil,List.cons.injEq,and_true] at hds
      obtain ⟨da0,db0,db1,dc0,dd0,dd1,dd2,dd3⟩:=hds
      have apJ:ps.toList=[]:=by
       have:ps=#[]:=by simpa using hps
       rw [this]
      have aaU:fn.results.toList=[.tmp 2]:=by
       split at hres
       .assumption
       .cases hres
      have er1:r1=#[b0,b1]:=by apply Array.ext';simpa using e1
      have one:∀(id:Nat) (ops:Array Oper) (l:List Oper) (fr:lY) (ah:AH) (nx:Nat) (Q:AQ),ops.toList=l->QL P ops none nx 0 l fr ah [] (fun fr' fV=>Q .normal fr' fV (nx+ops.size))->AW P (.region id ops false) fr ah nx Q:=by
       intro id ops l fr ah nx Q hl h
       subst hl
       exact Ws h
      have huE:aya P e=some z:=hz
      have apK:mQ P t'=some (i.size,i.bytes):=by simp [mQ,hu,hi]
      refine agn hfn hbody hname (by rw [hnt];simp) ?_
      rw [hnt]
      refine xC (one _ _ _ _ _ _ _ e0 ?_)
      simp only [QL,nH,ga0,aIf,Zl,q0,ev,ofV,ofC,gu,ayt,da0,yx,true_and]
      refine xC (xC (aj1 er1 q1 gb0 db0 q2 gb1 db1 hu (rows:=rows) (full:=false) (by rfl) (by simp [iy]) fun b hb=>?_))
      refine Yb b (by rfl) ?_
      cases b with
      |true=>
       have hrn:=hb rfl
       subst hrn
       rw [if_pos rfl]
       refine xC (one _ _ _ _ _ _ _ e2 ?_)
       simp only [QL,nH,gc0,aIf,Zl,q3,ev,ofV,ofC,gu,ayt,dc0,yx,true_and]
       refine S9 ⟨.inr rfl,?_⟩
       rw [aaU]
       exact ⟨rfl,rfl,fun b hb=>by cases hb⟩
      |false=>
       rw [if_neg (by simp)]
       refine Ya ?_
       refine xC (one _ _ _ _ _ _ _ e3 ?_)
       have happ:∀(ah:AH) (id1 id2:Nat) (K:rP->Prop),ah id1=some (.rows i.size [])->K ⟨.os id2 i.size 0 (0+rows.length),[(id1,none),(id2,some (.rows i.size (((([]:List (List AV)).drop 0).take 0)++rows)))],id1::[]⟩->
         zG P id2 ah t' t' (.os id1 i.size 0 0) (.sl rows false) K:=by
        intro ah id1 id2 K hab hK
        refine dH.2 ⟨_,apK,hby,hsz,?_,?_,hr,rfl,?_⟩
        .rw [hu];trivial
        .rw [hu];simp [huE,hzl]
        .rw [hab];exact ⟨rfl,by simp,by simpa using hl,hK⟩
       have hbs:∀(id:Nat) (K:rP->Prop),K ⟨.os id i.size 0 0,[(id,some (.rows i.size (ayf i.size 0 [])))],[]⟩->lZ P t' id 0 [] K:=by
        intro id K hK
        unfold lZ
        rw [hu]
        exact dH.2 ⟨i,hi,dH.2 ⟨z,huE,hzl,by simp,dH.2 ⟨[],rfl,hK⟩⟩⟩
       simp only [QL,nH,gd0,gd1,gd2,gd3,aIf,Zl,q4,q5,q6,q7,apJ,VX,eas,ets,ayt,dd0,dd1,dd2,dd3,true_and]
       refine dH.2 ⟨[],rfl,hbs _ _ ?_⟩
       refine dH.2 ⟨.sl rows false,rfl,?_⟩
       refine dH.2 ⟨[.os _ i.size 0 0,.sl rows false],rfl,?_⟩
       have hts:ts=#[t',t']:=by apply Array.ext';simpa using ets
       subst hts
       refine dH.2 ⟨t',rfl,dH.2 ⟨t',rfl,.inl<|happ _ _ _ _ (by simp [qU,upd,ayf]) ?_⟩⟩
       refine dH.2 ⟨.os _ i.size 0 (0+rows.length),rfl,?_⟩
       refine S9 ⟨.inr rfl,?_⟩
       rw [aaU]
       refine dH.2 ⟨.os _ i.size 0 (0+rows.length),rfl,?_⟩
       refine ⟨?_,rfl,fun b hb k hk=>?_⟩
       .exact M_ (by simp [qU,upd]) hc (by simp)
       .have hb':b=_:=bV.1 hb
        subst hb'
        have hk':some (vH.rows i.size ((([]:List (List AV)).drop 0).take 0++rows))=some k:=by rw [<- hk];simp [qU,upd]
        cases hk'
        simpa [vH.GZ] using hfl
    .cases h
   .cases h
  .cases h
 .cases h
def J7 (P:Program)(f:FuncId):Option Nat:=
 match P.funcs[f]? with
 |none=>none
 |some fn=>match BN fn with
  |none=>none
  |some t=>match P.underlying t with
   |some (.slice e)=>match P.info? e,(aya P e).map List.length with
    |some i,some n=>bif Nat.beq n i.size&&(Nat.ble i.bytes 4096&&!Nat.beq i.size 0) then some i.size else none
    |_,_=>none
   |_=>none
def adu (P:Program):ql:=fun pc nv f args=>
 match args with
 |[.sc .sl tm]=>match J7 P f with
  |some n=>some (.sc .sl tm,nv,[(pc,.KF n tm),(pc,.len2 0 tm)],false)
  |none=>none
 |[.slc rows false]=>match J7 P f with
  |some n=>bif rows.all (fun r=>Nat.beq r.length n)&&(Dk rows&&Nat.ble rows.length 4294967296) then some (.slc rows false,nv,[],rows.all acV) else none
  |none=>none
 |_=>none
theorem Uu {f:FuncId}{n:Nat}(h:J7 P f=some n){rows:List (List AV)}(hr:lI n rows)(hc:jJ rows=true)(hl:rows.length<=4294967296):PC P f [.sl rows false] (.sl rows false):=by
 unfold J7 at h
 split at h
 .cases h
 .rename_i fn hfn
  split at h
  .cases h
  .rename_i t ht
   split at h
   .rename_i e hu
    split at h
    .rename_i i m hi hm
     cases hg:Nat.beq m i.size&&(Nat.ble i.bytes 4096&&!Nat.beq i.size 0)
     .simp [hg] at h
     .simp only [hg,cond_true,au] at h;subst h
      simp only [ay,Bool.not_eq_true'] at hg
      simp only [aB] at hm
      obtain ⟨z,hz,hzm⟩:=hm
      exact aj2 hfn ht hu hi hz (by rw [hzm];exact aA hg.1) (aG hg.2.1) (fun e0=>by rw [e0] at hg;exact absurd hg.2.2 (by decide)) hr hc hl
    .cases h
   .cases h
theorem aaV {f:FuncId}{n:Nat}(h:J7 P f=some n){rows:List (List AV)}(hr:lI n rows)(hc:jJ rows=true)(hl:rows.length<=4294967296)(hfl:rows.all zN=true):PCa P f [.sl rows false] (.sl rows false):=by
 unfold J7 at h
 split at h
 .cases h
 .rename_i fn hfn
  split at h
  .cases h
  .rename_i t ht
   split at h
   .rename_i e hu
    split at h
    .rename_i i m hi hm
     cases hg:Nat.beq m i.size&&(Nat.ble i.bytes 4096&&!Nat.beq i.size 0)
     .simp [hg] at h
     .simp only [hg,cond_true,au] at h;subst h
      simp only [ay,Bool.not_eq_true'] at hg
      simp only [aB] at hm
      obtain ⟨z,hz,hzm⟩:=hm
      exact ahg hfn ht hu hi hz (by rw [hzm];exact aA hg.1) (aG hg.2.1) (fun e0=>by rw [e0] at hg;exact absurd hg.2.2 (by decide)) hr hc hl hfl
    .cases h
   .cases h
theorem ahh : ∀σ:List AV,iT σ=true->oJ P σ (adu P):=by
 intro σ hσ pc nv f args r h hp hs
 unfold adu at h
 split at h
 .rename_i tm
  split at h
  .rename_i n hn
   simp only [au] at h;subst h
   have h1:lI n (tm.den σ).R:=hs (pc,.KF n tm) (by simp) hp
   have h2:0+(tm.den σ).R.length<=4294967296:=hs (pc,.len2 0 tm) (by simp) hp
   exact ⟨Uu hn h1 (jV (Tm.qj hσ tm)) (by omega),fun h=>by cases h⟩
  .cases h
 .rename_i rows
  split at h
  .rename_i n hn
   cases hg:rows.all (fun r=>Nat.beq r.length n)&&(Dk rows&&Nat.ble rows.length 4294967296)
   .simp [hg] at h
   .simp only [hg,cond_true,au] at h;subst h
    simp only [ay] at hg
    have hlen:(iL σ rows).length<=4294967296:=by rw [f_];exact aG hg.2.2
    refine ⟨Uu hn (FX hg.1) (Bc hσ hg.2.1) hlen,fun hf=>aaV hn (FX hg.1) (Bc hσ hg.2.1) hlen ?_⟩
    have hf:rows.all acV=true:=hf
    rw [lV,List.all_map,aH]
    intro row hr
    exact IW (aH.1 hf row hr)
  .cases h
 .cases h
def xOr (X Y:ql):ql:=fun pc nv f args=>match X pc nv f args with|some r=>some r|none=>Y pc nv f args
theorem apL {X Y:ql}(hX:∀σ:List AV,iT σ=true->oJ P σ X)(hY:∀σ:List AV,iT σ=true->oJ P σ Y):∀σ:List AV,iT σ=true->oJ P σ (xOr X Y):=by
 intro σ hσ pc nv f args r h hp hs
 unfold xOr at h
 split at h
 .rename_i r' hr
  simp only [au] at h;subst h
  exact hX σ hσ _ _ _ _ _ hr hp hs
 .exact hY σ hσ _ _ _ _ _ h hp hs
end
end Go.Fw
end
section
namespace Go.Fw
variable [jU]
section
variable {P : Program}
def amJ (X Y:Ew):Ew:=fun pc th nx nv f args=>match X pc th nx nv f args with|some r=>some r|none=>Y pc th nx nv f args
theorem afa {X Y:Ew}(hX:∀σ:List AV,iT σ=true->n_ P σ X)(hY:∀σ:List AV,iT σ=true->n_ P σ Y):∀σ:List AV,iT σ=true->n_ P σ (amJ X Y):=by
 intro σ hσ pc th nx nv f args R h hp hs
 unfold amJ at h
 split at h
 .rename_i r' hr
  simp only [au] at h;subst h
  exact hX σ hσ _ _ _ _ _ _ _ hr hp hs
 .exact hY σ hσ _ _ _ _ _ _ _ h hp hs
end
end Go.Fw
end
section
namespace Go.Fw
variable [jU]
end Go.Fw
namespace Go.Fw
variable [jU]
def mdT (n:Nat):Md:=fun g=>(n / 4 ^ g) % 4
end Go.Fw
namespace Go.Fw
variable [jU]
end Go.Fw
namespace Go.Fw
variable [jU]
def rY (kA:List (List Nat))(f:Nat)(keep:List Nat)(l:List (Nat×KT)):FuncId->zT:=fun g=>bif Nat.beq g f then ⟨0,⟨keep,0⟩,fun id=>(l.find? fun x=>Nat.beq x.1 id).map (·.2)⟩ else ⟨0,⟨kA.getD g [],0⟩,fun _=>none⟩
end Go.Fw
namespace Go.Fw
variable [jU]
end Go.Fw
end
section
namespace Go.Fw
variable [jU]
open Go.Lib
structure YM where
 vo:FuncId
 ln:FuncId
 sw:FuncId
 l1:FuncId
 l2:FuncId
 l9:FuncId
def Uw (P:Program)(f:FuncId)(e:Array Value->Sem Value):Prop:=
 ∀args w,(callFunc f args).run P w=((e args).run P w).andThen fun v w'=>.ok (.value v) w'
structure aod (P:Program)(c:YM):Prop where
 vo:Uw P c.vo fun args=>Extern.ReflectliteValue.unpack (args.getD 0 (.tuple #[]))
 ln:Uw P c.ln (Extern.ReflectliteValue.method (Extern.ReflectliteValue.valueError "reflectlite.Value.Len" 0) Extern.ReflectliteValue.len)
 sw:Uw P c.sw (Extern.ReflectliteSwapper.swapper "internal/reflectlite" (Extern.ReflectliteValue.valueError "Swapper"))
 l9:Uw P c.l9 (Extern.ReflectliteSwapper.swap false)
 n1:P.funcs.findIdx? (·.name == "internal/reflectlite" ++ ".Swapper$" ++toString 1)=some c.l1
 n2:P.funcs.findIdx? (·.name == "internal/reflectlite" ++ ".Swapper$" ++toString 2)=some c.l2
 n9:P.funcs.findIdx? (·.name == "internal/reflectlite" ++ ".Swapper$" ++toString 9)=some c.l9
def aj3 (P:Program)(t:TypeId):Option TypeId:=
 match P.info? t with
 |some i=>match i.desc with
  | .slice e=>bif !P.packed t then some e else none
  |_=>none
 |none=>none
theorem YN {P:Program}{t e:TypeId}(h:aj3 P t=some e):∃i,P.info? t=some i/\i.desc=.slice e/\P.packed t=false:=by
 unfold aj3 at h
 split at h
 .rename_i i hi
  split at h
  .rename_i e' he
   cases hp:P.packed t
   .simp [hp] at h;subst h;exact ⟨i,hi,he,rfl⟩
   .simp [hp] at h
  .cases h
 .cases h
def aj6 : TypeDesc->Bool
 | .struct _=>true
 |_=>false
def afb (P:Program)(e:TypeId):Bool:=
 match P.info? e with
 |some ie=>ie.hasPointers&&(!(ie.bytes == 8)&&(match ie.desc with
  | .struct _=>true
  | .named _ u=>(match P.info? u with|some iu=>aj6 iu.desc|none=>false)
  |_=>false))
 |none=>false
theorem aj7 {P:Program}{e:TypeId}(h:afb P e=true):∃ie,P.info? e=some ie/\(∀w,(Extern.Rtype.kind e).run P w=.ok 25 w)/\∀n,swapperK n ie 25=if n=0 then 1 else if n=1 then 2 else 9:=by
 unfold afb at h
 split at h
 .rename_i ie hie
  simp only [ay,Bool.not_eq_true'] at h
  obtain ⟨h1,h2,h3⟩:=h
  refine ⟨ie,hie,fun w=>?_,fun n=>?_⟩
  .split at h3
   .rename_i fs hd
    simp [Extern.Rtype.kind,Extern.Rtype.under,rl_info e ie hie,hd,Result.andThen]
   .rename_i nm u hd
    split at h3
    .rename_i iu hiu
     cases hs:iu.desc with
     |struct fs=>simp [Extern.Rtype.kind,Extern.Rtype.under,rl_info e ie hie,hd,rl_info u iu hiu,hs,Result.andThen]
     |_=>rw [hs] at h3;simp [aj6] at h3
    .cases h3
   .cases h3
  .unfold swapperK
   by_cases e0:n=0
   .simp [e0]
   .by_cases e1:n=1
    .simp [e1]
    .simp [e0,e1,h1,h2]
 .cases h
theorem Ux {w:World}{E:Env}{b sz off n:Nat}{v:Value}(h:Rep w E (.os b sz off n) v):∃p c,v=.slice p n c:=by
 cases h<;>exact ⟨_,_,rfl⟩
theorem afc {w:World}{E:Env}{t:TypeId}{a:AV}{v:Value}(h:Rep w E (.mP t a) v):∃u,v=.iface t u/\Rep w E a u:=by
 cases h with|mP t a v h=>exact ⟨_,rfl,h⟩
theorem wJ {P:Program}{o:Oper}{a:Act}{w w':World}{f:FuncId}{args:Array Value}{v:Value}{next:Act->World->Prop}{Q:Exit->Act->World->Prop}{e:Array Value->Sem Value}(he:Uw P f e)
  (h:∀w',(execOp a.eval o).run P w'=(callFunc f args).run P w') (hr:(e args).run P w=.ok v w') (hn:next (a.put o.dst v) w'):o.wp P a w next Q:=by
 unfold Oper.wp
 rw [h,he,hr]
 exact hn
theorem Uy {w:World}{E:Env}{a:AV}{vs:List Value}(h:iE w E [a] vs):∃v,vs=[v]/\Rep w E a v:=by
 match vs,h.1 with
 |[v],_=>exact ⟨v,rfl,h.2 0 _ _ rfl rfl⟩
theorem adv {P:Program}{t:TypeId}{a:Addr}{w:World}:(Instr.loadAt t (.pointer (some a))).run P w=(loadVar t a).run P w:=by
 simp [Instr.loadAt,Instr.sureAddr]
theorem aaW {P:Program}{t:TypeId}{a:Addr}{v:Value}{w:World}:(Instr.storeAt t (.pointer (some a)) v).run P w=(storeVar t a v).run P w:=by
 simp [Instr.storeAt,Instr.sureAddr]
theorem ayD {row cs:List AV}(h:cs.length=row.length):lay row 0 cs=cs:=by
 simp [lay,h]
theorem adw {P:Program}{e:TypeId}{b:Bool}{sz:Nat}(h:Bj P e=some (b,sz))(w:World):(sizeOf e).run P w=.ok sz w:=by
 unfold Bj at h
 simp only [aV,aB] at h
 obtain ⟨d,hd,i,hi,he⟩:=h
 cases he
 simp [sizeOf,rl_info e i hi,Result.andThen]
theorem aze (i j:Int)(a:Addr)(n cap:Nat)(h:Value):Extern.ReflectliteSwapper.swap false #[.int .i64 i,.int .i64 j,.slice (some a) n cap,h]=(do
 if i<0||i>=n||j<0||j>=n then Extern.ReflectliteSwapper.outOfRange
 Extern.ReflectliteSwapper.exchange (<- Extern.Rtype.ofHandle h) a i.toNat j.toNat):=rfl
theorem aj8 (i j:Nat)(a:Addr)(n cap:Nat)(h:Value)(hi:i<n)(hj:j<n):Extern.ReflectliteSwapper.swap false #[.int .i64 i,.int .i64 j,.slice (some a) n cap,h]=(do Extern.ReflectliteSwapper.exchange (<- Extern.Rtype.ofHandle h) a i j):=by
 rw [aze,if_neg (by simp;omega)]
 simp
end Go.Fw
end
section
namespace Go.Fw
variable [jU]
def xX : List Nat->SV->SV->SV
 |[],_,y=>y
 |j::p,.agg l,y=>.agg (l.set j (xX p (l.getD j .nil) y))
 |j::p,.fA l,y=>.fA (l.set j (xX p (l.getD j .nil) y))
 |_::_,a,_=>a
def zf : List Nat->SV->Option SV
 |[],x=>some x
 |j::p,.agg l=>match CG l j with|some x=>zf p x|none=>none
 |j::p,.fA l=>match CG l j with|some x=>zf p x|none=>none
 |_::_,_=>none
theorem wK {ρ:List AV}{l:List SV}{j:Nat}{x:SV}(h:CG l j=some x):(dQ ρ l).getD j eX=x.den ρ/\l.getD j .nil=x:=by
 have h2:=En (ρ:=ρ) h
 rw [xG] at h
 exact ⟨by simp [aF,h2],by simp [aF,h]⟩
theorem J8 {ρ:List AV}{l:List SV}{j:Nat}{x:SV}:dQ ρ (l.set j x)=(dQ ρ l).set j (x.den ρ):=by simp [nN,List.map_set]
theorem Ji {ρ:List AV}{y:SV}:∀{p:List Nat} {x z:SV},zf p x=some z->(xX p x y).den ρ=wo p (x.den ρ) (y.den ρ)
 |[],x,z,h=>rfl
 |j::p,.agg l,z,h=>by
  simp only [zf] at h
  split at h
  .rename_i x hx
   obtain ⟨e1,e2⟩:=wK (ρ:=ρ) hx
   simp only [xX,SV.den,wo,J8,e1,e2,Ji h]
  .cases h
 |j::p,.fA l,z,h=>by
  simp only [zf] at h
  split at h
  .rename_i x hx
   obtain ⟨e1,e2⟩:=wK (ρ:=ρ) hx
   simp only [xX,SV.den,wo,J8,e1,e2,Ji h]
  .cases h
 |j::p,.sc ..,z,h|j::p,.c _,z,h|j::p,.nil,z,h|j::p,.sf _,z,h|j::p,.slc ..,z,h|j::p,.vp ..,z,h|j::p,.os ..,z,h|j::p,.op ..,z,h|j::p,.fn ..,z,h|j::p,.mP ..,z,h|j::p,.mp _,z,h=>by simp [zf] at h
theorem EJ {ρ:List AV}:∀{p:List Nat} {x z:SV},zf p x=some z->ax8 (x.den ρ) p=z.den ρ
 |[],x,z,h=>by simp only [zf,au] at h;subst h;cases x<;>rfl
 |j::p,.agg l,z,h=>by
  simp only [zf] at h
  split at h
  .rename_i x hx
   simp only [SV.den,ax8,(wK (ρ:=ρ) hx).1,EJ h]
  .cases h
 |j::p,.fA l,z,h=>by
  simp only [zf] at h
  split at h
  .rename_i x hx
   simp only [SV.den,ax8,(wK (ρ:=ρ) hx).1,EJ h]
  .cases h
 |j::p,.sc ..,z,h|j::p,.c _,z,h|j::p,.nil,z,h|j::p,.sf _,z,h|j::p,.slc ..,z,h|j::p,.vp ..,z,h|j::p,.os ..,z,h|j::p,.op ..,z,h|j::p,.fn ..,z,h|j::p,.mP ..,z,h|j::p,.mp _,z,h=>by simp [zf] at h
theorem ahi {y y':AV}(hs:y'.jM=y.jM):∀{p:List Nat} {a:AV},(wo p a y').jM=(wo p a y).jM
 |[],a=>hs
 |j::p,a=>by cases a<;>rfl
theorem NR {l:List AV}{j:Nat}(hj:j<l.length):l.getD j eX=l[j]:=by simp [aF,hj]
theorem EK {l:List AV}{j i:Nat}{x c:AV}(hij:j≠i)(hi:l[i]?=some c):(l.set j x)[i]?=some c:=by rw [List.getElem?_set_ne hij];exact hi
theorem NS {w:World}{E E':Env}{y y':AV}(Q:AV->Prop)(hagg:∀l,Q (.agg l)->∀(i:Nat) (c:AV),l[i]?=some c->Q c)(aaX:∀l,Q (.fA l)->∀(i:Nat) (c:AV),l[i]?=some c->Q c)(hs:y'.jM=y.jM)(hy:∀u,Rep w E y u->Rep w E' y' u)(hall:∀x u,Rep w E x u->Q x->Rep w E' x u):∀{p:List Nat} {a:AV} {v:Value},Q (wo p a (.sl [] true))->ax8 a p≠eX->Rep w E (wo p a y) v->Rep w E' (wo p a y') v
 |[],a,v,_,_,h=>hy _ h
 |j::p,.agg l,v,hc,hne,h=>by
  simp only [ax8] at hne
  simp only [wo] at h hc ⊢
  have hj:j<l.length:=by
   refine Nat.lt_of_not_le fun hle=>hne ?_
   have e:l.getD j eX=eX:=by simp [aF,bP hle]
   rw [e]
   cases p<;>rfl
  have hcj:=hagg _ hc j _ (by rw [bQ hj])
  cases h with
  |agg cs vs hl hsc h=>
   refine .agg _ _ (by simpa using hl) ?_ ?_
   .intro c hcm
    obtain ⟨i,hi⟩:=List.getElem?_of_mem hcm
    by_cases hij:j=i
    .subst hij
     rw [bQ (by simpa using hj)] at hi
     simp only [au] at hi;subst hi
     rw [ahi hs]
     exact hsc _ (aJ (i:=j) (by rw [bQ hj]))
    .rw [List.getElem?_set_ne hij] at hi
     exact hsc c (aJ (i:=i) (EK hij hi))
   .intro i c u hi hu
    by_cases hij:j=i
    .subst hij
     rw [bQ (by simpa using hj)] at hi
     simp only [au] at hi;subst hi
     exact NS Q hagg aaX hs hy hall hcj hne (h j _ u (by rw [bQ hj]) hu)
    .rw [List.getElem?_set_ne hij] at hi
     exact hall _ _ (h i c u (EK hij hi) hu) (hagg _ hc i c (EK hij hi))
 |j::p,.fA l,v,hc,hne,h=>by
  simp only [ax8] at hne
  simp only [wo] at h hc ⊢
  have hj:j<l.length:=by
   refine Nat.lt_of_not_le fun hle=>hne ?_
   have e:l.getD j eX=eX:=by simp [aF,bP hle]
   rw [e]
   cases p<;>rfl
  have hcj:=aaX _ hc j _ (by rw [bQ hj])
  cases h with
  |fA cs vs hl h=>
   refine .fA _ _ (by simpa using hl) ?_
   intro i c u hi hu
   by_cases hij:j=i
   .subst hij
    rw [bQ (by simpa using hj)] at hi
    simp only [au] at hi;subst hi
    exact NS Q hagg aaX hs hy hall hcj hne (h j _ u (by rw [bQ hj]) hu)
   .rw [List.getElem?_set_ne hij] at hi
    exact hall _ _ (h i c u (EK hij hi) hu) (aaX _ hc i c (EK hij hi))
 |_::_,.p _,_,_,hne,_|_::_,.str _,_,_,hne,_|_::_,.sl ..,_,_,hne,_|_::_,.vp ..,_,_,hne,_|_::_,.os ..,_,_,hne,_|_::_,.op ..,_,_,hne,_|_::_,.fn ..,_,_,hne,_|_::_,.mP ..,_,_,hne,_|_::_,.mp _,_,_,hne,_=>absurd rfl hne
theorem MF {y:AV}(hy:y.clean=true):∀{p:List Nat} {a:AV},a.clean=true->(wo p a y).clean=true
 |[],a,_=>hy
 |j::p,.agg l,h=>by
  show kN (l.set j (wo p (l.getD j eX) y))=true
  refine BH fun x hx=>?_
  rcases List.mem_or_eq_of_mem_set hx with hx|rfl
  .exact Gh (l:=l) h hx
  .refine MF hy ?_
   rw [aF]
   cases e:l[j]? with
   |none=>rfl
   |some z=>exact lg (l:=l) h j z e
 |j::p,.fA l,h=>by
  show kN (l.set j (wo p (l.getD j eX) y))=true
  refine BH fun x hx=>?_
  rcases List.mem_or_eq_of_mem_set hx with hx|rfl
  .exact Gh (l:=l) h hx
  .refine MF hy ?_
   rw [aF]
   cases e:l[j]? with
   |none=>rfl
   |some z=>exact lg (l:=l) h j z e
 |_::_,.p _,h|_::_,.str _,h|_::_,.sl ..,h|_::_,.vp ..,h|_::_,.os ..,h|_::_,.op ..,h|_::_,.fn ..,h|_::_,.mP ..,h|_::_,.mp _,h=>h
abbrev apM :=FuncId->Option (List Nat×Nat×Bool)
def apN (P:Program)(oc:apM):Ew:=fun pc th nx nv f args=>
 match oc f with
 |none=>none
 |some c=>
  match G8 (thN th ayi) (DX th nv args).1 with
  |none=>none
  |some az=>match aiM P (DX th nv args).2.1 f with
   |none=>none
   |some r=>match zf c.1 r with
    |some (.sc .sl t)=>bif r.cln&&(IV args||(c.2.2&&(xX c.1 r .nil).kS)) then
     some ⟨[(.lb true,⟨xX c.1 r (.os nx c.2.1 0 (.rlen t)),wrT th [(nx,some (.fO c.2.1 t))],nx+1⟩)],(DX th nv args).2.1+1,(DX th nv args).2.2.map (fun s=>(pc,s))++[(pc,.KO f (yC az) r c.1 c.2.1 c.2.2)]⟩ else none
    |_=>none
theorem uh : ∀{l:List AV} {b:Nat},b∈mO l->∃(i:Nat) (x:AV),l[i]?=some x/\b∈x.refs
 |[],b,h=>by simp [mO] at h
 |y::r,b,h=>by
  simp only [mO,aK] at h
  rcases h with h|h
  .exact ⟨0,y,rfl,h⟩
  .obtain ⟨i,x,h1,h2⟩:=uh h;exact ⟨i+1,x,by simpa using h1,h2⟩
theorem J9 : ∀{l:List (List AV)} {b:Nat},b∈mW l->∃(i:Nat) (x:List AV),l[i]?=some x/\b∈mO x
 |[],b,h=>by simp [mW] at h
 |y::r,b,h=>by
  simp only [mW,aK] at h
  rcases h with h|h
  .exact ⟨0,y,rfl,h⟩
  .obtain ⟨i,x,h1,h2⟩:=J9 h;exact ⟨i+1,x,by simpa using h1,h2⟩
section
variable {P : Program}
theorem Aq {w:World}{E:Env}{a:AV}{v:Value}(h:Rep w E a v):∀b∈a.refs,E.own b≠.free:=by
 induction h with
 |p|str|slnil=>intro b hb;simp [AV.refs,mW] at hb
 |agg cs vs hl hs h ih=>
  intro b hb
  obtain ⟨i,c,hi,hb⟩:=uh hb
  exact ih i c (vs[i]'(by rw [<- hl];exact (aC.1 hi).1)) hi (by simp) b hb
 |fA cs vs hl h ih=>
  intro b hb
  obtain ⟨i,c,hi,hb⟩:=uh hb
  exact ih i c (vs[i]'(by rw [<- hl];exact (aC.1 hi).1)) hi (by simp) b hb
 |sl rows full sz c o cap g h1 h2 h3 h4 h5 h6 h7 ih=>
  intro b hb
  obtain ⟨i,row,hi,hb⟩:=J9 hb
  obtain ⟨j,x,hj,hb⟩:=uh hb
  exact ih i row j x hi hj b hb
 |vp row off c o g h1 h2 h3 h4 ih=>
  intro b hb
  obtain ⟨j,x,hj,hb⟩:=uh hb
  exact ih j x hj b hb
 |mM b sz off a hb=>intro x hx;simp [AV.refs] at hx;subst hx;exact hb
 |os b sz off len c o cap hb=>intro x hx;simp [AV.refs] at hx;subst hx;rw [hb];simp
 |op b sz row off c o hb=>intro x hx;simp [AV.refs] at hx;subst hx;rw [hb];simp
 |fn f first captured vs us hl hl' h h' ih ih'=>
  intro b hb
  simp only [AV.refs,aK] at hb
  rcases hb with hb|hb
  .obtain ⟨i,c,hi,hb⟩:=uh hb
   exact ih i c (vs[i]'(by rw [<- hl];exact (aC.1 hi).1)) hi (by simp) b hb
  .obtain ⟨i,c,hi,hb⟩:=uh hb
   exact ih' i c (us[i]'(by rw [<- hl'];exact (aC.1 hi).1)) hi (by simp) b hb
 |mP t a v h ih=>exact ih
 |mp b c hb=>intro x hx;simp [AV.refs] at hx;subst hx;rw [hb];simp
theorem ahj {base:Nat}{w:World}{E:Env}{b:Nat}{k:vH}(h:qW base w E b k){x:Nat}(hx:x∈k.wH):E.own x≠.free:=by
 cases k with
 |rows sz rs=>
  obtain ⟨i,row,hi,hx⟩:=J9 hx
  obtain ⟨j,y,hj,hx⟩:=uh hx
  rcases h with ⟨-,q2⟩|⟨c,o,arr,ty,q1,q2,q3,q4,q5,q6,q7,q8⟩
  .rw [q2] at hi;simp at hi
  .obtain ⟨v,-,hr⟩:=q8 i row j y hi hj
   exact Aq hr x hx
 |kL ty sz rs=>
  obtain ⟨i,row,hi,hx⟩:=J9 hx
  obtain ⟨j,y,hj,hx⟩:=uh hx
  rcases h with ⟨-,q2⟩|⟨c,o,arr,q1,q2,q3,q4,q5,q6,q7,q8⟩
  .rw [q2] at hi;simp at hi
  .obtain ⟨v,-,hr⟩:=q8 i row j y hi hj
   exact Aq hr x hx
 |it m n k=>
  obtain ⟨c,cm,q1,q2,q3,q4,q5⟩:=h
  simp only [vH.wH,bV] at hx
  subst hx;rw [q5];simp
 |map es=>
  obtain ⟨c,lJ,clock,q1,q2,q3,q4,q5,q6,q7⟩:=h
  simp only [vH.wH,aK] at hx
  rcases hx with hx|hx
  .obtain ⟨i,y,hi,hx⟩:=uh hx
   simp only [bT,aB] at hi
   obtain ⟨e,he,rfl⟩:=hi
   exact Aq (q6 i e (lJ[i]'(by rw [<- q5];exact (aC.1 he).1)) he (by simp)).1 x hx
  .obtain ⟨i,y,hi,hx⟩:=uh hx
   simp only [bT,aB] at hi
   obtain ⟨e,he,rfl⟩:=hi
   exact Aq (q6 i e (lJ[i]'(by rw [<- q5];exact (aC.1 he).1)) he (by simp)).2.1 x hx
theorem MG {w:World}{E E':Env}(hf:∀c o,E.fix c o->E'.fix c o){a:AV}{v:Value}(h:Rep w E a v)(hc:a.clean=true):Rep w E' a v:=by
 refine vO hf h fun b hb=>?_
 have:=jR (l:=[a]) (by simp [kN,hc])
 simp only [mO,cZ] at this
 rw [this] at hb;cases hb
theorem Uz {p:List Nat}{r:AV}{rows:List (List AV)}{f:Bool}(h:ax8 r p=.sl rows f):ax8 r p≠eX:=by rw [h];intro e;cases e
theorem amK {oc:apM}:∀σ:List AV,iT σ=true->n_ P σ (apN P oc):=by
 intro ρ hρ pc th nx nv f args R h hp hs base w E ah vs hah hh hG hrep o a he next Q hnext
 unfold apN at h
 split at h
 .cases h
 rename_i c hc
 obtain ⟨p,sz,fl⟩:=c
 dsimp only at h
 split at h
 .cases h
 rename_i az has
 split at h
 .cases h
 rename_i r hr
 split at h
 rotate_left
 .cases h
 rename_i t ht
 cases hg:(r.cln&&(IV args||(fl&&(xX p r .nil).kS)))
 .simp [hg] at h
 simp only [hg,cond_true,au] at h
 subst h
 simp only [ay] at hg
 obtain ⟨hrc,hg⟩:=hg
 have hpre:∀s∈(DX th nv args).2.2,s.holds P ρ:=fun s hm=>hs (pc,s) (cO _ (aW.2 ⟨s,hm,rfl⟩)) hp
 obtain ⟨hpc,aul⟩:=hs (pc,.KO f (yC az) r p sz fl) (dh _ (bV.2 rfl)) hp
 have hfz:=(IX hρ hah hpre (n:=ayi)).trans (xO hρ (F6 hρ hah ayi) has)
 have aum:(r.den ρ).clean=true:=Yp hρ hrc
 have hcell:ax8 (r.den ρ) p=.sl (t.den ρ).R false:=EJ ht
 have hrows:Dj p (r.den ρ)=(t.den ρ).R:=by unfold Dj;rw [hcell];rfl
 
 obtain ⟨fix,hfix,XW,aiq,hback⟩:∃fix:Nat->Nat->Prop,(∀c o,E.fix c o->fix c o)/\(∀c o,fix c o->c<w.heap.size)/\iE w (fC fix) (dQ ρ az) vs/\
   ((∀c o,fix c o->E.fix c o)\/((wo p (r.den ρ) (.sl [] true)).flat=true/\∀row∈Dj p (r.den ρ),zN row=true)):=by
  rw [bf] at hg
  rcases hg with hcl|hcl
  .have hcl':=xK hρ hcl
   rw [uG hcl' (ah:=ah)] at hfz
   refine ⟨E.fix,fun _ _ h=>h,hh.kF,ZA hh (fun _ _ h=>h) hrep hfz (fun b hb=>?_),.inl (fun _ _ h=>h)⟩
   rw [jR hcl'] at hb;cases hb
  .rw [ay] at hcl
   refine ⟨fun c o=>c<w.heap.size,hh.kF,fun c o h=>h,OM hh hh.kF (fun b c o h off=>(hh.kJ b c o h).2) ayi hrep hfz,.inr ⟨?_,aul hcl.1⟩⟩
   have:=JV (ρ:=ρ) hcl.2
   rwa [Ji ht] at this
 have arV:iE w (fC fix) (dQ ρ (yC az)) vs:=iE.weak (sJ (ρ:=ρ)).length (fun i a b h1 h2=>((sJ (ρ:=ρ)).get i a b h1 h2).1) aiq
 have hq:=hpc w fix vs XW (hG.mono hfix fun _ _ _=>rfl) arV
 split at hq
 .exact hq.elim
 rename_i fn hfn
 obtain ⟨hbody,hname,hq⟩:=hq
 have hcall:(callFunc f vs.toArray).run P w=.ok (.enter f vs.toArray) w:=by
  have:(fn.name == "runtime.NumGoroutine")=false:=by simpa using hname
  simp only [callFunc,Sem.run_bind,run_program,Result.andThen_ok,hfn,this,aU,if_false,hbody,Sem.run_pure]
 unfold Oper.wp
 rw [he,hcall]
 refine hq.mono fun e w' hq=>?_
 obtain ⟨v,E1,rfl,hst,hh1,hv⟩:=hq
 rw [hrows] at hh1 hv hback
 let E2:Env:=⟨fun c o=>E.fix c o\/(w.heap.size<=c/\E1.fix c o),fun b=>if b=nx then E1.own 0 else E.own b⟩
 have afd:E.own nx=.free:=hh.fresh nx (dG _)
 have Jj:E2.own nx=E1.own 0:=if_pos rfl
 have own_ne:∀b,b≠nx->E2.own b=E.own b:=fun b h=>if_neg h
 have hblk:∀c,c<w.heap.size->w'.heap[c]?=w.heap[c]?:=hst.below.block
 have hown1:∀c o,E1.own 0=.at c o->w.heap.size<=c/\c<w'.heap.size:=fun c o h=>hh1.kJ 0 c o h
 have hx:Ext w E w' E2:=by
  refine ⟨fun c o h=>.inl h,fun c o h=>World.cell?_of_block (w:=w) (hblk c (hh.kF c o h)),fun b hb=>own_ne b fun e=>hb (by rw [e];exact afd),fun c arr ty fz h=>⟨arr,fz,?_,rfl⟩⟩
  rw [hblk c (bG.1 h).1];exact h
 have aoe:∀c o,E1.fix c o->(∀c o,fix c o->E.fix c o)->E2.fix c o:=fun c o h hb=>by
  rcases Nat.lt_or_ge c w.heap.size with hc|hc
  .exact .inl (hb c o (hst.yK c o hc h))
  .exact .inr ⟨hc,h⟩
 refine hnext _ rfl v w' E2 (upd ah nx (some (.rows sz (t.den ρ).R))) ?_ ⟨hx,hst.below.mono hh.bs,fun c o hc h=>?_,fun c hc _=>hblk c hc,fun b c o h hc=>?_,fun c o h hc=>?_⟩ ?_ ?_
 .exact O_ (wr:=[(nx,some (.fO sz t))]) hah
 .rcases h with h|⟨h,-⟩
  .exact h
  .have:=hh.bs;omega
 .by_cases hb:b=nx
  .subst hb;rw [Jj] at h;have:=(hown1 c o h).1;omega
  .rw [own_ne b hb] at h;exact ⟨b,o,h⟩
 .rcases h with h|⟨h,-⟩
  .exact .inl h
  .omega
 .have hb1:=hh1.blk 0 _ (by rfl:ah1 (.rows sz (t.den ρ).R) 0=some _)
  refine ⟨fun b k hb=>?_,fun b b' k k' c o c' o' hne h1 h2 h3 h4=>?_,fun b hb=>?_,fun c o h=>?_,b_ hh.bs hst.below.size,fun b c o h=>?_⟩
  .by_cases hbn:b=nx
   .subst hbn
    rw [qy rfl] at hb
    simp only [au] at hb;subst hb
    rcases hb1 with ⟨q1,q2⟩|⟨c,o,arr,ty,q1,q2,q3,q4,q5,q6,q7,q8⟩
    .exact .inl ⟨by rw [Jj];exact q1,q2⟩
    .refine .inr ⟨c,o,arr,ty,by rw [Jj];exact q1,b_ hh.bs q2,fun off h=>?_,q4,q5,q6,q7,fun i row j x hi hj=>?_⟩
     .rcases h with h|⟨-,h⟩
      .have:=hh.kF c off h;omega
      .exact q3 off h
     .obtain ⟨u,hu,hxu⟩:=q8 i row j x hi hj
      refine ⟨u,hu,?_⟩
      rcases hback with hb|⟨-,hb⟩
      .refine MG (fun c o h=>aoe c o h hb) hxu ?_
       exact lg (wE (jV (Tm.qj hρ t)) i row hi) j x hj
      .exact Bz hxu (yP (hb row (aJ hi)) j x hj)
   .rw [ax7 hbn] at hb
    have hb':=hh.blk b k hb
    have hk:=hb'.keep (w':=w') (E':=⟨E2.fix,E.own⟩) ⟨fun c o h=>.inl h,hx.cell,fun _ _=>rfl,hx.arr⟩ (fun c o ho=>hblk c (hb'.lt ho).1) (fun c o off ho h=>?_)
    .refine hk.env (fun _ _ h=>h) (fun _ _ _ _ h=>h) (own_ne b hbn) fun x hxr=>own_ne x ?_
     intro e
     rw [e] at hxr
     exact ahj hb' hxr afd
    .rcases h with h|⟨h,-⟩
     .exact h
     .have:=(hb'.lt ho).1;omega
  .have lt0:∀b k c o,b≠nx->ah b=some k->E.own b=.at c o->c<w.heap.size:=fun b k c o _ _ h=>(hh.kJ b c o h).2
   by_cases e1:b=nx
   .subst e1
    rw [Jj] at h3
    rw [own_ne b' (Ne.symm hne)] at h4
    have:=(hown1 c o h3).1
    have:=(hh.kJ b' c' o' h4).2
    omega
   .rw [own_ne b e1] at h3
    by_cases e2:b'=nx
    .subst e2
     rw [Jj] at h4
     have:=(hown1 c' o' h4).1
     have:=(hh.kJ b c o h3).2
     omega
    .rw [own_ne b' e2] at h4
     rw [ax7 e1] at h1
     rw [ax7 e2] at h2
     exact hh.sep b b' k k' c o c' o' hne h1 h2 h3 h4
  .dsimp only at hb
   rw [own_ne b (by omega)];exact hh.fresh b (by omega)
  .rcases h with h|⟨-,h⟩
   .exact cu (hh.kF c o h) hst.below.size
   .exact hh1.kF c o h
  .by_cases hbn:b=nx
   .subst hbn;rw [Jj] at h;exact ⟨b_ hh.bs (hown1 c o h).1,(hown1 c o h).2⟩
   .rw [own_ne b hbn] at h;exact ⟨(hh.kJ b c o h).1,cu (hh.kJ b c o h).2 hst.below.size⟩
 .rw [Ji ht]
  have e9:(SV.os nx sz 0 (.rlen t)).den ρ=.os nx sz 0 (t.den ρ).R.length:=by simp [SV.den,Tm.den,m_,D.I]
  rw [e9]
  have hy:∀u,Rep w' E1 (.os 0 sz 0 (t.den ρ).R.length) u->Rep w' E2 (.os nx sz 0 (t.den ρ).R.length) u:=by
   intro u hu
   generalize (t.den ρ).R.length=len at hu ⊢
   cases hu with
   |mM _ _ _ a1 hb1=>exact .mM nx sz 0 a1 (by rw [Jj];exact hb1)
   |os _ _ _ _ c o cap hb1 hcap hsize=>exact .os nx sz 0 len c o cap (by rw [Jj];exact hb1) hcap hsize
  rcases hback with hb|⟨hb,-⟩
  .exact NS (fun x=>x.clean=true) (fun l h=>lg (l:=l) h) (fun l h=>lg (l:=l) h) (y:=.os 0 sz 0 (t.den ρ).R.length) (y':=.os nx sz 0 (t.den ρ).R.length) rfl hy (fun x u hx hc=>MG (fun c o h=>aoe c o h hb) hx hc) (MF rfl aum) (Uz hcell) hv
  .exact NS (fun x=>x.flat=true) (fun l h=>yP (l:=l) h) (fun l h=>yP (l:=l) h) (y:=.os 0 sz 0 (t.den ρ).R.length) (y':=.os nx sz 0 (t.den ρ).R.length) rfl hy (fun x u hx hc=>Bz hx hc) hb (Uz hcell) hv
end
end Go.Fw
end
section
namespace Go.Fw
variable [jU]
theorem amL {ah:AH}{l:List AV}{a':AV}(h:Go.Fw.mV ah (.agg l)=some a'):∃l',xA ah l=some l'/\a'=.agg l':=by
 simp only [Go.Fw.mV,aB] at h
 obtain ⟨l',h1,rfl⟩:=h;exact ⟨l',h1,rfl⟩
theorem amM {ah:AH}{l:List AV}{a':AV}(h:Go.Fw.mV ah (.fA l)=some a'):∃l',xA ah l=some l'/\a'=.fA l':=by
 simp only [Go.Fw.mV,aB] at h
 obtain ⟨l',h1,rfl⟩:=h;exact ⟨l',h1,rfl⟩
theorem aaY {w:World}{E E':Env}{ah:AH}{y0 y':AV}(Q:AV->Prop)(hagg:∀l,Q (.agg l)->∀(i:Nat) (c:AV),l[i]?=some c->Q c)(aaX:∀l,Q (.fA l)->∀(i:Nat) (c:AV),l[i]?=some c->Q c)
  (hfr:∀x x' u,Rep w E x u->Q x->Go.Fw.mV ah x=some x'->Rep w E' x' u) (hs:y'.jM=true) (hne:y0≠eX) (hy:∀u,Rep w E y0 u->Rep w E' y' u) :
  ∀{p:List Nat} {a a':AV} {v:Value},Q (wo p a (.sl [] true))->ax8 a p=y0->Rep w E a v->Go.Fw.mV ah (wo p a (.sl [] true))=some a'->Rep w E' (wo p a' y') v
 |[],a,a',v,_,hc,h,_=>hy _ (by cases a<;>(simp only [ax8] at hc;subst hc;exact h))
 |j::p,.agg l,a',v,hQ,hc,h,hz=>by
  simp only [ax8] at hc
  simp only [wo] at hz hQ
  have hj:j<l.length:=by
   refine Nat.lt_of_not_le fun hle=>hne ?_
   have e:l.getD j eX=eX:=by simp [aF,bP hle]
   rw [e] at hc;rw [<- hc]
   cases p<;>rfl
  obtain ⟨l',hl',rfl⟩:=amL hz
  obtain ⟨g1,g2⟩:=lF hl'
  have g1:l'.length=l.length:=by simpa using g1
  have hj':j<l'.length:=by omega
  have hlj:l[j]?=some (l.getD j eX):=by rw [NR hj];simp [hj]
  obtain ⟨z,hz1,hz2⟩:=g2 j (l'.getD j eX) (by rw [NR hj'];simp [hj'])
  rw [bQ hj] at hz1
  simp only [au] at hz1;subst hz1
  cases h with
  |agg cs vs hl hsc h=>
   have hsj:=hsc _ (aJ hlj)
   cases p with
   |cons k q=>
    exfalso
    apply hne
    rw [<- hc]
    generalize l.getD j eX=zz at hsj
    cases zz<;>first|rfl|(simp [AV.jM] at hsj)
   |nil=>
   simp only [wo]
   refine .agg _ _ (by simpa [g1] using hl) ?_ ?_
   .intro c hcm
    rcases List.mem_or_eq_of_mem_set hcm with hcm|rfl
    .obtain ⟨i,hi⟩:=List.getElem?_of_mem hcm
     obtain ⟨x,hx1,hx2⟩:=g2 i c hi
     refine Ec hx2 ?_
     by_cases hij:j=i
     .subst hij;rw [bQ hj] at hx1;simp only [au] at hx1;subst hx1;rfl
     .rw [List.getElem?_set_ne hij] at hx1;exact hsc x (aJ hx1)
    .exact hs
   .intro i c u hi hu
    by_cases hij:j=i
    .subst hij
     rw [bQ hj'] at hi
     simp only [au] at hi;subst hi
     refine hy u ?_
     rw [<- hc]
     have:=h j _ u hlj hu
     generalize l.getD j eX=zz at this ⊢
     cases zz<;>exact this
    .rw [List.getElem?_set_ne hij] at hi
     obtain ⟨x,hx1,hx2⟩:=g2 i c hi
     exact hfr x c u (h i x u (by rw [List.getElem?_set_ne hij] at hx1;exact hx1) hu) (hagg _ hQ i x hx1) hx2
 |j::p,.fA l,a',v,hQ,hc,h,hz=>by
  simp only [ax8] at hc
  simp only [wo] at hz hQ
  have hj:j<l.length:=by
   refine Nat.lt_of_not_le fun hle=>hne ?_
   have e:l.getD j eX=eX:=by simp [aF,bP hle]
   rw [e] at hc;rw [<- hc]
   cases p<;>rfl
  obtain ⟨l',hl',rfl⟩:=amM hz
  obtain ⟨g1,g2⟩:=lF hl'
  have g1:l'.length=l.length:=by simpa using g1
  have hj':j<l'.length:=by omega
  have hlj:l[j]?=some (l.getD j eX):=by rw [NR hj];simp [hj]
  obtain ⟨z,hz1,hz2⟩:=g2 j (l'.getD j eX) (by rw [NR hj'];simp [hj'])
  have hQj:=aaX _ hQ j _ (by rw [bQ hj])
  rw [bQ hj] at hz1
  simp only [au] at hz1;subst hz1
  cases h with
  |fA cs vs hl h=>
   simp only [wo]
   refine .fA _ _ (by simpa [g1] using hl) ?_
   intro i c u hi hu
   by_cases hij:j=i
   .subst hij
    rw [bQ hj'] at hi
    simp only [au] at hi;subst hi
    exact aaY Q hagg aaX hfr hs hne hy hQj hc (h j _ u hlj hu) hz2
   .rw [List.getElem?_set_ne hij] at hi
    obtain ⟨x,hx1,hx2⟩:=g2 i c hi
    exact hfr x c u (h i x u (by rw [List.getElem?_set_ne hij] at hx1;exact hx1) hu) (aaX _ hQ i x hx1) hx2
 |_::_,.p _,_,_,_,hc,_,_|_::_,.str _,_,_,_,hc,_,_|_::_,.sl ..,_,_,_,hc,_,_|_::_,.vp ..,_,_,_,hc,_,_|_::_,.os ..,_,_,_,hc,_,_|_::_,.op ..,_,_,_,hc,_,_|_::_,.fn ..,_,_,_,hc,_,_|_::_,.mP ..,_,_,_,hc,_,_|_::_,.mp _,_,_,_,hc,_,_=>absurd hc.symm hne
theorem UA {y:SV}:∀{p:List Nat} {x z:SV},zf p x=some z->zf p (xX p x y)=some y
 |[],x,z,h=>rfl
 |j::p,.agg l,z,h=>by
  simp only [zf] at h
  split at h
  .rename_i x hx
   have hj:j<l.length:=by rw [xG] at hx;exact (aC.1 hx).1
   have e:=(wK (ρ:=[]) hx).2
   simp only [xX,zf,xG,bQ hj,e,UA h]
  .cases h
 |j::p,.fA l,z,h=>by
  simp only [zf] at h
  split at h
  .rename_i x hx
   have hj:j<l.length:=by rw [xG] at hx;exact (aC.1 hx).1
   have e:=(wK (ρ:=[]) hx).2
   simp only [xX,zf,xG,bQ hj,e,UA h]
  .cases h
 |j::p,.sc ..,z,h|j::p,.c _,z,h|j::p,.nil,z,h|j::p,.sf _,z,h|j::p,.slc ..,z,h|j::p,.vp ..,z,h|j::p,.os ..,z,h|j::p,.op ..,z,h|j::p,.fn ..,z,h|j::p,.mP ..,z,h|j::p,.mp _,z,h=>by simp [zf] at h
theorem Py {ρ:List AV}{y:SV}{y':AV}:∀{p:List Nat} {x z:SV},zf p x=some z->wo p ((xX p x y).den ρ) y'=wo p (x.den ρ) y'
 |[],x,z,h=>rfl
 |j::p,.agg l,z,h=>by
  simp only [zf] at h
  split at h
  .rename_i x hx
   have hj:j<(dQ ρ l).length:=by rw [xG] at hx;rw [fZ];exact (aC.1 hx).1
   obtain ⟨e1,e2⟩:=wK (ρ:=ρ) hx
   simp only [xX,SV.den,wo,J8,e2,e1]
   rw [show ((dQ ρ l).set j ((xX p x y).den ρ)).getD j eX=(xX p x y).den ρ by simp [aF,hj],Py h]
   simp
  .cases h
 |j::p,.fA l,z,h=>by
  simp only [zf] at h
  split at h
  .rename_i x hx
   have hj:j<(dQ ρ l).length:=by rw [xG] at hx;rw [fZ];exact (aC.1 hx).1
   obtain ⟨e1,e2⟩:=wK (ρ:=ρ) hx
   simp only [xX,SV.den,wo,J8,e2,e1]
   rw [show ((dQ ρ l).set j ((xX p x y).den ρ)).getD j eX=(xX p x y).den ρ by simp [aF,hj],Py h]
   simp
  .cases h
 |j::p,.sc ..,z,h|j::p,.c _,z,h|j::p,.nil,z,h|j::p,.sf _,z,h|j::p,.slc ..,z,h|j::p,.vp ..,z,h|j::p,.os ..,z,h|j::p,.op ..,z,h|j::p,.fn ..,z,h|j::p,.mP ..,z,h|j::p,.mp _,z,h=>by simp [zf] at h
def amN (th':Tr SB)(nx b:Nat)(rr:List Nat):Bool:=th'.all (fun j k=>!Nat.beq j b&&(Nat.ble (j+1) nx&&k.FZ.all (ayW th')))&&rr.all (ayW th')
def arW (p:List Nat)(v y:SV):Option SV:=match zf p v with|some _=>some (xX p v y)|none=>none
def Pz (p:List Nat)(x:Lf)(b:Nat)(rr:List Nat)(y:Option SV):Option SV:=
 bif amN (ayc x.th 60 rr .e) x.nx b rr then match (xX p x.v .nil).mV (thN (ayc x.th 60 rr .e) ayi),y with
  |some v,some y=>arW p v y
  |_,_=>none
 else none
def afe (p:List Nat)(sz:Nat)(x:Lf):Option SV:=
 match zf p x.v with
 |some .nil=>Pz p x x.nx (xX p x.v .nil).FZ (some (.slc [] false))
 |some (.os b sz' off l)=>match x.th.get b with
  |none=>none
  |some k=>bif Nat.beq sz sz'&&(Nat.beq off 0&&QT k l) then
    match k with
    | .fO sz2 t=>bif Nat.beq sz sz2 then Pz p x b (xX p x.v .nil).FZ (some (.sc .sl t)) else none
    | .rows sz2 rs=>bif Nat.beq sz sz2 then Pz p x b ((xX p x.v .nil).FZ++Dl rs)
     (match L9 (thN (ayc x.th 60 ((xX p x.v .nil).FZ++Dl rs) .e) ayi) rs with|some rs'=>some (.slc rs' false)|none=>none) else none
    |_=>none
   else none
 |_=>none
def YO (p:List Nat)(x:Lf):List Side:=
 match zf p x.v with
 |some (.os b _ _ l)=>match x.th.get b with
  |some k=>WW k l
  |none=>[]
 |_=>[]
section
variable {P : Program} {ρ:List AV}
def aj9 (o:Own)(c:Nat):Prop:=∀o',o≠.at c o'
theorem azm {size:Nat}{w':World}{E2:Env}{th:Tr SB}{nx b:Nat}{rr:List Nat}(hρ:iT ρ=true)(hh:dU size w' E2 (iO ρ th) (fun b=>nx<=b))(hok:amN (ayc th 60 rr .e) nx b rr=true)(ob:Own)(hob:∀c o,ob=.at c o->E2.own b=.at c o/\∃k,iO ρ th b=some k) :
  ∀x x' u,Rep w' E2 x u->(∀j∈x.refs,j∈rr\/(iO ρ (ayc th 60 rr .e) j).isSome=true)->Go.Fw.mV (xq (iO ρ (ayc th 60 rr .e)) ayi) x=some x'->Rep w' (fC fun c o=>E2.fix c o\/(size<=c/\c<w'.heap.size/\aj9 ob c)) x' u:=by
 intro x x' u hx hrf hz
 unfold amN at hok
 simp only [ay] at hok
 obtain ⟨hall,hrr⟩:=hok
 have hsub:∀j k,iO ρ (ayc th 60 rr .e) j=some k->iO ρ th j=some k:=fun j k h=>by
  obtain ⟨z,hz,rfl⟩:=yY h
  have:=EH (acc:=.e) (fun b k h=>by simp [Tr.get] at h) j z hz
  unfold iO;rw [this];rfl
 have hin:∀{j k},iO ρ (ayc th 60 rr .e) j=some k->j≠b/\j<nx/\∀y∈k.wH,(iO ρ (ayc th 60 rr .e) y).isSome=true:=fun {j k} h=>by
  obtain ⟨z,hz,rfl⟩:=yY h
  have:=Tr.JX hall hz
  simp only [ay,Bool.not_eq_true'] at this
  refine ⟨fun e=>by subst e;simp at this,aG this.2.1,fun y hy=>?_⟩
  rw [Eu hρ] at hy
  exact Ny hρ (aH.1 this.2.2 y hy)
 have hpart:=Pg hh hsub (nx:=nx) (fun j k h=>(hin h).2.1) (fun j k h=>(hin h).2.2)
 have aun:∀j∈x.refs,(iO ρ (ayc th 60 rr .e) j).isSome=true:=fun j hj=>by
  rcases hrf j hj with h|h
  .exact Ny hρ (aH.1 hrr j h)
  .exact h
 have hx':=TS (oq:=iO ρ (ayc th 60 rr .e)) hx aun
 refine MW hpart (fix:=fun c o=>E2.fix c o\/(size<=c/\c<w'.heap.size/\aj9 ob c)) (fun c o h=>.inl h) (fun j c o ho off=>.inr ?_) ayi hx' hz
 have hj:(iO ρ (ayc th 60 rr .e) j).isSome=true:=by
  refine Decidable.byContradiction fun h=>?_
  simp [Env.part,h] at ho
 have ho':E2.own j=.at c o:=by simpa [Env.part,hj] using ho
 obtain ⟨k,hk⟩:=Option.isSome_iff_exists.1 hj
 refine ⟨(hh.kJ j c o ho').1,(hh.kJ j c o ho').2,fun o' e=>?_⟩
 obtain ⟨e1,k',hk'⟩:=hob c o' e
 exact hh.sep j b k k' c o c o' (hin hk).1 (hsub j k hk) hk' ho' e1 rfl
def adx (P:Program)(fn:Func)(w:World)(fix:Nat->Nat->Prop)(r:AV)(p:List Nat)(sz:Nat)(a':Act)(w':World):Prop:=
 a'.defers=[]/\∃val E',(results fn a'.tmps).run P w'=.ok val w'/\Step w.heap.size w (fC fix) w' E'/\dU w.heap.size w' E' (ah1 (.rows sz (Dj p r))) (fun b=>1<=b)/\Rep w' E' (wo p r (.os 0 sz 0 (Dj p r).length)) val
theorem PD {p:List Nat}{sz b:Nat}{x:Lf}{rr:List Nat}{y:SV}{yo:Option SV}{r:SV}(hyo:yo=some y)(hρ:iT ρ=true)(h:Pz p x b rr yo=some r){y0:SV}(hg:zf p x.v=some y0)(hy0:y0.den ρ≠eX){fn:Func}{w w':World}{fix:Nat->Nat->Prop}{a':Act}
  (hsz:∀c o,fix c o->c<w.heap.size) (he:Jg P fn w.heap.size w (fC fix) (x.v.den ρ) (iO ρ x.th) x.nx a' w') (hrr:∀j∈(xX p x.v .nil).FZ,j∈rr) (rows:List (List AV)) (hrows:y.den ρ=.sl rows false)
  (hblk:∀E2,dU w.heap.size w' E2 (iO ρ x.th) (fun b=>x.nx<=b)->∃ob:Own,(∀c o,ob=.at c o->E2.own b=.at c o/\∃k,iO ρ x.th b=some k)/\ob≠.free/\
   (∀E3:Env,E3.own 0=ob->(∀z z' u,Rep w' E2 z u->(∀j∈z.refs,j∈rr\/(iO ρ (ayc x.th 60 rr .e) j).isSome=true)->Go.Fw.mV (xq (iO ρ (ayc x.th 60 rr .e)) ayi) z=some z'->Rep w' E3 z' u)->(∀x u,Rep w' E2 x u->x.clean=true->Rep w' E3 x u)->
    (∀c o,ob=.at c o->∀off,¬E3.fix c off)->qW w.heap.size w' E3 0 (.rows sz rows)/\∀u,Rep w' E2 (y0.den ρ) u->Rep w' E3 (.os 0 sz 0 rows.length) u)) :
  adx P fn w fix (r.den ρ) p sz a' w':=by
 subst hyo
 unfold Pz at h
 cases hok:amN (ayc x.th 60 rr .e) x.nx b rr
 .simp [hok] at h
 simp only [hok,cond_true] at h
 split at h
 rotate_left
 .cases h
 rename_i v y' hfz hyy
 simp only [au] at hyy;subst hyy
 unfold arW at h
 split at h
 rotate_left
 .cases h
 rename_i z hz
 simp only [au] at h;subst h
 obtain ⟨h0,E2,val,h1,h2,h3,h4⟩:=he
 obtain ⟨ob,hob,awe,hend⟩:=hblk E2 h4
 let E3:Env:=⟨fun c o=>E2.fix c o\/(w.heap.size<=c/\c<w'.heap.size/\aj9 ob c),fun j=>if j=0 then ob else .free⟩
 have auo:=azm (ρ:=ρ) hρ h4 hok ob hob
 have hfr:∀x' x'' u,Rep w' E2 x' u->(∀j∈x'.refs,j∈rr\/(iO ρ (ayc x.th 60 rr .e) j).isSome=true)->Go.Fw.mV (xq (iO ρ (ayc x.th 60 rr .e)) ayi) x'=some x''->Rep w' E3 x'' u:=
  fun x' x'' u q1 q2 q3=>Iy (E:=E3) (fun _ _ h=>h) (auo x' x'' u q1 q2 q3)
 have hcl:∀x u,Rep w' E2 x u->x.clean=true->Rep w' E3 x u:=fun x u hx hc=>MG (E':=E3) (fun c o h=>Or.inl h) hx hc
 obtain ⟨hb1,hb2⟩:=hend E3 rfl hfr hcl (fun c o e off hf=>by
  rcases hf with hf|⟨-,-,hf⟩
  .obtain ⟨e1,k,hk⟩:=hob c o e
   exact ((h4.blk b k hk).lt e1).2.2 off hf
  .exact hf o e)
 have hcell:ax8 ((xX p v y).den ρ) p=.sl rows false:=by rw [EJ (UA hz),hrows]
 have hrp:Dj p ((xX p v y).den ρ)=rows:=by unfold Dj;rw [hcell];rfl
 refine ⟨h0,val,E3,h1,⟨⟨fun c o h=>.inl (h3.ext.fix c o h),h3.ext.cell,fun b hb=>absurd rfl hb,h3.ext.arr⟩,h3.below,fun c o hc h=>?_,fun c hc _=>h3.below.block c hc,fun j c o h hc=>?_,fun c o h hc=>?_⟩,?_,?_⟩
 .rcases h with h|⟨h,-⟩
  .exact h3.yK c o hc h
  .omega
 .change (if j=0 then ob else Own.free)=.at c o at h
  split at h
  .obtain ⟨e1,-⟩:=hob c o h
   have:=(h4.kJ b c o e1).1;omega
  .cases h
 .rcases h with h|⟨h,-⟩
  .exact (h3.yL c o h hc).imp id (fun ⟨b,o',h⟩=>by cases h)
  .omega
 .rw [hrp]
  refine ⟨fun j k hj=>?_,fun j j' k k' c o c' o' hne e1 e2 _ _=>?_,fun j hj=>?_,fun c o h=>?_,h4.bs,fun j c o h=>?_⟩
  .unfold ah1 at hj
   split at hj
   .rename_i e;subst e
    simp only [au] at hj;subst hj;exact hb1
   .cases hj
  .unfold ah1 at e1 e2
   split at e1
   .split at e2
    .omega
    .cases e2
   .cases e1
  .show (if j=0 then ob else Own.free)=.free
   rw [if_neg (by omega)]
  .rcases h with h|⟨-,h,-⟩
   .exact h4.kF c o h
   .exact h
  .change (if j=0 then ob else Own.free)=.at c o at h
   split at h
   .exact h4.kJ b c o (hob c o h).1
   .cases h
 .rw [hrp,Py hz]
  have hQ0:(wo p (x.v.den ρ) (.sl [] true))=(xX p x.v .nil).den ρ:=(Ji (ρ:=ρ) (y:=.nil) hg).symm
  refine aaY (E:=E2) (E':=E3) (ah:=xq (iO ρ (ayc x.th 60 rr .e)) ayi) (y0:=y0.den ρ) (fun a=>∀j∈a.refs,j∈rr\/(iO ρ (ayc x.th 60 rr .e) j).isSome=true) (fun l hq i c hi j hj=>hq j (jv i c hi hj)) (fun l hq i c hi j hj=>hq j (jv i c hi hj))
   (fun x' x'' u q1 q2 q3=>hfr x' x'' u q1 q2 q3) rfl hy0 hb2 ?_ (EJ hg) h2 ?_
  .intro j hj
   rw [hQ0,xM hρ] at hj
   exact .inl (hrr j hj)
  .rw [hQ0]
   exact Nr hρ (F6 hρ (fun b k hk=>by unfold iO;rw [hk];rfl) ayi) hfz
theorem aaZ {p:List Nat}{sz:Nat}{x:Lf}{r:SV}(hρ:iT ρ=true)(h:afe p sz x=some r)(hsd:∀s∈YO p x,s.holds P ρ){fn:Func}{w w':World}{fix:Nat->Nat->Prop}{a':Act}
  (hsz:∀c o,fix c o->c<w.heap.size) (he:Jg P fn w.heap.size w (fC fix) (x.v.den ρ) (iO ρ x.th) x.nx a' w'):adx P fn w fix (r.den ρ) p sz a' w':=by
 unfold afe at h
 split at h
 .rename_i hg
  refine PD rfl hρ h hg (by intro e;cases e) hsz he (fun j hj=>hj) [] rfl (fun E2 h4=>⟨.empty,fun c o e=>(by cases e),(by intro e;cases e),fun E3 h0 hfr hcl hno=>⟨.inl ⟨h0,rfl⟩,fun u hu=>?_⟩⟩)
  have:∃a1,u=.slice a1 0 0:=by
   cases hu with
   |slnil full a1=>exact ⟨a1,rfl⟩
   |sl _ _ _ _ _ cap _ _ hfull=>have:=hfull rfl;subst this;exact ⟨_,rfl⟩
  obtain ⟨a1,rfl⟩:=this
  exact .mM 0 sz 0 a1 (by rw [h0];intro e;cases e)
 .rename_i b sz' off l hg
  split at h
  .cases h
  rename_i k hk
  cases hc:Nat.beq sz sz'&&(Nat.beq off 0&&QT k l)
  .simp [hc] at h
  simp only [hc,cond_true] at h
  simp only [ay] at hc
  obtain ⟨c1,c2,c3⟩:=hc
  have c4:∀s∈WW k l,s.holds P ρ:=fun s hm=>hsd s (by simp only [YO,hg,hk];exact hm)
  obtain rfl:=aA c1
  obtain rfl:=aA c2
  have hkb:iO ρ x.th b=some (k.den ρ):=by unfold iO;rw [hk];rfl
  have hos:∀{E2 E3:Env} {n m:Nat},n=m->E3.own 0=E2.own b->∀u,Rep w' E2 (.os b sz 0 n) u->Rep w' E3 (.os 0 sz 0 m) u:=by
   intro E2 E3 n m e h0 u hu
   subst e
   cases hu with
   |mM _ _ _ a1 hb1=>exact .mM 0 sz 0 a1 (by rw [h0];exact hb1)
   |os _ _ _ _ c o cap hb1 hcap hsize=>exact .os 0 sz 0 n c o cap (by rw [h0];exact hb1) hcap hsize
  split at h
  .rename_i sz2 t
   cases hs2:Nat.beq sz sz2
   .simp [hs2] at h
   simp only [hs2,cond_true] at h
   obtain rfl:=aA hs2
   refine PD rfl hρ h hg (by intro e;cases e) hsz he (fun j hj=>hj) (t.den ρ).R rfl (fun E2 h4=>⟨E2.own b,fun c o e=>⟨e,_,hkb⟩,(h4.blk b _ hkb).own,fun E3 h0 hfr hcl hno=>⟨?_,?_⟩⟩)
   .rcases h4.blk b _ hkb with ⟨q1,q2⟩|⟨c,o,arr,ty,q1,q2,q3,q4,q5,q6,q7,q8⟩
    .exact .inl ⟨by rw [h0];exact q1,q2⟩
    .refine .inr ⟨c,o,arr,ty,by rw [h0];exact q1,q2,hno c o q1,q4,q5,q6,q7,fun i row j y hi hj=>?_⟩
     obtain ⟨u,hu,hyu⟩:=q8 i row j y hi hj
     exact ⟨u,hu,hcl y u hyu (lg (wE (jV (Tm.qj hρ t)) i row hi) j y hj)⟩
   .exact hos (Ud (ρ:=ρ) c3 c4 rfl) h0
  .rename_i sz2 rs
   cases hs2:Nat.beq sz sz2
   .simp [hs2] at h
   simp only [hs2,cond_true] at h
   obtain rfl:=aA hs2
   split at h
   rotate_left
   .simp [Pz] at h
   rename_i rs' hrs
   have aup:=JW hρ (F6 hρ (ah:=iO ρ (ayc x.th 60 ((xX p x.v .nil).FZ++Dl rs) .e)) (fun b k hk=>by unfold iO;rw [hk];rfl) ayi) hrs
   obtain ⟨g1,g2⟩:=FP aup
   refine PD rfl hρ h hg (by intro e;cases e) hsz he (fun j hj=>cO _ hj) (iL ρ rs') rfl (fun E2 h4=>⟨E2.own b,fun c o e=>⟨e,_,hkb⟩,(h4.blk b _ hkb).own,fun E3 h0 hfr hcl hno=>⟨?_,?_⟩⟩)
   .rcases h4.blk b _ hkb with ⟨q1,q2⟩|⟨c,o,arr,ty,q1,q2,q3,q4,q5,q6,q7,q8⟩
    .refine .inl ⟨by rw [h0];exact q1,?_⟩
     have:(iL ρ rs').length=0:=by rw [g1,q2];rfl
     exact List.eq_nil_of_length_eq_zero this
    .refine .inr ⟨c,o,arr,ty,by rw [h0];exact q1,q2,hno c o q1,q4,by rw [g1];exact q5,fun i row hi=>?_,fun row hm y hy=>?_,fun i row j y hi hj=>?_⟩
     .obtain ⟨row0,e1,e2⟩:=g2 i row hi
      rw [(lF e2).1];exact q6 i row0 e1
     .obtain ⟨i,hi⟩:=List.getElem?_of_mem hm
      obtain ⟨row0,e1,e2⟩:=g2 i row hi
      obtain ⟨j,hj⟩:=List.getElem?_of_mem hy
      obtain ⟨y0,e3,e4⟩:=(lF e2).2 j y hj
      exact Ec e4 (q7 row0 (aJ e1) y0 (aJ e3))
     .obtain ⟨row0,e1,e2⟩:=g2 i row hi
      obtain ⟨y0,e3,e4⟩:=(lF e2).2 j y hj
      obtain ⟨u,hu,hyu⟩:=q8 i row0 j y0 e1 e3
      refine ⟨u,hu,hfr y0 y u hyu (fun q hq=>.inl ?_) e4⟩
      have hq2:q∈mW (iL ρ rs):=vZ i row0 e1 (jv j y0 e3 hq)
      rw [yX hρ] at hq2
      exact dh _ hq2
   .refine hos ?_ h0
    rw [g1]
    exact Ud (ρ:=ρ) c3 c4 rfl
  .cases h
 .cases h
def PE (P:Program)(rs:List ResultVar)(p:List Nat)(sz:Nat):Pc->Nat->List Out->Option (List (Tm×SV)×Nat×List (Pc×Side))
 |_,nv,[]=>some ([],nv,[])
 |pc,nv,o::r=>match Je P rs (jG (wI o.g r) true pc) nv o with
  |none=>none
  |some x=>match afe p sz x with
   |none=>none
   |some v=>match PE P rs p sz (jG o.g false pc) x.nv r with
    |none=>none
    |some (l,u_,sd)=>some ((o.g,v)::l,u_,(x.sd++tag (jG (wI o.g r) true pc) (YO p x) [])++sd)
theorem QA {rs:List ResultVar}{p:List Nat}{sz:Nat}{pc:Pc}{nv:Nat}{o:Out}{r:List Out}:PE P rs p sz pc nv (o::r)=(match Je P rs (jG (wI o.g r) true pc) nv o with
 |none=>none
 |some x=>match afe p sz x with
  |none=>none
  |some v=>match PE P rs p sz (jG o.g false pc) x.nv r with
   |none=>none
   |some (l,u_,sd)=>some ((o.g,v)::l,u_,(x.sd++tag (jG (wI o.g r) true pc) (YO p x) [])++sd)):=rfl
theorem Xj {fn:Func}{N:Nat}(hρ:iT ρ=true){p:List Nat}{sz:Nat}:∀{l:List Out} {pc:Pc} {nv u_:Nat} {rs:List (Tm×SV)} {sd:List (Pc×Side)},PE P fn.results.toList p sz pc nv l=some (rs,u_,sd)->pc.holds ρ->jw P ρ sd->∀{w w':World} {fix:Nat->Nat->Prop} {E':Env} {fr:lY} {ah:AH} {nx:Nat} {a':Act} {e:Exit},
  (∀c o,fix c o->c<w.heap.size)->Gl ρ N l e fr ah nx->OD w.heap.size w' E' fr ah nx a'->Step w.heap.size w (fC fix) w' E'->Jd e=true/\adx P fn w fix (qV ρ rs) p sz a' w'
 |[],pc,nv,u_,rs,sd,h,hp,hs,w,w',fix,E',fr,ah,nx,a',e,hsz,hsel,jB,hstep=>by
  obtain ⟨st,h1,-⟩:=hsel;cases h1
 |[o],pc,nv,u_,rs,sd,h,hp,hs,w,w',fix,E',fr,ah,nx,a',e,hsz,hsel,jB,hstep=>by
  obtain ⟨st,h1,h2⟩:=hsel
  simp only [sel,au,aN] at h1
  obtain ⟨rfl,rfl⟩:=h1
  simp only [PE,wI,jG] at h
  split at h
  .cases h
  .rename_i x hx
   split at h
   .cases h
   .rename_i v hv
    simp only [au,aN,cZ] at h
    obtain ⟨rfl,rfl,rfl⟩:=h
    obtain ⟨q1,q2⟩:=zV (P:=P) hx hp (mY hs) h2 jB hstep
    exact ⟨q1,aaZ hρ hv ((Gf (o8 hs)).1 hp) hsz q2⟩
 |o::o'::r,pc,nv,u_,rs,sd,h,hp,hs,w,w',fix,E',fr,ah,nx,a',e,hsz,hsel,jB,hstep=>by
  obtain ⟨st,h1,h2⟩:=hsel
  simp only [sel] at h1
  rw [QA] at h
  simp only [wI] at h
  split at h
  .cases h
  .rename_i x hx
   split at h
   .cases h
   .rename_i v hv
    split at h
    .cases h
    .rename_i l nv1 sd1 hl
     simp only [au,aN] at h
     obtain ⟨rfl,rfl,rfl⟩:=h
     have aaM:∃y s,l=y::s:=by
      rw [QA] at hl
      split at hl
      .cases hl
      .split at hl
       .cases hl
       .split at hl
        .cases hl
        .simp only [au,aN] at hl;exact ⟨_,_,hl.1.symm⟩
     obtain ⟨y,s,rfl⟩:=aaM
     cases hg:(o.g.den ρ).B
     .rw [hg] at h1
      obtain ⟨q1,q2⟩:=Xj hρ hl (gq hg hp) (o8 hs) hsz ⟨st,h1,h2⟩ jB hstep
      exact ⟨q1,by simpa [qV,hg] using q2⟩
     .rw [hg] at h1
      simp only [cond_true,au,aN] at h1
      obtain ⟨rfl,rfl⟩:=h1
      obtain ⟨q1,q2⟩:=zV (P:=P) hx (gq hg hp) (mY (mY hs)) h2 jB hstep
      exact ⟨q1,by simpa [qV,hg] using aaZ (P:=P) hρ hv ((Gf (o8 (mY hs))).1 (gq hg hp)) hsz q2⟩
def ady (P:Program)(X0:ql)(I0:Ew)(md:Md)(FC:FuncId->zT)(uJ CF:Nat)(f:FuncId)(args:List SV)(nv:Nat)(p:List Nat)(sz:Nat):Option jg:=
 match P.funcs[f]? with
 |none=>none
 |some fn=>match fn.body with
  |none=>none
  |some c=>bif oL fn&&Nat.ble args.length fn.ntmps then
    match uf P ⟨(NK P X0 I0 md FC uJ CF CF).1,is2 md,(NK P X0 I0 md FC uJ CF CF).2,uJ⟩ {FC f with N:=fn.ntmps} CF [] ⟨BL 0 args,.e,0⟩ nv c with
    |none=>none
    |some x=>match PE P fn.results.toList p sz [] x.nv x.outs with
     |none=>none
     |some (l,_,sd)=>some ⟨l,x.sd++sd,x.aw⟩
   else none
theorem amO {X0:ql}{I0:Ew}{md:Md}{FC:FuncId->zT}{uJ CF:Nat}{f:FuncId}{args:List SV}{nv:Nat}{p:List Nat}{sz:Nat}{R:jg}(h:ady P X0 I0 md FC uJ CF f args nv p sz=some R)(hm:P.follows .mixedOrders=true)(hρ:iT ρ=true)(h0:∀σ:List AV,iT σ=true->n_ P σ I0)(hX:∀σ:List AV,iT σ=true->oJ P σ X0)
  (hs:jw P ρ R.sd) (haw:Pn P ρ R.aw):PCo P f (dQ ρ args) (qV ρ R.rs) p sz:=by
 unfold ady at h
 split at h
 .cases h
 rename_i fn hfn
 split at h
 .cases h
 rename_i c hc
 cases hg:oL fn&&Nat.ble args.length fn.ntmps
 .simp [hg] at h
 simp only [hg,cond_true] at h
 split at h
 .cases h
 rename_i x hx
 split at h
 .cases h
 rename_i l u_ sd hl
 simp only [au] at h;subst h
 obtain ⟨h1,h2⟩:=Rt (md:=md) (FC:=FC) (uJ:=uJ) (CF:=CF) hm h0 hX CF
 simp only [ay] at hg
 have hname:fn.name≠ "runtime.NumGoroutine" :=by simpa [oL] using hg.1
 have hlen:=aG hg.2
 intro w fix vs hfix hG hargs
 rw [hfn]
 dsimp only
 refine ⟨by rw [hc];rfl,hname,?_⟩
 have hlenA:(dQ ρ args).length<=fn.ntmps:=by rw [fZ];exact hlen
 have hst:Ic ρ fn.ntmps ⟨BL 0 args,.e,0⟩ (BM fn.ntmps (dQ ρ args)) (fun _=>none) 0:=Ic.of NM (fun b k h=>by simp [Tr.get] at h) (Ap hlenA) (dG _)
 have adt:=oK (G:=⟨(NK P X0 I0 md FC uJ CF CF).1,is2 md,(NK P X0 I0 md FC uJ CF CF).2,uJ⟩) (F:={FC f with N:=fn.ntmps}) hm h1 h2 hρ _ _ _ _ hx (fun x hx=>by cases hx) (mY hs) haw _ _ _ hst
 have jB:OD w.heap.size w (fC fix) (BM fn.ntmps (dQ ρ args)) (fun _=>none) 0 {tmps:=vs.toArray++Array.replicate (fn.ntmps-vs.toArray.size) undef,defers:=[]}:=
  ⟨⟨fun b k hb=>(by cases hb),fun b b' k k' c o c' o' _ hb=>(by cases hb),fun _ _=>rfl,hfix,dG _,fun b c o hb=>(by cases hb)⟩,J6 hG hargs hlenA,rfl⟩
 refine calls_of_wp hfn hc (wp_mono (adt _ w (fC fix) _ jB) fun e a' w' hp'=>?_)
 obtain ⟨E',fr',fV,nx',hsel,Ut,hst'⟩:=hp'
 obtain ⟨q1,q0,val,E3,q2,q3,q4,q5⟩:=Xj (P:=P) (fn:=fn) hρ hl (fun x hx=>by cases hx) (o8 hs) hfix hsel Ut hst'
 have fin:a'.defers=[]/\∃v,(results fn a'.tmps).run P w'=.ok v w'/\∃u E',Ending.returned v=.returned u/\Step w.heap.size w (fC fix) w' E'/\dU w.heap.size w' E' (ah1 (.rows sz (Dj p (qV ρ l)))) (fun b=>1<=b)/\Rep w' E' (wo p (qV ρ l) (.os 0 sz 0 (Dj p (qV ρ l)).length)) u:=
  ⟨q0,val,q2,val,E3,rfl,q3,q4,q5⟩
 cases e<;>first|exact fin|(simp [Jd] at q1)
theorem apP (hm:P.follows .mixedOrders=true){X:ql}(hX:∀σ:List AV,iT σ=true->oJ P σ X){I0:Ew}(h0:∀σ:List AV,iT σ=true->n_ P σ I0){md:Md}{FC:FuncId->zT}{uJ CF f nv:Nat}{args:List SV}{ρ:List AV}{rs:List (Tm×SV)}{sd:List (Pc×Side)}{aw:List Lo}{az:List AV}{r:AV}{p:List Nat}{sz:Nat}
  (h:ady P X I0 md FC uJ CF f args nv p sz=some ⟨rs,sd,aw⟩) (hρ:iT ρ=true) (hs:wu P ρ sd) (hl:Zn P aw ρ) (ha:dQ ρ args=az) (hr:qV ρ rs=r):PCo P f az r p sz:=by
 subst ha;subst hr
 exact amO h hm hρ h0 hX hs.ok hl
end
end Go.Fw
namespace Go.Fw
variable [jU]
def ocT (l:List (Nat×List Nat×Nat×Bool)):apM:=fun f=>(l.find? fun x=>Nat.beq x.1 f).map (·.2)
def mdW (l:List Nat)(md:Md):Md:=fun g=>bif ac4 g l then 2 else md g
theorem aj_ {P:Program}(hm:P.follows .mixedOrders=true){X:ql}(hX:∀σ:List AV,iT σ=true->oJ P σ X){I0:Ew}(h0:∀σ:List AV,iT σ=true->n_ P σ I0){md:Md}{FC:FuncId->zT}{uJ CF f nv:Nat}{args:List SV}{ρ:List AV}{rs:List (Tm×SV)}{sd:List (Pc×Side)}{aw:List Lo}{az:List AV}{r:AV}
  (h:kD P X I0 md FC uJ CF f args nv=some ⟨rs,sd,aw⟩) (hρ:iT ρ=true) (hs:wu P ρ sd) (hl:Zn P aw ρ) (ha:dQ ρ args=az) (hr:qV ρ rs=r):PC P f az r:=by
 subst ha;subst hr
 exact amC h hm hρ h0 hX hs.ok hl
end Go.Fw
end
section
namespace Go.Fw
variable [jU]
def wL : List (Nat×SB)->Nat->Option SB
 |[],_=>none
 |x::r,b=>bif Nat.beq x.1 b then some x.2 else wL r b
theorem vP {ρ:List AV}{b:Nat}:∀{bl:List (Nat×SB)},qX (FV ρ bl) b=(wL bl b).map (SB.den ρ)
 |[]=>rfl
 |x::r=>by
  simp only [FV,aZ,qX,wL]
  cases h:Nat.beq x.1 b
  .simp only [cond_false];exact vP (bl:=r)
  .rfl
def ayX (th:Tr SB):List Nat->Option (List (Nat×SB))
 |[]=>some []
 |b::r=>match th.get b with
  |none=>none
  |some k=>match ayX th r with
   |none=>none
   |some l=>some ((b,k)::l)
theorem Xk {th:Tr SB}:∀{ins:List Nat} {bl:List (Nat×SB)},ayX th ins=some bl->∀b k,wL bl b=some k->th.get b=some k
 |[],bl,h,b,k,hb=>by simp only [ayX,au] at h;subst h;cases hb
 |c::r,bl,h,b,k,hb=>by
  simp only [ayX] at h
  split at h
  .cases h
  .rename_i k0 hk0
   split at h
   .cases h
   .rename_i l hl
    simp only [au] at h;subst h
    simp only [wL] at hb
    cases e:Nat.beq c b
    .simp only [e,cond_false] at hb;exact Xk hl b k hb
    .simp only [e,cond_true,au] at hb;subst hb
     rw [<- aA e];exact hk0
def azf : List (Nat×SB)->Tr SB->Tr SB
 |[],th=>th
 |(b,k)::r,th=>(azf r th).upd yG b (some k)
def inB (bl:List (Nat×SB))(b:Nat):Bool:=match wL bl b with|some _=>true|none=>false
def QB (vw:List (Nat×Nat)):Nat->List (Nat×SB)->Option (List (Nat×SB)×Nat)
 |nv,[]=>some ([],nv)
 |nv,(b,k)::r=>match vw.find? (fun x=>Nat.beq x.1 b) with
  |some (_,sz)=>(match k with
   | .fO sz' _=>bif Nat.beq sz sz' then (match QB vw (nv+1) r with|some (l,n)=>some ((b,.fO sz (.var nv []))::l,n)|none=>none) else none
   | .rows sz' _=>bif Nat.beq sz sz' then (match QB vw (nv+1) r with|some (l,n)=>some ((b,.fO sz (.var nv []))::l,n)|none=>none) else none
   |_=>none)
  |none=>match QB vw nv r with|some (l,n)=>some ((b,k)::l,n)|none=>none
abbrev apQ :=FuncId->Option (List (Nat×Nat))
def azp : List Nat->Nat
 |[]=>0
 |x::r=>Nat.max (x+1) (azp r)
def adz (ins:List Nat):List (Nat×Nat)->List (Nat×Nat)
 |[]=>[]
 |x::r=>match CG ins x.1 with|some b=>(b,x.2)::adz ins r|none=>adz ins r
def okW (bl H_:List (Nat×SB))(n0:Nat)(rf:List Nat):Bool:=
 (bl.all fun x=>Nat.ble (x.1+1) n0&&x.2.FZ.all (inB bl))&&(rf.all (inB bl)&&(H_.all fun x=>inB bl x.1&&x.2.FZ.all (inB bl)))
def apR (P:Program)(wc:apQ):Ew:=fun pc th nx nv f args=>
 match wc f with
 |none=>none
 |some c=>
  let ins:=(Pj th 1000 (Ep args) []).reverse
  match ayX th ins with
  |none=>none
  |some bl=>match QB (adz ins c) nv bl with
   |none=>none
   |some (H_,u_)=>match aiM P u_ f with
    |none=>none
    |some r=>bif r.kS&&okW bl H_ (azp ins) (Ep args) then
     some ⟨[(.lb true,⟨r,azf H_ th,nx⟩)],u_+1,[(pc,.pJ f args bl (azp ins) r H_)]⟩ else none
def Env.NT (E E1:Env)(oq:AH):Env:=⟨E1.fix,fun b=>if (oq b).isSome=true then E1.own b else E.own b⟩
section
variable {base : Nat} {w:World} {E:Env} {ah oq:AH} {F:Nat->Prop}
theorem adA (hh:dU base w E ah F)(hsub:∀b k,oq b=some k->ah b=some k)
  {w':World} {E1:Env} {fV:AH} {F':Nat->Prop} (hst:Step base w (E.part oq) w' E1) (hh':dU base w' E1 fV F')
  (hlt':∀b k,fV b=some k->(oq b).isSome=true/\∀x∈k.wH,(oq x).isSome=true) {xq:AH} (hN:∀b,xq b=if (oq b).isSome=true then fV b else ah b) :
  Step base w E w' (E.NT E1 oq)/\dU base w' (E.NT E1 oq) xq F/\
   ∀a v,Rep w' E1 a v->(∀x∈a.refs,(oq x).isSome=true)->Rep w' (E.NT E1 oq) a v:=by
 have ac5:∀b,(oq b).isSome=true->(E.part oq).own b=E.own b:=fun b hb=>by simp [Env.part,hb]
 have Nw:∀b c o,(E.part oq).own b=.at c o->(oq b).isSome=true/\E.own b=.at c o:=fun b c o h=>by
  by_cases hb:(oq b).isSome=true
  .rw [ac5 b hb] at h;exact ⟨hb,h⟩
  .simp [Env.part,hb] at h
 have in1:∀b,(oq b).isSome=true->(E.NT E1 oq).own b=E1.own b:=fun b hb=>by
  simp only [Env.NT];rw [if_pos hb]
 have out1:∀b,¬(oq b).isSome=true->(E.NT E1 oq).own b=E.own b:=fun b hb=>by
  simp only [Env.NT];rw [if_neg hb]
 
 have extra:∀b k c o,¬(oq b).isSome=true->ah b=some k->E.own b=.at c o->∀b' o',(E.part oq).own b'≠.at c o':=fun b k c o hb hk ho b' o' h=>by
  obtain ⟨h1,h2⟩:=Nw b' c o' h
  obtain ⟨k',hk'⟩:=Option.isSome_iff_exists.1 h1
  exact hh.sep b' b k' k c o' c o (fun e=>hb (by rw [<- e];exact h1)) (hsub _ _ hk') hk h2 ho rfl
 have hx:Ext w E w' (E.NT E1 oq):=by
  refine ⟨hst.ext.fix,hst.ext.cell,fun b hb=>?_,hst.ext.arr⟩
  by_cases hin:(oq b).isSome=true
  .rw [in1 b hin]
   have:=hst.ext.own b (by rw [ac5 b hin];exact hb)
   rw [this,ac5 b hin]
  .exact out1 b hin
 refine ⟨⟨hx,hst.below,hst.yK,fun c hc hno=>hst.keep c hc fun b o h=>hno b o (Nw b c o h).2,fun b c o h hc=>?_,fun c o h hc=>?_⟩,⟨fun b k hb=>?_,fun b b' k k' c o c' o' hne h1 h2 h3 h4=>?_,fun b hb=>?_,hh'.kF,hh'.bs,fun b c o h=>?_⟩,fun a v hr hrf=>?_⟩
 .by_cases hin:(oq b).isSome=true
  .rw [in1 b hin] at h
   obtain ⟨b',o',h'⟩:=hst.DN b c o h hc
   exact ⟨b',o',(Nw b' c o' h').2⟩
  .rw [out1 b hin] at h;exact ⟨b,o,h⟩
 .exact (hst.yL c o h hc).imp id fun ⟨b',o',h'⟩=>⟨b',o',(Nw b' c o' h').2⟩
 .rw [hN b] at hb
  split at hb
  .rename_i hin
   exact (hh'.blk b k hb).env (fun _ _ h=>h) (fun _ _ _ _ h=>h) (in1 b hin) fun x hx=>in1 x ((hlt' b k hb).2 x hx)
  .rename_i hle
   have hb0:=hh.blk b k hb
   refine hb0.keep hx (fun c o ho=>hst.keep c (hb0.lt ho).1 (extra b k c o hle hb ho)) (fun c o off ho h=>?_)
   rcases hst.yL c off h (hb0.lt ho).1 with h|⟨b',o',h⟩
   .exact h
   .exact absurd h (extra b k c o hle hb ho b' o')
 .have mix:∀b b' k c o c' o',¬(oq b).isSome=true->ah b=some k->E.own b=.at c o->E1.own b'=.at c' o'->c≠c':=by
   intro b b' k c o c' o' h1 h2 h3 h6 e
   subst e
   obtain ⟨x,y,hxy⟩:=hst.DN b' c o' h6 ((hh.blk b k h2).lt h3).1
   exact extra b k c o h1 h2 h3 x y hxy
  rw [hN b] at h1
  rw [hN b'] at h2
  split at h1
  .rename_i g1
   rw [in1 b g1] at h3
   split at h2
   .rename_i g2
    rw [in1 b' g2] at h4
    exact hh'.sep b b' k k' c o c' o' hne h1 h2 h3 h4
   .rename_i g2
    rw [out1 b' g2] at h4
    exact (mix b' b k' c' o' c o g2 h2 h4 h3).symm
  .rename_i g1
   rw [out1 b g1] at h3
   split at h2
   .rename_i g2
    rw [in1 b' g2] at h4
    exact mix b b' k c o c' o' g1 h1 h3 h4
   .rename_i g2
    rw [out1 b' g2] at h4
    exact hh.sep b b' k k' c o c' o' hne h1 h2 h3 h4
 .have h0:=hh.fresh b hb
  rw [out1 b fun h=>?_]
  .exact h0
  .obtain ⟨k0,hk0⟩:=Option.isSome_iff_exists.1 h
   exact (hh.blk b k0 (hsub _ _ hk0)).own h0
 .by_cases hin:(oq b).isSome=true
  .rw [in1 b hin] at h;exact hh'.kJ b c o h
  .rw [out1 b hin] at h
   have:=hh.kJ b c o h
   exact ⟨this.1,cu this.2 hst.below.size⟩
 .exact vO (E:=E1) (E':=E.NT E1 oq) (fun _ _ h=>h) hr fun x hx=>in1 x (hrf x hx)
end
theorem Xl {vw:List (Nat×Nat)}:∀{bl H_:List (Nat×SB)} {nv u_:Nat},QB vw nv bl=some (H_,u_)->∀b,(wL H_ b).isSome=(wL bl b).isSome
 |[],H_,nv,u_,h,b=>by simp only [QB,au,aN] at h;obtain ⟨rfl,rfl⟩:=h;rfl
 |(c,k)::r,H_,nv,u_,h,b=>by
  simp only [QB] at h
  have fin:∀{k':SB} {l:List (Nat×SB)} {n m:Nat},QB vw n r=some (l,m)->(wL ((c,k')::l) b).isSome=(wL ((c,k)::r) b).isSome:=fun {k' l n m} hl=>by
   simp only [wL]
   cases e:Nat.beq c b
   .simp only [cond_false];exact Xl hl b
   .rfl
  split at h
  .split at h
   .rename_i sz _ _ sz' _
    cases e:Nat.beq sz sz'
    .simp [e] at h
    .simp only [e,cond_true] at h
     split at h
     .rename_i l n hl
      simp only [au,aN] at h;obtain ⟨rfl,rfl⟩:=h
      exact fin hl
     .cases h
   .rename_i sz _ _ sz' _
    cases e:Nat.beq sz sz'
    .simp [e] at h
    .simp only [e,cond_true] at h
     split at h
     .rename_i l n hl
      simp only [au,aN] at h;obtain ⟨rfl,rfl⟩:=h
      exact fin hl
     .cases h
   .cases h
  .split at h
   .rename_i l n hl
    simp only [au,aN] at h;obtain ⟨rfl,rfl⟩:=h
    exact fin hl
   .cases h
theorem UC {b:Nat}{k:SB}:∀{bl:List (Nat×SB)} {th:Tr SB},(azf bl th).get b=some k->wL bl b=some k\/(wL bl b=none/\th.get b=some k)
 |[],th,h=>.inr ⟨rfl,h⟩
 |(c,x)::r,th,h=>by
  simp only [azf] at h
  simp only [wL]
  rcases Tr.o7 _ _ _ _ _ _ h with ⟨rfl,h1⟩|⟨hne,h1⟩
  .exact .inl (by simp only [Nat.beq_refl,cond_true];exact h1)
  .have e:Nat.beq c b=false:=by
    cases e:Nat.beq c b
    .rfl
    .exact absurd (aA e).symm hne
   rw [e]
   exact UC h1
theorem adB {ρ:List AV}{bl:List (Nat×SB)}{b:Nat}(h:inB bl b=true):(qX (FV ρ bl) b).isSome=true:=by
 unfold inB at h
 rw [vP]
 split at h
 .rename_i k hk;rw [hk];rfl
 .cases h
theorem Bg : ∀{bl:List (Nat×SB)} {b:Nat} {k:SB},wL bl b=some k->(b,k)∈bl
 |[],b,k,h=>by cases h
 |x::r,b,k,h=>by
  simp only [wL] at h
  cases e:Nat.beq x.1 b
  .simp only [e,cond_false] at h;exact aP _ (Bg h)
  .simp only [e,cond_true,au] at h;subst h
   rw [<- aA e];exact bg
section
variable {P : Program}
theorem amP {wc:apQ}:∀σ:List AV,iT σ=true->n_ P σ (apR P wc):=by
 intro ρ hρ pc th nx nv f args R h hp hs base w E ah vs hah hh hG hrep o a he next Q hnext
 unfold apR at h
 split at h
 .cases h
 rename_i c hc
 dsimp only at h
 generalize (Pj th 1000 (Ep args) []).reverse=ins at h
 generalize azp ins=n0 at h
 split at h
 .cases h
 rename_i bl hbl
 split at h
 .cases h
 rename_i H_ u_ auq
 split at h
 .cases h
 rename_i r hr
 cases hg:(r.kS&&okW bl H_ n0 (Ep args))
 .simp [hg] at h
 simp only [hg,cond_true,au] at h
 subst h
 simp only [ay] at hg
 obtain ⟨hrf,hg⟩:=hg
 unfold okW at hg
 simp only [ay,aH] at hg
 obtain ⟨g1,g2,g3⟩:=hg
 have hpw:=hs (pc,.pJ f args bl n0 r H_) (bV.2 rfl) hp
 have hsub:∀b k,qX (FV ρ bl) b=some k->ah b=some k:=fun b k h=>by
  rw [vP] at h
  simp only [aB] at h
  obtain ⟨z,hz,rfl⟩:=h
  exact hah b z (Xk hbl b z hz)
 have hlt:∀b k,qX (FV ρ bl) b=some k->b<n0:=fun b k h=>by
  rw [vP] at h
  simp only [aB] at h
  obtain ⟨z,hz,rfl⟩:=h
  exact aG (g1 _ (Bg hz)).1
 have hrefs:∀b k,qX (FV ρ bl) b=some k->∀x∈k.wH,(qX (FV ρ bl) x).isSome=true:=fun b k h x hx=>by
  rw [vP] at h
  simp only [aB] at h
  obtain ⟨z,hz,rfl⟩:=h
  rw [Eu hρ] at hx
  exact adB ((g1 _ (Bg hz)).2 x hx)
 have hpart:=Pg hh hsub hlt hrefs
 have arX:iE w (E.part (qX (FV ρ bl))) (dQ ρ args) vs:=⟨hrep.1,fun i a v ha hv=>TS (hrep.2 i a v ha hv) fun x hx=>by
  have:x∈mO (dQ ρ args):=jv i a ha hx
  rw [r_ hρ] at this
  exact adB (g2 x this)⟩
 have hq:=hpw base w (E.part (qX (FV ρ bl))) vs hpart hG arX
 split at hq
 .exact hq.elim
 rename_i fn hfn
 obtain ⟨hbody,hname,hq⟩:=hq
 have hcall:(callFunc f vs.toArray).run P w=.ok (.enter f vs.toArray) w:=by
  have:(fn.name == "runtime.NumGoroutine")=false:=by simpa using hname
  simp only [callFunc,Sem.run_bind,run_program,Result.andThen_ok,hfn,this,aU,if_false,hbody,Sem.run_pure]
 unfold Oper.wp
 rw [he,hcall]
 refine hq.mono fun e w' hq=>?_
 obtain ⟨v,E1,rfl,hst,hh1,hv⟩:=hq
 have hsome:∀b,(qX (FV ρ H_) b).isSome=(qX (FV ρ bl) b).isSome:=fun b=>by
  rw [vP,vP];simp only [Option.isSome_map];exact Xl auq b
 obtain ⟨q1,q2,q3⟩:=adA (xq:=fun b=>if (qX (FV ρ bl) b).isSome=true then qX (FV ρ H_) b else ah b) hh hsub hst hh1 (fun b k h=>by
  refine ⟨by rw [<- hsome,h];rfl,fun x hx=>?_⟩
  rw [vP] at h
  simp only [aB] at h
  obtain ⟨z,hz,rfl⟩:=h
  rw [Eu hρ] at hx
  exact adB ((g3 _ (Bg hz)).2 x hx)) (fun b=>rfl)
 refine hnext _ rfl v w' _ _ (fun b k hb=>?_) q1 q2 (q3 _ _ hv fun x hx=>?_)
 .rcases UC hb with h1|⟨h1,h2⟩
  .have h3:(qX (FV ρ bl) b).isSome=true:=by rw [<- hsome,vP,h1];rfl
   show (if (qX (FV ρ bl) b).isSome=true then qX (FV ρ H_) b else ah b)=_
   rw [if_pos h3,vP,h1];rfl
  .have h3:¬(qX (FV ρ bl) b).isSome=true:=by rw [<- hsome,vP,h1];simp
   show (if (qX (FV ρ bl) b).isSome=true then qX (FV ρ H_) b else ah b)=_
   rw [if_neg h3];exact hah b k h2
 .have:=LD (JV (ρ:=ρ) hrf)
  have h0:=jR (l:=[r.den ρ]) (by simp [kN,this])
  simp only [mO,cZ] at h0
  rw [h0] at hx;cases hx
end
def UD (vw:List (Nat×Nat))(th:Tr SB):List (Nat×SB)->Option (List SV)
 |[]=>some []
 |(b,k)::r=>match th.get b with
  |none=>none
  |some k'=>match vw.find? (fun x=>Nat.beq x.1 b) with
   |some (_,sz)=>(match xU sz k',UD vw th r with|some v,some l=>some (v::l)|_,_=>none)
   |none=>bif k'.beq k then UD vw th r else none
def akb (bl:List (Nat×SB))(n0:Nat):Bool:=bl.all fun x=>Nat.ble (x.1+1) n0
def apS (bl:List (Nat×SB))(n0:Nat)(th:Tr SB):Bool:=bl.all fun x=>match th.get x.1 with|some k=>k.FZ.all (fun b=>Nat.ble (b+1) n0)|none=>true
def aff (bl:List (Nat×SB))(vw:List (Nat×Nat))(n0:Nat)(x:Lf):Option SV:=bif x.v.kS&&apS bl n0 x.th then (match UD vw x.th bl with|some l=>bif I8 l then some (.fA (x.v::l)) else none|none=>none) else none
def uj (ρ:List AV)(vw:List (Nat×Nat))(cs:List AV):Nat->List (Nat×SB)->List (Nat×vH)
 |_,[]=>[]
 |j,(b,k)::r=>match vw.find? (fun x=>Nat.beq x.1 b) with
  |some (_,sz)=>(b,.rows sz (cs.getD j eX).D.R)::uj ρ vw cs (j+1) r
  |none=>(b,k.den ρ)::uj ρ vw cs j r
section
variable {P : Program} {ρ:List AV}
theorem BO {vw:List (Nat×Nat)}{th:Tr SB}:∀{bl:List (Nat×SB)} {l:List SV} {pre:List AV},UD vw th bl=some l->∀b k,qX (uj ρ vw (pre++dQ ρ l) pre.length bl) b=some k->∃k',th.get b=some k'/\qA (k'.den ρ) k/\(inB bl b=true)/\(k=k'.den ρ\/∃sz v R,v∈l/\v.den ρ=.sl R false/\k=.rows sz R)
 |[],l,pre,h,b,k,hb=>by simp [uj,qX] at hb
 |(c,kc)::r,l,pre,h,b,k,hb=>by
  simp only [UD] at h
  split at h
  .cases h
  rename_i k' hk'
  simp only [uj] at hb
  split at h
  .rename_i x sz hf
   rw [hf] at hb
   split at h
   rotate_left
   .cases h
   rename_i v l' hv hl
   simp only [au] at h;subst h
   obtain ⟨rs,R,d1,d2,d3,-⟩:=Du (ρ:=ρ) hv
   simp only [qX] at hb
   cases e:Nat.beq c b
   .simp only [e,cond_false] at hb
    have e2:pre++dQ ρ (v::l')=(pre++[v.den ρ])++dQ ρ l':=by simp [dQ]
    rw [e2] at hb
    obtain ⟨k2,g1,g2,g3,g4⟩:=BO (pre:=pre++[v.den ρ]) hl b k (by simpa using hb)
    refine ⟨k2,g1,g2,?_,g4.imp id fun ⟨a1,a2,a3,a4,a5⟩=>⟨a1,a2,a3,aP _ a4,a5⟩⟩
    unfold inB at g3 ⊢
    simp only [wL,e,cond_false];exact g3
   .simp only [e,cond_true,au] at hb
    have eb:=aA e
    subst eb
    have e3:(pre++dQ ρ (v::l')).getD pre.length eX=v.den ρ:=by simp [dQ,aF]
    rw [e3,d2] at hb
    subst hb
    refine ⟨k',hk',by rw [d1];exact qA.rows d3,by unfold inB;simp [wL],.inr ⟨sz,v,R,bg,d2,rfl⟩⟩
  .rename_i hf
   rw [hf] at hb
   cases hq:k'.beq kc
   .simp [hq] at h
   simp only [hq,cond_true] at h
   have ek:=SB.beq_eq hq
   subst ek
   simp only [qX] at hb
   cases e:Nat.beq c b
   .simp only [e,cond_false] at hb
    obtain ⟨k2,g1,g2,g3,g4⟩:=BO (bl:=r) (l:=l) h b k hb
    refine ⟨k2,g1,g2,?_,g4⟩
    unfold inB at g3 ⊢
    simp only [wL,e,cond_false];exact g3
   .simp only [e,cond_true,au] at hb
    have eb:=aA e
    subst eb;subst hb
    exact ⟨k',hk',qA.refl _,by unfold inB;simp [wL],.inl rfl⟩
def afg (P:Program)(fn:Func)(base:Nat)(w:World)(E:Env)(bl:List (Nat×SB))(vw:List (Nat×Nat))(ρ:List AV)(n0:Nat)(t:AV)(a':Act)(w':World):Prop:=
 ∃r cs,t=.fA (r::cs)/\a'.defers=[]/\∃val E',(results fn a'.tmps).run P w'=.ok val w'/\Step base w E w' E'/\dU base w' E' (qX (uj ρ vw cs 0 bl)) (fun b=>n0<=b)/\Rep w' E' r val
theorem aa0 {bl:List (Nat×SB)}{vw:List (Nat×Nat)}{n0:Nat}{x:Lf}{t:SV}(hρ:iT ρ=true)(h:aff bl vw n0 x=some t)(hbl:akb bl n0=true){fn:Func}{base:Nat}{w w':World}{E:Env}{a':Act}(hE:∀b,n0<=b->E.own b=.free)
  (he:Jg P fn base w E (x.v.den ρ) (iO ρ x.th) x.nx a' w'):afg P fn base w E bl vw ρ n0 (t.den ρ) a' w':=by
 unfold aff at h
 cases hg:(x.v.kS&&apS bl n0 x.th)
 .simp [hg] at h
 simp only [hg,cond_true] at h
 simp only [ay] at hg
 split at h
 rotate_left
 .cases h
 rename_i l hl
 cases hn:I8 l
 .simp [hn] at h
 simp only [hn,cond_true,au] at h;subst h
 obtain ⟨h0,E2,val,h1,h2,h3,h4⟩:=he
 let E3:Env:=⟨E2.fix,fun b=>if b<n0 then E2.own b else .free⟩
 have lo:∀b,b<n0->E3.own b=E2.own b:=fun b hb=>if_pos hb
 have at3:∀b c o,E3.own b=.at c o->E2.own b=.at c o:=fun b c o h=>by
  by_cases hb:b<n0
  .rw [lo b hb] at h;exact h
  .change (if b<n0 then _ else Own.free)=_ at h;rw [if_neg hb] at h;cases h
 have aur:∀{b},inB bl b=true->b<n0:=fun {b} h=>by
  unfold inB at h
  split at h
  .rename_i k hk
   unfold akb at hbl
   rw [aH] at hbl
   exact aG (hbl _ (Bg hk))
  .cases h
 refine ⟨_,_,rfl,h0,val,E3,h1,⟨⟨h3.ext.fix,h3.ext.cell,fun b hb=>?_,h3.ext.arr⟩,h3.below,h3.yK,h3.keep,fun b c o h hc=>h3.DN b c o (at3 b c o h) hc,h3.yL⟩,⟨fun b k hb=>?_,fun b b' k k' c o c' o' hne e1 e2 e3 e4=>?_,fun b hb=>?_,h4.kF,h4.bs,fun b c o h=>h4.kJ b c o (at3 b c o h)⟩,Bz h2 (JV hg.1)⟩
 .have hlt:b<n0:=Nat.lt_of_not_le fun hle=>hb (hE b hle)
  rw [lo b hlt];exact h3.ext.own b hb
 .obtain ⟨k',g1,g2,g3,g4⟩:=BO (ρ:=ρ) (pre:=[]) hl b k hb
  have hb2:=g2 _ _ _ _ (h4.blk b (k'.den ρ) (by unfold iO;rw [g1];rfl))
  refine hb2.env (fun _ _ h=>h) (fun _ _ _ _ h=>h) (lo b (aur g3)) fun y hy=>lo y ?_
  rcases g4 with rfl|⟨sz,v,R,a1,a2,rfl⟩
  .rw [Eu hρ] at hy
   have hq:=hg.2
   unfold apS at hq
   rw [aH] at hq
   unfold inB at g3
   split at g3
   .rename_i kk hkk
    have:=hq _ (Bg hkk)
    dsimp only at this
    rw [g1] at this
    exact aG (aH.1 this y hy)
   .cases g3
  .obtain ⟨i,hi⟩:=List.getElem?_of_mem a1
   have hnr:=t_ hn hi
   have hv:(v.den ρ).refs=[]:=by rw [xM hρ,hnr]
   rw [a2] at hv
   simp only [vH.wH] at hy
   simp only [AV.refs] at hv
   rw [hv] at hy;cases hy
 .obtain ⟨k1,g1,-,-,-⟩:=BO (ρ:=ρ) (pre:=[]) hl b k e1
  obtain ⟨k2,g2,-,-,-⟩:=BO (ρ:=ρ) (pre:=[]) hl b' k' e2
  exact h4.sep b b' (k1.den ρ) (k2.den ρ) c o c' o' hne (by unfold iO;rw [g1];rfl) (by unfold iO;rw [g2];rfl) (at3 _ _ _ e3) (at3 _ _ _ e4)
 .show (if b<n0 then _ else Own.free)=_
  rw [if_neg (by omega)]
def PG (P:Program)(rs:List ResultVar)(bl:List (Nat×SB))(vw:List (Nat×Nat))(n0:Nat):Pc->Nat->List Out->Option (List (Tm×SV)×Nat×List (Pc×Side))
 |_,nv,[]=>some ([],nv,[])
 |pc,nv,o::r=>match Je P rs (jG (wI o.g r) true pc) nv o with
  |none=>none
  |some x=>match aff bl vw n0 x with
   |none=>none
   |some v=>match PG P rs bl vw n0 (jG o.g false pc) x.nv r with
    |none=>none
    |some (l,u_,sd)=>some ((o.g,v)::l,u_,x.sd++sd)
theorem QC {rs:List ResultVar}{bl:List (Nat×SB)}{vw:List (Nat×Nat)}{n0:Nat}{pc:Pc}{nv:Nat}{o:Out}{r:List Out}:PG P rs bl vw n0 pc nv (o::r)=(match Je P rs (jG (wI o.g r) true pc) nv o with
 |none=>none
 |some x=>match aff bl vw n0 x with
  |none=>none
  |some v=>match PG P rs bl vw n0 (jG o.g false pc) x.nv r with
   |none=>none
   |some (l,u_,sd)=>some ((o.g,v)::l,u_,x.sd++sd)):=rfl
theorem Xm {fn:Func}{N:Nat}(hρ:iT ρ=true){bl:List (Nat×SB)}{vw:List (Nat×Nat)}{n0:Nat}(hbl:akb bl n0=true):∀{l:List Out} {pc:Pc} {nv u_:Nat} {rs:List (Tm×SV)} {sd:List (Pc×Side)},PG P fn.results.toList bl vw n0 pc nv l=some (rs,u_,sd)->pc.holds ρ->jw P ρ sd->∀{base:Nat} {w w':World} {E E':Env} {fr:lY} {ah:AH} {nx:Nat} {a':Act} {e:Exit},
  (∀b,n0<=b->E.own b=.free)->Gl ρ N l e fr ah nx->OD base w' E' fr ah nx a'->Step base w E w' E'->Jd e=true/\afg P fn base w E bl vw ρ n0 (qV ρ rs) a' w'
 |[],pc,nv,u_,rs,sd,h,hp,hs,base,w,w',E,E',fr,ah,nx,a',e,hE,hsel,jB,hstep=>by
  obtain ⟨st,h1,-⟩:=hsel;cases h1
 |[o],pc,nv,u_,rs,sd,h,hp,hs,base,w,w',E,E',fr,ah,nx,a',e,hE,hsel,jB,hstep=>by
  obtain ⟨st,h1,h2⟩:=hsel
  simp only [sel,au,aN] at h1
  obtain ⟨rfl,rfl⟩:=h1
  simp only [PG,wI,jG] at h
  split at h
  .cases h
  .rename_i x hx
   split at h
   .cases h
   .rename_i v hv
    simp only [au,aN,cZ] at h
    obtain ⟨rfl,rfl,rfl⟩:=h
    obtain ⟨q1,q2⟩:=zV (P:=P) hx hp hs h2 jB hstep
    exact ⟨q1,aa0 hρ hv hbl hE q2⟩
 |o::o'::r,pc,nv,u_,rs,sd,h,hp,hs,base,w,w',E,E',fr,ah,nx,a',e,hE,hsel,jB,hstep=>by
  obtain ⟨st,h1,h2⟩:=hsel
  simp only [sel] at h1
  rw [QC] at h
  simp only [wI] at h
  split at h
  .cases h
  .rename_i x hx
   split at h
   .cases h
   .rename_i v hv
    split at h
    .cases h
    .rename_i l nv1 sd1 hl
     simp only [au,aN] at h
     obtain ⟨rfl,rfl,rfl⟩:=h
     have aaM:∃y s,l=y::s:=by
      rw [QC] at hl
      split at hl
      .cases hl
      .split at hl
       .cases hl
       .split at hl
        .cases hl
        .simp only [au,aN] at hl;exact ⟨_,_,hl.1.symm⟩
     obtain ⟨y,s,rfl⟩:=aaM
     cases hg:(o.g.den ρ).B
     .rw [hg] at h1
      obtain ⟨q1,q2⟩:=Xm hρ hbl hl (gq hg hp) (o8 hs) hE ⟨st,h1,h2⟩ jB hstep
      exact ⟨q1,by simpa [qV,hg] using q2⟩
     .rw [hg] at h1
      simp only [cond_true,au,aN] at h1
      obtain ⟨rfl,rfl⟩:=h1
      obtain ⟨q1,q2⟩:=zV (P:=P) hx (gq hg hp) (mY hs) h2 jB hstep
      exact ⟨q1,by simpa [qV,hg] using aa0 (P:=P) hρ hv hbl hE q2⟩
def NU (P:Program)(X0:ql)(I0:Ew)(md:Md)(FC:FuncId->zT)(uJ CF:Nat)(f:FuncId)(args:List SV)(nv:Nat)(bl:List (Nat×SB))(vw:List (Nat×Nat))(n0:Nat):Option jg:=
 match P.funcs[f]? with
 |none=>none
 |some fn=>match fn.body with
  |none=>none
  |some c=>bif oL fn&&(Nat.ble args.length fn.ntmps&&akb bl n0) then
    match uf P ⟨(NK P X0 I0 md FC uJ CF CF).1,is2 md,(NK P X0 I0 md FC uJ CF CF).2,uJ⟩ {FC f with N:=fn.ntmps} CF [] ⟨BL 0 args,azf bl .e,n0⟩ nv c with
    |none=>none
    |some x=>match PG P fn.results.toList bl vw n0 [] x.nv x.outs with
     |none=>none
     |some (l,_,sd)=>some ⟨l,x.sd++sd,x.aw⟩
   else none
theorem amQ {X0:ql}{I0:Ew}{md:Md}{FC:FuncId->zT}{uJ CF:Nat}{f:FuncId}{args:List SV}{nv:Nat}{bl:List (Nat×SB)}{vw:List (Nat×Nat)}{n0:Nat}{R:jg}(h:NU P X0 I0 md FC uJ CF f args nv bl vw n0=some R)(hm:P.follows .mixedOrders=true)(hρ:iT ρ=true)(h0:∀σ:List AV,iT σ=true->n_ P σ I0)(hX:∀σ:List AV,iT σ=true->oJ P σ X0)
  (hs:jw P ρ R.sd) (haw:Pn P ρ R.aw) {r:AV} {cs:List AV} (hr:qV ρ R.rs=.fA (r::cs)):PWL P f (dQ ρ args) (FV ρ bl) n0 r (uj ρ vw cs 0 bl):=by
 unfold NU at h
 split at h
 .cases h
 rename_i fn hfn
 split at h
 .cases h
 rename_i c hc
 cases hg:oL fn&&(Nat.ble args.length fn.ntmps&&akb bl n0)
 .simp [hg] at h
 simp only [hg,cond_true] at h
 split at h
 .cases h
 rename_i x hx
 split at h
 .cases h
 rename_i l u_ sd hl
 simp only [au] at h;subst h
 obtain ⟨h1,h2⟩:=Rt (md:=md) (FC:=FC) (uJ:=uJ) (CF:=CF) hm h0 hX CF
 simp only [ay] at hg
 obtain ⟨hg1,hg2,hbl⟩:=hg
 have hname:fn.name≠ "runtime.NumGoroutine" :=by simpa [oL] using hg1
 have hlen:=aG hg2
 intro base w E vs hheap hG hargs
 rw [hfn]
 dsimp only
 refine ⟨by rw [hc];rfl,hname,?_⟩
 have hlenA:(dQ ρ args).length<=fn.ntmps:=by rw [fZ];exact hlen
 have hah:Fq ρ (azf bl .e) (qX (FV ρ bl)):=fun b k hb=>by
  rcases UC hb with h1|⟨-,h2⟩
  .rw [vP,h1];rfl
  .simp [Tr.get] at h2
 have hst:Ic ρ fn.ntmps ⟨BL 0 args,azf bl .e,n0⟩ (BM fn.ntmps (dQ ρ args)) (qX (FV ρ bl)) n0:=Ic.of NM hah (Ap hlenA) (dG _)
 have adt:=oK (G:=⟨(NK P X0 I0 md FC uJ CF CF).1,is2 md,(NK P X0 I0 md FC uJ CF CF).2,uJ⟩) (F:={FC f with N:=fn.ntmps}) hm h1 h2 hρ _ _ _ _ hx (fun x hx=>by cases hx) (mY hs) haw _ _ _ hst
 have jB:OD base w E (BM fn.ntmps (dQ ρ args)) (qX (FV ρ bl)) n0 {tmps:=vs.toArray++Array.replicate (fn.ntmps-vs.toArray.size) undef,defers:=[]}:=
  ⟨hheap,J6 hG hargs hlenA,rfl⟩
 refine calls_of_wp hfn hc (wp_mono (adt _ w E _ jB) fun e a' w' hp'=>?_)
 obtain ⟨E',fr',fV,nx',hsel,Ut,hst'⟩:=hp'
 obtain ⟨q1,r',cs',er,q0,val,E3,q2,q3,q4,q5⟩:=Xm (P:=P) (fn:=fn) hρ hbl hl (fun x hx=>by cases hx) (o8 hs) (fun b hb=>hheap.fresh b hb) hsel Ut hst'
 rw [hr] at er
 simp only [AV.fA.injEq,List.cons.injEq] at er
 obtain ⟨rfl,rfl⟩:=er
 have fin:a'.defers=[]/\∃v,(results fn a'.tmps).run P w'=.ok v w'/\∃u E',Ending.returned v=.returned u/\Step base w E w' E'/\dU base w' E' (qX (uj ρ vw cs 0 bl)) (fun b=>n0<=b)/\Rep w' E' r u:=
  ⟨q0,val,q2,val,E3,rfl,q3,q4,q5⟩
 cases e<;>first|exact fin|(simp [Jd] at q1)
theorem arY (hm:P.follows .mixedOrders=true){X:ql}(hX:∀σ:List AV,iT σ=true->oJ P σ X){I0:Ew}(h0:∀σ:List AV,iT σ=true->n_ P σ I0){md:Md}{FC:FuncId->zT}{uJ CF f nv:Nat}{args:List SV}{ρ:List AV}{rs:List (Tm×SV)}{sd:List (Pc×Side)}{aw:List Lo}{az:List AV}{r:AV}{cs:List AV}{bl:List (Nat×SB)}{vw:List (Nat×Nat)}{n0:Nat}{bin KE:List (Nat×vH)}
  (h:NU P X I0 md FC uJ CF f args nv bl vw n0=some ⟨rs,sd,aw⟩) (hρ:iT ρ=true) (hs:wu P ρ sd) (hl:Zn P aw ρ) (ha:dQ ρ args=az) (hb:FV ρ bl=bin) (hr:qV ρ rs=.fA (r::cs)) (hb2:uj ρ vw cs 0 bl=KE):PWL P f az bin n0 r KE:=by
 subst ha;subst hb;subst hb2
 exact amQ h hm hρ h0 hX hs.ok hl hr
def wcT (l:List (Nat×List (Nat×Nat))):apQ:=fun f=>(l.find? fun x=>Nat.beq x.1 f).map (·.2)
end
end Go.Fw
end
section
namespace Go.Fw
variable [jU]
theorem afh {P:Program}{f:FuncId}{args:List AV}{r:AV}{p:List Nat}{sz:Nat}(h:KG args->PCo P f args r p sz):PCo P f args r p sz:=by
 intro w fix vs hfix hG hargs
 refine h (Gp fun a ha=>?_) w fix vs hfix hG hargs
 obtain ⟨i,hi⟩:=bH.1 ha
 have hlt:i<vs.length:=by rw [<- hargs.1];exact (aC.1 hi).1
 exact Ro (hargs.2 i a vs[i] hi (by simp [hlt]))
theorem apT {P:Program}{f:FuncId}{args:List AV}{r:AV}{bin KE:List (Nat×vH)}{n0:Nat}(h:KG args->PWL P f args bin n0 r KE):PWL P f args bin n0 r KE:=by
 intro base w E vs hheap hG hargs
 refine h (Gp fun a ha=>?_) base w E vs hheap hG hargs
 obtain ⟨i,hi⟩:=bH.1 ha
 have hlt:i<vs.length:=by rw [<- hargs.1];exact (aC.1 hi).1
 exact Ro (hargs.2 i a vs[i] hi (by simp [hlt]))
def zW {K V:Type}(f:K->List AV)(g:V->List AV)(e:K×V):List AV:=f e.1++g e.2
theorem amR {K V:Type}{f:K->List AV}{g:V->List AV}(hf:∀x,iT (f x)=true)(hg:∀x,iT (g x)=true)(e:K×V):iT (zW f g e)=true:=by
 have app:∀{a b:List AV},iT a=true->iT b=true->iT (a++b)=true:=by
  intro a
  induction a with
  |nil=>intro b _ h;exact h
  |cons x r ih=>intro b h1 h2;simp only [iT,ay,bZ] at h1 ⊢;exact ⟨h1.1,ih h1.2 h2⟩
 exact app (hf _) (hg _)
def nS {K V:Type}[DecidableEq K](z:V)(k:K):List (K×V)->Bool×V
 |[]=>(false,z)
 |e::r=>if k=e.1 then (true,e.2) else nS z k r
def nT {K V:Type}[DecidableEq K](k:K)(v:V):List (K×V)->List (K×V)
 |[]=>[(k,v)]
 |e::r=>if k=e.1 then (k,v)::r else e::nT k v r
section
variable {P : Program} {K V:Type} [DecidableEq K] {f:K->List AV} {g:V->List AV} {kt:TypeId} {m:MSh}
theorem Bh (hf:∀k,(f k).length=m.kn)(e:K×V):qY m (zW f g e)=(nJ m.ka (f e.1),nJ m.va (g e.2)):=by
 unfold qY zW
 rw [<- hf e.1];simp
theorem Xn (hk:∀a b:K,aeq P 10000 kt (nJ m.ka (f a)) (nJ m.ka (f b))=some (decide (a=b)))(hf:∀k,(f k).length=m.kn)(k:K)(z:V):∀(l:List (K×V)),
  ∃r,yD P kt (nJ m.ka (f k)) ((l.map (zW f g)).map (qY m))=some r/\(nS z k l).1=r.isSome/\nJ m.va (g (nS z k l).2)=(match r with|none=>nJ m.va (g z)|some q=>q.2)
 |[]=>⟨none,rfl,rfl,rfl⟩
 |e::r=>by
  simp only [aZ,Bh hf,yD,hk,nS]
  by_cases h:k=e.1
  .simp only [h,decide_true,if_true];exact ⟨_,rfl,rfl,rfl⟩
  .simp only [h,decide_false,if_false]
   obtain ⟨q,h1,h2,h3⟩:=Xn hk hf k z r
   rw [h1]
   cases q with
   |none=>exact ⟨_,rfl,h2,h3⟩
   |some q=>exact ⟨_,rfl,h2,h3⟩
theorem aa1 (hk:∀a b:K,aeq P 10000 kt (nJ m.ka (f a)) (nJ m.ka (f b))=some (decide (a=b)))(hf:∀k,(f k).length=m.kn)(k:K)(v:V):∀(l:List (K×V)),
  ∃r,yD P kt (nJ m.ka (f k)) ((l.map (zW f g)).map (qY m))=some r/\(∀q,r=some q->(((l.map (zW f g)).map (qY m))[q.1]?).map (·.1)=some (nJ m.ka (f k)))/\
   ((nT k v l).map (zW f g)).map (qY m)=(match r with|none=>(l.map (zW f g)).map (qY m)++[(nJ m.ka (f k),nJ m.va (g v))]|some q=>((l.map (zW f g)).map (qY m)).set q.1 (nJ m.ka (f k),nJ m.va (g v)))
 |[]=>⟨none,rfl,(fun q h=>by cases h),by simp [nT,Bh hf]⟩
 |e::r=>by
  simp only [aZ,Bh hf,yD,hk,nT]
  by_cases h:k=e.1
  .simp only [h,decide_true,if_true]
   refine ⟨_,rfl,fun q hq=>?_,?_⟩
   .simp only [au] at hq;subst hq;simp
   .simp [Bh hf]
  .simp only [h,decide_false,if_false]
   obtain ⟨q,h1,h2,h3⟩:=aa1 hk hf k v r
   rw [h1]
   cases q with
   |none=>exact ⟨_,rfl,(fun q h=>by cases h),by simp only [aZ,Bh hf,h3];rfl⟩
   |some q=>exact ⟨_,rfl,(fun q' hq=>by simp only [au] at hq;subst hq;simpa using h2 q rfl),by simp only [aZ,Bh hf,h3,List.set_cons_succ]⟩
end
theorem amS {α:Type}[Inhabited α]{f:α->List AV}{l:List α}{i:Int}{off n:Nat}{cells:List AV}(y:α)(h0:0<=i)(h1:i<(l.length:Int))(hn:∀x,(f x).length=n)(hc:Nat.ble (off+cells.length) n=true)(hy:f y=lay (f (l.getD i.toNat default)) off cells) :
  ∃row,(List.map f l)[i.toNat]?=some row/\off+cells.length<=row.length/\List.map f (l.set i.toNat y)=(List.map f l).set i.toNat (lay row off cells):=by
 have h3:i.toNat<l.length:=by omega
 refine ⟨f (l.getD i.toNat default),by simp [aF,h3],by rw [hn];exact aG hc,?_⟩
 rw [List.map_set,hy]
theorem ay7 {α:Type}:(∀(f:α->List AV) (l:List α),jy f l=l.length)/\(∀l:List UInt8,sLen l=l.length)/\(∀a b:List α,(a++b).length=a.length+b.length)/\(∀(l:List α) i x,(l.set i x).length=l.length)/\
  (∀n (x:α),(List.replicate n x).length=n)/\(∀n (l:List α),(l.take n).length=min n l.length)/\(∀n (l:List α),(l.drop n).length=l.length-n)/\(∀(x:α) l,(x::l).length=l.length+1)/\([]:List α).length=0:=
 ⟨iZ,fun _=>rfl,fun _ _=>bI,fun _ _ _=>List.length_set,fun _ _=>List.length_replicate,fun _ _=>List.length_take,fun _ _=>List.length_drop,fun _ _=>dB,List.length_nil⟩
theorem xY {α:Type}{c:Bool}{a b:List α}{n:Nat}(ha:a.length=n)(hb:b.length=n):(bif c then a else b).length=n:=by cases c<;>simp [ha,hb]
theorem aus {x:Int}(h0:0<=x)(h1:x<9223372036854775808):IntKind.wrap .i64 (jf .u64 (IntKind.wrap .u64 x) 1)=x / 2:=by
 have e1:IntKind.wrap .u64 x=x:=by
  show (if (false&&decide (x % 2 ^ 64>=2 ^ (64-1)))=true then x % 2 ^ 64-2 ^ 64 else x % 2 ^ 64)=_
  simp;omega
 have e2:jf .u64 x 1=x / 2:=by
  show x.fdiv (2 ^ (min (1:Int).toNat 64))=_
  rw [Int.fdiv_eq_ediv_of_nonneg _ (by decide)];rfl
 rw [e1,e2]
 have e:IntKind.wrap .i64 (x / 2)=if (x / 2) % 18446744073709551616>=9223372036854775808 then (x / 2) % 18446744073709551616-18446744073709551616 else (x / 2) % 18446744073709551616:=by
  show (if (true&&decide ((x / 2) % 2 ^ 64>=2 ^ (64-1)))=true then (x / 2) % 2 ^ 64-2 ^ 64 else (x / 2) % 2 ^ 64)=_
  simp
 rw [e]
 split<;>omega
theorem akc {a b:Int}(h0 : -9223372036854775808<=a*b)(h1:a*b<9223372036854775808):OV .i64 a b=a*b:=by
 have e:IntKind.wrap .i64 (a*b)=if (a*b) % 18446744073709551616>=9223372036854775808 then (a*b) % 18446744073709551616-18446744073709551616 else (a*b) % 18446744073709551616:=by
  show (if (true&&decide ((a*b) % 2 ^ 64>=2 ^ (64-1)))=true then (a*b) % 2 ^ 64-2 ^ 64 else (a*b) % 2 ^ 64)=_
  simp
 unfold OV
 rw [e]
 split<;>omega
theorem akd {P:Program}{f:FuncId}{args:List AV}{r:AV}(hr:r.flat=true)(h:PWL P f args [] 0 r []):PC P f args r:=by
 intro w fix vs hfix hG hrep
 have hp:=h w.heap.size w (fC fix) vs ⟨fun b k hb=>by simp [qX] at hb,fun b b' k k' c o c' o' _ hb=>by simp [qX] at hb,fun b _=>rfl,hfix,dG _,fun b c o hb=>by simp [fC] at hb⟩ hG hrep
 split at hp
 .exact hp.elim
 .rename_i fn hfn
  simp only [hfn]
  obtain ⟨h1,h2,h3⟩:=hp
  rw [if_neg (by rw [h1];simp)]
  refine ⟨h2,h3.mono fun e w' hq=>?_⟩
  obtain ⟨v,E',q1,q2,q3,q4⟩:=hq
  exact ⟨v,E'.fix,q1,⟨⟨q2.ext.fix,q2.ext.cell,fun b hb=>absurd rfl hb,q2.ext.arr⟩,q2.below,q2.yK,q2.keep,fun b c o hb=>by simp [fC] at hb,q2.yL⟩,q3.kF,Bz q4 hr⟩
def NV (m:List (Int×Bool))(d:List Bool):List Bool:=d.mapIdx fun i b=>b||m.any fun e=>Nat.beq e.1.toNat i
theorem oM {a b:Int}(h0 : -9223372036854775808<=a+b)(h1:a+b<9223372036854775808):dZ .i64 a b=a+b:=by
 have e:IntKind.wrap .i64 (a+b)=if (a+b) % 18446744073709551616>=9223372036854775808 then (a+b) % 18446744073709551616-18446744073709551616 else (a+b) % 18446744073709551616:=by
  show (if (true&&decide ((a+b) % 2 ^ 64>=2 ^ (64-1)))=true then (a+b) % 2 ^ 64-2 ^ 64 else (a+b) % 2 ^ 64)=_
  simp
 unfold dZ
 rw [e]
 split<;>omega
theorem wM {a b:Int}(h0 : -9223372036854775808<=a-b)(h1:a-b<9223372036854775808):iU .i64 a b=a-b:=by
 have e:IntKind.wrap .i64 (a-b)=if (a-b) % 18446744073709551616>=9223372036854775808 then (a-b) % 18446744073709551616-18446744073709551616 else (a-b) % 18446744073709551616:=by
  show (if (true&&decide ((a-b) % 2 ^ 64>=2 ^ (64-1)))=true then (a-b) % 2 ^ 64-2 ^ 64 else (a-b) % 2 ^ 64)=_
  simp
 unfold iU
 rw [e]
 split<;>omega
theorem ayy {a b:Int}:(a == b)=decide (a=b):=by by_cases h:a=b<;>simp [h]
end Go.Fw
namespace Go.Fw
variable [jU]
end Go.Fw
end
section
namespace Go.Fw
variable [jU]
open Go.ChangeShapes Go.WideShapes Go.RowKit
structure QU {H:Type}(f:DataW H->Nat)(fa:List (DataW H)->Nat):Prop where
 str:∀b,f (.lit (.string b))=b.length+1
 sl:∀e s,f (.slice e s)=fa e+fa s+1
 agg:∀p,f (.agg p)=fa p+1
 nil:fa []=0
 cons:∀d r,fa (d::r)=f d+fa r
 one:∀d,1<=f d
theorem QU.append {H:Type}{f:DataW H->Nat}{fa}(hb:QU f fa)(a b:List (DataW H)):fa (a++b)=fa a+fa b:=by
 induction a with
 |nil=>simp [hb.nil]
 |cons x a ih=>simp [hb.cons,ih];omega
theorem QU.get {H:Type}{f:DataW H->Nat}{fa}(hb:QU f fa):∀{a:List (DataW H)} {i:Nat} {x},a[i]?=some x->f x<=fa a
 |y::a,0,x,h=>by simp at h;subst h;rw [hb.cons];omega
 |y::a,i+1,x,h=>by have:=hb.get (a:=a) (i:=i) (by simpa using h);rw [hb.cons];omega
theorem QU.len {H:Type}{f:DataW H->Nat}{fa}(hb:QU f fa)(a:List (DataW H)):a.length<=fa a:=by
 induction a with
 |nil=>simp
 |cons x a ih=>have:=hb.one x;simp [hb.cons];omega
abbrev lim : Nat:=1048576
def UE (w:World):Env:=fC fun c _=>c<w.heap.size
structure Rd (P:Program)(t:TypeId){α:Type}(row:α->List AV)(wf:α->Prop):Prop where
 get:∀{H:Type} {enc:TypeId×Value->H} {f:DataW H->Nat} {fa:List (DataW H)->Nat} (_:QU f fa) {w:World} {fuel:Nat} {cs:List Value} {x:DataW H×List MemPlace},
  DataW.trod enc P w 0 (fun _=>true) true fuel t cs=some x->f x.1<=lim->∃a,wf a/\iE w (UE w) (row a) cs/\∀c∈row a,c.jM=true
theorem Rd.to {P t}{α β:Type}{row:α->List AV}{wf:α->Prop}(h:Rd P t row wf)(g:α->β){row':β->List AV}{wf':β->Prop}(hr:∀a,row' (g a)=row a)(hw:∀a,wf a->wf' (g a)):Rd P t row' wf':=by
 constructor
 intro H enc f fa hb w fuel cs x hx hl
 obtain ⟨a,h1,h2,h3⟩:=h.get hb hx hl
 exact ⟨g a,hw a h1,by rw [hr];exact h2,by rw [hr];exact h3⟩
theorem iE.one {w E a v}(h:Rep w E a v):iE w E [a] [v]:=
 ⟨rfl,fun i x y hx hy=>by cases i with|zero=>simp at hx hy;subst hx;subst hy;exact h|succ i=>simp at hx⟩
theorem J_ {P t}(ht:P.underlying t=some .bool):Rd P t (fun b:Bool=>[.p (.bool b)]) (fun _=>True):=by
 constructor
 intro H enc f fa hb w fuel cs x hx hl
 obtain ⟨b,rfl,rfl⟩:=DataW.trod_bool ht hx
 exact ⟨b,trivial,iE.one (.p rfl),by simp [AV.jM]⟩
def YP (k:IntKind)(n:Int):Prop:=k.min<=n/\n<=k.max
theorem Jk {P t}{k:IntKind}(ht:P.underlying t=some (.int k)):Rd P t (fun n:Int=>[.p (.int k n)]) (YP k):=by
 constructor
 intro H enc f fa hb w fuel cs x hx hl
 obtain ⟨n,rfl,rfl,hw⟩:=DataW.trod_int ht hx
 exact ⟨n,by simpa [Lit.wf,YP] using hw,iE.one (.p rfl),by simp [AV.jM]⟩
theorem adC {H:Type}{enc:TypeId×Value->H}{P:Program}{w:World}{base:Nat}{spare:Nat->Bool}{held:Bool}{fuel:Nat}{t:TypeId}{cs:List Value}{x:DataW H×List MemPlace}{k}(ht:P.underlying t=some (.float k))
  (h:DataW.trod enc P w base spare held fuel t cs=some x):∃n,cs=[.float k n]/\x=(.lit (.float k n),[])/\(Lit.float k n).wf=true:=by
 cases fuel with
 |zero=>simp [DataW.trod] at h
 |succ n=>
  unfold DataW.trod at h
  rw [ht] at h
  split at h<;>simp_all
theorem ake {P t}(ht:P.underlying t=some (.float .f64)):Rd P t (fun n:Nat=>[.p (.float .f64 n)]) (fun n=>n<2 ^ 64):=by
 constructor
 intro H enc f fa hb w fuel cs x hx hl
 obtain ⟨n,rfl,rfl,hw⟩:=adC ht hx
 exact ⟨n,by simpa [Lit.wf,YP] using hw,iE.one (.p rfl),by simp [AV.jM]⟩
theorem adD {P t}(ht:P.underlying t=some .string):Rd P t (fun s:List UInt8=>[.str s]) (fun s=>s.length<=lim):=by
 constructor
 intro H enc f fa hb w fuel cs x hx hl
 obtain ⟨s,rfl,rfl,hw⟩:=DataW.trod_string ht hx
 refine ⟨s.data.toList,?_,iE.one (.str s _ rfl),by simp [AV.jM]⟩
 rw [hb.str] at hl
 omega
theorem iE.length {w E az vs}(h:iE w E az vs):az.length=vs.length:=h.1
theorem iE.get {w E az vs}(h:iE w E az vs){i:Nat}{a:AV}(ha:az[i]?=some a):∃v,vs[i]?=some v/\Rep w E a v:=by
 have hlt:i<vs.length:=by rw [<- h.1];exact (aC.1 ha).1
 exact ⟨vs[i],by simp [hlt],h.2 i a _ ha (by simp [hlt])⟩
theorem ayZ {w:World}{a:Addr}{v}(h:w.cell? a=some v):a.spot=none:=World.cell?_spot h
theorem QD {α:Type}{p:Nat->α->Prop}:∀(n:Nat),(∀i,i<n->∃a,p i a)->∃l:List α,l.length=n/\∀i a,l[i]?=some a->p i a
 |0,_=>⟨[],rfl,by simp⟩
 |n+1,h=>by
  obtain ⟨l,h1,h2⟩:=QD n (fun i hi=>h i (by omega))
  obtain ⟨a,ha⟩:=h n (by omega)
  refine ⟨l++[a],by simp [h1],fun i x hx=>?_⟩
  by_cases hi:i<n
  .rw [bC (by omega)] at hx
   exact h2 i x hx
  .have:i=n:=by
    have:=(aC.1 hx).1
    simp at this;omega
   subst this
   rw [bK (by omega)] at hx
   simp [h1] at hx
   subst hx
   exact ha
def ayq {α:Type}(wf:α->Prop)(l:List α):Prop:=l.length<=lim/\∀x∈l,wf x
theorem NW {P:Program}{t e:TypeId}{α:Type}{row:α->List AV}{wf:α->Prop}{m:Nat}(ht:P.underlying t=some (.slice e))(hm:P.cellsOf e=m)(hpos:0<m)(hrow:∀a,(row a).length=m)(he:Rd P e row wf) :
  Rd P t (fun l:List α=>[.sl (l.map row) false]) (ayq wf):=by
 constructor
 intro H enc f fa hb w fuel cs x hx hl
 rcases DataW.trod_slice ht hx with ⟨rfl,rfl⟩|⟨a,len,cap,elems,rest,n,-,rfl,rfl,-,hlc,-,hlen,hel,hsp,-⟩
 .exact ⟨[],⟨by simp,by simp⟩,iE.one (.slnil false none),by simp [AV.jM]⟩
 .subst hm
  obtain ⟨hrl,hre⟩:=hsp rfl
  dsimp only at hl
  rw [hb.sl] at hl
  have hone:∀i,i<len->∃b:α,wf b/\(∀c∈row b,c.jM=true)/\∃cs',w.cells? 0 (a.add (i*P.cellsOf e)) (P.cellsOf e)=some cs'/\iE w (UE w) (row b) cs':=by
   intro i hi
   have h:=hel i hi
   have hi':i<elems.length:=by omega
   rw [aY hi',aV] at h
   obtain ⟨cs',h1,h2⟩:=h
   have hbd:f elems[i].1<=lim:=by
    have h3:f elems[i].1<=fa (elems.map (·.1)):=hb.get (a:=elems.map (·.1)) (i:=i) (x:=elems[i].1) (by simp [hi'])
    omega
   obtain ⟨b,g1,g2,g3⟩:=he.get hb h2 hbd
   exact ⟨b,g1,g3,cs',h1,g2⟩
  obtain ⟨l,hl1,hl2⟩:=QD len hone
  refine ⟨l,⟨?_,fun x hx=>?_⟩,?_,by simp [AV.jM]⟩
  .have:=hb.len (elems.map (·.1))
   simp at this
   omega
  .obtain ⟨i,hi⟩:=bH.1 hx
   exact (hl2 i x hi).1
  .apply iE.one
   by_cases hc0:cap=0
   .subst hc0
    obtain rfl:len=0:=by omega
    obtain rfl:l=[]:=List.eq_nil_of_length_eq_zero hl1
    exact .slnil false _
   .have hspot:a.spot=none:=by
     have key:∃cs',w.cells? 0 (a.add 0) (P.cellsOf e)=some cs':=by
      by_cases hlz:len=0
      .have h:=hre 0 (by omega)
       have hi':0<rest.length:=by omega
       rw [aY hi',aV] at h
       obtain ⟨cs',h1,h2⟩:=h
       subst hlz
       exact ⟨cs',by simpa using h1⟩
      .obtain ⟨b,-,-,cs',h1,-⟩:=hone 0 (by omega)
       exact ⟨cs',by simpa using h1⟩
     obtain ⟨cs',h1⟩:=key
     obtain ⟨-,q1,q2⟩:=World.cells?_some h1
     have:=q2 0 hpos
     rw [aY (by omega)] at this
     have:=ayZ this
     obtain ⟨bl,o,s⟩:=a
     cases s with
     |none=>rfl
     |some s=>simp [Addr.add] at this
    obtain ⟨bl,o,s⟩:=a
    cases hspot
    have cell:∀(i:Nat) (b:α) (j:Nat) (y:AV),l[i]?=some b->(row b)[j]?=some y->∃v,w.cell? ⟨bl,o+i*P.cellsOf e+j,none⟩=some v/\Rep w (UE w) y v:=by
     intro i b j y hi hj
     obtain ⟨-,-,cs',h1,h2⟩:=hl2 i b hi
     obtain ⟨v,hv,hr⟩:=h2.get hj
     obtain ⟨-,q1,q2⟩:=World.cells?_some h1
     refine ⟨v,?_,hr⟩
     have hjl:j<P.cellsOf e:=by rw [<- hrow b];exact (aC.1 hj).1
     have:=q2 j hjl
     rw [hv,WideShapes.add_plain,WideShapes.add_plain] at this
     exact this
    have hlim:lim=1048576:=rfl
    have hlen2:=hb.len (elems.map (·.1))
    simp only [dA] at hlen2
    have:=Rep.sl (w:=w) (E:=UE w) (l.map row) false (P.cellsOf e) bl o cap (fun i j=>(w.cell? ⟨bl,o+i*P.cellsOf e+j,none⟩).getD .nilIface) (by simp;omega) (by simp)
     (fun i r hr=>by
      simp only [bT,aB] at hr
      obtain ⟨b,-,rfl⟩:=hr
      exact hrow b)
     (fun i r j y hr hy=>by
      simp only [bT,aB] at hr
      obtain ⟨b,hb',rfl⟩:=hr
      obtain ⟨v,hv,-⟩:=cell i b j y hb' hy
      exact World.block_lt_of_cell? w _ hv)
     (fun i r j y hr hy=>by
      simp only [bT,aB] at hr
      obtain ⟨b,hb',rfl⟩:=hr
      obtain ⟨v,hv,-⟩:=cell i b j y hb' hy
      simp [hv])
     (fun r hr y hy=>by
      obtain ⟨b,hb',rfl⟩:=aW.1 hr
      obtain ⟨i,hi⟩:=bH.1 hb'
      exact (hl2 i b hi).2.1 y hy)
     (fun i r j y hr hy=>by
      simp only [bT,aB] at hr
      obtain ⟨b,hb',rfl⟩:=hr
      obtain ⟨v,hv,hrp⟩:=cell i b j y hb' hy
      simpa [hv] using hrp)
    simp only [dA,hl1] at this
    exact this
structure RdF (P:Program)(fs:List Field)(off:Nat){α:Type}(row:α->List AV)(wf:α->Prop):Prop where
 get:∀{H:Type} {enc:TypeId×Value->H} {f:DataW H->Nat} {fa:List (DataW H)->Nat} (_:QU f fa) {w:World} {n:Nat} {cs:List Value} {xs:List (DataW H×List MemPlace)},
  xs.length=fs.length->(∀(i:Nat) (fd:Field),fs[i]?=some fd->DataW.trod enc P w 0 (fun _=>true) true n fd.type ((cs.drop fd.offset).take (P.cellsOf fd.type))=xs[i]?)->
  cs.length=off+(fs.map fun fd=>P.cellsOf fd.type).sum->fa (xs.map (·.1))<=lim->∃a,wf a/\iE w (UE w) (row a) (cs.drop off)/\∀c∈row a,c.jM=true
theorem Gs {P off}:RdF P [] off (fun _:Unit=>[]) (fun _=>True):=by
 constructor
 intro H enc f fa hb w n cs xs hx hf hl hbd
 refine ⟨(),trivial,?_,by simp⟩
 have:cs.drop off=[]:=List.drop_eq_nil_of_le (by simp at hl;omega)
 rw [this]
 exact ⟨rfl,fun i a v h=>by simp at h⟩
theorem iV {P:Program}{fd:Field}{fs:List Field}{off m:Nat}{α β:Type}{row:α->List AV}{wf:α->Prop}{row':β->List AV}{wf':β->Prop}(ho:fd.offset=off)(hm:P.cellsOf fd.type=m)(h:Rd P fd.type row wf)
  (h':RdF P fs (off+m) row' wf'):RdF P (fd::fs) off (fun x:α×β=>row x.1++row' x.2) (fun x=>wf x.1/\wf' x.2):=by
 subst ho hm
 constructor
 intro H enc f fa hb w n cs xs hx hf hl hbd
 match xs,hx with
 |x::xs,hx=>
  have h0:=hf 0 fd rfl
  simp only [List.getElem?_cons_zero] at h0
  simp only [aZ,hb.cons] at hbd
  obtain ⟨a,a1,a2,a3⟩:=h.get hb h0 (by omega)
  obtain ⟨b,b1,b2,b3⟩:=h'.get hb (xs:=xs) (by simpa using hx) (fun i fd' hi=>by simpa using hf (i+1) fd' (by simpa using hi)) (by simp at hl;omega) (by omega)
  refine ⟨(a,b),⟨a1,b1⟩,?_,fun c hc=>?_⟩
  .have:cs.drop fd.offset=(cs.drop fd.offset).take (P.cellsOf fd.type)++cs.drop (fd.offset+P.cellsOf fd.type):=by
    rw [<- List.drop_drop,List.take_append_drop]
   rw [this]
   exact a2.append b2
  .rcases aK.1 hc with hc|hc
   .exact a3 c hc
   .exact b3 c hc
theorem zh {P:Program}{t:TypeId}{fs:Array Field}{α:Type}{row:α->List AV}{wf:α->Prop}(ht:P.underlying t=some (.struct fs))(hs:P.cellsOf t=(fs.toList.map fun fd=>P.cellsOf fd.type).sum)(h:RdF P fs.toList 0 row wf) :
  Rd P t row wf:=by
 constructor
 intro H enc f fa hb w fuel cs x hx hl
 obtain ⟨xs,n,-,rfl,hlen,hxs,hf⟩:=DataW.trod_struct ht hx
 dsimp only at hl
 rw [hb.agg] at hl
 obtain ⟨a,a1,a2,a3⟩:=h.get hb (xs:=xs) (w:=w) (n:=n) (cs:=cs) (by simpa using hxs) (fun i fd hi=>hf i fd (by simpa using hi)) (by rw [hlen,hs];simp) (by omega)
 exact ⟨a,a1,by simpa using a2,a3⟩
structure RdV (P:Program)(t:TypeId){α:Type}(av:α->AV)(wf:α->Prop):Prop where
 get:∀{H:Type} {enc:TypeId×Value->H} {f:DataW H->Nat} {fa:List (DataW H)->Nat} (_:QU f fa) {w:World} {base:Nat} {v:Value} {d:DataW H} {ps:List MemPlace},
  Value.okWide P w .any base t v->DataW.Trod enc P w 0 (fun _=>true) true t v d ps->f d<=lim->∃a,wf a/\Rep w (UE w) (av a) v
theorem iE.amT {w E a v}(h:iE w E [a] [v]):Rep w E a v:=h.2 0 a v rfl rfl
theorem afi {P:Program}{t:TypeId}{α:Type}{av:α->AV}{wf:α->Prop}(h:Rd P t (fun a=>[av a]) wf)(hc:∀{w base v},Value.okWide P w .any base t v->v.cells.toList=[v]):RdV P t av wf:=by
 constructor
 intro H enc f fa hb w base v d ps hok ⟨fuel,htr⟩ hl
 rw [hc hok] at htr
 obtain ⟨a,h1,h2,-⟩:=h.get hb htr hl
 exact ⟨a,h1,h2.amT⟩
theorem amU {P t}{k:IntKind}(ht:P.underlying t=some (.int k)):RdV P t (fun n:Int=>.p (.int k n)) (YP k):=
 afi (Jk ht) (fun h=>by obtain ⟨b,rfl⟩:=okWide_int ht h;rfl)
theorem ahk {P:Program}{t e:TypeId}{α:Type}{row:α->List AV}{wf:α->Prop}{m:Nat}(ht:P.underlying t=some (.slice e))(hm:P.cellsOf e=m)(hpos:0<m)(hrow:∀a,(row a).length=m)(he:Rd P e row wf) :
  RdV P t (fun l:List α=>.sl (l.map row) false) (ayq wf):=
 afi (NW ht hm hpos hrow he) (fun h=>by obtain ⟨a,b,c,rfl⟩:=okWide_slice ht h;rfl)
theorem UF {P:Program}{t:TypeId}{fs:Array Field}{α:Type}{row:α->List AV}{wf:α->Prop}(ht:P.underlying t=some (.struct fs))(h:Rd P t row wf):RdV P t (fun a=>.agg (row a)) wf:=by
 constructor
 intro H enc f fa hb w base v d ps hok ⟨fuel,htr⟩ hl
 obtain ⟨cs,rfl,-⟩:=okWide_struct ht hok
 obtain ⟨a,h1,h2,h3⟩:=h.get hb htr hl
 refine ⟨a,h1,.agg _ _ ?_ h3 (fun i c v hc hv=>h2.2 i c v hc ?_)⟩
 .simpa [Value.cells] using h2.1
 .simpa [Value.cells] using hv
structure RdA (P:Program)(ts:List TypeId){α:Type}(avs:α->List AV)(wf:α->Prop):Prop where
 get:∀{H:Type} {enc:TypeId×Value->H} {f:DataW H->Nat} {fa:List (DataW H)->Nat} (_:QU f fa) {w:World} {base:Nat} {vs:List Value} {ds:List (DataW H)} {ps:List MemPlace},
  (∀(j:Nat) t v,ts[j]?=some t->vs[j]?=some v->Value.okWide P w .any base t v)->DataW.TrodAll enc P w 0 (fun _=>true) true ts vs ds ps->fa ds<=lim->∃a,wf a/\iE w (UE w) (avs a) vs
theorem amV {P}:RdA P [] (fun _:Unit=>[]) (fun _=>True):=by
 constructor
 intro H enc f fa hb w base vs ds ps hok h hl
 obtain ⟨rfl,-,-⟩:=trodAll_nil h
 exact ⟨(),trivial,rfl,fun i a v h=>by simp at h⟩
theorem NY {P:Program}{t:TypeId}{ts:List TypeId}{α β:Type}{av:α->AV}{wf:α->Prop}{avs:β->List AV}{wf':β->Prop}(h:RdV P t av wf)(h':RdA P ts avs wf') :
  RdA P (t::ts) (fun x:α×β=>av x.1::avs x.2) (fun x=>wf x.1/\wf' x.2):=by
 constructor
 intro H enc f fa hb w base vs ds ps hok ht hl
 obtain ⟨v,vs,d,ds,p,q,rfl,rfl,rfl,h1,h2⟩:=trodAll_cons ht
 rw [hb.cons] at hl
 obtain ⟨a,a1,a2⟩:=h.get hb (hok 0 t v rfl rfl) h1 (by omega)
 obtain ⟨b,b1,b2⟩:=h'.get hb (fun j t v hj hv=>hok (j+1) t v (by simpa using hj) (by simpa using hv)) h2 (by omega)
 exact ⟨(a,b),⟨a1,b1⟩,(iE.one a2).append b2⟩
theorem KX {H:Type}{enc:TypeId×Value->H}{P:Program}(hl:laidOutB P=true){W W':World}{sp':Nat->Bool}:∀{ts:List TypeId} (_:∀t∈ts,P.readableRec t=true/\t<P.types.size) {vs:List Value} {ds:List (DataW H)} {ps:List MemPlace},
  DataW.TrodAll enc P W 0 (fun _=>true) true ts vs ds ps->(∀p∈ps,W.sameAt W' p)->(∀p∈ps,sp' p.block=true)->DataW.TrodAll enc P W' 0 sp' true ts vs ds ps
 |[],_,_,_,_,h,_,_=>by
  obtain ⟨rfl,rfl,rfl⟩:=trodAll_nil h
  exact trodAll_mk0
 |t::ts,hr,_,_,_,h,hs,hsp=>by
  obtain ⟨v,vs,d,ds,p,q,rfl,rfl,rfl,h1,h2⟩:=trodAll_cons h
  exact trodAll_cons_mk (WideElems.Trod_stays hl (hr t (by simp)).1 (hr t (by simp)).2 h1 (fun p hp=>hs p (by simp [hp])) (fun p hp=>hsp p (by simp [hp])))
   (KX hl (fun t ht=>hr t (by simp [ht])) h2 (fun p hp=>hs p (by simp [hp])) (fun p hp=>hsp p (by simp [hp])))
section
variable {H : Type} {enc:TypeId×Value->H} {P:Program}
theorem adE {f:Func}{s:ChangeSpec}{apart fresh handsOn ay5:Bool}{W W':World}{args:Array Value}{v:Value}{ds gs:List (DataW H)}{before pa pv:List MemPlace}
  (hW:DataW.Whole enc P f.params.toList s.vars apart W args.toList ds gs before)
  (hres:∀(b:Nat) (sp:Nat->Bool) (hd:Bool),DataW.TrodAll enc P W' b sp hd f.resultTypes.toList (v.resultList f.resultTypes.size) (s.fn H (ds++gs)).results [])
  (hargs:∀sp:Nat->Bool,(∀p∈before,sp p.block=true)->DataW.TrodAll enc P W' 0 sp true f.params.toList args.toList (s.fn H (ds++gs)).args pa)
  (hvars:∀sp:Nat->Bool,(∀p∈before,sp p.block=true)->DataW.TrodVars enc P W' sp s.vars (s.fn H (ds++gs)).vars pv)
  (hps:before=pa++pv) (hb:Below W.heap.size W W')
  (hok:∀(j:Nat) (t:TypeId) (r:Value),f.resultTypes[j]?=some t->(v.resultList f.resultTypes.size)[j]?=some r->Value.okWide P W' .any 0 t r) :
  s.post enc P f apart fresh handsOn ay5 W args v W':=by
 have hlt:∀p∈before,p.block<W.heap.size:=fun p hp=>hW.lt p hp
 have hold:∀p∈before,(fun b=>decide (b<W.heap.size)) p.block=true:=fun p hp=>by simpa using hlt p hp
 refine ⟨ds,gs,before,[],pa,pv,hW,hres _ _ _,hargs _ hold,hvars _ hold,World.keptBut_mono (fun p hp=>⟨hp,?_⟩) (hb.frame (·∈before)),fun _=>?_⟩
 .rw [hps,aK] at hp
  exact Or.inr hp
 .obtain ⟨_,_,_,_,_,hz,hn⟩:=hW
  refine ⟨hok,_,_,([]++pa)++pv,⟨[]++pa,pv,trodAll_append (hargs _ (fun _ _=>rfl)) (hres _ _ _),hvars _ (fun _ _=>rfl),rfl,?_,?_⟩,?_⟩
  .intro b off hp
   have hin:MemPlace.cell b off∈before:=by rw [hps];simpa using hp
   rw [hb.frozen (hlt _ hin)]
   exact hz b off hin
  .intro ha
   have:=hn ha
   rw [hps] at this
   simpa using this
  .intro p hp _
   rw [hps]
   simpa using hp
end
theorem YQ {P:Program}{fid:FuncId}{fn:Func}{s:ChangeSpec}{apart fresh handsOn ay5:Bool}{α:Type}{avs:α->List AV}{wf:α->Prop}{tb:TypeId}
  (hf:P.funcs[fid]?=some fn) (hbody:fn.body.isNone=false) (hlaid:laidOutB P=true) (hread:∀t∈fn.params.toList,P.readableRec t=true/\t<P.types.size)
  (hrt:fn.resultTypes=#[tb]) (htb:P.underlying tb=some .bool) (hvars:s.vars=[])
  (hs:∀(H:Type) (ds:List (DataW H)),ds.length=fn.params.size->s.fn H ds={results:=[.lit (.bool true)],args:=ds})
  (ra:RdA P fn.params.toList avs wf) (pc:∀a,wf a->PC P fid (avs a) (.p (.bool true)))
  {H:Type} {enc:TypeId×Value->H} {f:DataW H->Nat} {fa:List (DataW H)->Nat} (hb:QU f fa) {W:World} {base:Nat} {args:Array Value} {ds gs:List (DataW H)} {before:List MemPlace}
  (hval:∀(j:Nat) t v,fn.params[j]?=some t->args[j]?=some v->Value.okWide P W .any base t v)
  (hW:DataW.Whole enc P fn.params.toList s.vars apart W args.toList ds gs before) (hbd:fa (ds++gs)<=lim) (hG:GOk W (fun c _=>c<W.heap.size)) :
  Calls P fid args W fun e W'=>∃v,e=.returned v/\s.post enc P fn apart fresh handsOn ay5 W args v W':=by
 have hW':=hW
 obtain ⟨p,q,hA,hV,rfl,hfz,hnd⟩:=hW
 rw [hvars] at hV
 obtain ⟨rfl,rfl⟩:=trodVars_none hV
 simp only [cZ] at hW' hbd
 have hlen:∀{ts:List TypeId} {vs:List Value} {ds:List (DataW H)} {ps:List MemPlace},DataW.TrodAll enc P W 0 (fun _=>true) true ts vs ds ps->ds.length=ts.length:=by
  intro ts
  induction ts with
  |nil=>intro vs ds ps h;obtain ⟨-,rfl,-⟩:=trodAll_nil h;rfl
  |cons t ts ih=>intro vs ds ps h;obtain ⟨_,_,_,_,_,_,_,rfl,_,_,h2⟩:=trodAll_cons h;simp [ih h2]
 obtain ⟨a,ha,hrep⟩:=ra.get hb (fun j t v hj hv=>hval j t v (by simpa using hj) (by simpa using hv)) hA hbd
 have hpc:=pc a ha W (fun c _=>c<W.heap.size) args.toList (fun c o h=>h) hG hrep
 rw [hf] at hpc
 dsimp only at hpc
 rw [if_neg (by simp [hbody])] at hpc
 have hc:=hpc.2
 simp only [Array.toArray_toList] at hc
 refine hc.mono fun e W' ⟨v,mF,he,hstep,_,hr⟩=>?_
 obtain rfl:=hr.iw
 have hbel:=hstep.below
 have hspec:=hs H ds (by rw [hlen hA];simp)
 refine ⟨_,he,adE (pa:=p) (pv:=[]) (gs:=[]) hW' ?_ ?_ ?_ (by simp) hbel ?_⟩
 .intro b sp hd
  rw [cZ,hspec,hrt]
  exact trodAll_cons_mk (shut_bool htb _) trodAll_mk0
 .intro sp hsp
  rw [cZ,hspec]
  exact KX hlaid hread hA (fun x hx=>hbel.same (hW'.lt x hx)) hsp
 .intro sp hsp
  rw [cZ,hspec,hvars]
  rfl
 .exact ok_one hrt rfl (okWide_bool_mk htb _)
end Go.Fw
end
section
namespace Go.Fw
structure dL.wf (v:dL):Prop where
 Kind:YP .u8 v.Kind
 Num:v.Num<2 ^ 64
 Str:v.Str.length<=lim
 Ref:YP .i64 v.Ref
structure dI.wf (v:dI):Prop where
 Str:v.Str.length<=lim
 Sym:YP .i64 v.Sym
structure dJ.wf (v:dJ):Prop where
 Has:YP .u8 v.Has
 Value:v.Value.wf
 Get:v.Get.wf
 Set:v.Set.wf
structure dM.wf (v:dM):Prop where
 Key:v.Key.wf
 dS:v.dS.wf
structure dN.wf (v:dN):Prop where
 Kind:YP .u8 v.Kind
 fB:v.fB.wf
 Props:ayq dM.wf v.Props
 Target:v.Target.wf
 Handler:v.Handler.wf
 Text:v.Text.length<=lim
structure dK.wf (v:dK):Prop where
 Objects:ayq dN.wf v.Objects
structure gQ.wf (v:gQ):Prop where
 Kind:YP .u8 v.Kind
 Value:v.Value.wf
 dS:v.dS.wf
 Keys:ayq dI.wf v.Keys
 Error:YP .u8 v.Error
 Text:v.Text.length<=lim
structure sZ.wf (v:sZ):Prop where
 ajX:YP .i64 v.ajX
 Object:YP .i64 v.Object
 Method:YP .u8 v.Method
 Key:v.Key.wf
 Out:v.Out.wf
structure gK.wf (v:gK):Prop where
 Method:YP .u8 v.Method
 Object:YP .i64 v.Object
 Key:v.Key.wf
 dS:v.dS.wf
 Value:v.Value.wf
 Receiver:v.Receiver.wf
 Args:ayq dL.wf v.Args
structure tq.wf (v:tq):Prop where
 Kind:YP .u8 v.Kind
 Ask:v.Ask.wf
 Func:v.Func.wf
 This:v.This.wf
 For:v.For.wf
 Args:ayq dL.wf v.Args
 Object:v.Object.wf
 Out:v.Out.wf
structure qo.wf (v:qo):Prop where
 proto:v.proto.wf
 keys:ayq dI.wf v.keys
 desc:v.desc.wf
structure nR.wf (v:nR):Prop where
 fB:v.fB.wf
 dS:v.dS.wf
 Keys:ayq dI.wf v.Keys
 Own:ayq dJ.wf v.Own
end Go.Fw
end
section
namespace Go.Fw
theorem akf (a b:Int):compare a b=if a<b then Ordering.lt else if a=b then Ordering.eq else Ordering.gt:=rfl
theorem akg (a b:Int):((some (compare a b) == some Ordering.lt)||(some (compare a b) == some Ordering.eq))=decide (a<=b):=by
 rw [akf];split
 .simp;omega
 .split
  .simp;omega
  .simp;omega
theorem akh (a b:Int):((some (compare a b) == some Ordering.gt)||(some (compare a b) == some Ordering.eq))=decide (b<=a):=by
 rw [akf];split
 .simp;omega
 .split
  .simp;omega
  .simp;omega
theorem ayH (a b:Int):(some (compare a b) == some Ordering.eq)=decide (a=b):=by
 rw [akf];split
 .simp;omega
 .split
  .simp;assumption
  .simp;assumption
theorem apU (a b:Int):(some (compare a b) != some Ordering.eq)=!decide (a=b):=by
 simp only [bne,ayH]
abbrev kE (x:Nat):Ieee.Datum:=FloatKind.f64.format.read x
theorem afj : kE 0=.number false 0 (-1074):=by rfl
theorem apV : kE 4607182418800017408=.number false 4503599627370496 (-52):=by rfl
theorem sg0 (s:Bool)(u:Nat):Ieee.signed s 0 u=0:=by cases s<;>simp [Ieee.signed]
theorem sgz {s:Bool}{m u:Nat}:Ieee.signed s m u=0↔m=0:=by
 have:(0:Nat)<2 ^ u:=Nat.two_pow_pos u
 have h2:m*2 ^ u=0↔m=0:=Nat.mul_eq_zero.trans ⟨fun h=>h.resolve_right (by omega),.inl⟩
 cases s
 .simp only [Ieee.signed,aU,if_false,Nat.shiftLeft_eq];omega
 .simp only [Ieee.signed,if_true,Nat.shiftLeft_eq];omega
def wP (x:Nat):Bool:=match kE x with | .nan ..=>true|_=>false
theorem BP (x:Nat):LP x x=wP x:=by
 unfold LP wP Ieee.Format.order
 show (Ieee.Datum.order (kE x) (kE x) != some .eq)=_
 cases kE x with
 |nan s t=>simp [Ieee.Datum.order]
 |infinity s=>cases s<;>rfl
 |number s m i=>simp only [Ieee.Datum.order,apU];simp
theorem aa2 (x:Nat):fEq x x=!wP x:=by
 have h:=BP x
 unfold LP at h
 unfold fEq
 rw [<- h]
 cases h:(FloatKind.f64.format.order x x == some .eq)<;>simp [bne,h]
theorem NZ (x y:Nat):LP x y=!fEq x y:=rfl
theorem aki (x y:Nat):fEq x y=fEq y x:=by
 unfold fEq Ieee.Format.order
 show (Ieee.Datum.order (kE x) (kE y) == some .eq)=(Ieee.Datum.order (kE y) (kE x) == some .eq)
 generalize kE x=a
 generalize kE y=b
 match a,b with
 | .nan _ _,.nan _ _=>rfl
 | .nan _ _,.infinity _=>rfl
 | .nan _ _,.number _ _ _=>rfl
 | .infinity _,.nan _ _=>rfl
 | .number _ _ _,.nan _ _=>rfl
 | .infinity s,.infinity t=>cases s<;>cases t<;>rfl
 | .infinity s,.number _ _ _=>cases s<;>rfl
 | .number _ _ _,.infinity s=>cases s<;>rfl
 | .number s m i,.number t n j=>
  simp only [Ieee.Datum.order]
  rw [ayH,ayH,Int.min_comm j i]
  by_cases h:Ieee.signed s m (i-min i j).toNat=Ieee.signed t n (j-min i j).toNat
  .simp [h]
  .simp [h,Ne.symm h]
theorem EL (x:Nat):fEq x 0=(kE x).isZero:=by
 unfold fEq Ieee.Format.order
 show (Ieee.Datum.order (kE x) (kE 0) == some .eq)=_
 rw [afj]
 cases kE x with
 |nan s t=>rfl
 |infinity s=>cases s<;>rfl
 |number s m i=>
  simp only [Ieee.Datum.order,ayH,sg0]
  cases m with
  |zero=>simp [sg0,Ieee.Datum.isZero]
  |succ m=>simp [sgz,Ieee.Datum.isZero]
theorem aog (x:Nat):(kE x).neg=(x / 9223372036854775808 % 2 == 1):=by
 unfold kE Ieee.Format.read
 have e:FloatKind.f64.format.signWeight=9223372036854775808:=by rfl
 simp only [e]
 split
 .rfl
 .split
  .rfl
  .split<;>rfl
theorem apW (x:Nat):kE (x % 9223372036854775808)=match kE x with | .number _ m i=>.number false m i | .infinity _=>.infinity false | .nan _ t=>.nan false t:=by
 unfold kE Ieee.Format.read
 have e:FloatKind.f64.format.signWeight=9223372036854775808:=by rfl
 have e2:x % 9223372036854775808 / 9223372036854775808=0:=Nat.div_eq_of_lt (Nat.mod_lt _ (by decide))
 simp only [e,e2,Nat.mod_mod]
 split
 .rfl
 .split
  .rfl
  .split<;>rfl
theorem amW {x:Nat}(h:x<2 ^ 64):decide (((IntKind.wrap .i64 (x:Int)):Int)<0)=(kE x).neg:=by
 rw [aog]
 have h2:(2:Nat) ^ 64=18446744073709551616:=by decide
 rw [h2] at h
 have e:IntKind.wrap .i64 (x:Int)=if (x:Int) % 18446744073709551616>=9223372036854775808 then (x:Int) % 18446744073709551616-18446744073709551616 else (x:Int) % 18446744073709551616:=by
  show (if (true&&decide ((x:Int) % 2 ^ 64>=2 ^ (64-1)))=true then (x:Int) % 2 ^ 64-2 ^ 64 else (x:Int) % 2 ^ 64)=_
  simp
 have h3:(x:Int) % 18446744073709551616=x:=by omega
 rw [e,h3]
 by_cases hx:(x:Int)>=9223372036854775808
 .have h4:x / 9223372036854775808=1:=by omega
  have h5:(x:Int)-18446744073709551616<0:=by omega
  simp [hx,h4,h5]
 .have h4:x / 9223372036854775808=0:=by omega
  have h5:¬(x:Int)<0:=by omega
  simp [hx,h4,h5]
theorem ay4 (b:BitVec 64):IntKind.wrap .u64 (b.toNat:Int)=b.toNat:=by
 have h:=b.isLt
 have h2:(2:Nat) ^ 64=18446744073709551616:=by decide
 rw [h2] at h
 show (if (false&&decide ((b.toNat:Int) % 2 ^ 64>=2 ^ (64-1)))=true then (b.toNat:Int) % 2 ^ 64-2 ^ 64 else (b.toNat:Int) % 2 ^ 64)=_
 simp
 omega
theorem azj {x:Nat}(h:x<2 ^ 64):(nI .u64 (x:Int) 9223372036854775808).toNat=x % 9223372036854775808:=by
 have e1:(BitVec.ofInt 64 (x:Int))=BitVec.ofNat 64 x:=by
  apply BitVec.eq_of_toNat_eq
  simp [BitVec.toNat_ofInt]
 have e2 : ~~~ (BitVec.ofInt 64 (9223372036854775808:Int))=BitVec.ofNat 64 (2 ^ 63-1):=by decide
 have e:nI .u64 (x:Int) 9223372036854775808=((BitVec.ofNat 64 x&&&BitVec.ofNat 64 (2 ^ 63-1)).toNat:Int):=by
  show IntKind.wrap .u64 ((BitVec.ofInt 64 (x:Int)&&&~~~ BitVec.ofInt 64 (9223372036854775808:Int)).toNat:Int)=_
  rw [e1,e2,ay4]
 rw [e,aX,BitVec.toNat_and,BitVec.toNat_ofNat,BitVec.toNat_ofNat,Nat.mod_eq_of_lt h,Nat.mod_eq_of_lt (by decide:2 ^ 63-1<2 ^ 64),Nat.and_two_pow_sub_one_eq_mod]
theorem ayr {s:Bool}{i:Int}{x:Nat}(h:kE x=.number s 0 i):(FloatKind.f64.format.div 4607182418800017408 x).getD 0=FloatKind.f64.format.word s FloatKind.f64.format.infRung:=by
 unfold Ieee.Format.div
 show ((Ieee.Datum.quotient _ (kE 4607182418800017408) (kE x)).map _).getD 0=_
 rw [apV,h]
 have e:Ieee.Datum.quotient (FloatKind.f64.format.fractionBits+2) (.number false 4503599627370496 (-52)) (.number s 0 i)=some (.infinity s):=by
  simp [Ieee.Datum.quotient]
 rw [e]
 rfl
theorem adF (s:Bool):kE (FloatKind.f64.format.word s 0)=.number s 0 (-1074):=by cases s<;>rfl
theorem akj {s:Bool}{i:Int}{x:Nat}(h:kE x=.number s 0 i):fLt ((FloatKind.f64.format.div 4607182418800017408 x).getD 0) 0=s:=by
 rw [ayr h];cases s<;>rfl
theorem adG {s:Bool}{i:Int}{x:Nat}(h:kE x=.number s 0 i):fGt ((FloatKind.f64.format.div 4607182418800017408 x).getD 0) 0=!s:=by
 rw [ayr h];cases s<;>rfl
theorem Xo (s:Bool):FloatKind.f64.format.nearest s 0 0=FloatKind.f64.format.word s 0:=by cases s<;>rfl
theorem akk (x:Nat)(h:wP x=false):Yd (x % 9223372036854775808) 4845873199050653695=(ZK x 14069245235905429503&&Yd x 4845873199050653695):=by
 unfold Yd ZK Ieee.Format.order
 have e1:FloatKind.f64.format.read 4845873199050653695=.number false 9007199254740991 0:=Px
 have e2:FloatKind.f64.format.read 14069245235905429503=.number true 9007199254740991 0:=MC
 rw [e1,e2]
 show ((Ieee.Datum.order (kE _) _ == _)||(Ieee.Datum.order (kE _) _ == _))=(((Ieee.Datum.order (kE x) _ == _)||(Ieee.Datum.order (kE x) _ == _))&&((Ieee.Datum.order (kE x) _ == _)||(Ieee.Datum.order (kE x) _ == _)))
 rw [apW]
 unfold wP at h
 cases hx:kE x with
 |nan s t=>rw [hx] at h;cases h
 |infinity s=>cases s<;>rfl
 |number s m i=>
  simp only [Ieee.Datum.order,akg,akh]
  have hp:0<=((m <<< (i-min i 0).toNat:Nat):Int):=Int.natCast_nonneg _
  have hq:0<=((9007199254740991 <<< (0-min i 0).toNat:Nat):Int):=Int.natCast_nonneg _
  cases s
  .simp only [Ieee.signed,aU,if_false,if_true]
   generalize ((m <<< (i-min i 0).toNat:Nat):Int)=a at *
   generalize ((9007199254740991 <<< (0-min i 0).toNat:Nat):Int)=b at *
   by_cases h:a<=b<;>simp [h];omega
  .simp only [Ieee.signed,aU,if_false,if_true]
   generalize ((m <<< (i-min i 0).toNat:Nat):Int)=a at *
   generalize ((9007199254740991 <<< (0-min i 0).toNat:Nat):Int)=b at *
   by_cases h:a<=b
   .have : -b <= -a:=by omega
    simp [h,this];omega
   .have:¬(-b <= -a):=by omega
    simp [h,this]
theorem UG {x:Nat}{s:Bool}{m:Nat}{i:Int}(h:kE x=.number s m i)(y:Nat) :
  fEq (jC x) y=fEq (FloatKind.f64.nearest (((FloatKind.f64.decode x).toInt .zero).getD 0)) y:=by
 have e1:jC x=FloatKind.f64.format.nearest s (m*2 ^ i.toNat / 2 ^ (-i).toNat) 0:=by
  unfold jC FloatKind.decode FloatKind.encode
  show FloatKind.f64.format.write ((kE x).integral .zero)=_
  rw [h]
  simp only [Ieee.Datum.integral,NQ,Nat.shiftLeft_eq,Ieee.Format.write]
 have e2:((FloatKind.f64.decode x).toInt .zero).getD 0=Ieee.signed s (m*2 ^ i.toNat / 2 ^ (-i).toNat) 0:=by
  unfold FloatKind.decode
  show ((kE x).toInt .zero).getD 0=_
  rw [h]
  simp only [Ieee.Datum.toInt,Ieee.Datum.integral,NQ,Nat.shiftLeft_eq,Option.getD_some]
 rw [e1,e2]
 generalize m*2 ^ i.toNat / 2 ^ (-i).toNat=q
 have e3:FloatKind.f64.nearest (Ieee.signed s q 0)=FloatKind.f64.format.nearest (s&&decide (q≠0)) q 0:=by
  unfold FloatKind.nearest FloatKind.encode
  simp only [Ieee.Format.write]
  congr 1
  .cases s
   .simp [Ieee.signed]
   .cases q<;>simp [Ieee.signed]
  .cases s<;>simp [Ieee.signed]
 rw [e3]
 cases q with
 |succ q=>simp
 |zero=>
  simp only [ne_eq,not_true_eq_false,decide_false,Bool.and_false,Xo]
  unfold fEq Ieee.Format.order
  show (Ieee.Datum.order (kE _) (kE y) == _)=(Ieee.Datum.order (kE _) (kE y) == _)
  rw [adF,adF]
  cases kE y with
  |nan=>rfl
  |infinity=>rfl
  |number t n j=>simp only [Ieee.Datum.order,sg0]
end Go.Fw
end
section
namespace Go.Fw
theorem ahl (a:Int):je a a=false:=by simp [je]
theorem aut (a b:List UInt8):BF a b=decide (a=b):=rfl
theorem YR (a b:Int):dW a b=decide (a=b):=by unfold dW;exact ayy
theorem auu (a b:Int):je a b=!decide (a=b):=by unfold je bne;rw [ayy]
theorem PI {α:Type}[Inhabited α](l:List α)(k:Nat)(h:k<l.length):l.drop k=l.getD k default::l.drop (k+1):=by
 rw [List.drop_eq_getElem_cons h]
 simp [aF,h]
theorem akl {α:Type}[Inhabited α](l:List α)(k:Nat)(h:k<l.length):l.take (k+1)=l.take k++[l.getD k default]:=by
 rw [List.take_add_one]
 simp [aF,h]
theorem apX {α:Type}[Inhabited α](l:List α)(k:Nat)(h:k<l.length):l.getD k default∈l:=by
 simp [aF,h]
theorem ahm {k:Nat}(h:k<=4294967296):dZ .i64 (k:Int) 1=((k+1:Nat):Int):=by
 rw [arR (by omega) (by omega)];omega
theorem aho (b:Bool):(!(dW (lW b) 0))=!b:=by rw [amG]
theorem azo {α:Type}(f:α->List AV)(x:List α)(j:Nat):(!(decide ((j:Int)<(jy f x:Int))))=!decide (j<x.length):=by
 rw [iZ];congr 1;exact decide_eq_decide.2 (by omega)
theorem ay6 (a b:dI):(BF a.Str b.Str&&dW a.Sym b.Sym)=decide (a=b):=by
 cases a;cases b
 simp [aut,YR,Bool.decide_and]
end Go.Fw
end
