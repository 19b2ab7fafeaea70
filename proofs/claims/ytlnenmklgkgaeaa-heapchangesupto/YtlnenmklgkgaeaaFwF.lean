
import Derived.Test.YtlnenmklgkgaeaaFwE
import Derived.Lib.ReflectliteSlice
import Derived.Laws.Externs
import Derived.Test.YtlnenmklgkgaeaaFwA
import Derived.Test.YtlnenmklgkgaeaaFwB
import Derived.WideKeyArgs
import Derived.Below
import Derived.RowKit
import Derived.OpenShut
import Derived.ChangeMaps5
import Derived.ChangeSame
import Derived.ProofKit
import Derived.JoinedCond
set_option linter.unusedVariables false
set_option linter.unusedSimpArgs false
set_option linter.unusedSectionVars false
set_option linter.unnecessarySimpa false
section
namespace Go.Fw
variable [iT]
section
variable {P : Program} {ρ:List AV} {X:oN} {inl:B_} {Eu:FuncId->Bool}
def KOk (P:Program)(ρ:List AV)(N:Nat)(k:Pc->nX->Nat->Option xU)(A:jB->AH->Nat->AQ->Prop):Prop:=
 ∀pc st nv x,k pc st nv=some x->Pc.holds ρ pc->kQ P ρ x.sd->OD P ρ x.aw->∀fr ah nx,Gv ρ N st fr ah nx->A fr ah nx (EX ρ N x.outs)
theorem kL {a b:List (Pc×Sd)}(h:kQ P ρ (a++b)):kQ P ρ a:=fun x hx=>h x (by simp [hx])
theorem kX {a b:List (Pc×Sd)}(h:kQ P ρ (a++b)):kQ P ρ b:=fun x hx=>h x (by simp [hx])
theorem WX {a b:List Lo}(h:OD P ρ (a++b)):OD P ρ a:=(vY.1 h).1
theorem WY {a b:List Lo}(h:OD P ρ (a++b)):OD P ρ b:=(vY.1 h).2
theorem DV {k:Pc->nX->Nat->Option xU}(hk:∀pc st nv x,k pc st nv=some x->x.outs≠[]):∀{l:List Out} {pc:Pc} {nv:Nat} {x:xU},DU k pc l nv=some x->x.outs≠[]
 |[],pc,nv,x,h=>by simp [DU] at h
 |[o],pc,nv,x,h=>by
  simp only [DU] at h;cases hn:Zb o.e
  .simp only [hn,cond_false,Option.some.injEq] at h;subst h;simp
  .simp only [hn,cond_true] at h;exact hk _ _ _ _ h
 |o::o'::r,pc,nv,x,h=>by
  simp only [DU] at h;cases hn:Zb o.e
  .simp only [hn,cond_false] at h;split at h
   .cases h
   .simp only [Option.some.injEq] at h;subst h;simp
  .simp only [hn,cond_true] at h;split at h
   .cases h
   .rename_i y hy;split at h
    .cases h
    .rename_i z hz;simp only [Option.some.injEq] at h;subst h;have:=DV hk hz;simp [this]
theorem H_ {N:Nat}{k:Pc->nX->Nat->Option xU}{A:jB->AH->Nat->AQ->Prop}(hA:∀fr ah nx (Q Q':AQ),(∀e fr ah nx,Q e fr ah nx->Q' e fr ah nx)->A fr ah nx Q->A fr ah nx Q')
  (hne:∀pc st nv x,k pc st nv=some x->x.outs≠[]) (hk:KOk P ρ N k A):∀{l:List Out} {pc:Pc} {nv:Nat} {x:xU},DU k pc l nv=some x->Pc.holds ρ pc->kQ P ρ x.sd->OD P ρ x.aw->
  ∀e fr ah nx,EX ρ N l e fr ah nx->Si (fun fr ah nx=>A fr ah nx (EX ρ N x.outs)) (EX ρ N x.outs) e fr ah nx
 |[],pc,nv,x,h,hp,hs,ha,e,fr,ah,nx,hsel=>by simp [DU] at h
 |[o],pc,nv,x,h,hp,hs,ha,e,fr,ah,nx,hsel=>by
  obtain ⟨st,h1,h2⟩:=hsel;simp only [sel,Option.some.injEq,Prod.mk.injEq] at h1;obtain ⟨rfl,rfl⟩:=h1;simp only [DU] at h;cases hn:Zb o.e
  .simp only [hn,cond_false,Option.some.injEq] at h;subst h;have hQ:EX ρ N [o] o.e fr ah nx:=⟨o.st,rfl,h2⟩;revert hQ hn;generalize o.e=e;intro hn hQ;cases e<;>first|(simp [Zb] at hn;done)|exact hQ
  .simp only [hn,cond_true] at h;rw [Yw hn];exact hk _ _ _ _ h hp hs ha fr ah nx h2
 |o::o'::r,pc,nv,x,h,hp,hs,ha,e,fr,ah,nx,hsel=>by
  obtain ⟨st,h1,h2⟩:=hsel;simp only [sel] at h1;simp only [DU] at h;cases hn:Zb o.e
  .simp only [hn,cond_false] at h;split at h
   .cases h
   .rename_i y hy;simp only [Option.some.injEq] at h;subst h;have amR:=DV hne hy;cases hg:(o.g.den ρ).B
    .rw [hg] at h1;have ih:=H_ hA hne hk hy (dY hg hp) hs ha e fr ah nx ⟨st,h1,h2⟩;have lift:∀e fr ah nx,EX ρ N y.outs e fr ah nx->EX ρ N (o::y.outs) e fr ah nx:=by
      intro e fr ah nx ⟨st,q1,q2⟩;obtain ⟨z,s,hz⟩:=List.exists_cons_of_ne_nil amR;rw [hz] at q1 ⊢;exact ⟨st,by simp [sel,hg,q1],q2⟩
     cases e with
     |normal=>exact hA _ _ _ _ _ lift ih|_=>exact lift _ _ _ _ ih
    .rw [hg] at h1;simp only [cond_true,Option.some.injEq,Prod.mk.injEq] at h1;obtain ⟨rfl,rfl⟩:=h1;obtain ⟨z,s,hz⟩:=List.exists_cons_of_ne_nil amR;have hQ:EX ρ N (o::y.outs) o.e fr ah nx:=⟨o.st,by rw [hz];simp [sel,hg],h2⟩;revert hQ hn;generalize hoe:o.e=e;intro hn hQ;cases e<;>first|(simp [Zb] at hn;done)|exact hQ
  .simp only [hn,cond_true] at h;split at h
   .cases h
   .rename_i y hy;split at h
    .cases h
    .rename_i z hz;simp only [Option.some.injEq] at h;subst h;have arY:=DV hne hz;cases hg:(o.g.den ρ).B
     .rw [hg] at h1;have ih:=H_ hA hne hk hz (dY hg hp) (kX hs) (WY ha) e fr ah nx ⟨st,h1,h2⟩;have lift:∀e fr ah nx,EX ρ N z.outs e fr ah nx->EX ρ N (yY o.g y.outs++z.outs) e fr ah nx:=by
       intro e fr ah nx ⟨st,q1,q2⟩;exact ⟨st,by rw [xP arY,hg];simpa using q1,q2⟩
      cases e with
      |normal=>exact hA _ _ _ _ _ lift ih|_=>exact lift _ _ _ _ ih
     .rw [hg] at h1;simp only [cond_true,Option.some.injEq,Prod.mk.injEq] at h1;obtain ⟨rfl,rfl⟩:=h1;rw [Yw hn];refine hA _ _ _ _ _ (fun e fr ah nx ⟨st,q1,q2⟩=>⟨st,?_,q2⟩) (hk _ _ _ _ hy (dY hg hp) (kL hs) (WX ha) fr ah nx h2);have amR:y.outs≠[]:=apO q1;rw [xP arY,hg];simpa [amR] using q1
theorem aaV {l:List (Tm×RQ)}:sel ρ (l.map fun x=>(⟨x.1,.normal,⟨x.2.tr,x.2.th,x.2.nx⟩⟩:Out))=(lJ ρ l).map fun R=>(Exit.normal,(⟨R.tr,R.th,R.nx⟩:nX)):=by
 induction l with
 |nil=>rfl|cons x l ih=>
  cases l with
  |nil=>rfl|cons y r=>
   simp only [List.map_cons,sel,lJ] at ih ⊢;rw [ih];cases (x.1.den ρ).B<;>rfl
theorem amS (l:Nat)(e:Exit):swE l (swE l e)=e:=by
 cases e with
 |normal=>simp [swE]|goto m=>
  simp only [swE];cases h:Nat.beq m l
  .simp [swE,h]
  .simp only [cond_true,swE];rw [Nat.eq_of_beq_eq_true h]
 |_=>rfl
theorem aff {l:Nat}:∀{o:List Out},sel ρ (swO l o)=(sel ρ o).map fun x=>(swE l x.1,x.2)
 |[]=>rfl|[x]=>rfl|x::y::r=>by
  have ih:=aff (l:=l) (o:=y::r);simp only [swO,List.map_cons,sel] at ih ⊢;rw [ih];cases (x.g.den ρ).B<;>rfl
theorem EX.sw {N l:Nat}{o:List Out}{e:Exit}{fr:jB}{ah:AH}{nx:Nat}(h:EX ρ N o e fr ah nx):EX ρ N (swO l o) (swE l e) fr ah nx:=by
 obtain ⟨st,h1,h2⟩:=h;exact ⟨st,by rw [aff,h1];rfl,h2⟩
theorem Ia : ∀{o:List Out} {x:Exit×nX},OE o=none->sel ρ o=some x->∀l,x.1≠.goto l
 |[],x,h,hs,l=>by simp [sel] at hs
 |[y],x,h,hs,l=>by
  simp only [sel,Option.some.injEq] at hs;subst hs;simp only [OE] at h;split at h
  .cases h
  .rename_i hn;exact hn l
 |y::z::r,x,h,hs,l=>by
  rw [OE] at h;split at h
  .cases h
  .rename_i hn;simp only [sel] at hs;cases hb:(y.g.den ρ).B
   .rw [hb] at hs;exact Ia h hs l
   .rw [hb] at hs;simp only [cond_true,Option.some.injEq] at hs;subst hs;exact hn l
theorem YA {run:Pc->nX->Nat->Code->Option xU}{c:Code}(hne:∀pc st nv c x,run pc st nv c=some x->x.outs≠[]):∀{n:Nat} {pc:Pc} {outs:List Out} {nv:Nat} {y:xU},outs≠[]->aaN run c n pc outs nv=some y->y.outs≠[]
 |0,pc,outs,nv,y,_,h=>by simp [aaN] at h
 |n+1,pc,outs,nv,y,ho,h=>by
  simp only [aaN] at h;split at h
  .simp only [Option.some.injEq] at h;subst h;exact ho
  .split at h
   .cases h
   .split at h
    .cases h
    .rename_i y0 hy;split at h
     .simp only [Option.some.injEq] at h;subst h;have:y0.outs≠[]:=DV (fun pc st nv x hx=>by
       split at hx
       .cases hx
       .rename_i x1 hx1;split at hx
        .cases hx
        .rename_i y1 hy1;simp only [Option.some.injEq] at hx;subst hx;have:=YA hne (hne _ _ _ _ _ hx1) hy1;simp [swO,this]) hy
      simp [swO,this]
     .cases h
theorem afg {N:Nat}{run:Pc->nX->Nat->Code->Option xU}{c:Code}(hrun:∀c,KOk P ρ N (fun pc st nv=>run pc st nv c) fun fr ah nx Q=>AW P c fr ah nx Q)(hne:∀pc st nv c x,run pc st nv c=some x->x.outs≠[]) :
  ∀{n:Nat} {pc:Pc} {outs:List Out} {nv:Nat} {y:xU},aaN run c n pc outs nv=some y->Pc.holds ρ pc->kQ P ρ y.sd->OD P ρ y.aw->∀e fr ah nx,EX ρ N outs e fr ah nx->ags P c (EX ρ N y.outs) e fr ah nx
 |0,pc,outs,nv,y,h,_,_,_,_,_,_,_,_=>by simp [aaN] at h
 |n+1,pc,outs,nv,y,h,hp,hs,haw,e,fr,ah,nx,hsel=>by
  simp only [aaN] at h;split at h
  .rename_i hg;simp only [Option.some.injEq] at h;subst h;obtain ⟨st,h1,h2⟩:=hsel;have:=Ia hg h1;cases e with
   |goto l=>exact absurd rfl (this l)|_=>exact ⟨st,h1,h2⟩
  .rename_i l hl;split at h
   .cases h
   .rename_i rest hf;split at h
    .cases h
    .rename_i y0 hy0;split at h
     .rename_i hgn;simp only [Option.some.injEq] at h;subst h;have key:=H_ (P:=P) (ρ:=ρ) (N:=N) (A:=fun fr ah nx Q=>AO P c rest fr ah nx (fun e fr ah nx=>Q (swE l e) fr ah nx))
       (fun _ _ _ _ _ hQ h=>AO.mono h fun e=>hQ (swE l e)) (fun pc st nv x hx=>by
        split at hx
        .cases hx
        .rename_i x1 hx1;split at hx
         .cases hx
         .rename_i y1 hy1;simp only [Option.some.injEq] at hx;subst hx;have:=YA hne (hne _ _ _ _ _ hx1) hy1;simp [swO,this])
       (fun pc st nv x hx hp hs haw fr ah nx hst=>by
        split at hx
        .cases hx
        .rename_i x1 hx1;split at hx
         .cases hx
         .rename_i y1 hy1;simp only [Option.some.injEq] at hx;subst hx;refine PI (AW.mono (hrun rest _ _ _ _ hx1 hp (kL hs) (WX haw) fr ah nx hst) fun e fr ah nx hsel=>?_);have ih:=afg hrun hne hy1 hp (kX hs) (WY haw) e fr ah nx hsel;cases e with
          |goto m=>
           simp only [ags] at ih ⊢;split
           .rename_i r hr;rw [hr] at ih;exact AO.mono ih fun e fr ah nx h=>h.sw
           .rename_i hr;rw [hr] at ih;exact ih.sw
          |_=>exact EX.sw ih) hy0 hp hs haw (swE l e) fr ah nx hsel.sw
      have conv:∀e fr ah nx,EX ρ N y0.outs (swE l e) fr ah nx->EX ρ N (swO l y0.outs) e fr ah nx:=by
       intro e fr ah nx h;have:=h.sw (l:=l)
       rwa [amS] at this
      cases e with
      |normal=>exact conv .normal _ _ _ key
      |goto m=>
       by_cases hm:m=l
       .subst hm;simp only [swE,Nat.beq_refl,cond_true] at key;simp only [ags,hf];exact AO.mono key conv
       .have hb:Nat.beq m l=false:=by
         cases hb:Nat.beq m l
         .rfl
         .exact absurd (Nat.eq_of_beq_eq_true hb) hm
        have e1:swE l (.goto m)=.goto m:=(by simp [swE,hb]);rw [e1] at key;have k2:EX ρ N (swO l y0.outs) (.goto m) fr ah nx:=conv (.goto m) _ _ _ (by rw [e1];exact key)
        obtain ⟨st,q1,q2⟩:=k2;exact absurd rfl (Ia hgn q1 m)
      |exit id=>exact conv (.exit id) _ _ _ key
      |ret=>exact conv .ret _ _ _ key
      |panic ch=>exact conv (.panic ch) _ _ _ key
      |outgrown=>exact conv .outgrown _ _ _ key
     .cases h
theorem amT {N:Nat}{pc:Pc}{st:nX}{nv:Nat}{id:Nat}{ops:Array Oper}{draw:Bool}{x:xU}(hm:P.follows .mixedOrders=true)(hρ:fU ρ=true)(hX:ny P ρ X)(hI:lT P ρ inl)(h:amL P X inl Eu N pc st nv ops draw=some x)
  (hp:Pc.holds ρ pc) (hs:kQ P ρ x.sd) {fr:jB} {ah:AH} {nx:Nat} (hst:Gv ρ N st fr ah nx):AW P (.region id ops draw) fr ah nx (EX ρ N x.outs):=by
 refine TV hst fun Et kP hf ha hN=>?_;unfold amL at h;split at h
 .cases h
 .rename_i R hR;simp only [Option.some.injEq] at h;subst h;cases draw with
  |true=>
   simp only [cond_true] at hR;cases hc:uz ops&&vO ops (ayu ops.toList [])
   .simp [hc] at hR
   .simp only [hc,cond_true] at hR;simp only [Bool.and_eq_true] at hc;intro base w E a iE;refine wp_region_any hm ?_;obtain ⟨d1,d2⟩:=Qw iE.heap (w.drawn+1);obtain ⟨R',L,Hy,Ja,q1,q2,q3,q4,q5,q6,q7,q8,q9⟩:=yO (P:=P) (base:=base) hρ hX hI ops.toList 0 Et kP hR hp hs hf ha hN (by simp);have hsz:L.length=ops.size:=(by rw [q2];simp);have get:∀k,k<ops.size->∃o r,ops[k]?=some o/\L[k]?=some r/\FY P ops base (ayu ops.toList []) 0 ops.toList L Hy Ja R'.nx [] [] [] k o r:=fun k hk=>by
     have h1:ops[k]?=some ops[k]:=(by simp [hk]);have h2:L[k]?=some L[k]:=(by simp [hsz,hk]);exact ⟨_,_,h1,h2,q9 k _ _ (by simpa using h1) h2⟩
    have atS:∀{α:Type} (f:zi->α) (e:α) (k:Nat) (r:zi),L[k]?=some r->Dk f L e k=f r:=fun f e k r h=>by unfold Dk;rw [h]
    have arZ:∀k,k<ops.size->Dk (·.nx) L R'.nx k<=Dk (·.nx) L R'.nx (k+1):=fun k hk=>by
     obtain ⟨o,r,h1,h2,g⟩:=get k hk;rw [atS _ _ k r h2];exact g.nx
    have mono:∀n m,m+n<=ops.size->Dk (·.nx) L R'.nx m<=Dk (·.nx) L R'.nx (m+n):=by
     intro n;induction n with
     |zero=>intro m _;exact Nat.le_refl _|succ n ih=>intro m hm;exact Nat.le_trans (ih m (by omega)) (arZ (m+n) (by omega))
    have hend:Dk (·.nx) L R'.nx ops.size=R'.nx:=(by unfold Dk;rw [List.getElem?_eq_none (by omega)]);have ar0:Dk (·.fr) L Hy ops.size=Hy:=(by unfold Dk;rw [List.getElem?_eq_none (by omega)]);have ar1:Dk (·.ah) L Ja ops.size=Ja:=(by unfold Dk;rw [List.getElem?_eq_none (by omega)]);have hL:agp P ops base (ayu ops.toList []) (fun b=>st.nx<=b) (fun k=>Dk (·.fr) L Hy k) (fun k=>Dk (·.ah) L Ja k) (fun k=>Dk (·.rv) L eX k) (fun k=>Dk (·.WR) L (fun _=>false) k) (fun k=>Dk (·.RD) L (fun _=>false) k)
      (fun k=>Dk (·.NEW) L (fun _=>False) k) (fun k=>Dk (·.XY) L (fun _=>False) k):=by
     refine ⟨fun j o ho=>?_,fun j o ho=>?_,fun j b hj=>?_,fun j hj j' hj'=>?_,fun j b hj=>?_,fun x y hx hy hxy=>?_⟩
     .have hj:=(Array.getElem?_eq_some_iff.1 ho).1;obtain ⟨o',r,h1,h2,g⟩:=get j hj;rw [ho] at h1;cases h1;simp only [atS _ _ j r h2];have:=g.step;rw [Nat.zero_add] at this;exact this
     .have hj:=(Array.getElem?_eq_some_iff.1 ho).1;obtain ⟨o',r,h1,h2,g⟩:=get j hj;rw [ho] at h1;cases h1;simp only [atS _ _ j r h2];exact g.fr
     .obtain ⟨o,r,h1,h2,g⟩:=get j hj;simp only [atS _ _ j r h2];exact g.ah b
     .obtain ⟨o,r,h1,h2,g⟩:=get j hj;obtain ⟨o',r',h1',h2',g'⟩:=get j' (by omega);simp only [atS _ _ j r h2,atS _ _ j' r' h2'];have:=(g.prev j' r' hj' h2').1;rw [Nat.zero_add,Nat.zero_add] at this;exact this
     .obtain ⟨o,r,h1,h2,g⟩:=get j hj;simp only [atS _ _ j r h2];intro hb;have e1:=g.req b hb;have e2:=mono j 0 (by omega);rw [Nat.zero_add,q8,atS _ _ j r h2] at e2;exact Nat.le_trans e2 e1
     .obtain ⟨ox,rx,hx1,hx2,gx⟩:=get x hx;obtain ⟨oy,ry,hy1,hy2,gy⟩:=get y hy;simp only [atS _ _ x rx hx2,atS _ _ y ry hy2];rcases Nat.lt_or_gt_of_ne hxy with hlt|hgt
      .refine .inr fun b hb hn=>?_;have e1:=gx.new b hn;have e2:=gy.req b hb;have e3:=mono (y-(x+1)) (x+1) (by omega);rw [show x+1+(y-(x+1))=y by omega,atS _ _ y ry hy2] at e3;have:b<ry.nx:=Nat.lt_of_lt_of_le e1 e3;omega
      .cases hcy:ry.call with
       |true=>
        rcases (gx.prev y ry hgt hy2).2.1 hcy with h|h
        .rw [Nat.zero_add,Nat.zero_add] at h;exact .inl h
        .exact .inr fun b hb hn=>h b hb hn
       |false=>
        cases hcx:rx.call with
        |true=>
         rcases (gx.prev y ry hgt hy2).2.2 hcx with h|h
         .rw [Nat.zero_add,Nat.zero_add] at h;exact .inl h
         .exact .inr fun b hb=>(h b hb).elim
        |false=>
         refine .inr fun b hb hn=>?_;have e1:=(gy.plain hcy).1 b hb;have e2:=(gx.plain hcx).2 b hn;have e3:=mono (x-(y+1)) (y+1) (by omega);rw [show y+1+(x-(y+1))=x by omega,atS _ _ x rx hx2] at e3;have:b<rx.nx:=Nat.lt_of_lt_of_le e1 e3;omega
    refine agr hc.1 hc.2 hL (by simp only [q7];exact d2) (by simp only [q6];exact iE.fr.mono d1.ext) (fun a' w' hp'=>?_);obtain ⟨E',p1,p2,p3,p4⟩:=hp';simp only [ar0,ar1] at p2 p3;refine ⟨E',Hy,Ja,R'.nx,⟨⟨R'.tr,R'.th,R'.nx⟩,by rw [aaV,q1];rfl,Gv.of q3 q4 q5 (Nat.le_refl _)⟩,⟨p2.weaken fun b hb=>⟨?_,fun i hi hn=>?_⟩,p3,by rw [p4];exact iE.defers⟩,d1.trans p1⟩
    .have:=mono ops.size 0 (by omega);rw [Nat.zero_add,hend,q8] at this;exact Nat.le_trans this hb
    .obtain ⟨o,r,h1,h2,g⟩:=get i hi;rw [atS _ _ i r h2] at hn;have e1:=g.new b hn;have e3:=mono (ops.size-(i+1)) (i+1) (by omega);rw [show i+1+(ops.size-(i+1))=ops.size by omega,hend] at e3;have:b<R'.nx:=Nat.lt_of_lt_of_le e1 e3;have hb':R'.nx<=b:=hb;omega
  |false=>
   simp only [cond_false] at hR;intro base w E a iE;refine wp_region ?_;have:=yE (Eu:=Eu) (Q:=y9 base w E (EX ρ N (R.outs.map fun x=>⟨x.1,.normal,⟨x.2.tr,x.2.th,x.2.nx⟩⟩))) (base:=base) hρ hX hI ops.toList 0 Et kP w E a hR hp hs hf ha hN (by simp) iE.heap iE.fr (fun R' hR' a' w' hpost=>?_)
   .simpa [List.range_eq_range'] using this
   .obtain ⟨E',fr',dV,q1,q2,q3,q4,q5,q6,q7⟩:=hpost;exact ⟨E',fr',dV,R'.nx,⟨⟨R'.tr,R'.th,R'.nx⟩,by rw [aaV,hR'];rfl,Gv.of q1 q2 q3 (Nat.le_refl _)⟩,⟨q5,q6,by rw [q7];exact iE.defers⟩,q4⟩
def Fh (P:Program)(c:Code)(Q:AQ):Nat->jB->AH->Nat->Prop
 |0,_,_,_=>False|n+1,fr,ah,nx=>AW P c fr ah nx (Si (Fh P c Q n) Q)
theorem KQ {K K':jB->AH->Nat->Prop}{Q Q':AQ}(hK:∀fr ah nx,K fr ah nx->K' fr ah nx)(hQ:∀e fr ah nx,Q e fr ah nx->Q' e fr ah nx):∀e fr ah nx,Si K Q e fr ah nx->Si K' Q' e fr ah nx:=by
 intro e fr ah nx h;cases e<;>first|exact hK _ _ _ h|exact hQ _ _ _ _ h
theorem MH {c:Code}{Q Q':AQ}(hQ:∀e fr ah nx,Q e fr ah nx->Q' e fr ah nx):∀{n:Nat} {fr:jB} {ah:AH} {nx:Nat},Fh P c Q n fr ah nx->Fh P c Q' n fr ah nx
 |0,_,_,_,h=>h|n+1,fr,ah,nx,h=>AW.mono h (KQ (fun _ _ _ h=>MH hQ h) hQ)
theorem C_.refl : ∀fr:jB,C_ fr fr
 |[]=>trivial|none::r=>C_.refl r|some a::r=>⟨rfl,C_.refl r⟩
theorem ahf {c:Code}{Q:AQ}{n:Nat}{fr:jB}{ah:AH}{nx:Nat}(h:Fh P c Q n fr ah nx):AW P (.loop c) fr ah nx Q:=by
 refine aeG (fun n fr ah nx=>Fh P c Q n fr ah nx) n fr (C_.refl fr) h fun n fr ah nx h K hK=>?_;cases n with
 |zero=>exact h.elim|succ n=>exact AW.mono h (KQ (fun fr ah nx h=>hK fr ah nx ⟨n,Nat.lt_succ_self n,fr,C_.refl fr,h⟩) fun _ _ _ _ h=>h)
theorem Ue {body:Pc->nX->Nat->Option xU}:∀{m:Nat} {pc:Pc} {st:nX} {nv:Nat} {x:xU},MG body m pc st nv=some x->x.outs≠[]
 |0,pc,st,nv,x,h=>by simp [MG] at h
 |m+1,pc,st,nv,x,h=>by
  simp only [MG] at h;split at h
  .cases h
  .split at h
   .cases h
   .rename_i y hy;simp only [Option.some.injEq] at h;subst h;exact (DV (k:=MG body m) (fun _ _ _ _ h=>Ue h) hy:y.outs≠[])
theorem aaW {N:Nat}{body:Pc->nX->Nat->Option xU}{c:Code}(hb:KOk P ρ N body fun fr ah nx Q=>AW P c fr ah nx Q):∀{m:Nat},KOk P ρ N (MG body m) fun fr ah nx Q=>Fh P c Q m fr ah nx
 |0=>fun pc st nv x h=>by simp [MG] at h
 |m+1=>fun pc st nv x h hp hs ha fr ah nx hst=>by
  simp only [MG] at h;split at h
  .cases h
  .rename_i x1 hx1;split at h
   .cases h
   .rename_i y hy;simp only [Option.some.injEq] at h;subst h;refine AW.mono (hb _ _ _ _ hx1 hp (kL hs) (WX ha) fr ah nx hst) fun e fr ah nx hsel=>?_;exact H_ (A:=fun fr ah nx Q=>Fh P c Q m fr ah nx) (fun _ _ _ _ _ hQ h=>MH hQ h) (fun _ _ _ _ h=>Ue h) (aaW hb) hy hp (kX hs) (WY ha) e fr ah nx hsel
theorem DW {th:Tr SB}:∀{n:Nat} {l:List Nat} {acc:Tr SB},(∀b k,acc.get b=some k->th.get b=some k)->∀b k,(ayy th n l acc).get b=some k->th.get b=some k
 |0,l,acc,h=>h|n+1,[],acc,h=>h|n+1,b::r,acc,h=>by
  simp only [ayy];split
  .exact DW h
  .split
   .exact DW h
   .rename_i k hk;refine DW fun j y hj=>?_;rcases Tr.kW _ _ _ _ _ _ hj with ⟨rfl,h1⟩|⟨-,h1⟩
    .simp only [Option.some.injEq] at h1;subst h1;exact hk
    .exact h _ _ h1
theorem WZ {id:Nat}:∀{l:List Out},sel ρ (leave id l)=(sel ρ l).map fun x=>(lvE id x.1,x.2)
 |[]=>rfl|[o]=>rfl|o::o'::r=>by
  have ih:=WZ (id:=id) (l:=o'::r);simp only [leave,List.map_cons,sel] at ih ⊢;rw [ih];cases hb:(o.g.den ρ).B<;>rfl
theorem EX.leave {N id:Nat}{l:List Out}{e:Exit}{fr:jB}{ah:AH}{nx:Nat}(h:EX ρ N l e fr ah nx):AIn id (EX ρ N (Go.Fw.leave id l)) e fr ah nx:=by
 obtain ⟨st,h1,h2⟩:=h;have e1:=WZ (ρ:=ρ) (id:=id) (l:=l);rw [h1] at e1;cases e with
 |exit j=>
  simp only [AIn];split
  .rename_i hj;subst hj;exact ⟨st,by rw [e1];simp [lvE],h2⟩
  .rename_i hj;refine ⟨st,?_,h2⟩;rw [e1];have:Nat.beq j id=false:=by
    cases hb:Nat.beq j id
    .rfl
    .exact absurd (Nat.eq_of_beq_eq_true hb) hj
   simp [lvE,this]
 |_=>exact ⟨st,e1,h2⟩
theorem QI {keep:Kp}:∀{l:List Out},l≠[]->KN keep l≠[]
 |[],h=>absurd rfl h|o::r,_=>by
  unfold KN;cases Zb o.e
  .simp
  .simp only [cond_true];split
   .simp
   .rename_i l n _;cases Zb n.e
    .simp
    .simp only [cond_true];split<;>simp
theorem ajP {cs:nX}{nv k q:Nat}{x:Exit×zD}{r:List (Exit×zD)}:Ci cs nv k q (x::r)≠[]:=by cases r<;>simp [Ci]
theorem ajQ {N:Nat}{pc:Pc}{st:nX}{nv id:Nat}{b:Code}{x:xU}(h:aaP P N pc st nv id b=some x):x.outs≠[]:=by
 unfold aaP at h;split at h
 .cases h
 .unfold adf at h;split at h
  .split at h
   .split at h
    .rw [Bool.cond_eq_ite] at h;split at h
     .split at h
      .simp only [Option.some.injEq] at h;subst h;simp
      .cases h
     .cases h
    .cases h
   .cases h
  .cases h
theorem rP {G:Cfg}{F:wQ}:∀{n:Nat} {pc:Pc} {st:nX} {nv:Nat} {c:Code} {x:xU},rO P G F n pc st nv c=some x->x.outs≠[]
 |0,pc,st,nv,c,x,h=>by simp [rO] at h
 |n+1,pc,st,nv,c,x,h=>by
  unfold rO at h;split at h
  .simp only [Option.some.injEq] at h;subst h;simp
  .simp only [Option.some.injEq] at h;subst h;simp
  .simp only [Option.some.injEq] at h;subst h;simp
  .unfold amL at h;rename_i id ops draw;split at h
   .cases h
   .rename_i S hS;simp only [Option.some.injEq] at h;subst h;have:S.outs≠[]:=by
     cases draw
     .exact qp hS
     .simp only [cond_true] at hS;generalize (uz ops&&vO ops (ayu ops.toList []))=q at hS;cases q
      .cases hS
      .exact uj hS
    simp [this]
  .split at h
   .cases h
   .split at h
    .cases h
    .rename_i y hy;simp only [Option.some.injEq] at h;subst h;exact QI (DV (fun _ _ _ _ h=>rP h) hy)
  .split at h
   .split at h
    .exact rP h
    .exact rP h
    .split at h
     .cases h
     .split at h
      .cases h
      .rename_i y hy;simp only [Option.some.injEq] at h;subst h;refine QI ?_;have:=rP hy;simp [QF,this]
   .cases h
  .split at h
   .rename_i c hh hm;dsimp only at h;split at h
    .cases h
    .split at h
     .cases h
     .split at h
      .rename_i x r hxs;simp only [Option.some.injEq] at h;subst h;rw [hxs];exact ajP
      .cases h
   .split at h
    .rename_i y hy;simp only [Option.some.injEq] at h;subst h;exact ajQ hy
    .split at h
     .cases h
     .rename_i y hy;simp only [Option.some.injEq] at h;subst h;refine QI ?_;have:=rP hy;simp [leave,this]
  .simp only [Option.some.injEq] at h;subst h;simp
  .simp only [Option.some.injEq] at h;subst h;simp
  .split at h
   .cases h
   .rename_i x1 hx1;split at h
    .cases h
    .rename_i y hy;simp only [Option.some.injEq] at h;subst h;exact QI (YA (fun _ _ _ _ _ h=>rP h) (rP hx1) hy)
  .exact Ue h
  .cases h
end
section
variable {P : Program}
theorem ajR {N:Nat}{ρ:List AV}{pc:Pc}{st:nX}{nv id:Nat}{b:Code}{x:xU}{fr:jB}{ah:AH}{nx:Nat}(hp:pc.holds ρ)(hs:kQ P ρ x.sd)(hst:Gv ρ N st fr ah nx)(h:aaP P N pc st nv id b=some x) :
  AW P (.block id b) fr ah nx (EX ρ N x.outs):=by
 unfold aaP at h;split at h
 .cases h
 rename_i m hm;obtain ⟨r1,r2,r3,id5,o1,o2,p1,p2,p3,q1,q2,q3,q4,hmo,rfl⟩:=aaO hm;refine TV hst fun fr ah hf ha hN=>?_;unfold adf at h;split at h
 .rename_i q sq bd len h1 h2;split at h
  .rename_i mb n d h3 h4;split at h
   .rename_i mk t h5;rw [Bool.cond_eq_ite] at h;split at h
    case isFalse=>cases h
    case isTrue hg=>
     split at h
     .rename_i e9 hT hTB;simp only [Option.some.injEq] at h;subst h;simp only [Bool.and_eq_true,List.all_eq_true,Bool.not_eq_true',List.contains_eq_mem,decide_eq_false_iff_not] at hg;obtain ⟨g1,g2,g3,g4,g5,g6,g7,g8,g9⟩:=hg;have bne:∀{a b:Nat},Nat.beq a b=false->a≠b:=fun {a b} h e=>by subst e;simp at h
      obtain rfl:=Tm.beq_eq g1;obtain ⟨k1,k2,k3,k4⟩:=hs (pc,.s (.mark mk t d len (.var nv []))) (by simp) hp;have hq:fV fr m.it=some (.op q sq 0 0):=gK hp hf h1;have hD:fV fr m.tD=some (.os bd 1 0 (len.den ρ).I.toNat):=gK hp hf h2;have hqa:ah q=some (.it mb ((t.den ρ).R.map (pV mk)).length 0):=by
       rw [ha _ _ h3];simp [SB.den,Tm.den,D.I,nM]
      refine amJ (es:=(t.den ρ).R.map (pV mk)) (rs:=(d.den ρ).R) hmo (fun t ht=>by rw [hN];exact Nat.le_of_ble_eq_true (g2 t ht)) g3 g4 (bne g5) (bne g6) hq hqa (ha _ _ h5) hD (ha _ _ h4) k1 hT hTB k2 (bne g7) (bne g8) (bne g9) ?_;intro fr' rs' hl hfr hrl hrs;refine ⟨_,rfl,Gv.of (fun t e he=>?_) (fun b k hk=>?_) (hl.trans hN) (Nat.le_refl _)⟩
      .obtain ⟨h6,h7⟩:=TY he;rw [hfr t h6];exact hf t e h7
      .rcases Tr.kW _ _ _ _ _ _ hk with ⟨rfl,h6⟩|⟨hne,h6⟩
       .simp only [Option.some.injEq] at h6;subst h6;rw [gX rfl];have:rs'=(Tm.den ρ (.var nv [])).R:=by
         apply List.ext_getElem?;intro i;by_cases hi:i<(d.den ρ).R.length
         .rw [hrs i hi,k4 i hi]
         .rw [List.getElem?_eq_none (by omega),List.getElem?_eq_none (by omega)]
        rw [this];rfl
       .rw [ayp hne];rcases Tr.kW _ _ _ _ _ _ h6 with ⟨_,h7⟩|⟨hne2,h7⟩
        .cases h7
        .rw [ayp hne2];exact ha _ _ h7
     .cases h
   .cases h
  .cases h
 .cases h
theorem nC {G:Cfg}{F:wQ}(hm:P.follows .mixedOrders=true)(hX:∀σ:List AV,fU σ=true->ny P σ G.X)(hI:∀σ:List AV,fU σ=true->lT P σ G.inl):∀{n:Nat} {c:Code} {ρ:List AV},fU ρ=true->KOk P ρ F.N (fun pc st nv=>rO P G F n pc st nv c) fun fr ah nx Q=>AW P c fr ah nx Q
 |0,c,ρ,hρ=>fun pc st nv x h=>by simp [rO] at h
 |n+1,c,ρ,hρ=>fun pc st nv x h hp hs ha fr ah nx hst=>by
  unfold rO at h;dsimp only at h;split at h
  .simp only [Option.some.injEq] at h;subst h;exact LM ⟨st,rfl,hst⟩
  .simp only [Option.some.injEq] at h;subst h;exact aeF ⟨st,rfl,hst⟩
  .simp only [Option.some.injEq] at h;subst h;exact G8 ⟨st,rfl,hst⟩
  .exact amT hm hρ (hX ρ hρ) (hI ρ hρ) h hp hs hst
  .split at h
   .cases h
   .rename_i x1 hx1;split at h
    .cases h
    .rename_i y hy;simp only [Option.some.injEq] at h;subst h;refine n_ (AW.mono (nC hm hX hI hρ _ _ _ _ hx1 hp (kL hs) (WX ha) fr ah nx hst) fun e fr ah nx hsel=>?_);have:=H_ (A:=fun fr ah nx Q=>AW P _ fr ah nx Q) (fun _ _ _ _ _ hQ h=>AW.mono h hQ) (fun _ _ _ _ h=>rP h) (nC hm hX hI hρ) hy hp (kX hs) (WY ha) e fr ah nx hsel;exact KQ (fun fr ah nx h=>AW.mono h fun _ _ _ _ h=>wu h) (fun _ _ _ _ h=>wu h) _ _ _ _ this
  .split at h
   .rename_i t ht;refine TV hst fun Et kP hf hah hN=>?_;have hev:=gK hp hf ht;have amU:Gv ρ F.N st Et kP st.nx:=Gv.of hf hah hN (Nat.le_refl _);refine LP (t.den ρ).B hev ?_;split at h
    .rename_i hk;rw [if_pos (Pc.fM hp hk)];exact nC hm hX hI hρ _ _ _ _ h hp hs ha Et kP _ amU
    .rename_i hk;rw [if_neg (by rw [Pc.fM hp hk];simp)];exact nC hm hX hI hρ _ _ _ _ h hp hs ha Et kP _ amU
    .split at h
     .cases h
     .rename_i x1 hx1;split at h
      .cases h
      .rename_i y hy;simp only [Option.some.injEq] at h;subst h;have n1:=rP hx1;have n2:=rP hy;cases hb:(t.den ρ).B
       .rw [if_neg (by simp)];refine AW.mono (nC hm hX hI hρ _ _ _ _ hy (dY hb hp) (kX hs) (WY ha) Et kP _ amU) fun e fr ah nx ⟨st',q1,q2⟩=>wu ⟨st',?_,q2⟩;rw [ae3 n1 n2,hb];simpa using q1
       .rw [if_pos rfl];refine AW.mono (nC hm hX hI hρ _ _ _ _ hx1 (dY hb hp) (kL hs) (WX ha) Et kP _ amU) fun e fr ah nx ⟨st',q1,q2⟩=>wu ⟨st',?_,q2⟩;rw [ae3 n1 n2,hb];simpa using q1
   .cases h
  .rename_i id b;split at h
   .rename_i c' hh hmm;split at h
    .cases h
    .rename_i ent hent;split at h
     .cases h
     .rename_i x1 hx1;split at h
      .rename_i outs y r hcls hxs;simp only [Option.some.injEq] at h;subst h;obtain ⟨rfl,-⟩:=ahb hmm;refine ahd hρ hp hent hcls (fun s hm=>hs (pc,.s s) (List.mem_map.2 ⟨s,hm,rfl⟩) hp) (fun x hx=>List.mem_append_right _ hx) (fun σ hσ h1 h2 h3 fr ah nx h4=>nC hm hX hI hσ _ _ _ _ hx1 h1 (WC (fun x hx=>h2 x (List.mem_append_left _ hx)) (vY.1 (aoc h3)).2) (vY.1 (aoc h3)).1 fr ah nx h4) ?_ rfl hst;exact ha.1
      .cases h
   .split at h
    .rename_i y hy;simp only [Option.some.injEq] at h;subst h;exact ajR hp hs hst hy
    .split at h
     .cases h
     rename_i y hy;simp only [Option.some.injEq] at h;subst h;refine Sj (AW.mono (nC hm hX hI hρ _ _ _ _ hy hp hs ha fr ah nx hst) fun e fr ah nx hsel=>?_);have:=EX.leave (id:=id) hsel;cases e with
     |exit j=>
      simp only [AIn] at this ⊢;split
      .rename_i hj;rw [if_pos hj] at this;exact wu this
      .rename_i hj;rw [if_neg hj] at this;exact wu this
     |_=>exact wu this
  .simp only [Option.some.injEq] at h;subst h;exact aiF ⟨st,rfl,hst⟩
  .simp only [Option.some.injEq] at h;subst h;exact al8 ⟨st,rfl,hst⟩
  .split at h
   .cases h
   .rename_i x1 hx1;split at h
    .cases h
    .rename_i y hy;simp only [Option.some.injEq] at h;subst h;refine aiG (PI (AW.mono (nC hm hX hI hρ _ _ _ _ hx1 hp (kL hs) (WX ha) fr ah nx hst) fun e fr ah nx hsel=>?_));have key:=afg (fun c=>nC hm hX hI hρ) (fun _ _ _ _ _ h=>rP h) hy hp (kX hs) (WY ha) e fr ah nx hsel;cases e with
     |goto m=>
      simp only [ags] at key ⊢;split
      .rename_i r hr;rw [hr] at key;exact AO.mono key fun e fr ah nx h=>wu h
      .rename_i hr;rw [hr] at key;exact wu key
     |_=>exact wu key
  .exact ahf (aaW (nC hm hX hI hρ) _ _ _ _ h hp hs ha fr ah nx hst)
  .cases h
end
end Go.Fw
end
section
namespace Go.Fw
variable [iT]
def Ba : Nat->List SV->Tr oq
 |_,[]=>.e|i,a::r=>(Ba (i+1) r).upd uf i (some ⟨[],a⟩)
def adh (P:Program)(pc:Pc)(st:nX):Nat->List ResultVar->Option (List SV×Nat×List Side)
 |nv,[]=>some ([],nv,[])|nv,.tmp t::r=>match zf pc st.fr (.tmp t) with
  |none=>none|some v=>match adh P pc st nv r with
   |none=>none|some (l,tJ,sd)=>some (v::l,tJ,sd)
 |nv,.cell t ty::r=>match zf pc st.fr (.tmp t) with
  |none=>none|some p=>match aeI P pc st.ah nv ty p with
   |none=>none|some x=>match adh P pc st x.nv r with
    |none=>none|some (l,tJ,sd)=>some (x.v::l,tJ,x.sd++sd)
def ar2 : List SV->SV
 |[a]=>a|l=>.gW l
def Ib : Exit->Bool | .normal | .ret=>true|_=>false
structure Lf where
 v:SV
 th:Tr SB
 nx:Nat
 nv:Nat
 sd:List (Pc×Sd)
def Ic (P:Program)(rs:List ResultVar)(pc:Pc)(nv:Nat)(o:Out):Option Lf:=
 bif Ib o.e then
  match adh P pc o.st nv rs with
  |none=>none|some (l,tJ,sd)=>some ⟨ar2 l,o.st.ah,o.st.nx,tJ,Mc pc sd []⟩
 else none
structure EQ where
 outs:List (Tm×CO)
 nv:Nat
 sd:List (Pc×Sd)
def amV (low:Nat)(g:Tm)(c d:CO):Option CO:=
 match ag4 g c.v d.v with
 |none=>none|some v=>
  let th:=Tr.mrg (aar g) c.th d.th
  bif ajz low v.zx c.th d.th th then none else some ⟨v,th,Nat.max c.nx d.nx⟩
def ahg (low:Nat)(g:Tm)(c:CO):List (Tm×CO)->List (Tm×CO)
 |[]=>[(g,c)]|x::r=>match amV low g c x.2 with
  |some m=>(azw g x.1,m)::r|none=>(g,c)::x::r
def JM (P:Program)(low:Nat)(rs:List ResultVar):Pc->Nat->List Out->Option EQ
 |_,_,[]=>none|pc,nv,[o]=>match Ic P rs pc nv o with
  |none=>none|some x=>some ⟨[(.lb true,⟨x.v,x.th,x.nx⟩)],x.nv,x.sd⟩
 |pc,nv,o::o'::r=>match Ic P rs (gJ o.g true pc) nv o with
  |none=>none|some x=>match JM P low rs (gJ o.g false pc) x.nv (o'::r) with
   |none=>none|some y=>some ⟨ahg low o.g ⟨x.v,x.th,x.nx⟩ y.outs,y.nv,x.sd++y.sd⟩
def kN (fn:Func):Bool:=decide (fn.name≠ "runtime.NumGoroutine")
abbrev Md :=FuncId->Nat
def is2 (md:Md):FuncId->Bool:=fun f=>Nat.beq (md f) 2
def awX (l:List Lo):List (Pc×Sd):=l.map fun x=>([],.l x)
theorem ajS {P:Program}{ρ:List AV}:∀{l:List Lo},kQ P ρ (awX l)->QD P l ρ
 |[],_=>trivial|x::r,h=>⟨h ([],.l x) (by simp [awX]) (fun y hy=>by cases hy),ajS (l:=r) fun y hy=>h y (by simp [awX] at hy ⊢;exact .inr hy)⟩
def aou : SV->Bool
 | .gW (.agg [.nil]::_) | .gW (.agg [.slc [] _]::_)=>true|_=>false
def Ie (c:Bool):Pc->List (Tm×CO)->List (Tm×CO)×List (Pc×Sd)
 |pc,o::o'::r=>bif c&&aou o.2.v then ((Ie c (gJ o.1 false pc) (o'::r)).1,(gJ o.1 true pc,.s (.tm (.lb false)))::(Ie c (gJ o.1 false pc) (o'::r)).2)
  else (o::(Ie c (gJ o.1 false pc) (o'::r)).1,(Ie c (gJ o.1 false pc) (o'::r)).2)
 |_,l=>(l,[])
theorem Ug {P:Program}{ρ:List AV}{c:Bool}{d:CO}:∀{l:List (Tm×CO)} {pc:Pc},pc.holds ρ->kQ P ρ (Ie c pc l).2->lJ ρ l=some d->lJ ρ (Ie c pc l).1=some d
 |[],pc,hp,hs,h=>by simp [lJ] at h
 |[o],pc,hp,hs,h=>h|o::o'::r,pc,hp,hs,h=>by
  simp only [Ie] at hs ⊢;cases hc:c&&aou o.2.v
  .simp only [hc,cond_false] at hs ⊢;cases hg:(o.1.den ρ).B
   .have h':lJ ρ (o'::r)=some d:=(by simpa [lJ,hg] using h);have ih:=Ug (l:=o'::r) (dY hg hp) hs h';generalize (Ie c (gJ o.1 false pc) (o'::r)).1=q at ih ⊢;cases q with
    |nil=>simp [lJ] at ih|cons z q=>simpa [lJ,hg] using ih
   .have h':o.2=d:=(by simpa [lJ,hg] using h);generalize (Ie c (gJ o.1 false pc) (o'::r)).1=q;cases q with
    |nil=>simp [lJ,h']|cons z q=>simp [lJ,hg,h']
  .simp only [hc,cond_true] at hs ⊢;cases hg:(o.1.den ρ).B
   .have h':lJ ρ (o'::r)=some d:=(by simpa [lJ,hg] using h);exact Ug (l:=o'::r) (dY hg hp) (fun x hx=>hs x (aN _ hx)) h'
   .have:=hs _ aZ (dY hg hp);exact absurd this (by show ¬(Tm.den ρ (.lb false)).B=true;simp [Tm.den,D.B])
def ajT (P:Program)(I0:B_)(L:oN×B_)(md:Md)(FC:FuncId->wQ)(sU CF:Nat):B_:=fun pc th nx nv f args=>
 match I0 pc th nx nv f args with
 |some R=>some R|none=>
  match P.funcs[f]? with
  |none=>none|some fn=>match fn.body with
   |none=>none|some c=>bif kN fn&&Nat.ble args.length fn.ntmps then
     match rO P ⟨L.1,is2 md,L.2,sU⟩ {FC f with N:=fn.ntmps,keep:=⟨(FC f).keep.ks,nx⟩} CF pc ⟨Ba 0 args,th,nx⟩ nv c with
     |none=>none|some x=>match JM P nx fn.results.toList pc x.nv x.outs with
      |none=>none|some y=>some ⟨(Ie ((FC f).loops 999999).isSome pc y.outs).1,y.nv,awX x.aw++((x.sd++y.sd)++(Ie ((FC f).loops 999999).isSome pc y.outs).2)⟩
    else none
def adi (FC:FuncId->wQ)(inl:B_):B_:=fun pc th nx nv f args=>
 bif ((FC f).loops 999998).isSome&&!DF args then
  match BZ (thN th ayw) (vW th nv args).1,acQ th ayw (zy args) with
  |some az,some rd=>match inl pc (wrT th (DJ rd)) nx (vW th nv args).2.1 f (jK az) with
   |some R=>some ⟨R.outs,R.nv,(vW th nv args).2.2.map (fun s=>(pc,Sd.s s))++R.sd⟩|none=>none
  |_,_=>none
 else inl pc th nx nv f args
theorem ahh {P:Program}{FC:FuncId->wQ}{inl:B_}{ρ:List AV}(hρ:fU ρ=true)(hI:lT P ρ inl):lT P ρ (adi FC inl):=by
 intro pc th nx nv f args R h hp hs base w E ah vs hah hh hG hrep o a he next Q hnext
 unfold adi at h;cases hc:((FC f).loops 999998).isSome&&!DF args
 .simp only [hc,cond_false] at h;exact hI _ _ _ _ _ _ _ h hp hs base w E ah vs hah hh hG hrep o a he next Q hnext
 .simp only [hc,cond_true] at h;split at h;rotate_left
  .cases h
  rename_i az rd has hrd;split at h;rotate_left
  .cases h
  rename_i R' hR;simp only [aj] at h;subst h;have hpre:∀s∈(vW th nv args).2.2,s.holds P ρ:=fun s hm=>hs (pc,.s s) (b_ _ (aU.2 ⟨s,hm,rfl⟩)) hp;have hfz:=(AZ hρ hah hpre).trans (rM hρ (yD hρ hah ayw) has);have apZ:rch ah ayw (jf (dK ρ args))=rd:=by rw [oz hρ,LZ hρ hah ayw hrd]
  have hg:=NT hh hrep hfz;rw [apZ] at hg;have e:(DJ rd).map (fun x=>(x.1,x.2.map (SB.den ρ)))=JE rd:=by
   unfold DJ JE;rw [List.map_map];rfl
  have ajU:=Ht (wr:=DJ rd) hah;rw [e] at ajU;have aaX:fG w (Pq E ah rd) (dK ρ (jK az)) vs:=fG.weak (lS (ρ:=ρ)).length (fun i a b h1 h2=>((lS (ρ:=ρ)).get i a b h1 h2).1)
   ⟨hg.1,fun i a v h1 h2=>Aw (fun _ _ h=>h) (hg.2 i a v h1 h2)⟩
  exact hI _ _ _ _ _ _ _ hR hp (fun x hx=>hs x (cO _ hx)) base w (Pq E ah rd) _ vs ajU (NS hh rd) (hG.mono (fun _ _ h=>.inl h) (fun _ _ _=>rfl) (fun _ arr _ fz h=>⟨arr,fz,h,rfl⟩)) aaX o a he next Q
   (fun c hc v w' E' dV q1 q2 q3 q4=>hnext c hc v w' E' dV q1 ((IQ hh rd).trans q2) q3 q4)
def uY (g:Tm):List Out->Tm
 |[]=>.lb true|_::_=>g
def Ig (P:Program)(rs:List ResultVar):Pc->Nat->List Out->Option (List (Tm×SV)×Nat×List (Pc×Sd))
 |_,nv,[]=>some ([],nv,[])|pc,nv,o::r=>match Ic P rs (gJ (uY o.g r) true pc) nv o with
  |none=>none|some x=>match (ES x.th x.nv x.v).1.jE (thN x.th ayw) with
   |none=>none|some v=>match Ig P rs (gJ o.g false pc) (ES x.th x.nv x.v).2.1 r with
    |none=>none|some (l,tJ,sd)=>some ((o.g,v.nrm)::l,tJ,(x.sd++Mc (gJ (uY o.g r) true pc) (ES x.th x.nv x.v).2.2 [])++sd)
def ahi : List (Tm×SV)->Option SV
 |[]=>none|[x]=>some x.2|x::y::r=>match ahi (y::r) with
  |none=>none|some v=>ag4 x.1 x.2 v
 mutual
def SV.lit : SV->Bool
  | .sc _ t=>(match t with | .lb _ | .li _ | .lf _ | .ls _ | .nl=>true|_=>false)| .c _ | .nil | .nan | .mp _=>true| .sf t=>(match t with | .nl=>true|_=>false)| .agg l | .gW l=>aaY l| .slc r _=>aov r| .vp r _=>aaY r| .fn _ x y=>aaY x&&aaY y| .kY _ v=>v.lit| .os _ _ _ t=>(match t with | .li _=>true|_=>false)| .op _ _ t _=>(match t with | .li _=>true|_=>false)| .ost ..=>false
def aaY : List SV->Bool
  |[]=>true|x::r=>x.lit&&aaY r
def aov : List (List SV)->Bool
  |[]=>true|x::r=>aaY x&&aov r
end
 mutual
def SV.Jy (th:Tr SB):SV->Bool
  | .sc .sl _=>false| .sc _ _=>true| .c _ | .nil | .nan=>true| .agg l | .gW l=>afh th l| .kY _ v=>v.Jy th| .slc [] _=>true| .os b _ _ _=>match th.get b with|some (.rows _ rs)=>rs.all acP|_=>false
  |_=>false
def afh (th:Tr SB):List SV->Bool
  |[]=>true|x::r=>x.Jy th&&afh th r
end
def aqZ (P:Program)(rs:List ResultVar):Pc->Nat->List Out->Bool
 |_,_,[]=>true|pc,nv,o::r=>match Ic P rs (gJ (uY o.g r) true pc) nv o with
  |none=>false|some x=>x.v.Jy x.th&&aqZ P rs (gJ o.g false pc) (ES x.th x.nv x.v).2.1 r
def adk (P:Program)(X0:oN)(L:oN×B_)(md:Md)(FC:FuncId->wQ)(sU CF:Nat):oN:=fun pc nv f args=>
 bif Nat.beq (md f) 1||(Nat.beq (md f) 3&&aaY args) then
  match P.funcs[f]? with
  |none=>none|some fn=>match fn.body with
   |none=>none|some c=>bif kN fn&&Nat.ble args.length fn.ntmps then
     match rO P ⟨L.1,is2 md,L.2,sU⟩ {FC f with N:=fn.ntmps} CF pc ⟨Ba 0 args,.e,0⟩ nv c with
     |none=>none|some x=>bif x.aw.isEmpty then
       match Ig P fn.results.toList pc x.nv x.outs with
       |none=>none|some (l,tJ,sd)=>match (bif noL (x.sd++sd) then ahi l else none) with
        |none=>none|some v=>some (v,tJ,exS (x.sd++sd),aqZ P fn.results.toList pc x.nv x.outs)
      else none
    else none
 else X0 pc nv f args
def MI (P:Program)(X0:oN)(I0:B_)(md:Md)(FC:FuncId->wQ)(sU CF:Nat):Nat->oN×B_
 |0=>(X0,I0)|n+1=>(adk P X0 (MI P X0 I0 md FC sU CF n) md FC sU CF,adi FC (ajT P I0 (MI P X0 I0 md FC sU CF n) md FC sU CF))
section
variable {P : Program} {ρ:List AV} {N:Nat}
theorem Le.canon {base:Nat}{w:World}{E:Env}{fr:jB}{ah:AH}{nx:Nat}{a:Act}{st:nX}(hs:Gv ρ N st fr ah nx)(iE:Le base w E fr ah nx a) :
  ∃Et,Vs ρ st.fr Et/\Dz ρ st.ah (gq ρ st.ah)/\Et.length=N/\Le base w E Et (gq ρ st.ah) st.nx a:=by
 have hf:Vs ρ st.fr (TU ρ N st.fr):=by
  intro t e he;obtain ⟨a,ha,-⟩:=hs.fr t e he;have:=yC ha;rw [hs.len] at this;rw [Af,if_pos this,he];rfl
 have ha:Dz ρ st.ah (gq ρ st.ah):=fun b k hk=>by unfold gq;rw [hk];rfl
 refine ⟨_,hf,ha,by simp [TU],⟨fun b k hb=>?_,fun b b' k k' c o c' o' hne h1 h2=>?_,fun b hb=>iE.heap.fresh b (bW hs.nx hb),iE.heap.iY,iE.heap.bs,iE.heap.je⟩,⟨?_,fun i x hx=>?_,iE.fr.Gg⟩,iE.defers⟩
 .unfold gq at hb;simp only [ay] at hb;obtain ⟨k1,hk1,rfl⟩:=hb;obtain ⟨k0,h0,hw⟩:=hs.ah b k1 hk1;exact hw _ _ _ _ (iE.heap.blk b k0 h0)
 .unfold gq at h1 h2;simp only [ay] at h1 h2;obtain ⟨k1,hk1,rfl⟩:=h1;obtain ⟨k2,hk2,rfl⟩:=h2;obtain ⟨j1,q1,-⟩:=hs.ah b k1 hk1;obtain ⟨j2,q2,-⟩:=hs.ah b' k2 hk2;exact iE.heap.sep b b' j1 j2 c o c' o' hne q1 q2
 .have:=iE.fr.size;rw [hs.len] at this;simpa [TU] using this
 .rw [Af] at hx;split at hx
  .simp only [ay] at hx;obtain ⟨e,he,rfl⟩:=hx;obtain ⟨y,hy,hw⟩:=hs.fr i e he;obtain ⟨v,hv,hr⟩:=iE.fr.get i y hy;exact ⟨v,hv,hw _ _ _ hr⟩
  .cases hx
theorem YB {pc:Pc}{st:nX}{fr:jB}{ah:AH}(hp:pc.holds ρ)(hf:Vs ρ st.fr fr)(ha:Dz ρ st.ah ah):∀{l:List ResultVar} {nv tJ:Nat} {vs:List SV} {sd:List Side},adh P pc st nv l=some (vs,tJ,sd)->(∀s∈sd,s.holds P ρ)->
  ∀{k:List AV->Prop},k (dK ρ vs)->yM P fr ah l k
 |[],nv,tJ,vs,sd,h,hs,k,hk=>by
  simp only [adh,aj,aJ] at h;obtain ⟨rfl,rfl,rfl⟩:=h;exact hk
 | .tmp t::r,nv,tJ,vs,sd,h,hs,k,hk=>by
  simp only [adh] at h;split at h
  .cases h
  .rename_i v hv;split at h
   .cases h
   .rename_i l nv1 sd1 hl;simp only [aj,aJ] at h;obtain ⟨rfl,rfl,rfl⟩:=h;exact dG.2 ⟨_,gK hp hf hv,YB hp hf ha hl hs hk⟩
 | .cell t ty::r,nv,tJ,vs,sd,h,hs,k,hk=>by
  simp only [adh] at h;split at h
  .cases h
  .rename_i p hv;split at h
   .cases h
   .rename_i x hx;split at h
    .cases h
    .rename_i l nv1 sd1 hl;simp only [aj,aJ] at h;obtain ⟨rfl,rfl,rfl⟩:=h;exact dG.2 ⟨_,gK hp hf hv,ZV ha hx (fun s hm=>hs s (by simp [hm])) (YB hp hf ha hl (fun s hm=>hs s (by simp [hm])) hk)⟩
theorem ajV {l:List SV}:one (dK ρ l)=(ar2 l).den ρ:=by
 match l with
 |[]=>rfl|[a]=>rfl|a::b::r=>rfl
def Ih (P:Program)(fn:Func)(base:Nat)(w:World)(E:Env)(v:AV)(ah:AH)(nx:Nat)(a':Act)(w':World):Prop:=
 a'.defers=[]/\∃E' val,(results fn a'.tmps).run P w'=.ok val w'/\Rep w' E' v val/\Step base w E w' E'/\dM base w' E' ah (fun b=>nx<=b)
theorem Ih.weak {fn:Func}{base:Nat}{w:World}{E:Env}{v v':AV}{ah dV:AH}{nx nx':Nat}{a':Act}{w':World}(h:Ih P fn base w E v ah nx a' w')(hv:Weak v v')(hah:∀b k',dV b=some k'->∃k,ah b=some k/\pI k k')(hn:nx<=nx') :
  Ih P fn base w E v' dV nx' a' w':=by
 obtain ⟨h0,E',val,h1,h2,h3,h4⟩:=h;refine ⟨h0,E',val,h1,hv _ _ _ h2,h3,⟨fun b k hb=>?_,fun b b' k k' c o c' o' hne q1 q2=>?_,fun b hb=>h4.fresh b (bW hn hb),h4.iY,h4.bs,h4.je⟩⟩
 .obtain ⟨k0,q,hw⟩:=hah b k hb;exact hw _ _ _ _ (h4.blk b k0 q)
 .obtain ⟨j1,e1,-⟩:=hah b k q1;obtain ⟨j2,e2,-⟩:=hah b' k' q2;exact h4.sep b b' j1 j2 c o c' o' hne e1 e2
theorem adl (fn:Func)(tmps:Array Value):results fn tmps=(do
  let vs <- fn.results.mapM (LQ tmps)
  pure (if h:vs.size=1 then vs[0] else .tuple vs)):=by
 unfold results;congr 1
theorem yP {fn:Func}{pc:Pc}{nv:Nat}{o:Out}{x:Lf}(h:Ic P fn.results.toList pc nv o=some x)(hp:pc.holds ρ)(hs:kQ P ρ x.sd){base:Nat}{w w':World}{E E':Env}{fr:jB}{ah:AH}{nx:Nat}{a':Act}
  (hst:Gv ρ N o.st fr ah nx) (iE:Le base w' E' fr ah nx a') (hstep:Step base w E w' E'):Ib o.e=true/\Ih P fn base w E (x.v.den ρ) (gq ρ x.th) x.nx a' w':=by
 unfold Ic at h;cases he:Ib o.e
 .simp [he] at h
 .simp only [he,cond_true] at h;split at h
  .cases h
  .rename_i l tJ sd hl;simp only [aj] at h;subst h;refine ⟨rfl,?_⟩;obtain ⟨Et,hf,hah,hN,ajW⟩:=Le.canon hst iE;have hres:=YB (P:=P) hp hf hah hl ((vZ hs).1 hp) (k:=fun az=>az=dK ρ l) rfl;obtain ⟨az,vs',rfl,hrun,hrep⟩:=og ajW hres;refine ⟨ajW.defers,E',(if h:vs'.toArray.size=1 then vs'.toArray[0] else .tuple vs'.toArray),?_,?_,hstep,ajW.heap⟩
   .rw [adl,Array.mapM_eq_mapM_toList,Sem.run_bind,Sem.run_map,hrun];rfl
   .have:=Qx hrep;rw [ajV] at this;exact this
theorem ajX {g:Tm}{x y:Tr SB}:∀b k',gq ρ (Tr.mrg (aar g) x y) b=some k'->(bif (g.den ρ).B then (∃k,gq ρ x b=some k/\pI k k') else (∃k,gq ρ y b=some k/\pI k k'))=True:=by
 intro b k' h;unfold gq at h;simp only [ay] at h;obtain ⟨z,hz,rfl⟩:=h;obtain ⟨u,v,h1,h2,h3⟩:=Tr.EW hz;have:=KL (ρ:=ρ) h3;cases hg:(g.den ρ).B
 .rw [hg] at this;simp only [cond_false,eq_iff_iff,iff_true];exact ⟨_,by unfold gq;rw [h2];rfl,this⟩
 .rw [hg] at this;simp only [cond_true,eq_iff_iff,iff_true];exact ⟨_,by unfold gq;rw [h1];rfl,this⟩
theorem amW {low:Nat}{g:Tm}{c d m:CO}(h:amV low g c d=some m){fn:Func}{base:Nat}{w w':World}{E:Env}{a':Act}
  (hq:bif (g.den ρ).B then Ih P fn base w E (c.v.den ρ) (gq ρ c.th) c.nx a' w' else Ih P fn base w E (d.v.den ρ) (gq ρ d.th) d.nx a' w'):Ih P fn base w E (m.v.den ρ) (gq ρ m.th) m.nx a' w':=by
 unfold amV at h;split at h
 .cases h
 .rename_i v hv;dsimp only at h;generalize (ajz low v.zx c.th d.th _)=q at h;cases q
  .simp only [cond_false,aj] at h;subst h;have hw:=(QE (ρ:=ρ) hv).1;have hm:=ajX (ρ:=ρ) (g:=g) (x:=c.th) (y:=d.th);cases hg:(g.den ρ).B
   .rw [hg] at hq hw hm;exact Ih.weak hq hw (fun b k' hk=>of_eq_true (hm b k' hk)) (Nat.le_max_right _ _)
   .rw [hg] at hq hw hm;exact Ih.weak hq hw (fun b k' hk=>of_eq_true (hm b k' hk)) (Nat.le_max_left _ _)
  .cases h
theorem afi {low:Nat}{g:Tm}{c:CO}{l:List (Tm×CO)}(hl:l≠[]){fn:Func}{base:Nat}{w w':World}{E:Env}{a':Act}
  (hq:bif (g.den ρ).B then Ih P fn base w E (c.v.den ρ) (gq ρ c.th) c.nx a' w' else ∃d,lJ ρ l=some d/\Ih P fn base w E (d.v.den ρ) (gq ρ d.th) d.nx a' w') :
  ∃d,lJ ρ (ahg low g c l)=some d/\Ih P fn base w E (d.v.den ρ) (gq ρ d.th) d.nx a' w':=by
 match l,hl with
 |x::r,_=>
  simp only [ahg];cases hm:amV low g c x.2 with
  |none=>
   dsimp only;simp only [lJ];cases hg:(g.den ρ).B
   .rw [hg] at hq;exact hq
   .rw [hg] at hq;exact ⟨_,rfl,hq⟩
  |some m=>
   dsimp only;have hmk:=fun h=>amW (P:=P) (ρ:=ρ) hm (fn:=fn) (base:=base) (w:=w) (w':=w') (E:=E) (a':=a') h;cases hg:(g.den ρ).B
   .rw [hg] at hq hmk;simp only [cond_false] at hq hmk;obtain ⟨d,h1,h2⟩:=hq;cases r with
    |nil=>
     simp only [lJ,aj] at h1;subst h1;exact ⟨m,rfl,hmk h2⟩
    |cons y r=>
     simp only [lJ,He,hg,Bool.false_or] at h1 ⊢;cases hx:(x.1.den ρ).B
     .rw [hx] at h1;exact ⟨d,h1,h2⟩
     .rw [hx] at h1;simp only [cond_true,aj] at h1;subst h1;exact ⟨m,rfl,hmk h2⟩
   .rw [hg] at hq hmk;simp only [cond_true] at hq hmk;cases r with
    |nil=>exact ⟨m,rfl,hmk hq⟩|cons y r=>exact ⟨m,by simp only [lJ,He,hg,Bool.true_or,cond_true],hmk hq⟩
theorem amX {low:Nat}{g:Tm}{c:CO}{l:List (Tm×CO)}:ahg low g c l≠[]:=by
 cases l with
 |nil=>simp [ahg]|cons x r=>simp only [ahg];split<;>simp
theorem ajY {low:Nat}{rs:List ResultVar}:∀{l:List Out} {pc:Pc} {nv:Nat} {x:EQ},JM P low rs pc nv l=some x->x.outs≠[]
 |[],pc,nv,x,h=>by simp [JM] at h
 |[o],pc,nv,x,h=>by
  simp only [JM] at h;split at h
  .cases h
  .simp only [aj] at h;subst h;simp
 |o::o'::r,pc,nv,x,h=>by
  simp only [JM] at h;split at h
  .cases h
  .split at h
   .cases h
   .simp only [aj] at h;subst h;exact amX
theorem aaZ {fn:Func}{low:Nat}:∀{l:List Out} {pc:Pc} {nv:Nat} {x:EQ},JM P low fn.results.toList pc nv l=some x->pc.holds ρ->kQ P ρ x.sd->∀{base:Nat} {w w':World} {E E':Env} {fr:jB} {ah:AH} {nx:Nat} {a':Act} {e:Exit},
  EX ρ N l e fr ah nx->Le base w' E' fr ah nx a'->Step base w E w' E'->Ib e=true/\∃d,lJ ρ x.outs=some d/\Ih P fn base w E (d.v.den ρ) (gq ρ d.th) d.nx a' w'
 |[],pc,nv,x,h,_,_,_,_,_,_,_,_,_,_,_,_,_,_,_=>by simp [JM] at h
 |[o],pc,nv,x,h,hp,hs,base,w,w',E,E',fr,ah,nx,a',e,hsel,iE,hstep=>by
  obtain ⟨st,h1,h2⟩:=hsel;simp only [sel,aj,aJ] at h1;obtain ⟨rfl,rfl⟩:=h1;simp only [JM] at h;split at h
  .cases h
  .rename_i y hy;simp only [aj] at h;subst h;obtain ⟨q1,q2⟩:=yP (P:=P) hy hp hs h2 iE hstep;exact ⟨q1,_,rfl,q2⟩
 |o::o'::r,pc,nv,x,h,hp,hs,base,w,w',E,E',fr,ah,nx,a',e,hsel,iE,hstep=>by
  obtain ⟨st,h1,h2⟩:=hsel;simp only [sel] at h1;simp only [JM] at h;split at h
  .cases h
  .rename_i y hy;split at h
   .cases h
   .rename_i z hz;simp only [aj] at h;subst h;have hzn:=ajY hz;cases hg:(o.g.den ρ).B
    .rw [hg] at h1;obtain ⟨q1,q2⟩:=aaZ hz (dY hg hp) (kX hs) ⟨st,h1,h2⟩ iE hstep;exact ⟨q1,afi (P:=P) hzn (by rw [hg];exact q2)⟩
    .rw [hg] at h1;simp only [cond_true,aj,aJ] at h1;obtain ⟨rfl,rfl⟩:=h1;obtain ⟨q1,q2⟩:=yP (P:=P) hy (dY hg hp) (kL hs) h2 iE hstep;exact ⟨q1,afi (P:=P) hzn (by rw [hg];exact q2)⟩
theorem W9 : ∀{l:List SV} {i t:Nat} {e:oq},(Ba i l).get t=some e->∃j a,t=i+j/\l[j]?=some a/\e=⟨[],a⟩
 |[],i,t,e,h=>by simp [Ba,Tr.get] at h
 |a::r,i,t,e,h=>by
  simp only [Ba] at h;rcases Tr.kW _ _ _ _ _ _ h with ⟨rfl,h1⟩|⟨-,h1⟩
  .simp only [aj] at h1;exact ⟨0,a,rfl,rfl,h1.symm⟩
  .obtain ⟨j,b,rfl,h2,h3⟩:=W9 h1;exact ⟨j+1,b,by omega,by simpa using h2,h3⟩
theorem Jc : ∀(l:List AV) (m i:Nat),fV (l.map some++List.replicate m none) i=l[i]?
 |[],0,i=>by simp [fV]
 |[],m+1,0=>by simp [List.replicate_succ,fV]
 |[],m+1,i+1=>by
  have:=Jc [] m i;simp only [List.map_nil,List.nil_append,List.replicate_succ,fV] at this ⊢;rw [this];simp
 |a::l,m,0=>by simp [fV]
 |a::l,m,i+1=>by
  have:=Jc l m i;simp only [aX,bV,fV] at this ⊢;rw [this];simp
def wE (N:Nat)(l:List AV):jB:=l.map some++List.replicate (N-l.length) none
theorem MJ {l:List SV}:Vs ρ (Ba 0 l) (wE N (dK ρ l)):=by
 intro t e he;obtain ⟨j,a,rfl,h1,rfl⟩:=W9 he;rw [wE,Jc,agl,bP];simp [h1,oq.den]
theorem wF {l:List AV}(h:l.length<=N):(wE N l).length=N:=by simp [wE];omega
theorem DX {w:World}{E:Env}{l:List AV}{vs:List Value}(hG:Zg w E.fix)(h:fG w E l vs)(hN:l.length<=N):tY w E (wE N l) (vs.toArray++Array.replicate (N-vs.toArray.size) undef):=by
 refine ⟨?_,fun i x hx=>?_,hG⟩
 .simp [wE,h.1]
 .rw [wE,Jc] at hx;have hi:=(aA.1 hx).1;have hvl:i<vs.length:=by rw [<- h.1];exact hi
  refine ⟨vs[i],?_,h.2 i x _ hx (by simp [hvl])⟩;rw [Array.getElem?_append_left (by simpa using hvl)];simp [hvl]
theorem ajZ {I0:B_}{L:oN×B_}{md:Md}{FC:FuncId->wQ}{sU CF:Nat}(hm:P.follows .mixedOrders=true)(h0:∀σ:List AV,fU σ=true->lT P σ I0)(hX:∀σ:List AV,fU σ=true->ny P σ L.1)(hI:∀σ:List AV,fU σ=true->lT P σ L.2)(hρ:fU ρ=true) :
 lT P ρ (ajT P I0 L md FC sU CF):=fun pc th nx nv f args R h hp hs base w E ah vs hah hh hG hrep o a he next Q hnext=>by
 simp only [ajT] at h;split at h
 .rename_i R0 hR0;simp only [aj] at h;subst h;exact h0 ρ hρ _ _ _ _ _ _ _ hR0 hp hs _ _ _ _ _ hah hh hG hrep o a he next Q hnext
 split at h
 .cases h
 .rename_i fn hfn;split at h
  .cases h
  .rename_i c hc;cases hg:kN fn&&Nat.ble args.length fn.ntmps
   .simp [hg] at h
   .simp only [hg,cond_true] at h;simp only [ak] at hg;have hname:fn.name≠ "runtime.NumGoroutine" :=by simpa [kN] using hg.1
    have hlen:=aC hg.2;split at h
    .cases h
    .rename_i x hx
     .split at h
      .cases h
      .rename_i y hy;simp only [aj] at h;subst h;have aj0:OD P ρ x.aw:=ajS (kL hs);have hdr:=kX (kX hs);have hs:=kL (kX hs);have hlenA:(dK ρ args).length<=fn.ntmps:=(by rw [dX];exact hlen);have hst:Gv ρ fn.ntmps ⟨Ba 0 args,th,nx⟩ (wE fn.ntmps (dK ρ args)) ah nx:=Gv.of MJ hah (wF hlenA) (dD _);have adn:=nC (G:=⟨L.1,is2 md,L.2,sU⟩) (F:={FC f with N:=fn.ntmps,keep:=⟨(FC f).keep.ks,nx⟩}) hm hX hI hρ _ _ _ _ hx hp (kL hs) aj0 _ _ _ hst;have iE:Le base w E (wE fn.ntmps (dK ρ args)) ah nx {tmps:=vs.toArray++Array.replicate (fn.ntmps-vs.toArray.size) undef,defers:=[]}:=
        ⟨hh,DX hG hrep hlenA,rfl⟩
       have hcall:(callFunc f vs.toArray).run P w=.ok (.enter f vs.toArray) w:=by
        have e1:(fn.name == "runtime.NumGoroutine")=false:=by simpa using hname
        have e2:fn.body.isNone=false:=(by rw [hc];rfl);simp only [callFunc,Sem.run_bind,run_program,Result.andThen_ok,hfn,e1,aP,if_false,e2,Sem.run_pure]
       unfold Oper.wp;rw [he,hcall];have ado:Calls P f vs.toArray w fun e w'=>∃d v E',lJ ρ y.outs=some d/\e=.returned v/\Step base w E w' E'/\dM base w' E' (gq ρ d.th) (fun b=>d.nx<=b)/\Rep w' E' (d.v.den ρ) v:=by
        refine calls_of_wp hfn hc (wp_mono (adn base w E _ iE) fun e a' w' hp'=>?_);obtain ⟨E',fr',dV,nx',hsel,Uh,hstep⟩:=hp';obtain ⟨q1,d,hd,q2⟩:=aaZ (P:=P) (fn:=fn) hy hp (kX hs) hsel Uh hstep;obtain ⟨h0,E2,val,h1,h2,h3,h4⟩:=q2;have fin:a'.defers=[]/\∃v,(results fn a'.tmps).run P w'=.ok v w'/\∃d u E',lJ ρ y.outs=some d/\Ending.returned v=.returned u/\Step base w E w' E'/\dM base w' E' (gq ρ d.th) (fun b=>d.nx<=b)/\Rep w' E' (d.v.den ρ) u:=
         ⟨h0,val,h1,d,val,E2,hd,rfl,h3,h4,h2⟩
        cases e<;>first|exact fin|(simp [Ib] at q1)
       refine ado.mono fun e w' hq=>?_;obtain ⟨d,v,E',hd,rfl,q1,q2,q3⟩:=hq;exact hnext d (Ug hp hdr hd) v w' E' (gq ρ d.th) (fun b k hk=>by unfold gq;rw [hk];rfl) q1 q2 q3
 mutual
theorem MK (hρ:fU ρ=true){th:Tr SB}:∀{x:SV},x.Jy th=true->(x.den ρ).Gi=true/\∀b∈(x.den ρ).refs,∀k,gq ρ th b=some k->k.FV=true
  | .sc k t,h=>by cases k<;>first|(simp [SV.Jy] at h;done)|exact ⟨rfl,fun b hb=>by cases hb⟩
  | .c v,_=>⟨rfl,fun b hb=>by cases hb⟩| .nil,_=>⟨rfl,fun b hb=>by cases hb⟩| .nan,_=>⟨rfl,fun b hb=>by cases hb⟩| .agg l,h=>by
   have:=OL hρ (l:=l) (by simpa [SV.Jy] using h);exact ⟨by simpa [SV.den,AV.Gi] using this.1,by simpa [SV.den,AV.refs] using this.2⟩
  | .gW l,h=>by
   have:=OL hρ (l:=l) (by simpa [SV.Jy] using h);exact ⟨by simpa [SV.den,AV.Gi] using this.1,by simpa [SV.den,AV.refs] using this.2⟩
  | .kY t v,h=>by
   have:=MK hρ (x:=v) (by simpa [SV.Jy] using h);exact ⟨by simpa [SV.den,AV.Gi] using this.1,by simpa [SV.den,AV.refs] using this.2⟩
  | .slc [] f,_=>⟨rfl,fun b hb=>by cases hb⟩| .slc (x::r) f,h=>by simp [SV.Jy] at h
  | .os b sz off l,h=>by
   refine ⟨rfl,fun b' hb k hk=>?_⟩;simp only [SV.den,AV.refs,bT] at hb;subst hb;simp only [SV.Jy] at h;unfold gq at hk;simp only [ay] at hk;obtain ⟨z,hz,rfl⟩:=hk;rw [hz] at h;cases z with
   |rows sz rs=>
    simp only [aF] at h;simp only [SB.den,qO.FV,jd,List.all_map,aF];intro row hr;exact Hq (h row hr)
   |fZ sz t=>cases h
   |map es=>cases h
   |xC m t=>cases h
   |it m n k=>cases h
   |iD ty sz rs=>cases h
   |mQ sz t i off x=>cases h
  | .sf t,h=>by simp [SV.Jy] at h
  | .vp row off,h=>by simp [SV.Jy] at h
  | .op b sz t off,h=>by simp [SV.Jy] at h
  | .fn f x y,h=>by simp [SV.Jy] at h
  | .mp b,h=>by simp [SV.Jy] at h
  | .ost ..,h=>by simp [SV.Jy] at h
theorem OL (hρ:fU ρ=true){th:Tr SB}:∀{l:List SV},afh th l=true->PG (dK ρ l)=true/\∀b∈jf (dK ρ l),∀k,gq ρ th b=some k->k.FV=true
  |[],_=>⟨rfl,fun b hb=>by cases hb⟩|x::r,h=>by
   simp only [afh,ak] at h;have h1:=MK hρ (x:=x) h.1;have h2:=OL hρ (l:=r) h.2;refine ⟨by simp [dK,PG,h1.1,h2.1],fun b hb=>?_⟩;simp only [dK,jf,aH] at hb;rcases hb with hb|hb
   .exact h1.2 b hb
   .exact h2.2 b hb
end
def pU (ρ:List AV):List (Tm×SV)->AV
 |[]=>eX|[x]=>x.2.den ρ|x::y::r=>bif (x.1.den ρ).B then x.2.den ρ else pU ρ (y::r)
structure kR where
 rs:List (Tm×SV)
 sd:List (Pc×Side)
 aw:List Lo
theorem PZ {rs:List ResultVar}{pc:Pc}{nv:Nat}{o:Out}{r:List Out}:Ig P rs pc nv (o::r)=(match Ic P rs (gJ (uY o.g r) true pc) nv o with
 |none=>none|some x=>match (ES x.th x.nv x.v).1.jE (thN x.th ayw) with
  |none=>none|some v=>match Ig P rs (gJ o.g false pc) (ES x.th x.nv x.v).2.1 r with
   |none=>none|some (l,tJ,sd)=>some ((o.g,v.nrm)::l,tJ,(x.sd++Mc (gJ (uY o.g r) true pc) (ES x.th x.nv x.v).2.2 [])++sd)):=rfl
theorem aa0 {fn:Func}(hρ:fU ρ=true):∀{l:List Out} {pc:Pc} {nv tJ:Nat} {rs:List (Tm×SV)} {sd:List (Pc×Sd)},Ig P fn.results.toList pc nv l=some (rs,tJ,sd)->pc.holds ρ->kQ P ρ sd->∀{base:Nat} {w w':World} {E E':Env} {fr:jB} {ah:AH} {nx:Nat} {a':Act} {e:Exit},
  EX ρ N l e fr ah nx->Le base w' E' fr ah nx a'->Step base w E w' E'->Ib e=true/\∃v v' dV nx',Ih P fn base w E v dV nx' a' w'/\Go.Fw.jE (nR dV ayw) v=some v'/\Weak v' (pU ρ rs)/\(aqZ P fn.results.toList pc nv l=true->v.Gi=true/\∀b∈v.refs,∀k,dV b=some k->k.FV=true)
 |[],pc,nv,tJ,rs,sd,h,hp,hs,base,w,w',E,E',fr,ah,nx,a',e,hsel,iE,hstep=>by
  obtain ⟨st,h1,-⟩:=hsel;cases h1
 |[o],pc,nv,tJ,rs,sd,h,hp,hs,base,w,w',E,E',fr,ah,nx,a',e,hsel,iE,hstep=>by
  obtain ⟨st,h1,h2⟩:=hsel;simp only [sel,aj,aJ] at h1;obtain ⟨rfl,rfl⟩:=h1;simp only [Ig,uY,gJ] at h;split at h
  .cases h
  .rename_i x hx;split at h
   .cases h
   .rename_i v hv;simp only [aj,aJ,cu] at h;obtain ⟨rfl,rfl,rfl⟩:=h;obtain ⟨q1,q2⟩:=yP (P:=P) hx hp (kL hs) h2 iE hstep;have hpre:=(vZ (kX hs)).1 hp;refine ⟨q1,_,_,_,_,q2,(Tc (P:=P) hρ (fun b k hk=>by unfold gq;rw [hk];rfl) hpre).trans (I7 hρ (yD hρ (fun b k hk=>by unfold gq;rw [hk];rfl) ayw) hv),AY,fun hap=>?_⟩;simp only [aqZ,uY,gJ,hx,ak] at hap;exact MK hρ hap.1
 |o::o'::r,pc,nv,tJ,rs,sd,h,hp,hs,base,w,w',E,E',fr,ah,nx,a',e,hsel,iE,hstep=>by
  obtain ⟨st,h1,h2⟩:=hsel;simp only [sel] at h1;rw [PZ] at h;simp only [uY] at h;split at h
  .cases h
  .rename_i x hx;split at h
   .cases h
   .rename_i v hv;split at h
    .cases h
    .rename_i l nv1 sd1 hl;simp only [aj,aJ] at h;obtain ⟨rfl,rfl,rfl⟩:=h;have aaU:∃y s,l=y::s:=by
      rw [PZ] at hl;split at hl
      .cases hl
      .split at hl
       .cases hl
       .split at hl
        .cases hl
        .simp only [aj,aJ] at hl;exact ⟨_,_,hl.1.symm⟩
     cases hg:(o.g.den ρ).B
     .rw [hg] at h1;obtain ⟨q1,v1,v2,a1,n1,q2,q3,q4,q5⟩:=aa0 hρ hl (dY hg hp) (kX hs) ⟨st,h1,h2⟩ iE hstep;obtain ⟨y,s,rfl⟩:=aaU;refine ⟨q1,v1,v2,a1,n1,q2,q3,by simpa [pU,hg] using q4,fun hap=>q5 ?_⟩;rw [aqZ] at hap;simp only [uY,hx,ak] at hap;exact hap.2
     .rw [hg] at h1;simp only [cond_true,aj,aJ] at h1;obtain ⟨rfl,rfl⟩:=h1;obtain ⟨q1,q2⟩:=yP (P:=P) hx (dY hg hp) (kL (kL hs)) h2 iE hstep;obtain ⟨y,s,rfl⟩:=aaU;have hpre:=(vZ (kX (kL hs))).1 (dY hg hp);refine ⟨q1,_,_,_,_,q2,(Tc (P:=P) hρ (fun b k hk=>by unfold gq;rw [hk];rfl) hpre).trans (I7 hρ (yD hρ (fun b k hk=>by unfold gq;rw [hk];rfl) ayw) hv),?_,fun hap=>?_⟩
      .simp only [pU,hg,cond_true];exact AY
      .rw [aqZ] at hap;simp only [uY,hx,ak] at hap;exact MK hρ hap.1
theorem W_ {L:oN×B_}{md:Md}{F:wQ}{sU CF:Nat}(hm:P.follows .mixedOrders=true)(hX:∀σ:List AV,fU σ=true->ny P σ L.1)(hI:∀σ:List AV,fU σ=true->lT P σ L.2)(hρ:fU ρ=true)
  {f:FuncId} {fn:Func} {c:Code} (hfn:P.funcs[f]?=some fn) (hc:fn.body=some c) {args:List SV} (hg:(kN fn&&Nat.ble args.length fn.ntmps)=true) {pc:Pc} {nv tJ:Nat} {x:xU} (hp:pc.holds ρ)
  (hx:rO P ⟨L.1,is2 md,L.2,sU⟩ {F with N:=fn.ntmps} CF pc ⟨Ba 0 args,.e,0⟩ nv c=some x) {l:List (Tm×SV)} {sd:List (Pc×Sd)} (hl:Ig P fn.results.toList pc x.nv x.outs=some (l,tJ,sd)) (hs:kQ P ρ (x.sd++sd)) (haw:OD P ρ x.aw) :
  PC P f (dK ρ args) (pU ρ l)/\(aqZ P fn.results.toList pc x.nv x.outs=true->PCa P f (dK ρ args) (pU ρ l)):=by
 simp only [ak] at hg;have hname:fn.name≠ "runtime.NumGoroutine" :=by simpa [kN] using hg.1
 have hlen:=aC hg.2;have hall:∀(w:World) (fix:Nat->Nat->Prop) (vs:List Value),(∀c o,fix c o->c<w.heap.size)->Zg w fix->fG w (dW fix) (dK ρ args) vs->
   Calls P f vs.toArray w fun e w'=>∃v kF,e=.returned v/\Step w.heap.size w (dW fix) w' (dW kF)/\
    (∀c o,kF c o->c<w'.heap.size)/\Rep w' (dW kF) (pU ρ l) v/\(aqZ P fn.results.toList pc x.nv x.outs=true->Rep w' (dW fun c o=>kF c o/\w.heap.size<=c) (pU ρ l) v):=?_
 .refine ⟨fun w fix vs hfix hG hargs=>?_,fun hap w fix vs hfix hG hargs=>?_⟩
  .rw [hfn];dsimp only;rw [if_neg (by rw [hc];simp)];refine ⟨hname,(hall w fix vs hfix hG hargs).mono fun e w' hq=>?_⟩;obtain ⟨v,kF,h1,h2,h3,h4,-⟩:=hq;exact ⟨v,kF,h1,h2,h3,h4⟩
  .rw [hfn];dsimp only;rw [if_neg (by rw [hc];simp)];refine ⟨hname,(hall w fix vs hfix hG hargs).mono fun e w' hq=>?_⟩;obtain ⟨v,kF,h1,h2,h3,-,h4⟩:=hq;exact ⟨v,kF,h1,h2,h3,h4 hap⟩
 intro w fix vs hfix hG hargs;have hlenA:(dK ρ args).length<=fn.ntmps:=by rw [dX];exact hlen
 have hst:Gv ρ fn.ntmps ⟨Ba 0 args,.e,0⟩ (wE fn.ntmps (dK ρ args)) (fun _=>none) 0:=Gv.of MJ (fun b k h=>by simp [Tr.get] at h) (wF hlenA) (dD _);have adn:=nC (G:=⟨L.1,is2 md,L.2,sU⟩) (F:={F with N:=fn.ntmps}) hm hX hI hρ _ _ _ _ hx hp (kL hs) haw _ _ _ hst;have iE:Le w.heap.size w (dW fix) (wE fn.ntmps (dK ρ args)) (fun _=>none) 0 {tmps:=vs.toArray++Array.replicate (fn.ntmps-vs.toArray.size) undef,defers:=[]}:=
  ⟨⟨fun b k hb=>(by cases hb),fun b b' k k' c o c' o' _ hb=>(by cases hb),fun _ _=>rfl,hfix,dD _,fun b c o hb=>(by cases hb)⟩,DX hG hargs hlenA,rfl⟩
 refine calls_of_wp hfn hc (wp_mono (adn _ w (dW fix) _ iE) fun e a' w' hp'=>?_);obtain ⟨E',fr',dV,nx',hsel,Uh,hst'⟩:=hp';obtain ⟨q1,v,v',ah2,nx2,⟨h0,E2,val,h1,h2,h3,h4⟩,hz,hwk,ar4⟩:=aa0 (P:=P) (fn:=fn) hρ hl hp (kX hs) hsel Uh hst';let kF:Nat->Nat->Prop:=fun c o=>E2.fix c o\/(w.heap.size<=c/\c<w'.heap.size);have hfr:=Lp h4 (fix:=kF) (fun c o h=>.inl h) (fun b c o ho off=>.inr (h4.je b c o ho)) ayw h2 hz;have Ku:∃v kF,Ending.returned val=.returned v/\Step w.heap.size w (dW fix) w' (dW kF)/\
   (∀c o,kF c o->c<w'.heap.size)/\Rep w' (dW kF) (pU ρ l) v/\(aqZ P fn.results.toList pc x.nv x.outs=true->Rep w' (dW fun c o=>kF c o/\w.heap.size<=c) (pU ρ l) v):=by
  refine ⟨_,kF,rfl,⟨⟨fun c o h=>.inl (h3.ext.fix c o h),h3.ext.cell,fun b hb=>absurd rfl hb,h3.ext.arr⟩,h3.below,fun c o hc h=>?_,fun c hc _=>h3.below.block c hc,fun b c o h _=>(by cases h),fun c o h hc=>?_⟩,fun c o h=>?_,hwk _ _ _ hfr,fun hap=>?_⟩;rotate_left 3
  .exact hwk _ _ _ (V5 h4 h2 (ar4 hap).1 (ar4 hap).2 hz (fun b _ c o ho off=>⟨.inr (h4.je b c o ho),(h4.je b c o ho).1⟩))
  .rcases h with h|⟨h,-⟩
   .exact h3.wZ c o hc h
   .omega
  .rcases h with h|⟨h,-⟩
   .exact h3.w_ c o h hc |>.imp id (fun ⟨b,o',h⟩=>by cases h)
   .omega
  .rcases h with h|⟨-,h⟩
   .exact h4.iY c o h
   .exact h
 cases e<;>first|exact ⟨h0,_,h1,Ku⟩|(simp [Ib] at q1)
theorem PC.weak {f:FuncId}{args:List AV}{r r':AV}(h:PC P f args r)(hw:Weak r r'):PC P f args r':=by
 intro w fix vs hfix hG hargs;have:=h w fix vs hfix hG hargs;split at this
 .exact this
 .rename_i fn hfn;split at this
  .rename_i hb;rw [if_pos hb];obtain ⟨v,h1,h2⟩:=this;exact ⟨v,h1,hw _ _ _ h2⟩
  .rename_i hb;rw [if_neg hb];refine ⟨this.1,this.2.mono fun e w' hq=>?_⟩;obtain ⟨v,kF,h1,h2,h3,h4⟩:=hq;exact ⟨v,kF,h1,h2,h3,hw _ _ _ h4⟩
theorem PCa.weak {f:FuncId}{args:List AV}{r r':AV}(h:PCa P f args r)(hw:Weak r r'):PCa P f args r':=by
 intro w fix vs hfix hG hargs;have:=h w fix vs hfix hG hargs;split at this
 .exact this
 .rename_i fn hfn;split at this
  .rename_i hb;rw [if_pos hb];obtain ⟨v,h1,h2⟩:=this;exact ⟨v,h1,hw _ _ _ h2⟩
  .rename_i hb;rw [if_neg hb];refine ⟨this.1,this.2.mono fun e w' hq=>?_⟩;obtain ⟨v,kF,h1,h2,h3,h4⟩:=hq;exact ⟨v,kF,h1,h2,h3,hw _ _ _ h4⟩
theorem YC : ∀{l:List (Tm×SV)} {v:SV},ahi l=some v->Weak (pU ρ l) (v.den ρ)
 |[],v,h=>by simp [ahi] at h
 |[x],v,h=>by simp only [ahi,aj] at h;subst h;exact Weak.refl _
 |x::y::r,v,h=>by
  simp only [ahi] at h;split at h
  .cases h
  .rename_i u hu;have ih:=YC (l:=y::r) hu;have hw:=(QE (ρ:=ρ) h).1;simp only [pU];cases hg:(x.1.den ρ).B
   .rw [hg] at hw;exact ih.trans hw
   .rw [hg] at hw;exact hw
theorem ahj {X0:oN}{L:oN×B_}{md:Md}{FC:FuncId->wQ}{sU CF:Nat}(hm:P.follows .mixedOrders=true)(hX0:∀σ:List AV,fU σ=true->ny P σ X0)(hX:∀σ:List AV,fU σ=true->ny P σ L.1)(hI:∀σ:List AV,fU σ=true->lT P σ L.2)(hρ:fU ρ=true) :
  ny P ρ (adk P X0 L md FC sU CF):=fun pc nv f args r h hp hs=>by
 unfold adk at h;cases h1:Nat.beq (md f) 1||(Nat.beq (md f) 3&&aaY args)
 .simp only [h1,cond_false] at h;exact hX0 ρ hρ pc nv f args r h hp hs
 .simp only [h1,cond_true] at h;split at h
  .cases h
  .rename_i fn hfn;split at h
   .cases h
   .rename_i c hc;cases hg:kN fn&&Nat.ble args.length fn.ntmps
    .simp [hg] at h
    .simp only [hg,cond_true] at h;split at h
     .cases h
     .rename_i x hx;cases haw:x.aw.isEmpty
      .simp [haw] at h
      .simp only [haw,cond_true] at h;split at h
       .cases h
       .rename_i l tJ sd hl;split at h
        .cases h
        .rename_i v hv;simp only [aj] at h;subst h;have aj0:OD P ρ x.aw:=by
          have:x.aw=[]:=(by simpa using haw);rw [this];exact trivial
         have hn:noL (x.sd++sd)=true:=by
          cases hn:noL (x.sd++sd)
          .rw [hn] at hv;cases hv
          .rfl
         rw [hn] at hv;have hs':kQ P ρ (x.sd++sd):=by
          rw [<- aeW hn];exact apJ hs
         have hpc:=W_ (F:=FC f) hm hX hI hρ hfn hc hg hp hx hl hs' aj0;exact ⟨hpc.1.weak (YC hv),fun hap=>(hpc.2 hap).weak (YC hv)⟩
theorem QJ {X0:oN}{I0:B_}{md:Md}{FC:FuncId->wQ}{sU CF:Nat}(hm:P.follows .mixedOrders=true)(h0:∀σ:List AV,fU σ=true->lT P σ I0)(hX0:∀σ:List AV,fU σ=true->ny P σ X0):∀n,(∀σ:List AV,fU σ=true->ny P σ (MI P X0 I0 md FC sU CF n).1)/\∀σ:List AV,fU σ=true->lT P σ (MI P X0 I0 md FC sU CF n).2
 |0=>⟨hX0,h0⟩|n+1=>by
  obtain ⟨h1,h2⟩:=QJ (md:=md) (FC:=FC) (sU:=sU) (CF:=CF) hm h0 hX0 n;exact ⟨fun σ hσ=>ahj hm hX0 h1 h2 hσ,fun σ hσ=>ahh hσ (ajZ hm h0 h1 h2 hσ)⟩
def pK (P:Program)(X0:oN)(I0:B_)(md:Md)(FC:FuncId->wQ)(sU CF:Nat)(f:FuncId)(args:List SV)(nv:Nat):Option kR:=
 match P.funcs[f]? with
 |none=>none|some fn=>match fn.body with
  |none=>none|some c=>bif kN fn&&Nat.ble args.length fn.ntmps then
    match rO P ⟨(MI P X0 I0 md FC sU CF CF).1,is2 md,(MI P X0 I0 md FC sU CF CF).2,sU⟩ {FC f with N:=fn.ntmps} CF [] ⟨Ba 0 args,.e,0⟩ nv c with
    |none=>none|some x=>match Ig P fn.results.toList [] x.nv x.outs with
     |none=>none|some (l,_,sd)=>some ⟨l,exS (x.sd++sd),Tv (x.aw++exL (x.sd++sd))⟩
   else none
theorem amY {X0:oN}{I0:B_}{md:Md}{FC:FuncId->wQ}{sU CF:Nat}{f:FuncId}{args:List SV}{nv:Nat}{R:kR}(h:pK P X0 I0 md FC sU CF f args nv=some R)(hm:P.follows .mixedOrders=true)(hρ:fU ρ=true)(h0:∀σ:List AV,fU σ=true->lT P σ I0)(hX:∀σ:List AV,fU σ=true->ny P σ X0)
  (hs:qR P ρ R.sd) (haw:OD P ρ R.aw):PC P f (dK ρ args) (pU ρ R.rs):=by
 unfold pK at h;split at h
 .cases h
 .rename_i fn hfn;split at h
  .cases h
  .rename_i c hc;cases hg:kN fn&&Nat.ble args.length fn.ntmps
   .simp [hg] at h
   .simp only [hg,cond_true] at h;split at h
    .cases h
    .rename_i x hx;split at h
     .cases h
     .rename_i l tJ sd hl;simp only [aj] at h;subst h;obtain ⟨h1,h2⟩:=QJ (md:=md) (FC:=FC) (sU:=sU) (CF:=CF) hm h0 hX CF;exact (W_ (F:=FC f) hm h1 h2 hρ hfn hc hg (fun x hx=>by cases hx) hx hl (WC hs (vY.1 (aoc haw)).2) (vY.1 (aoc haw)).1).1
end
end Go.Fw
end
section
namespace Go.Fw
theorem Ui {α:Type}{f:α->List AV}{l:List α}(h:∀x,fU (f x)=true):EO (l.map f)=true:=by
 induction l with
 |nil=>rfl|cons x l ih=>simp [EO,h x,ih]
theorem fzn : fU []=true:=rfl
theorem eP {a:AV}{l:List AV}(h:a.fz=true)(k:fU l=true):fU (a::l)=true:=by simp [fU,h,k]
theorem fzs {α:Type}{f:α->List AV}(h:∀x,fU (f x)=true)(l:List α):(AV.sl (List.map f l) false).fz=true:=by simp [AV.fz,Ui h]
theorem fzb {b:Bool}{x y:List AV}(h:fU x=true)(k:fU y=true):fU (bif b then x else y)=true:=by cases b<;>simpa
def rowB (b:Bool):List AV:=[.p (.bool b)]
def Bc (n:Int):List AV:=[.p (.int .i64 n)]
def aj1 (n:Int):List AV:=[.p (.int .u8 n)]
def ap0 (s:List UInt8):List AV:=[.str s]
theorem amZ (b:Bool):fU (rowB b)=true:=rfl
theorem YD (b:Int):fU (Bc b)=true:=rfl
theorem aj2 (b:Int):fU (aj1 b)=true:=rfl
theorem am0 (b:List UInt8):fU (ap0 b)=true:=rfl
structure dL where
 Kind:Int
 Num:Nat
 Str:List UInt8
 Ref:Int
 deriving DecidableEq,Inhabited
def dL.enc (v:dL):List AV:=[.p (.int .u8 v.Kind),.p (.float .f64 v.Num),.str v.Str,.p (.int .i64 v.Ref)]
def dL.av (v:dL):AV:=.agg v.enc
def dL.jY : List Kd:=[.int .u8,.jL,.str,.int .i64]
theorem dL.fU (v:dL):Go.Fw.fU v.enc=true:=eP rfl (eP rfl (eP rfl (eP rfl (fzn))))
theorem dL.fz (v:dL):v.av.fz=true:=dL.fU v
theorem dL.len (v:dL):v.enc.length=4:=rfl
structure dP where
 Str:List UInt8
 Sym:Int
 deriving DecidableEq,Inhabited
def dP.enc (v:dP):List AV:=[.str v.Str,.p (.int .i64 v.Sym)]
def dP.av (v:dP):AV:=.agg v.enc
def dP.jY : List Kd:=[.str,.int .i64]
theorem dP.fU (v:dP):Go.Fw.fU v.enc=true:=eP rfl (eP rfl (fzn))
theorem dP.fz (v:dP):v.av.fz=true:=dP.fU v
theorem dP.len (v:dP):v.enc.length=2:=rfl
structure dN where
 Has:Int
 Value:dL
 Get:dL
 Set:dL
 eH:Bool
 dS:Bool
 Configurable:Bool
 deriving DecidableEq,Inhabited
def dN.enc (v:dN):List AV:=[.p (.int .u8 v.Has),.p (.int .u8 v.Value.Kind),.p (.float .f64 v.Value.Num),.str v.Value.Str,.p (.int .i64 v.Value.Ref),.p (.int .u8 v.Get.Kind),.p (.float .f64 v.Get.Num),.str v.Get.Str,.p (.int .i64 v.Get.Ref),.p (.int .u8 v.Set.Kind),.p (.float .f64 v.Set.Num),.str v.Set.Str,.p (.int .i64 v.Set.Ref),.p (.bool v.eH),.p (.bool v.dS),.p (.bool v.Configurable)]
def dN.av (v:dN):AV:=.agg v.enc
def dN.jY : List Kd:=[.int .u8,.int .u8,.jL,.str,.int .i64,.int .u8,.jL,.str,.int .i64,.int .u8,.jL,.str,.int .i64,.bool,.bool,.bool]
theorem dN.fU (v:dN):Go.Fw.fU v.enc=true:=eP rfl (eP rfl (eP rfl (eP rfl (eP rfl (eP rfl (eP rfl (eP rfl (eP rfl (eP rfl (eP rfl (eP rfl (eP rfl (eP rfl (eP rfl (eP rfl (fzn))))))))))))))))
theorem dN.fz (v:dN):v.av.fz=true:=dN.fU v
theorem dN.len (v:dN):v.enc.length=16:=rfl
structure dI where
 Key:dP
 dQ:dN
 deriving DecidableEq,Inhabited
def dI.enc (v:dI):List AV:=[.str v.Key.Str,.p (.int .i64 v.Key.Sym),.p (.int .u8 v.dQ.Has),.p (.int .u8 v.dQ.Value.Kind),.p (.float .f64 v.dQ.Value.Num),.str v.dQ.Value.Str,.p (.int .i64 v.dQ.Value.Ref),.p (.int .u8 v.dQ.Get.Kind),.p (.float .f64 v.dQ.Get.Num),.str v.dQ.Get.Str,.p (.int .i64 v.dQ.Get.Ref),.p (.int .u8 v.dQ.Set.Kind),.p (.float .f64 v.dQ.Set.Num),.str v.dQ.Set.Str,.p (.int .i64 v.dQ.Set.Ref),.p (.bool v.dQ.eH),.p (.bool v.dQ.dS),.p (.bool v.dQ.Configurable)]
def dI.av (v:dI):AV:=.agg v.enc
def dI.jY : List Kd:=[.str,.int .i64,.int .u8,.int .u8,.jL,.str,.int .i64,.int .u8,.jL,.str,.int .i64,.int .u8,.jL,.str,.int .i64,.bool,.bool,.bool]
theorem dI.fU (v:dI):Go.Fw.fU v.enc=true:=eP rfl (eP rfl (eP rfl (eP rfl (eP rfl (eP rfl (eP rfl (eP rfl (eP rfl (eP rfl (eP rfl (eP rfl (eP rfl (eP rfl (eP rfl (eP rfl (eP rfl (eP rfl (fzn))))))))))))))))))
theorem dI.fz (v:dI):v.av.fz=true:=dI.fU v
theorem dI.len (v:dI):v.enc.length=18:=rfl
theorem dI.Lh (l:List dI):jy 18 (l.map dI.enc):=by
 intro row h;obtain ⟨x,-,rfl⟩:=aU.1 h;rfl
structure dJ where
 Kind:Int
 fA:dL
 Ext:Bool
 Props:List dI
 Target:dL
 Handler:dL
 Text:List UInt8
 Calls:Bool
 Makes:Bool
 deriving DecidableEq,Inhabited
def dJ.enc (v:dJ):List AV:=[.p (.int .u8 v.Kind),.p (.int .u8 v.fA.Kind),.p (.float .f64 v.fA.Num),.str v.fA.Str,.p (.int .i64 v.fA.Ref),.p (.bool v.Ext),.sl (List.map dI.enc v.Props) false,.p (.int .u8 v.Target.Kind),.p (.float .f64 v.Target.Num),.str v.Target.Str,.p (.int .i64 v.Target.Ref),.p (.int .u8 v.Handler.Kind),.p (.float .f64 v.Handler.Num),.str v.Handler.Str,.p (.int .i64 v.Handler.Ref),.str v.Text,.p (.bool v.Calls),.p (.bool v.Makes)]
def dJ.av (v:dJ):AV:=.agg v.enc
def dJ.jY : List Kd:=[.int .u8,.int .u8,.jL,.str,.int .i64,.bool,.sl,.int .u8,.jL,.str,.int .i64,.int .u8,.jL,.str,.int .i64,.str,.bool,.bool]
theorem dJ.fU (v:dJ):Go.Fw.fU v.enc=true:=eP rfl (eP rfl (eP rfl (eP rfl (eP rfl (eP rfl (eP (fzs dI.fU _) (eP rfl (eP rfl (eP rfl (eP rfl (eP rfl (eP rfl (eP rfl (eP rfl (eP rfl (eP rfl (eP rfl (fzn))))))))))))))))))
theorem dJ.fz (v:dJ):v.av.fz=true:=dJ.fU v
theorem dJ.len (v:dJ):v.enc.length=18:=rfl
theorem dJ.Lh (l:List dJ):jy 18 (l.map dJ.enc):=by
 intro row h;obtain ⟨x,-,rfl⟩:=aU.1 h;rfl
structure dH where
 Objects:List dJ
 deriving DecidableEq,Inhabited
def dH.enc (v:dH):List AV:=[.sl (List.map dJ.enc v.Objects) false]
def dH.av (v:dH):AV:=.agg v.enc
def dH.jY : List Kd:=[.sl]
theorem dH.fU (v:dH):Go.Fw.fU v.enc=true:=eP (fzs dJ.fU _) (fzn)
theorem dH.fz (v:dH):v.av.fz=true:=dH.fU v
theorem dH.len (v:dH):v.enc.length=1:=rfl
end Go.Fw
end
section
namespace Go.Fw
variable [iT]
def uO (P:Program)(ρ:List AV):List (Pc×Side)->Prop
 |[]=>True|x::r=>(Pc.holds ρ x.1->x.2.holds P ρ)/\uO P ρ r
theorem uO.ok {P:Program}{ρ:List AV}:∀{l:List (Pc×Side)},uO P ρ l->qR P ρ l
 |[],_,x,hx=>nomatch hx|y::r,h,x,hx=>by
  cases hx with
  |head=>exact h.1|tail _ hx=>exact uO.ok h.2 x hx
theorem Pc.holds.at {ρ:List AV}{pc:Pc}(h:Pc.holds ρ pc)(k:Nat){x:Tm×Bool}(e:pc[k]?=some x):(x.1.den ρ).B=x.2:=h x (aG e)
theorem oQ {ρ:List AV}{g:Tm}{v:SV}{A:AV}(h:v.den ρ=A):pU ρ [(g,v)]=A:=h
theorem nO {α:Type}{ρ:List AV}{g:Tm}{v:SV}{y:Tm×SV}{r:List (Tm×SV)}(enc:α->AV){c:Bool}{a b:α}(hg:(g.den ρ).B=c)(ha:v.den ρ=enc a)(hb:pU ρ (y::r)=enc b) :
  pU ρ ((g,v)::y::r)=enc (bif c then a else b):=by
 simp only [pU,hg];cases c
 .exact hb
 .exact ha
def jT {α:Type}(f:α->List AV)(l:List α):Int:=nM (List.map f l)
theorem jF {α:Type}(f:α->List AV)(l:List α):jT f l=l.length:=by simp [jT,nM]
end Go.Fw
end
section
namespace Go.Fw
variable [iT]
theorem aow {i:Int}(h0:0<=i)(h1:i<9223372036854775807):fK .i64 i 1=i+1:=by
 have e:IntKind.wrap .i64 (i+1)=if (i+1) % 18446744073709551616>=9223372036854775808 then (i+1) % 18446744073709551616-18446744073709551616 else (i+1) % 18446744073709551616:=by
  show (if (true&&decide ((i+1) % 2 ^ 64>=2 ^ (64-1)))=true then (i+1) % 2 ^ 64-2 ^ 64 else (i+1) % 2 ^ 64)=_;simp
 have h3:(i+1) % 18446744073709551616=i+1:=by omega
 show IntKind.wrap .i64 (i+1)=i+1;rw [e,h3,if_neg (by omega)]
def mg (b:Bool):Int:=bif b then 0 else 1
theorem am1 (b:Bool):dU (mg b) 0=b:=by cases b<;>rfl
def rk2 (b:Bool)(l0 l1:List AV):Nat×List AV:=bif b then (0,l0) else (1,l1)
theorem aj6 {ρ:List AV}{p:Nat}{l:List AV}(h:(ρ.drop p).take l.length=l):∀(i:Nat) (u:AV),l[i]?=some u->ρ.getD (p+i) eX=u:=by
 intro i u hu;have hi:=(aA.1 hu).1;rw [<- h,bH,if_pos hi,List.getElem?_drop] at hu;simp [aB,hu]
theorem aa2 {a b:Int}:jk a b=true↔a≠b:=by simp [jk]
theorem Ii {a b:Int}:jk a b=false↔a=b:=by simp [jk]
theorem rQ {a b:Int}:dU a b=true↔a=b:=by simp [dU]
theorem Cj {a b:Int}:dU a b=false↔a≠b:=by simp [dU]
theorem aox {α:Type}[Inhabited α]{f:α->List AV}{l:List α}{i:Int}(h0:0<=i)(h1:i<(l.length:Int)):0<=i/\(List.map f l)[i.toNat]?=some (f (l.getD i.toNat default)):=by
 refine ⟨h0,?_⟩;have h3:i.toNat<l.length:=by omega
 simp [aB,h3]
end Go.Fw
end
section
namespace Go.Fw
variable [iT]
def Ij (n:Nat):Prop:=∀s t,FloatKind.f64.format.read n≠.nan s t
theorem aj7 {m n:Nat}{o:Ordering}(h:FloatKind.f64.format.order m n=some o):Ij m/\Ij n:=by
 unfold Ieee.Format.order at h;constructor<;>intro s t e
 .rw [e] at h;simp [Ieee.Datum.order] at h
 .rw [e] at h;cases hm:FloatKind.f64.format.read m<;>rw [hm] at h<;>simp [Ieee.Datum.order] at h
theorem aAw {m n:Nat}(h:fEq m n=true):Ij m:=(aj7 (by simpa [fEq] using h)).1
theorem aBU {m n:Nat}(h:fEq m n=true):Ij n:=(aj7 (by simpa [fEq] using h)).2
theorem auI {m n:Nat}(h:Kv m n=false):Ij m:=(aj7 (by simpa [Kv] using h)).1
theorem awQ : ∃m i,m≠0/\FloatKind.f64.format.read 4607182418800017408=.number false m i:=⟨4503599627370496,-52,by decide,by rfl⟩
theorem aFZ {n:Nat}(h:Ij n):FloatKind.f64.format.div 4607182418800017408 n=some ((FloatKind.f64.format.div 4607182418800017408 n).getD 0):=by
 have:∃d,FloatKind.f64.format.div 4607182418800017408 n=some d:=by
  unfold Ieee.Format.div;obtain ⟨m,i,hm,e⟩:=awQ;rw [e];cases hn:FloatKind.f64.format.read n with
  |nan s t=>exact absurd hn (h s t)|infinity s=>simp [Ieee.Datum.quotient]|number s k j=>
   by_cases hk:k=0
   .simp [Ieee.Datum.quotient,hk,hm]
   .simp [Ieee.Datum.quotient,hk,hm]
 obtain ⟨d,hd⟩:=this;rw [hd];rfl
theorem axF {P:Program}{ρ:List AV}{x:Tm}(h:Ij (x.den ρ).F):Side.holds P ρ (.fop .quo (.lf 4607182418800017408) x):=by
 show (FloatKind.f64.format.div 4607182418800017408 (x.den ρ).F).isSome=true;rw [aFZ h];rfl
def mY (x:Nat):Int:=x
def oC (n:Int):Nat:=n.toNat
def iH (x:Nat):Nat:=FloatKind.f64.encode ((FloatKind.f64.decode x).integral .zero)
theorem ahk {x:Nat}(h:Ij x):Extern.MathFloor.toIntegral "math.archTrunc" .zero #[.float .f64 x]=pure (.float .f64 (iH x)):=by
 have e:Extern.MathFloor.toIntegral "math.archTrunc" .zero #[.float .f64 x]=(match FloatKind.f64.decode x with
  | .nan s t=>
   if FloatKind.f64.format.quiet t=t then pure (.float .f64 x) else do
   let kept <- choose (.extern "math.Floor,Ceil,Trunc,RoundToEven.signallingNaN kept" 2)
   pure (.float .f64 (if kept == 1 then x else FloatKind.f64.encode (.nan s (FloatKind.f64.format.quiet t))))
  |d=>pure (.float .f64 (FloatKind.f64.encode (d.integral .zero)))):=by kernel_rfl
 rw [e];unfold iH;cases hd:FloatKind.f64.decode x with
 |nan s t=>exact absurd hd (h s t)|_=>rfl
theorem YE {P:Program}{f:FuncId}{fn:Func}{e:Array Value->Sem Value}{a u:Value}{r:AV}(hf:P.funcs[f]?=some fn)(hb:fn.body.isNone=true)(hname:(fn.name == "runtime.NumGoroutine")=false)
  (hn:Extern.findNext fn=none) (he:Extern.find fn=some e) (ha:Gy a=true) (hrun:e #[a]=pure u) (hr:Gy u=true) (hu:r=.p u):PC P f [.p a] r:=by
 intro w fix vs hfix hG hargs;rw [hf];dsimp only;rw [if_pos hb];obtain ⟨v0,rfl⟩:∃v0,vs=[v0]:=by
  have:=hargs.1;match vs,this with
  |[v0],_=>exact ⟨v0,rfl⟩
 have h0:=hargs.2 0 (.p a) v0 rfl rfl;obtain rfl:=h0.fO;subst hu;refine ⟨u,?_,.p hr⟩;have hm:(mark (.extern f)).run P w=.ok () w:=rfl;simp only [callFunc,Sem.run_bind,run_program,Result.andThen_ok,hf,hname,aP,if_false,hb,if_true,hm,hn,he];simp [hrun]
def YF (n:Nat):Bool:=match FloatKind.f64.format.read n with | .nan _ _=>true|_=>false
theorem ahl {n:Nat}(h:YF n=false):Ij n:=by
 intro s t e;unfold YF at h;rw [e] at h;cases h
def ap1 (a b c:FuncId):oN:=fun _ nv f args=>
 match args with
 |[.sc .jL (.lf n)]=>bif Nat.beq f a then some (.sc (.int .u64) (.li (.ofNat n)),nv,[],false) else bif Nat.beq f c&&!YF n then Oa (iH n) fun m=>some (.sc .jL (.lf m),nv,[],false) else none
 |[.sc (.int .u64) (.li (.ofNat n))]=>bif Nat.beq f b then some (.sc .jL (.lf n),nv,[],false) else none
 |_=>none
theorem am2 {P:Program}{a b c:FuncId}(h1:∀x,PC P a [.p (.float .f64 x)] (.p (.int .u64 (mY x))))(h2:∀x,PC P b [.p (.int .u64 x)] (.p (.float .f64 (oC x))))
  (h3:∀x,Ij x->PC P c [.p (.float .f64 x)] (.p (.float .f64 (iH x)))):∀σ:List AV,fU σ=true->ny P σ (ap1 a b c):=by
 intro σ _ pc nv f args r h _ _;unfold ap1 at h;split at h
 .rename_i n;cases h4:Nat.beq f a
  .simp only [h4,cond_false] at h;cases h5:Nat.beq f c&&!YF n
   .simp [h5] at h
   .simp only [h5,cond_true,vP,aj] at h;subst h;simp only [ak,Bool.not_eq_true'] at h5;have:=au h5.1;subst this;exact ⟨h3 n (ahl h5.2),fun h=>by cases h⟩
  .simp only [h4,cond_true,aj] at h;subst h;have:=au h4;subst this;exact ⟨h1 n,fun h=>by cases h⟩
 .rename_i n;cases h4:Nat.beq f b
  .simp [h4] at h
  .simp only [h4,cond_true,aj] at h;subst h;have:=au h4;subst this;exact ⟨h2 n,fun h=>by cases h⟩
 .cases h
theorem OM : FloatKind.f64.format.read 4845873199050653695=.number false 9007199254740991 0:=by rfl
theorem KR : FloatKind.f64.format.read 14069245235905429503=.number true 9007199254740991 0:=by rfl
theorem MN (s:Bool)(n d:Nat):Ieee.Toward.cut .zero s n d=n / 2 ^ d:=by
 unfold Ieee.Toward.cut;simp only [Nat.shiftLeft_eq,Nat.one_mul,Bool.toNat_false,Nat.add_zero];rcases Nat.le_total d (n.log2+2) with h|h
 .rw [Nat.min_eq_left h]
 .rw [Nat.min_eq_right h];have h1:n<2 ^ (n.log2+2):=bZ Nat.lt_log2_self (Nat.pow_le_pow_right (by decide) (by omega));have h2:n<2 ^ d:=bZ h1 (Nat.pow_le_pow_right (by decide) h);rw [Nat.div_eq_of_lt h1,Nat.div_eq_of_lt h2]
theorem aF1 {m:Nat}(h1:ZI m 14069245235905429503=true)(h2:XZ m 4845873199050653695=true):∃s k i,FloatKind.f64.format.read m=.number s k i/\k*2 ^ i.toNat / 2 ^ (-i).toNat<=9007199254740991:=by
 unfold ZI at h1;unfold XZ at h2;unfold Ieee.Format.order at h1 h2;rw [KR] at h1;rw [OM] at h2;cases hm:FloatKind.f64.format.read m with
 |nan s t=>rw [hm] at h1;simp [Ieee.Datum.order] at h1|infinity s=>rw [hm] at h1 h2;cases s<;>simp [Ieee.Datum.order] at h1 h2
 |number s k i=>
  rw [hm] at h1 h2;refine ⟨s,k,i,rfl,?_⟩;simp only [Ieee.Datum.order,Ieee.signed,Nat.shiftLeft_eq,aP,if_false,if_true] at h1 h2;have c1:∀a b:Int,((some (compare a b) == some Ordering.gt)||(some (compare a b) == some Ordering.eq))=true->b<=a:=by
   intro a b h;have hc:compare a b=if a<b then Ordering.lt else if a=b then Ordering.eq else Ordering.gt:=rfl
   rw [hc] at h;by_cases h':a<b
   .rw [if_pos h'] at h;simp at h
   .omega
  have c2:∀a b:Int,((some (compare a b) == some Ordering.lt)||(some (compare a b) == some Ordering.eq))=true->a<=b:=by
   intro a b h;have hc:compare a b=if a<b then Ordering.lt else if a=b then Ordering.eq else Ordering.gt:=rfl
   rw [hc] at h;by_cases h':a<b
   .omega
   .rw [if_neg h'] at h;by_cases h2:a=b
    .omega
    .rw [if_neg h2] at h;simp at h
  have g1:=c1 _ _ h1;have g2:=c2 _ _ h2;have key:k*2 ^ (i-min i 0).toNat<=9007199254740991*2 ^ (0-min i 0).toNat:=by
   cases s
   .simp only [aP,if_false] at g1 g2;exact_mod_cast g2
   .simp only [if_true] at g1 g2;have:(((k*2 ^ (i-min i 0).toNat:Nat)):Int)<=((9007199254740991*2 ^ (0-min i 0).toNat:Nat):Int):=by omega
    exact_mod_cast this
  rcases Int.le_total i 0 with hi|hi
  .rw [Int.min_eq_left hi] at key;have e1:i.toNat=0:=(by omega);have e2:(i-i).toNat=0:=(by simp);have e3:(0-i).toNat=(-i).toNat:=(by simp);rw [e1,Nat.pow_zero,Nat.mul_one];rw [e2,e3,Nat.pow_zero,Nat.mul_one] at key;exact Nat.div_le_of_le_mul (by rw [Nat.mul_comm];exact key)
  .rw [Int.min_eq_right hi] at key;have e1:(-i).toNat=0:=(by omega);have e2:(i-0).toNat=i.toNat:=(by simp);rw [e1,Nat.pow_zero,Nat.div_one];rw [e2] at key;simpa using key
theorem axG {m:Nat}(h1:ZI m 14069245235905429503=true)(h2:XZ m 4845873199050653695=true) :
  (FloatKind.f64.decode m).toInt .zero=some (((FloatKind.f64.decode m).toInt .zero).getD 0)/\IntKind.i64.min<=((FloatKind.f64.decode m).toInt .zero).getD 0/\((FloatKind.f64.decode m).toInt .zero).getD 0<=IntKind.i64.max:=by
 obtain ⟨s,k,i,hm,hb⟩:=aF1 h1 h2;have e:(FloatKind.f64.decode m).toInt .zero=some (Ieee.signed s (k*2 ^ i.toNat / 2 ^ (-i).toNat) 0):=by
  unfold FloatKind.decode;rw [hm];simp only [Ieee.Datum.toInt,Ieee.Datum.integral,MN,Nat.shiftLeft_eq]
 rw [e];generalize k*2 ^ i.toNat / 2 ^ (-i).toNat=q at hb;have e2:Ieee.signed s q 0=if s then -(q:Int) else q:=by simp [Ieee.signed]
 have e3:IntKind.i64.min = -9223372036854775808:=rfl;have e4:IntKind.i64.max=9223372036854775807:=rfl;refine ⟨rfl,?_,?_⟩
 .rw [e3];simp only [Option.getD_some,e2];split<;>omega
 .rw [e4];simp only [Option.getD_some,e2];split<;>omega
theorem ap2 : FloatKind.f64.format.read 4652218415073722368=.number false 4503599627370496 (-42):=by decide +kernel
theorem ap3 : FloatKind.f64.format.read 0=.number false 0 (-1074):=by decide +kernel
theorem aj8 {m:Nat}(h1:ZI m 0=true)(h2:XZ m 4652218415073722368=true):∃s k i,FloatKind.f64.format.read m=.number s k i/\k*2 ^ i.toNat / 2 ^ (-i).toNat<=4503599627370496/\(s=false\/k=0)/\(s=false->k*2 ^ (i-min i (-42)).toNat<=4503599627370496*2 ^ ((-42)-min i (-42)).toNat):=by
 unfold ZI at h1;unfold XZ at h2;unfold Ieee.Format.order at h1 h2;rw [ap3] at h1;rw [ap2] at h2;cases hm:FloatKind.f64.format.read m with
 |nan s t=>rw [hm] at h1;simp [Ieee.Datum.order] at h1|infinity s=>rw [hm] at h1 h2;cases s<;>simp [Ieee.Datum.order] at h1 h2
 |number s k i=>
  rw [hm] at h1 h2;simp only [Ieee.Datum.order,Ieee.signed,Nat.shiftLeft_eq,aP,if_false,if_true] at h1 h2;have c1:∀a b:Int,((some (compare a b) == some Ordering.gt)||(some (compare a b) == some Ordering.eq))=true->b<=a:=by
   intro a b h;have hc:compare a b=if a<b then Ordering.lt else if a=b then Ordering.eq else Ordering.gt:=rfl
   rw [hc] at h;by_cases h':a<b
   .rw [if_pos h'] at h;simp at h
   .omega
  have c2:∀a b:Int,((some (compare a b) == some Ordering.lt)||(some (compare a b) == some Ordering.eq))=true->a<=b:=by
   intro a b h;have hc:compare a b=if a<b then Ordering.lt else if a=b then Ordering.eq else Ordering.gt:=rfl
   rw [hc] at h;by_cases h':a<b
   .omega
   .rw [if_neg h'] at h;by_cases h2:a=b
    .omega
    .rw [if_neg h2] at h;simp at h
  have g1:=c1 _ _ h1;have g2:=c2 _ _ h2;have hs:s=false\/k=0:=by
   cases s
   .exact .inl rfl
   .right;simp only [if_true] at g1;have hp:0<2 ^ (i-min i (-1074)).toNat:=Nat.two_pow_pos _;rcases Nat.eq_zero_or_pos k with h|h
    .exact h
    .have:0<k*2 ^ (i-min i (-1074)).toNat:=Nat.mul_pos h hp;have h3:(0:Int) <= -((k*2 ^ (i-min i (-1074)).toNat:Nat):Int):=(by simpa using g1);omega
  have key:s=false->k*2 ^ (i-min i (-42)).toNat<=4503599627370496*2 ^ ((-42)-min i (-42)).toNat:=by
   intro e;subst e;simp only [aP,if_false] at g2
   exact_mod_cast g2
  refine ⟨s,k,i,rfl,?_,hs,key⟩;rcases hs with hs|hs
  .have key:=key hs;rcases Int.le_total i (-42) with hi|hi
   .rw [Int.min_eq_left hi] at key;have e1:i.toNat=0:=(by omega);have e2:(i-i).toNat=0:=(by simp);rw [e1,Nat.pow_zero,Nat.mul_one];rw [e2,Nat.pow_zero,Nat.mul_one] at key;have h3:2 ^ ((-42)-i).toNat<=2 ^ (-i).toNat:=Nat.pow_le_pow_right (by decide) (by omega);exact Nat.div_le_of_le_mul (bW key (by rw [Nat.mul_comm];exact bU _ h3))
   .rw [Int.min_eq_right hi] at key;have e3:((-42:Int) - -42).toNat=0:=(by decide);rw [e3,Nat.pow_zero,Nat.mul_one] at key;have h3:2 ^ i.toNat<=2 ^ (i - -42).toNat:=Nat.pow_le_pow_right (by decide) (by omega);exact bW (Nat.div_le_self _ _) (bW (Nat.mul_le_mul_left _ h3) key)
  .subst hs;simp
theorem am3 {m:Nat}(h1:ZI m 0=true)(h2:XZ m 4652218415073722368=true):∃q:Nat,(FloatKind.f64.decode m).toInt .zero=some (q:Int)/\q<=4503599627370496:=by
 obtain ⟨s,k,i,hm,hb,hs,-⟩:=aj8 h1 h2;refine ⟨k*2 ^ i.toNat / 2 ^ (-i).toNat,?_,hb⟩;unfold FloatKind.decode;rw [hm];simp only [Ieee.Datum.toInt,Ieee.Datum.integral,MN,Nat.shiftLeft_eq];rcases hs with rfl|rfl
 .simp [Ieee.signed]
 .cases s<;>simp [Ieee.signed]
theorem auJ {P:Program}{ρ:List AV}{x:Tm}(h1:ZI (x.den ρ).F 0=true)(h2:XZ (x.den ρ).F 4652218415073722368=true):Side.holds P ρ (.num .i64 x (.ZJ x)):=by
 obtain ⟨q,hq,hb⟩:=am3 h1 h2;have e:((Tm.ZJ x).den ρ).I=(q:Int):=by
  show ((FloatKind.f64.decode (x.den ρ).F).toInt .zero).getD 0=_;rw [hq];rfl
 refine ⟨by rw [e];exact hq,?_,?_⟩
 .rw [e];have:IntKind.i64.min = -9223372036854775808:=rfl;omega
 .rw [e];have:IntKind.i64.max=9223372036854775807:=rfl;omega
theorem num1 {P:Program}{ρ:List AV}{x:Tm}(h1:ZI (x.den ρ).F 14069245235905429503=true)(h2:XZ (x.den ρ).F 4845873199050653695=true):Side.holds P ρ (.num .i64 x (.ZJ x)):=axG h1 h2
end Go.Fw
end
section
namespace Go.Fw
variable [iT]
section
variable {P : Program}
theorem azB {w:World}{E:Env}{t e:TypeId}(hu:P.underlying t=some (.slice e)){rows:List (List AV)}{full:Bool}{v:Value}(h:Rep w E (.sl rows full) v)(ox oy:Operand) :
  ∃b:Bool,(do eqGuard .eql t ox oy v (.slice none 0 0);binOp .eql t v (.slice none 0 0):Sem Value).run P w=.ok (.bool b) w/\(b=true->rows=[]):=by
 have run:∀(a:Option Addr) (n c:Nat),(do eqGuard .eql t ox oy (.slice a n c) (.slice none 0 0);binOp .eql t (.slice a n c) (.slice none 0 0):Sem Value).run P w=.ok (.bool a.isNone) w:=by
  intro a n c;have key:∀d,(Op.equalIn (d+1) t (.slice a n c) (.slice none 0 0)).run P w=.ok a.isNone w:=by
   intro d;cases a<;>simp [Op.equalIn,run_underlying hu]
  have key2:(Op.equal t (.slice a n c) (.slice none 0 0)).run P w=.ok a.isNone w:=key 9999;simp [eqGuard,binOp,key2]
 cases h with
 |slnil _ a=>exact ⟨_,run a 0 0,fun _=>rfl⟩|sl _ _ sz c o cap g=>exact ⟨_,run _ _ _,fun h=>by cases h⟩
theorem aj9 {id:Nat}{ops:Array Oper}{o0 o1:Oper}{t e:TypeId}{yt:TypeId}{fr:jB}{ah:AH}{nx:Nat}{Q:AQ}{rows:List (List AV)}{full:Bool}(hops:ops=#[o0,o1])(h0:o0.op=.move (.tmp 0))(g0:o0.guard=none)(d0:o0.dst=some 3)
  (h1:o1.op=.binOp .eql t (.tmp 3) (.const (.slice none 0 0)) yt) (g1:o1.guard=none) (d1:o1.dst=some 4) (hu:P.underlying t=some (.slice e)) (hfr:fV fr 0=some (.sl rows full)) (hlen:4<fr.length)
  (hQ:∀b:Bool,(b=true->rows=[])->Q .normal (rC (rC fr 3 (.sl rows full)) 4 (.p (.bool b))) ah (nx+2)):AW P (.region id ops false) fr ah nx Q:=by
 subst hops;intro base w E a hs;refine wp_region ?_;show wpOps P #[o0,o1] _ [0,1] a w;rw [wpOps_cons];unfold wpOp;simp only [List.getElem?_toArray,List.getElem?_cons_zero];obtain ⟨v,hv,hr⟩:=hs.fr.get 0 _ hfr;have ev0:a.eval (.tmp 0)=v:=by simp [Act.eval,hv]
 rw [if_pos (by simp [Region.wanted,g0])];refine .inl (ayv (P:=P) (s:=pure (.value v)) (v:=v) (w':=w) (by simp [execOp,h0,ev0]) rfl ?_);rw [wpOps_cons];unfold wpOp;simp only [List.getElem?_toArray,List.getElem?_cons_zero,List.getElem?_cons_succ];rw [if_pos (by simp [Region.wanted,g1])];have aj_:=hs.fr.put o0.dst hr;have hput:fV (lH fr o0.dst (.sl rows full)) 3=some (.sl rows full):=by rw [d0];simp only [lH,lM];rw [if_pos ⟨trivial,by omega⟩]
 obtain ⟨v1,hv1,hr1⟩:=aj_.get 3 _ hput;have ev1:(a.put o0.dst v).eval (.tmp 3)=v1:=by simp [Act.eval,hv1]
 have ev2:(a.put o0.dst v).eval (.const (.slice none 0 0))=.slice none 0 0:=rfl;obtain ⟨b,hb,hbr⟩:=azB (P:=P) hu hr1 (.tmp 3) (.const (.slice none 0 0));refine .inl (ayv (P:=P) (s:=do pure (.value (<- (do eqGuard .eql t (.tmp 3) (.const (.slice none 0 0)) v1 (.slice none 0 0);binOp .eql t v1 (.slice none 0 0):Sem Value)))) (v:=.bool b) (w':=w) (by simp only [execOp,h1,ev1,ev2]) ?_ ?_)
 .rw [Sem.run_bind,hb];rfl
 .show y9 base w E Q .normal _ _;have hfr2:=aj_.put (x:=.p (.bool b)) o1.dst (.p rfl);have e1:lH (lH fr o0.dst (.sl rows full)) o1.dst (.p (.bool b))=rC (rC fr 3 (.sl rows full)) 4 (.p (.bool b)):=by rw [d0,d1];rfl
  rw [e1] at hfr2;exact ⟨E,_,ah,nx+2,hQ b hbr,⟨hs.heap.weaken (fun b hb=>by omega),hfr2,by rw [ayq,ayq];exact hs.defers⟩,Step.refl _ _ _⟩
def rU (fn:Func):Option TypeId:=
 match fn.body with
 |some (.seq (.region _ r0 false) (.seq (.seq (.region _ r1 false) (.cond (.tmp 4) (.seq (.region _ r2 false) .ret) .skip)) (.seq (.region _ r3 false) .ret)))=>
  match r0.toList,r1.toList,r2.toList,r3.toList with
  |[a0],[b0,b1],[c0],[d0,d1,d2,d3]=>
   match a0.op,b0.op,b1.op,c0.op,d0.op,d1.op,d2.op,d3.op with
   | .assign (.const (.slice none 0 0)),.move (.tmp 0),.binOp .eql t (.tmp 3) (.const (.slice none 0 0)) _,.assign (.const (.slice none 0 0)),.buildSlice t1 0 ps,.move (.tmp 0),.call ⟨.builtin .append,az,ts⟩,.assign (.tmp 7)=>
    match az.toList,ts.toList with
    |[.tmp 5,.tmp 6],[t2,t3]=>
     bif [a0,b0,b1,c0,d0,d1,d2,d3].all (fun o=>o.guard.isNone)&&([a0,b0,b1,c0,d0,d1,d2,d3].map (·.dst) == [some 2,some 3,some 4,some 2,some 5,some 6,some 7,some 2])&&(Nat.beq t t1&&(Nat.beq t t2&&(Nat.beq t t3&&ps.isEmpty)))
      &&Nat.beq fn.ntmps 8&&decide (fn.name≠ "runtime.NumGoroutine")&&(match fn.results.toList with | [.tmp 2]=>true|_=>false) then some t else none
    |_,_=>none
   |_,_,_,_,_,_,_,_=>none
  |_,_,_,_=>none
 |_=>none
theorem akb {f:FuncId}{fn:Func}{t e:TypeId}{i:TypeInfo}{z:List AV}(hfn:P.funcs[f]?=some fn)(h:rU fn=some t)(hu:P.underlying t=some (.slice e))(hi:P.info? e=some i)(hz:ays P e=some z)
  (hzl:z.length=i.size) (hby:i.bytes<=4096) (hsz:i.size≠0) {rows:List (List AV)} (hr:jy i.size rows) (hc:fJ rows=true) (hl:rows.length<=4294967296):PC P f [.sl rows false] (.sl rows false):=by
 unfold rU at h;split at h
 .rename_i t_ r0 id1 r1 id2 r2 id3 r3 hbody;split at h
  .rename_i a0 b0 b1 c0 d0 d1 d2 d3 e0 e1 e2 e3;split at h
   .rename_i t' yt t1 ps az ts q0 q1 q2 q3 q4 q5 q6 q7;split at h
    .rename_i t2 t3 eas ets;generalize hg:(([a0,b0,b1,c0,d0,d1,d2,d3].all (fun o=>o.guard.isNone)&&([a0,b0,b1,c0,d0,d1,d2,d3].map (·.dst) == [some 2,some 3,some 4,some 2,some 5,some 6,some 7,some 2])&&(Nat.beq t' t1&&(Nat.beq t' t2&&(Nat.beq t' t3&&ps.isEmpty)))
      &&Nat.beq fn.ntmps 8&&decide (fn.name≠ "runtime.NumGoroutine")&&(match fn.results.toList with | [.tmp 2]=>true|_=>false)))=g at h
     cases g
     .cases h
     .simp only [cond_true,aj] at h;subst h;simp only [ak,decide_eq_true_eq,beq_iff_eq] at hg;obtain ⟨⟨⟨⟨⟨hgu,hds⟩,hty,akc,akd,hps⟩,hnt⟩,hname⟩,hres⟩:=hg;have ht1:=au hty;have ht2:=au akc;have ht3:=au akd;subst ht1;subst ht2;subst ht3;have hnt:=au hnt;simp only [List.all_cons,List.all_nil,Bool.and_true,ak,Option.isNone_iff_eq_none] at hgu;obtain ⟨ga0,gb0,gb1,gc0,gd0,gd1,gd2,gd3⟩:=hgu;simp only [aX,List.map_nil,List.cons.injEq,and_true] at hds;obtain ⟨da0,db0,db1,dc0,dd0,dd1,dd2,dd3⟩:=hds;have ake:ps.toList=[]:=by
       have:ps=#[]:=(by simpa using hps);rw [this]
      have Uj:fn.results.toList=[.tmp 2]:=by
       split at hres
       .assumption
       .cases hres
      have er1:r1=#[b0,b1]:=(by apply Array.ext';simpa using e1);have one:∀(id:Nat) (ops:Array Oper) (l:List Oper) (fr:jB) (ah:AH) (nx:Nat) (Q:AQ),ops.toList=l->BD P ops none nx 0 l fr ah [] (fun fr' dV=>Q .normal fr' dV (nx+ops.size))->AW P (.region id ops false) fr ah nx Q:=by
       intro id ops l fr ah nx Q hl h;subst hl;exact N_ h
      have huE:ays P e=some z:=hz;have akf:iP P t'=some (i.size,i.bytes):=(by simp [iP,hu,hi]);refine ZG hfn hbody hname (by rw [hnt];simp) ?_;rw [hnt];refine n_ (one _ _ _ _ _ _ _ e0 ?_);simp only [BD,jc,ga0,VN,Qi,q0,ev,ofV,ofC,fD,ayG,da0,lH,true_and];refine n_ (n_ (aj9 er1 q1 gb0 db0 q2 gb1 db1 hu (rows:=rows) (full:=false) (by rfl) (by simp [fB]) fun b hb=>?_));refine LP b (by rfl) ?_;cases b with
      |true=>
       have hrn:=hb rfl;subst hrn;rw [if_pos rfl];refine n_ (one _ _ _ _ _ _ _ e2 ?_);simp only [BD,jc,gc0,VN,Qi,q3,ev,ofV,ofC,fD,ayG,dc0,lH,true_and];refine G8 ⟨.inr rfl,?_⟩;rw [Uj];rfl
      |false=>
       rw [if_neg (by simp)];refine LM ?_;refine n_ (one _ _ _ _ _ _ _ e3 ?_);have happ:∀(ah:AH) (id1 id2:Nat) (K:mP->Prop),ah id1=some (.rows i.size [])->K ⟨.os id2 i.size 0 (0+rows.length),[(id1,none),(id2,some (.rows i.size (((([]:List (List AV)).drop 0).take 0)++rows)))],id1::[]⟩->
         vK P id2 ah t' t' (.os id1 i.size 0 0) (.sl rows false) K:=by
        intro ah id1 id2 K hab hK;refine dG.2 ⟨_,akf,hby,hsz,?_,?_,hr,rfl,?_⟩
        .rw [hu];trivial
        .rw [hu];simp [huE,hzl]
        .rw [hab];exact ⟨rfl,by simp,by simpa using hl,hK⟩
       have hbs:∀(id:Nat) (K:mP->Prop),K ⟨.os id i.size 0 0,[(id,some (.rows i.size (ayz i.size 0 [])))],[]⟩->jD P t' id 0 [] K:=by
        intro id K hK;unfold jD;rw [hu];exact dG.2 ⟨i,hi,dG.2 ⟨z,huE,hzl,by simp,dG.2 ⟨[],rfl,hK⟩⟩⟩
       simp only [BD,jc,gd0,gd1,gd2,gd3,VN,Qi,q4,q5,q6,q7,ake,Q8,eas,ets,ayG,dd0,dd1,dd2,dd3,true_and];refine dG.2 ⟨[],rfl,hbs _ _ ?_⟩;refine dG.2 ⟨.sl rows false,rfl,?_⟩;refine dG.2 ⟨[.os _ i.size 0 0,.sl rows false],rfl,?_⟩;have hts:ts=#[t',t']:=(by apply Array.ext';simpa using ets);subst hts;refine dG.2 ⟨t',rfl,dG.2 ⟨t',rfl,.inl<|happ _ _ _ _ (by simp [lZ,upd,ayz]) ?_⟩⟩;refine dG.2 ⟨.os _ i.size 0 (0+rows.length),rfl,?_⟩;refine G8 ⟨.inr rfl,?_⟩;rw [Uj];refine dG.2 ⟨.os _ i.size 0 (0+rows.length),rfl,?_⟩;exact EK (by simp [lZ,upd]) hc (by simp)
    .cases h
   .cases h
  .cases h
 .cases h
theorem ahm {f:FuncId}{fn:Func}{t e:TypeId}{i:TypeInfo}{z:List AV}(hfn:P.funcs[f]?=some fn)(h:rU fn=some t)(hu:P.underlying t=some (.slice e))(hi:P.info? e=some i)(hz:ays P e=some z)
  (hzl:z.length=i.size) (hby:i.bytes<=4096) (hsz:i.size≠0) {rows:List (List AV)} (hr:jy i.size rows) (hc:fJ rows=true) (hl:rows.length<=4294967296) (hfl:rows.all y8=true):PCa P f [.sl rows false] (.sl rows false):=by
 unfold rU at h;split at h
 .rename_i t_ r0 id1 r1 id2 r2 id3 r3 hbody;split at h
  .rename_i a0 b0 b1 c0 d0 d1 d2 d3 e0 e1 e2 e3;split at h
   .rename_i t' yt t1 ps az ts q0 q1 q2 q3 q4 q5 q6 q7;split at h
    .rename_i t2 t3 eas ets;generalize hg:(([a0,b0,b1,c0,d0,d1,d2,d3].all (fun o=>o.guard.isNone)&&([a0,b0,b1,c0,d0,d1,d2,d3].map (·.dst) == [some 2,some 3,some 4,some 2,some 5,some 6,some 7,some 2])&&(Nat.beq t' t1&&(Nat.beq t' t2&&(Nat.beq t' t3&&ps.isEmpty)))
      &&Nat.beq fn.ntmps 8&&decide (fn.name≠ "runtime.NumGoroutine")&&(match fn.results.toList with | [.tmp 2]=>true|_=>false)))=g at h
     cases g
     .cases h
     .simp only [cond_true,aj] at h;subst h;simp only [ak,decide_eq_true_eq,beq_iff_eq] at hg;obtain ⟨⟨⟨⟨⟨hgu,hds⟩,hty,akc,akd,hps⟩,hnt⟩,hname⟩,hres⟩:=hg;have ht1:=au hty;have ht2:=au akc;have ht3:=au akd;subst ht1;subst ht2;subst ht3;have hnt:=au hnt;simp only [List.all_cons,List.all_nil,Bool.and_true,ak,Option.isNone_iff_eq_none] at hgu;obtain ⟨ga0,gb0,gb1,gc0,gd0,gd1,gd2,gd3⟩:=hgu;simp only [aX,List.map_nil,List.cons.injEq,and_true] at hds;obtain ⟨da0,db0,db1,dc0,dd0,dd1,dd2,dd3⟩:=hds;have ake:ps.toList=[]:=by
       have:ps=#[]:=(by simpa using hps);rw [this]
      have Uj:fn.results.toList=[.tmp 2]:=by
       split at hres
       .assumption
       .cases hres
      have er1:r1=#[b0,b1]:=(by apply Array.ext';simpa using e1);have one:∀(id:Nat) (ops:Array Oper) (l:List Oper) (fr:jB) (ah:AH) (nx:Nat) (Q:AQ),ops.toList=l->BD P ops none nx 0 l fr ah [] (fun fr' dV=>Q .normal fr' dV (nx+ops.size))->AW P (.region id ops false) fr ah nx Q:=by
       intro id ops l fr ah nx Q hl h;subst hl;exact N_ h
      have huE:ays P e=some z:=hz;have akf:iP P t'=some (i.size,i.bytes):=(by simp [iP,hu,hi]);refine agt hfn hbody hname (by rw [hnt];simp) ?_;rw [hnt];refine n_ (one _ _ _ _ _ _ _ e0 ?_);simp only [BD,jc,ga0,VN,Qi,q0,ev,ofV,ofC,fD,ayG,da0,lH,true_and];refine n_ (n_ (aj9 er1 q1 gb0 db0 q2 gb1 db1 hu (rows:=rows) (full:=false) (by rfl) (by simp [fB]) fun b hb=>?_));refine LP b (by rfl) ?_;cases b with
      |true=>
       have hrn:=hb rfl;subst hrn;rw [if_pos rfl];refine n_ (one _ _ _ _ _ _ _ e2 ?_);simp only [BD,jc,gc0,VN,Qi,q3,ev,ofV,ofC,fD,ayG,dc0,lH,true_and];refine G8 ⟨.inr rfl,?_⟩;rw [Uj];exact ⟨rfl,rfl,fun b hb=>by cases hb⟩
      |false=>
       rw [if_neg (by simp)];refine LM ?_;refine n_ (one _ _ _ _ _ _ _ e3 ?_);have happ:∀(ah:AH) (id1 id2:Nat) (K:mP->Prop),ah id1=some (.rows i.size [])->K ⟨.os id2 i.size 0 (0+rows.length),[(id1,none),(id2,some (.rows i.size (((([]:List (List AV)).drop 0).take 0)++rows)))],id1::[]⟩->
         vK P id2 ah t' t' (.os id1 i.size 0 0) (.sl rows false) K:=by
        intro ah id1 id2 K hab hK;refine dG.2 ⟨_,akf,hby,hsz,?_,?_,hr,rfl,?_⟩
        .rw [hu];trivial
        .rw [hu];simp [huE,hzl]
        .rw [hab];exact ⟨rfl,by simp,by simpa using hl,hK⟩
       have hbs:∀(id:Nat) (K:mP->Prop),K ⟨.os id i.size 0 0,[(id,some (.rows i.size (ayz i.size 0 [])))],[]⟩->jD P t' id 0 [] K:=by
        intro id K hK;unfold jD;rw [hu];exact dG.2 ⟨i,hi,dG.2 ⟨z,huE,hzl,by simp,dG.2 ⟨[],rfl,hK⟩⟩⟩
       simp only [BD,jc,gd0,gd1,gd2,gd3,VN,Qi,q4,q5,q6,q7,ake,Q8,eas,ets,ayG,dd0,dd1,dd2,dd3,true_and];refine dG.2 ⟨[],rfl,hbs _ _ ?_⟩;refine dG.2 ⟨.sl rows false,rfl,?_⟩;refine dG.2 ⟨[.os _ i.size 0 0,.sl rows false],rfl,?_⟩;have hts:ts=#[t',t']:=(by apply Array.ext';simpa using ets);subst hts;refine dG.2 ⟨t',rfl,dG.2 ⟨t',rfl,.inl<|happ _ _ _ _ (by simp [lZ,upd,ayz]) ?_⟩⟩;refine dG.2 ⟨.os _ i.size 0 (0+rows.length),rfl,?_⟩;refine G8 ⟨.inr rfl,?_⟩;rw [Uj];refine dG.2 ⟨.os _ i.size 0 (0+rows.length),rfl,?_⟩;refine ⟨?_,rfl,fun b hb k hk=>?_⟩
       .exact EK (by simp [lZ,upd]) hc (by simp)
       .have hb':b=_:=bT.1 hb;subst hb';have hk':some (qO.rows i.size ((([]:List (List AV)).drop 0).take 0++rows))=some k:=(by rw [<- hk];simp [lZ,upd]);cases hk';simpa [qO.FV] using hfl
    .cases h
   .cases h
  .cases h
 .cases h
def Jd (P:Program)(f:FuncId):Option Nat:=
 match P.funcs[f]? with
 |none=>none|some fn=>match rU fn with
  |none=>none|some t=>match P.underlying t with
   |some (.slice e)=>match P.info? e,(ays P e).map List.length with
    |some i,some n=>bif Nat.beq n i.size&&(Nat.ble i.bytes 4096&&!Nat.beq i.size 0) then some i.size else none
    |_,_=>none
   |_=>none
def adq (P:Program):oN:=fun pc nv f args=>
 match args with
 |[.sc .sl tm]=>match Jd P f with
  |some n=>some (.sc .sl tm,nv,[(pc,.Lh n tm),(pc,.len2 0 tm)],false)|none=>none
 |[.slc rows false]=>match Jd P f with
  |some n=>bif rows.all (fun r=>Nat.beq r.length n)&&(BU rows&&Nat.ble rows.length 4294967296) then some (.slc rows false,nv,[],rows.all acP) else none
  |none=>none
 |_=>none
theorem Uk {f:FuncId}{n:Nat}(h:Jd P f=some n){rows:List (List AV)}(hr:jy n rows)(hc:fJ rows=true)(hl:rows.length<=4294967296):PC P f [.sl rows false] (.sl rows false):=by
 unfold Jd at h;split at h
 .cases h
 .rename_i fn hfn;split at h
  .cases h
  .rename_i t ht;split at h
   .rename_i e hu;split at h
    .rename_i i m hi hm;cases hg:Nat.beq m i.size&&(Nat.ble i.bytes 4096&&!Nat.beq i.size 0)
     .simp [hg] at h
     .simp only [hg,cond_true,aj] at h;subst h;simp only [ak,Bool.not_eq_true'] at hg;simp only [ay] at hm;obtain ⟨z,hz,hzm⟩:=hm;exact akb hfn ht hu hi hz (by rw [hzm];exact au hg.1) (aC hg.2.1) (fun e0=>by rw [e0] at hg;exact absurd hg.2.2 (by decide)) hr hc hl
    .cases h
   .cases h
theorem aa3 {f:FuncId}{n:Nat}(h:Jd P f=some n){rows:List (List AV)}(hr:jy n rows)(hc:fJ rows=true)(hl:rows.length<=4294967296)(hfl:rows.all y8=true):PCa P f [.sl rows false] (.sl rows false):=by
 unfold Jd at h;split at h
 .cases h
 .rename_i fn hfn;split at h
  .cases h
  .rename_i t ht;split at h
   .rename_i e hu;split at h
    .rename_i i m hi hm;cases hg:Nat.beq m i.size&&(Nat.ble i.bytes 4096&&!Nat.beq i.size 0)
     .simp [hg] at h
     .simp only [hg,cond_true,aj] at h;subst h;simp only [ak,Bool.not_eq_true'] at hg;simp only [ay] at hm;obtain ⟨z,hz,hzm⟩:=hm;exact ahm hfn ht hu hi hz (by rw [hzm];exact au hg.1) (aC hg.2.1) (fun e0=>by rw [e0] at hg;exact absurd hg.2.2 (by decide)) hr hc hl hfl
    .cases h
   .cases h
theorem aho : ∀σ:List AV,fU σ=true->ny P σ (adq P):=by
 intro σ hσ pc nv f args r h hp hs;unfold adq at h;split at h
 .rename_i tm;split at h
  .rename_i n hn;simp only [aj] at h;subst h;have h1:jy n (tm.den σ).R:=hs (pc,.Lh n tm) (by simp) hp;have h2:0+(tm.den σ).R.length<=4294967296:=hs (pc,.len2 0 tm) (by simp) hp;exact ⟨Uk hn h1 (gQ (Tm.kH hσ tm)) (by omega),fun h=>by cases h⟩
  .cases h
 .rename_i rows;split at h
  .rename_i n hn;cases hg:rows.all (fun r=>Nat.beq r.length n)&&(BU rows&&Nat.ble rows.length 4294967296)
   .simp [hg] at h
   .simp only [hg,cond_true,aj] at h;subst h;simp only [ak] at hg;have hlen:(fQ σ rows).length<=4294967296:=(by rw [fC];exact aC hg.2.2);refine ⟨Uk hn (EN hg.1) (Ac hσ hg.2.1) hlen,fun hf=>aa3 hn (EN hg.1) (Ac hσ hg.2.1) hlen ?_⟩;have hf:rows.all acP=true:=hf;rw [jd,List.all_map,aF];intro row hr;exact Hq (aF.1 hf row hr)
  .cases h
 .cases h
def xOr (X Y:oN):oN:=fun pc nv f args=>match X pc nv f args with|some r=>some r|none=>Y pc nv f args
theorem ap4 {X Y:oN}(hX:∀σ:List AV,fU σ=true->ny P σ X)(hY:∀σ:List AV,fU σ=true->ny P σ Y):∀σ:List AV,fU σ=true->ny P σ (xOr X Y):=by
 intro σ hσ pc nv f args r h hp hs;unfold xOr at h;split at h
 .rename_i r' hr;simp only [aj] at h;subst h;exact hX σ hσ _ _ _ _ _ hr hp hs
 .exact hY σ hσ _ _ _ _ _ h hp hs
end
end Go.Fw
end
section
namespace Go.Fw
variable [iT]
section
variable {P : Program}
def QK (x:AV)(rows:List (List AV)):Prop:=∀w E v,Rep w E x v->∃a n c,v=.slice a n c/\(a=none->rows=[])
theorem am4 {w:World}{E:Env}{t e:TypeId}(hu:P.underlying t=some (.slice e)){x:AV}{rows:List (List AV)}{v:Value}(hx:QK x rows)(h:Rep w E x v)(ox oy:Operand) :
  ∃b:Bool,(do eqGuard .eql t ox oy v (.slice none 0 0);binOp .eql t v (.slice none 0 0):Sem Value).run P w=.ok (.bool b) w/\(b=true->rows=[]):=by
 have run:∀(a:Option Addr) (n c:Nat),(do eqGuard .eql t ox oy (.slice a n c) (.slice none 0 0);binOp .eql t (.slice a n c) (.slice none 0 0):Sem Value).run P w=.ok (.bool a.isNone) w:=by
  intro a n c;have key:∀d,(Op.equalIn (d+1) t (.slice a n c) (.slice none 0 0)).run P w=.ok a.isNone w:=by
   intro d;cases a<;>simp [Op.equalIn,run_underlying hu]
  have key2:(Op.equal t (.slice a n c) (.slice none 0 0)).run P w=.ok a.isNone w:=key 9999;simp [eqGuard,binOp,key2]
 obtain ⟨a,n,c,rfl,hn⟩:=hx w E v h;exact ⟨_,run a n c,fun h=>hn (by simpa using h)⟩
theorem am5 {id:Nat}{ops:Array Oper}{o0 o1:Oper}{t e:TypeId}{yt:TypeId}{fr:jB}{ah:AH}{nx:Nat}{Q:AQ}{x:AV}{rows:List (List AV)}(hx:QK x rows)(hops:ops=#[o0,o1])(h0:o0.op=.move (.tmp 0))(g0:o0.guard=none)(d0:o0.dst=some 3)
  (h1:o1.op=.binOp .eql t (.tmp 3) (.const (.slice none 0 0)) yt) (g1:o1.guard=none) (d1:o1.dst=some 4) (hu:P.underlying t=some (.slice e)) (hfr:fV fr 0=some x) (hlen:4<fr.length)
  (hQ:∀b:Bool,(b=true->rows=[])->Q .normal (rC (rC fr 3 x) 4 (.p (.bool b))) ah (nx+2)):AW P (.region id ops false) fr ah nx Q:=by
 subst hops;intro base w E a hs;refine wp_region ?_;show wpOps P #[o0,o1] _ [0,1] a w;rw [wpOps_cons];unfold wpOp;simp only [List.getElem?_toArray,List.getElem?_cons_zero];obtain ⟨v,hv,hr⟩:=hs.fr.get 0 _ hfr;have ev0:a.eval (.tmp 0)=v:=by simp [Act.eval,hv]
 rw [if_pos (by simp [Region.wanted,g0])];refine .inl (ayv (P:=P) (s:=pure (.value v)) (v:=v) (w':=w) (by simp [execOp,h0,ev0]) rfl ?_);rw [wpOps_cons];unfold wpOp;simp only [List.getElem?_toArray,List.getElem?_cons_zero,List.getElem?_cons_succ];rw [if_pos (by simp [Region.wanted,g1])];have aj_:=hs.fr.put o0.dst hr;have hput:fV (lH fr o0.dst x) 3=some x:=by rw [d0];simp only [lH,lM];rw [if_pos ⟨trivial,by omega⟩]
 obtain ⟨v1,hv1,hr1⟩:=aj_.get 3 _ hput;have ev1:(a.put o0.dst v).eval (.tmp 3)=v1:=by simp [Act.eval,hv1]
 have ev2:(a.put o0.dst v).eval (.const (.slice none 0 0))=.slice none 0 0:=rfl;obtain ⟨b,hb,hbr⟩:=am4 (P:=P) hu hx hr1 (.tmp 3) (.const (.slice none 0 0));refine .inl (ayv (P:=P) (s:=do pure (.value (<- (do eqGuard .eql t (.tmp 3) (.const (.slice none 0 0)) v1 (.slice none 0 0);binOp .eql t v1 (.slice none 0 0):Sem Value)))) (v:=.bool b) (w':=w) (by simp only [execOp,h1,ev1,ev2]) ?_ ?_)
 .rw [Sem.run_bind,hb];rfl
 .show y9 base w E Q .normal _ _;have hfr2:=aj_.put (x:=.p (.bool b)) o1.dst (.p rfl);have e1:lH (lH fr o0.dst x) o1.dst (.p (.bool b))=rC (rC fr 3 x) 4 (.p (.bool b)):=by rw [d0,d1];rfl
  rw [e1] at hfr2;exact ⟨E,_,ah,nx+2,hQ b hbr,⟨hs.heap.weaken (fun b hb=>by omega),hfr2,by rw [ayq,ayq];exact hs.defers⟩,Step.refl _ _ _⟩
theorem ap5 {rows:List (List AV)}{full:Bool}:QK (.sl rows full) rows:=fun w E v h=>by
 cases h with
 |slnil _ a=>exact ⟨a,0,0,rfl,fun _=>rfl⟩|sl _ _ sz c o cap g=>exact ⟨_,_,_,rfl,fun h=>by cases h⟩
theorem am6 {id:Nat}{ops:Array Oper}{o0:Oper}{d sz q:Nat}{fr:jB}{ah:AH}{nx:Nat}{Q:AQ}(hops:ops.toList=[o0])(h0:o0.op=.assign (.const (.slice none 0 0)))(g0:o0.guard=none)(d0:o0.dst=some d)(hq:nx<=q)
  (hQ:Q .normal (rC fr d (.os q sz 0 0)) (upd ah q (some (.rows sz []))) (q+1)):AW P (.region id ops false) fr ah nx Q:=by
 have hops:ops=#[o0]:=by apply Array.ext';simpa using hops
 subst hops;intro base w E a hs;refine wp_region ?_;show wpOps P #[o0] _ [0] a w;rw [wpOps_cons];unfold wpOp;simp only [List.getElem?_toArray,List.getElem?_cons_zero];rw [if_pos (by simp [Region.wanted,g0])];refine .inl (ayv (P:=P) (s:=pure (.value (.slice none 0 0))) (v:=.slice none 0 0) (w':=w) (by simp [execOp,h0,Act.eval]) rfl ?_);show y9 base w E Q .normal _ _;obtain ⟨h1,h2⟩:=NQ hs.heap (id:=q) hq sz;have hb:(E.set q .empty).own q≠.free:=by simp [Env.set]
 have hfr:=(hs.fr.mono h1.ext).put (x:=.os q sz 0 0) o0.dst (Rep.kM q sz 0 none hb);rw [d0] at hfr;refine ⟨E.set q .empty,_,_,q+1,hQ,⟨h2.weaken fun b hb=>?_,by rw [d0];exact hfr,by rw [ayq];exact hs.defers⟩,h1⟩;have hb':q+1<=b:=hb;exact ⟨by omega,by omega⟩
theorem akg {f:FuncId}{fn:Func}{t e:TypeId}{i:TypeInfo}{z:List AV}(hfn:P.funcs[f]?=some fn)(h:rU fn=some t)(hu:P.underlying t=some (.slice e))(hi:P.info? e=some i)(hz:ays P e=some z)
  (hzl:z.length=i.size) (hby:i.bytes<=4096) (hsz:i.size≠0) {x:AV} {rows:List (List AV)} {rd:List Nat} {ah:AH} {nx:Nat} (hx:QK x rows) (hro:∀(dV:AH) (K:List (List AV)->List Nat->Prop),(∀b,b<nx->dV b=ah b)->K rows rd->ayB dV i.size x K) (hl:rows.length<=4294967296) :
  ∃c,fn.body=some c/\kN fn=true/\fn.ntmps=8/\fn.results.toList=[.tmp 2]/\∀Q:AQ,(∀fr dV,fV fr 2=some (.os (nx+5) i.size 0 rows.length)->(∀b,dV b=if b=nx+5 then some (.rows i.size rows) else if b=nx+3 then none else ah b)->Q .ret fr dV (nx+7))->
   AW P c (wE 8 [x]) ah nx Q:=by
 unfold rU at h;split at h
 .rename_i t_ r0 id1 r1 id2 r2 id3 r3 hbody;split at h
  .rename_i a0 b0 b1 c0 d0 d1 d2 d3 e0 e1 e2 e3;split at h
   .rename_i t' yt t1 ps az ts q0 q1 q2 q3 q4 q5 q6 q7;split at h
    .rename_i t2 t3 eas ets;generalize hg:(([a0,b0,b1,c0,d0,d1,d2,d3].all (fun o=>o.guard.isNone)&&([a0,b0,b1,c0,d0,d1,d2,d3].map (·.dst) == [some 2,some 3,some 4,some 2,some 5,some 6,some 7,some 2])&&(Nat.beq t' t1&&(Nat.beq t' t2&&(Nat.beq t' t3&&ps.isEmpty)))
      &&Nat.beq fn.ntmps 8&&decide (fn.name≠ "runtime.NumGoroutine")&&(match fn.results.toList with | [.tmp 2]=>true|_=>false)))=g at h
     cases g
     .cases h
     .simp only [cond_true,aj] at h;subst h;simp only [ak,decide_eq_true_eq,beq_iff_eq] at hg;obtain ⟨⟨⟨⟨⟨hgu,hds⟩,hty,akc,akd,hps⟩,hnt⟩,hname⟩,hres⟩:=hg;have ht1:=au hty;have ht2:=au akc;have ht3:=au akd;subst ht1;subst ht2;subst ht3;have hnt:=au hnt;simp only [List.all_cons,List.all_nil,Bool.and_true,ak,Option.isNone_iff_eq_none] at hgu;obtain ⟨ga0,gb0,gb1,gc0,gd0,gd1,gd2,gd3⟩:=hgu;simp only [aX,List.map_nil,List.cons.injEq,and_true] at hds;obtain ⟨da0,db0,db1,dc0,dd0,dd1,dd2,dd3⟩:=hds;have ake:ps.toList=[]:=by
       have:ps=#[]:=(by simpa using hps);rw [this]
      have Uj:fn.results.toList=[.tmp 2]:=by
       split at hres
       .assumption
       .cases hres
      have er1:r1=#[b0,b1]:=(by apply Array.ext';simpa using e1);have one:∀(id:Nat) (ops:Array Oper) (l:List Oper) (fr:jB) (ah:AH) (nx:Nat) (Q:AQ),ops.toList=l->BD P ops none nx 0 l fr ah [] (fun fr' dV=>Q .normal fr' dV (nx+ops.size))->AW P (.region id ops false) fr ah nx Q:=by
       intro id ops l fr ah nx Q hl h;subst hl;exact N_ h
      have huE:ays P e=some z:=hz;have akf:iP P t'=some (i.size,i.bytes):=(by simp [iP,hu,hi]);refine ⟨_,hbody,by simpa [kN] using hname,hnt,Uj,fun Q hQ=>?_⟩;refine n_ (one _ _ _ _ _ _ _ e0 ?_);simp only [BD,jc,ga0,VN,Qi,q0,ev,ofV,ofC,fD,ayG,da0,lH,true_and];refine n_ (n_ (am5 hx er1 q1 gb0 db0 q2 gb1 db1 hu (by rfl) (by simp [fB,wE]) fun b hb=>?_));refine LP b (by rfl) ?_;have s0:r0.size=1:=(by have:=congrArg List.length e0;simpa using this);cases b with
      |true=>
       have hrn:=hb rfl;subst hrn;rw [if_pos rfl];refine n_ (am6 (q:=nx+5) (sz:=i.size) e2 q3 gc0 dc0 (by rw [s0];omega) ?_);refine al_ (kP:=fun b=>if b=nx+5 then some (.rows i.size []) else if b=nx+3 then none else ah b) (nx0:=nx+7) (fun b k hb=>?_) (by omega) (G8 (hQ _ _ (by rfl) (fun b=>rfl)));by_cases e5:b=nx+5
       .rw [gX e5];rw [if_pos e5] at hb;exact hb
       .rw [ayp e5];rw [if_neg e5] at hb;split at hb
        .cases hb
        .exact hb
      |false=>
       rw [if_neg (by simp)];refine LM ?_;refine n_ (one _ _ _ _ _ _ _ e3 ?_);have s3:r3.size=4:=(by have:=congrArg List.length e3;simpa using this);have happ:∀(dV:AH) (id1 id2:Nat) (K:mP->Prop),nx<=id1->(∀b,b<nx->dV b=ah b)->dV id1=some (.rows i.size [])->K ⟨.os id2 i.size 0 (0+rows.length),[(id1,none),(id2,some (.rows i.size (((([]:List (List AV)).drop 0).take 0)++rows)))],id1::rd⟩->
         vK P id2 dV t' t' (.os id1 i.size 0 0) x K:=by
        intro dV id1 id2 K hle hsame hab hK;refine dG.2 ⟨_,akf,hby,hsz,?_,?_,?_⟩
        .rw [hu];trivial
        .rw [hu];simp [huE,hzl]
        .refine hro dV _ hsame ⟨rfl,?_⟩;rw [hab];exact ⟨rfl,by simp,by simpa using hl,hK⟩
       have hbs:∀(id:Nat) (K:mP->Prop),K ⟨.os id i.size 0 0,[(id,some (.rows i.size (ayz i.size 0 [])))],[]⟩->jD P t' id 0 [] K:=by
        intro id K hK;unfold jD;rw [hu];exact dG.2 ⟨i,hi,dG.2 ⟨z,huE,hzl,by simp,dG.2 ⟨[],rfl,hK⟩⟩⟩
       simp only [BD,jc,gd0,gd1,gd2,gd3,VN,Qi,q4,q5,q6,q7,ake,Q8,eas,ets,ayG,dd0,dd1,dd2,dd3,true_and];refine dG.2 ⟨[],rfl,hbs _ _ ?_⟩;refine dG.2 ⟨x,rfl,?_⟩;refine dG.2 ⟨[.os _ i.size 0 0,x],rfl,?_⟩;have hts:ts=#[t',t']:=(by apply Array.ext';simpa using ets);subst hts;refine dG.2 ⟨t',rfl,dG.2 ⟨t',rfl,.inl<|happ _ _ _ _ (by omega) (fun b hb=>?_) (by simp [lZ,upd,ayz]) ?_⟩⟩
       .simp only [lZ];rw [ayp (by omega)]
       refine dG.2 ⟨.os _ i.size 0 (0+rows.length),rfl,?_⟩;simp only [s0,s3,Nat.zero_add];refine G8 ?_;refine hQ _ _ ?_ (fun b=>?_)
       .rfl
       simp only [lZ,List.drop_nil,List.take_nil,List.nil_append];by_cases h5:b=nx+5
       .rw [gX h5,if_pos h5]
       .rw [ayp h5,if_neg h5];by_cases h3:b=nx+3
        .rw [gX h3,if_pos h3]
        .rw [ayp h3,if_neg h3,ayp h3]
    .cases h
   .cases h
  .cases h
 .cases h
def ap6 (X Y:B_):B_:=fun pc th nx nv f args=>match X pc th nx nv f args with|some r=>some r|none=>Y pc th nx nv f args
theorem am7 {X Y:B_}(hX:∀σ:List AV,fU σ=true->lT P σ X)(hY:∀σ:List AV,fU σ=true->lT P σ Y):∀σ:List AV,fU σ=true->lT P σ (ap6 X Y):=by
 intro σ hσ pc th nx nv f args R h hp hs;unfold ap6 at h;split at h
 .rename_i r' hr;simp only [aj] at h;subst h;exact hX σ hσ _ _ _ _ _ _ _ hr hp hs
 .exact hY σ hσ _ _ _ _ _ _ _ h hp hs
end
end Go.Fw
end
section
namespace Go.Fw
variable [iT]
end Go.Fw
namespace Go.Fw
variable [iT]
def mdT (n:Nat):Md:=fun g=>(n / 4 ^ g) % 4
end Go.Fw
namespace Go.Fw
variable [iT]
end Go.Fw
namespace Go.Fw
variable [iT]
def Df (kA:List (List Nat))(f:Nat)(keep:List Nat)(l:List (Nat×DT)):FuncId->wQ:=fun g=>bif Nat.beq g f then ⟨0,⟨keep,0⟩,fun id=>(l.find? fun x=>Nat.beq x.1 id).map (·.2)⟩ else ⟨0,⟨kA.getD g [],0⟩,fun _=>none⟩
end Go.Fw
namespace Go.Fw
variable [iT]
end Go.Fw
end
section
namespace Go.Fw
variable [iT]
open Go.Lib
end Go.Fw
end
section
namespace Go.Fw
variable [iT]
def wH : List Nat->SV->SV->SV
 |[],_,y=>y|j::p,.agg l,y=>.agg (l.set j (wH p (l.getD j .nil) y))|j::p,.gW l,y=>.gW (l.set j (wH p (l.getD j .nil) y))|_::_,a,_=>a
def xW : List Nat->SV->Option SV
 |[],x=>some x|j::p,.agg l=>match zu l j with|some x=>xW p x|none=>none
 |j::p,.gW l=>match zu l j with|some x=>xW p x|none=>none
 |_::_,_=>none
theorem uZ {ρ:List AV}{l:List SV}{j:Nat}{x:SV}(h:zu l j=some x):(dK ρ l).getD j eX=x.den ρ/\l.getD j .nil=x:=by
 have h2:=DC (ρ:=ρ) h;rw [vS] at h;exact ⟨by simp [aB,h2],by simp [aB,h]⟩
theorem Je {ρ:List AV}{l:List SV}{j:Nat}{x:SV}:dK ρ (l.set j x)=(dK ρ l).set j (x.den ρ):=by simp [agl,List.map_set]
theorem Ik {ρ:List AV}{y:SV}:∀{p:List Nat} {x z:SV},xW p x=some z->(wH p x y).den ρ=uK p (x.den ρ) (y.den ρ)
 |[],x,z,h=>rfl|j::p,.agg l,z,h=>by
  simp only [xW] at h;split at h
  .rename_i x hx;obtain ⟨e1,e2⟩:=uZ (ρ:=ρ) hx;simp only [wH,SV.den,uK,Je,e1,e2,Ik h]
  .cases h
 |j::p,.gW l,z,h=>by
  simp only [xW] at h;split at h
  .rename_i x hx;obtain ⟨e1,e2⟩:=uZ (ρ:=ρ) hx;simp only [wH,SV.den,uK,Je,e1,e2,Ik h]
  .cases h
 |j::p,.sc ..,z,h|j::p,.c _,z,h|j::p,.nil,z,h|j::p,.nan,z,h|j::p,.sf _,z,h|j::p,.slc ..,z,h|j::p,.vp ..,z,h|j::p,.os ..,z,h|j::p,.op ..,z,h|j::p,.fn ..,z,h|j::p,.kY ..,z,h|j::p,.mp _,z,h|j::p,.ost ..,z,h=>by simp [xW] at h
theorem DY {ρ:List AV}:∀{p:List Nat} {x z:SV},xW p x=some z->ayr (x.den ρ) p=z.den ρ
 |[],x,z,h=>by simp only [xW,aj] at h;subst h;cases x<;>rfl
 |j::p,.agg l,z,h=>by
  simp only [xW] at h;split at h
  .rename_i x hx;simp only [SV.den,ayr,(uZ (ρ:=ρ) hx).1,DY h]
  .cases h
 |j::p,.gW l,z,h=>by
  simp only [xW] at h;split at h
  .rename_i x hx;simp only [SV.den,ayr,(uZ (ρ:=ρ) hx).1,DY h]
  .cases h
 |j::p,.sc ..,z,h|j::p,.c _,z,h|j::p,.nil,z,h|j::p,.nan,z,h|j::p,.sf _,z,h|j::p,.slc ..,z,h|j::p,.vp ..,z,h|j::p,.os ..,z,h|j::p,.op ..,z,h|j::p,.fn ..,z,h|j::p,.kY ..,z,h|j::p,.mp _,z,h|j::p,.ost ..,z,h=>by simp [xW] at h
theorem ahp {y y':AV}(hs:y'.iL=y.iL):∀{p:List Nat} {a:AV},(uK p a y').iL=(uK p a y).iL
 |[],a=>hs|j::p,a=>by cases a<;>rfl
theorem MO {l:List AV}{j:Nat}(hj:j<l.length):l.getD j eX=l[j]:=by simp [aB,hj]
theorem DZ {l:List AV}{j i:Nat}{x c:AV}(hij:j≠i)(hi:l[i]?=some c):(l.set j x)[i]?=some c:=by rw [List.getElem?_set_ne hij];exact hi
theorem MP {w:World}{E E':Env}{y y':AV}(Q:AV->Prop)(hagg:∀l,Q (.agg l)->∀(i:Nat) (c:AV),l[i]?=some c->Q c)(aa4:∀l,Q (.gW l)->∀(i:Nat) (c:AV),l[i]?=some c->Q c)(hs:y'.iL=y.iL)(hy:∀u,Rep w E y u->Rep w E' y' u)(hall:∀x u,Rep w E x u->Q x->Rep w E' x u):∀{p:List Nat} {a:AV} {v:Value},Q (uK p a (.sl [] true))->ayr a p≠eX->Rep w E (uK p a y) v->Rep w E' (uK p a y') v
 |[],a,v,_,_,h=>hy _ h|j::p,.agg l,v,hc,hne,h=>by
  simp only [ayr] at hne;simp only [uK] at h hc ⊢;have hj:j<l.length:=by
   refine Nat.lt_of_not_le fun hle=>hne ?_;have e:l.getD j eX=eX:=(by simp [aB,bK hle]);rw [e];cases p<;>rfl
  have hcj:=hagg _ hc j _ (by rw [bM hj]);cases h with
  |agg cs vs hl hsc h=>
   refine .agg _ _ (by simpa using hl) ?_ ?_
   .intro c hcm;obtain ⟨i,hi⟩:=List.getElem?_of_mem hcm;by_cases hij:j=i
    .subst hij;rw [bM (by simpa using hj)] at hi;simp only [aj] at hi;subst hi;rw [ahp hs];exact hsc _ (aG (i:=j) (by rw [bM hj]))
    .rw [List.getElem?_set_ne hij] at hi;exact hsc c (aG (i:=i) (DZ hij hi))
   .intro i c u hi hu;by_cases hij:j=i
    .subst hij;rw [bM (by simpa using hj)] at hi;simp only [aj] at hi;subst hi;exact MP Q hagg aa4 hs hy hall hcj hne (h j _ u (by rw [bM hj]) hu)
    .rw [List.getElem?_set_ne hij] at hi;exact hall _ _ (h i c u (DZ hij hi) hu) (hagg _ hc i c (DZ hij hi))
 |j::p,.gW l,v,hc,hne,h=>by
  simp only [ayr] at hne;simp only [uK] at h hc ⊢;have hj:j<l.length:=by
   refine Nat.lt_of_not_le fun hle=>hne ?_;have e:l.getD j eX=eX:=(by simp [aB,bK hle]);rw [e];cases p<;>rfl
  have hcj:=aa4 _ hc j _ (by rw [bM hj]);cases h with
  |gW cs vs hl h=>
   refine .gW _ _ (by simpa using hl) ?_;intro i c u hi hu;by_cases hij:j=i
   .subst hij;rw [bM (by simpa using hj)] at hi;simp only [aj] at hi;subst hi;exact MP Q hagg aa4 hs hy hall hcj hne (h j _ u (by rw [bM hj]) hu)
   .rw [List.getElem?_set_ne hij] at hi;exact hall _ _ (h i c u (DZ hij hi) hu) (aa4 _ hc i c (DZ hij hi))
 |_::_,.p _,_,_,hne,_|_::_,.str _,_,_,hne,_|_::_,.nan,_,_,hne,_|_::_,.sl ..,_,_,hne,_|_::_,.vp ..,_,_,hne,_|_::_,.os ..,_,_,hne,_|_::_,.op ..,_,_,hne,_|_::_,.fn ..,_,_,hne,_|_::_,.kY ..,_,_,hne,_|_::_,.mp _,_,_,hne,_=>absurd rfl hne
theorem KT {y:AV}(hy:y.clean=true):∀{p:List Nat} {a:AV},a.clean=true->(uK p a y).clean=true
 |[],a,_=>hy|j::p,.agg l,h=>by
  show iO (l.set j (uK p (l.getD j eX) y))=true;refine A8 fun x hx=>?_;rcases List.mem_or_eq_of_mem_set hx with hx|rfl
  .exact EU (l:=l) h hx
  .refine KT hy ?_;rw [aB];cases e:l[j]? with
   |none=>rfl|some z=>exact jS (l:=l) h j z e
 |j::p,.gW l,h=>by
  show iO (l.set j (uK p (l.getD j eX) y))=true;refine A8 fun x hx=>?_;rcases List.mem_or_eq_of_mem_set hx with hx|rfl
  .exact EU (l:=l) h hx
  .refine KT hy ?_;rw [aB];cases e:l[j]? with
   |none=>rfl|some z=>exact jS (l:=l) h j z e
 |_::_,.p _,h|_::_,.str _,h|_::_,.nan,h|_::_,.sl ..,h|_::_,.vp ..,h|_::_,.os ..,h|_::_,.op ..,h|_::_,.fn ..,h|_::_,.kY ..,h|_::_,.mp _,h=>h
abbrev akh :=FuncId->Option (List Nat×Nat×Bool)
def aki (P:Program)(oc:akh):B_:=fun pc th nx nv f args=>
 match oc f with
 |none=>none|some c=>
  match BZ (thN th ayw) (vW th nv args).1 with
  |none=>none|some az=>match aiS P (vW th nv args).2.1 f with
   |none=>none|some r=>match xW c.1 r with
    |some (.sc .sl t)=>bif r.cln&&(DF args||(c.2.2&&(wH c.1 r .nil).jL)) then
     some ⟨[(.lb true,⟨wH c.1 r (.os nx c.2.1 0 (.rlen t)),wrT th [(nx,some (.fZ c.2.1 t))],nx+1⟩)],(vW th nv args).2.1+1,(vW th nv args).2.2.map (fun s=>(pc,Sd.s s))++[(pc,.s (.PL f (jK az) r c.1 c.2.1 c.2.2))]⟩ else none
    |_=>none
def akj (inl:B_):B_:=fun pc th nx nv f args=>
 match inl pc th nx nv f args with
 |some R=>some R|none=>bif DF args then none else
  match BZ (thN th ayw) (vW th nv args).1,acQ th ayw (zy args) with
  |some az,some rd=>match inl pc (wrT th (DJ rd)) nx (vW th nv args).2.1 f (jK az) with
   |some R=>some ⟨R.outs,R.nv,(vW th nv args).2.2.map (fun s=>(pc,Sd.s s))++R.sd⟩|none=>none
  |_,_=>none
def aso (P:Program)(oc:akh):B_:=akj (aki P oc)
theorem rV : ∀{l:List AV} {b:Nat},b∈jf l->∃(i:Nat) (x:AV),l[i]?=some x/\b∈x.refs
 |[],b,h=>by simp [jf] at h
 |y::r,b,h=>by
  simp only [jf,aH] at h;rcases h with h|h
  .exact ⟨0,y,rfl,h⟩
  .obtain ⟨i,x,h1,h2⟩:=rV h;exact ⟨i+1,x,by simpa using h1,h2⟩
theorem Jf : ∀{l:List (List AV)} {b:Nat},b∈jo l->∃(i:Nat) (x:List AV),l[i]?=some x/\b∈jf x
 |[],b,h=>by simp [jo] at h
 |y::r,b,h=>by
  simp only [jo,aH] at h;rcases h with h|h
  .exact ⟨0,y,rfl,h⟩
  .obtain ⟨i,x,h1,h2⟩:=Jf h;exact ⟨i+1,x,by simpa using h1,h2⟩
section
variable {P : Program}
theorem zJ {w:World}{E:Env}{a:AV}{v:Value}(h:Rep w E a v):∀b∈a.refs,E.own b≠.free:=by
 induction h with
 |p|str|slnil|nan=>intro b hb;simp [AV.refs,jo] at hb|agg cs vs hl hs h ih=>
  intro b hb;obtain ⟨i,c,hi,hb⟩:=rV hb;exact ih i c (vs[i]'(by rw [<- hl];exact (aA.1 hi).1)) hi (by simp) b hb
 |gW cs vs hl h ih=>
  intro b hb;obtain ⟨i,c,hi,hb⟩:=rV hb;exact ih i c (vs[i]'(by rw [<- hl];exact (aA.1 hi).1)) hi (by simp) b hb
 |sl rows full sz c o cap g h1 h2 h3 h4 h5 h6 h7 ih=>
  intro b hb;obtain ⟨i,row,hi,hb⟩:=Jf hb;obtain ⟨j,x,hj,hb⟩:=rV hb;exact ih i row j x hi hj b hb
 |vp row off c o g h1 h2 h3 h4 ih=>
  intro b hb;obtain ⟨j,x,hj,hb⟩:=rV hb;exact ih j x hj b hb
 |kM b sz off a hb=>intro x hx;simp [AV.refs] at hx;subst hx;exact hb|os b sz off len c o cap hb=>intro x hx;simp [AV.refs] at hx;subst hx;rw [hb];simp|op b sz row off c o hb=>intro x hx;simp [AV.refs] at hx;subst hx;rw [hb];simp|fn f first captured vs us hl hl' h h' ih ih'=>
  intro b hb;simp only [AV.refs,aH] at hb;rcases hb with hb|hb
  .obtain ⟨i,c,hi,hb⟩:=rV hb;exact ih i c (vs[i]'(by rw [<- hl];exact (aA.1 hi).1)) hi (by simp) b hb
  .obtain ⟨i,c,hi,hb⟩:=rV hb;exact ih' i c (us[i]'(by rw [<- hl'];exact (aA.1 hi).1)) hi (by simp) b hb
 |kY t a v h ih=>exact ih|mp b c hb=>intro x hx;simp [AV.refs] at hx;subst hx;rw [hb];simp
theorem ahq {base:Nat}{w:World}{E:Env}{b:Nat}{k:qO}(h:nN base w E b k){x:Nat}(hx:x∈k.uh):E.own x≠.free:=by
 cases k with
 |rows sz rs=>
  obtain ⟨i,row,hi,hx⟩:=Jf hx;obtain ⟨j,y,hj,hx⟩:=rV hx;rcases h with ⟨-,q2⟩|⟨c,o,arr,ty,q1,q2,q3,q4,q5,q6,q7,q8⟩
  .rw [q2] at hi;simp at hi
  .obtain ⟨v,-,hr⟩:=q8 i row j y hi hj;exact zJ hr x hx
 |iD ty sz rs=>
  obtain ⟨i,row,hi,hx⟩:=Jf hx;obtain ⟨j,y,hj,hx⟩:=rV hx;rcases h with ⟨-,q2⟩|⟨c,o,arr,q1,q2,q3,q4,⟨q5,q6,q7,q8⟩,q9⟩
  .rw [q2] at hi;simp at hi
  .obtain ⟨v,-,hr⟩:=q8 i row j y hi hj;exact zJ hr x hx
 |it m n k=>
  obtain ⟨c,cm,q1,q2,q3,q4,q5⟩:=h;simp only [qO.uh,bT] at hx;subst hx;rw [q5];simp
 |map es=>
  obtain ⟨c,jX,clock,q1,q2,q3,q4,q5,q6,q7⟩:=h;simp only [qO.uh,aH] at hx;rcases hx with hx|hx
  .obtain ⟨i,y,hi,hx⟩:=rV hx;simp only [bP,ay] at hi;obtain ⟨e,he,rfl⟩:=hi;exact zJ (q6 i e (jX[i]'(by rw [<- q5];exact (aA.1 he).1)) he (by simp)).1 x hx
  .obtain ⟨i,y,hi,hx⟩:=rV hx;simp only [bP,ay] at hi;obtain ⟨e,he,rfl⟩:=hi;exact zJ (q6 i e (jX[i]'(by rw [<- q5];exact (aA.1 he).1)) he (by simp)).2.1 x hx
theorem KU {w:World}{E E':Env}(hf:∀c o,E.fix c o->E'.fix c o){a:AV}{v:Value}(h:Rep w E a v)(hc:a.clean=true):Rep w E' a v:=by
 refine qU hf h fun b hb=>?_;have:=iM (l:=[a]) (by simp [iO,hc]);simp only [jf,cu] at this;rw [this] at hb;cases hb
theorem Ul {p:List Nat}{r:AV}{rows:List (List AV)}{f:Bool}(h:ayr r p=.sl rows f):ayr r p≠eX:=by rw [h];intro e;cases e
theorem akk {oc:akh}:∀σ:List AV,fU σ=true->lT P σ (aki P oc):=by
 intro ρ hρ pc th nx nv f args R h hp hs base w E ah vs hah hh hG hrep o a he next Q hnext
 unfold aki at h;split at h
 .cases h
 rename_i c hc;obtain ⟨p,sz,fl⟩:=c;dsimp only at h;split at h
 .cases h
 rename_i az has;split at h
 .cases h
 rename_i r hr;split at h;rotate_left
 .cases h
 rename_i t ht;cases hg:(r.cln&&(DF args||(fl&&(wH p r .nil).jL)))
 .simp [hg] at h
 simp only [hg,cond_true,aj] at h;subst h;simp only [ak] at hg;obtain ⟨hrc,hg⟩:=hg;have hpre:∀s∈(vW th nv args).2.2,s.holds P ρ:=fun s hm=>hs (pc,.s s) (b_ _ (aU.2 ⟨s,hm,rfl⟩)) hp;obtain ⟨hpc,auM⟩:=hs (pc,.s (.PL f (jK az) r p sz fl)) (cO _ (bT.2 rfl)) hp;have hfz:=(AZ hρ hah hpre).trans (rM hρ (yD hρ hah ayw) has);have auN:(r.den ρ).clean=true:=Yi hρ hrc;have hcell:ayr (r.den ρ) p=.sl (t.den ρ).R false:=DY ht;have hrows:Dy p (r.den ρ)=(t.den ρ).R:=by unfold Dy;rw [hcell];rfl
 
 obtain ⟨fix,hfix,NV,air,hback⟩:∃fix:Nat->Nat->Prop,(∀c o,E.fix c o->fix c o)/\(∀c o,fix c o->c<w.heap.size)/\fG w (dW fix) (dK ρ az) vs/\
   ((∀c o,fix c o->E.fix c o)\/((uK p (r.den ρ) (.sl [] true)).flat=true/\∀row∈Dy p (r.den ρ),y8 row=true)):=by
  rw [aY] at hg;rcases hg with hcl|hcl
  .have hcl':=vV hρ hcl;rw [sK hcl' (ah:=ah)] at hfz;refine ⟨E.fix,fun _ _ h=>h,hh.iY,Zv hh (fun _ _ h=>h) hrep hfz (fun b hb=>?_),.inl (fun _ _ h=>h)⟩;rw [iM hcl'] at hb;cases hb
  .rw [ak] at hcl;refine ⟨fun c o=>c<w.heap.size,hh.iY,fun c o h=>h,NU hh hh.iY (fun b c o h off=>(hh.je b c o h).2) ayw hrep hfz,.inr ⟨?_,auM hcl.1⟩⟩;have:=I5 (ρ:=ρ) hcl.2
   rwa [Ik ht] at this
 have aaX:fG w (dW fix) (dK ρ (jK az)) vs:=fG.weak (lS (ρ:=ρ)).length (fun i a b h1 h2=>((lS (ρ:=ρ)).get i a b h1 h2).1) air;have hq:=hpc w fix vs NV (hG.mono hfix (fun _ _ _=>rfl) (fun _ arr _ fz h=>⟨arr,fz,h,rfl⟩)) aaX;split at hq
 .exact hq.elim
 rename_i fn hfn;obtain ⟨hbody,hname,hq⟩:=hq;have hcall:(callFunc f vs.toArray).run P w=.ok (.enter f vs.toArray) w:=by
  have:(fn.name == "runtime.NumGoroutine")=false:=by simpa using hname
  simp only [callFunc,Sem.run_bind,run_program,Result.andThen_ok,hfn,this,aP,if_false,hbody,Sem.run_pure]
 unfold Oper.wp;rw [he,hcall];refine hq.mono fun e w' hq=>?_;obtain ⟨v,E1,rfl,hst,hh1,hv⟩:=hq;rw [hrows] at hh1 hv hback;let E2:Env:=⟨fun c o=>E.fix c o\/(w.heap.size<=c/\E1.fix c o),fun b=>if b=nx then E1.own 0 else E.own b⟩;have afk:E.own nx=.free:=hh.fresh nx (dD _);have Il:E2.own nx=E1.own 0:=if_pos rfl;have own_ne:∀b,b≠nx->E2.own b=E.own b:=fun b h=>if_neg h;have hblk:∀c,c<w.heap.size->w'.heap[c]?=w.heap[c]?:=hst.below.block;have hown1:∀c o,E1.own 0=.at c o->w.heap.size<=c/\c<w'.heap.size:=fun c o h=>hh1.je 0 c o h;have hx:Ext w E w' E2:=by
  refine ⟨fun c o h=>.inl h,fun c o h=>World.cell?_of_block (w:=w) (hblk c (hh.iY c o h)),fun b hb=>own_ne b fun e=>hb (by rw [e];exact afk),fun c arr ty fz h=>⟨arr,fz,?_,rfl⟩⟩;rw [hblk c (bD.1 h).1];exact h
 have aoA:∀c o,E1.fix c o->(∀c o,fix c o->E.fix c o)->E2.fix c o:=fun c o h hb=>by
  rcases Nat.lt_or_ge c w.heap.size with hc|hc
  .exact .inl (hb c o (hst.wZ c o hc h))
  .exact .inr ⟨hc,h⟩
 refine hnext _ rfl v w' E2 (upd ah nx (some (.rows sz (t.den ρ).R))) ?_ ⟨hx,hst.below.mono hh.bs,fun c o hc h=>?_,fun c hc _=>hblk c hc,fun b c o h hc=>?_,fun c o h hc=>?_⟩ ?_ ?_
 .exact Ht (wr:=[(nx,some (.fZ sz t))]) hah
 .rcases h with h|⟨h,-⟩
  .exact h
  .have:=hh.bs;omega
 .by_cases hb:b=nx
  .subst hb;rw [Il] at h;have:=(hown1 c o h).1;omega
  .rw [own_ne b hb] at h;exact ⟨b,o,h⟩
 .rcases h with h|⟨h,-⟩
  .exact .inl h
  .omega
 .have hb1:=hh1.blk 0 _ (by rfl:Vm (.rows sz (t.den ρ).R) 0=some _);refine ⟨fun b k hb=>?_,fun b b' k k' c o c' o' hne h1 h2 h3 h4=>?_,fun b hb=>?_,fun c o h=>?_,bW hh.bs hst.below.size,fun b c o h=>?_⟩
  .by_cases hbn:b=nx
   .subst hbn;rw [gX rfl] at hb;simp only [aj] at hb;subst hb;rcases hb1 with ⟨q1,q2⟩|⟨c,o,arr,ty,q1,q2,q3,q4,q5,q6,q7,q8⟩
    .exact .inl ⟨by rw [Il];exact q1,q2⟩
    .refine .inr ⟨c,o,arr,ty,by rw [Il];exact q1,bW hh.bs q2,fun off h=>?_,q4,q5,q6,q7,fun i row j x hi hj=>?_⟩
     .rcases h with h|⟨-,h⟩
      .have:=hh.iY c off h;omega
      .exact q3 off h
     .obtain ⟨u,hu,hxu⟩:=q8 i row j x hi hj;refine ⟨u,hu,?_⟩;rcases hback with hb|⟨-,hb⟩
      .refine KU (fun c o h=>aoA c o h hb) hxu ?_;exact jS (uU (gQ (Tm.kH hρ t)) i row hi) j x hj
      .exact Au hxu (xw (hb row (aG hi)) j x hj)
   .rw [ayp hbn] at hb;have hb':=hh.blk b k hb;have hk:=hb'.keep (w':=w') (E':=⟨E2.fix,E.own⟩) ⟨fun c o h=>.inl h,hx.cell,fun _ _=>rfl,hx.arr⟩ (fun c o ho=>hblk c (hb'.lt ho).1) (fun c o off ho h=>?_)
    .refine hk.env (fun _ _ h=>h) (fun _ _ _ _ h=>h) (own_ne b hbn) fun x hxr=>own_ne x ?_;intro e;rw [e] at hxr;exact ahq hb' hxr afk
    .rcases h with h|⟨h,-⟩
     .exact h
     .have:=(hb'.lt ho).1;omega
  .have lt0:∀b k c o,b≠nx->ah b=some k->E.own b=.at c o->c<w.heap.size:=fun b k c o _ _ h=>(hh.je b c o h).2;by_cases e1:b=nx
   .subst e1;rw [Il] at h3;rw [own_ne b' (Ne.symm hne)] at h4;have:=(hown1 c o h3).1;have:=(hh.je b' c' o' h4).2;omega
   .rw [own_ne b e1] at h3;by_cases e2:b'=nx
    .subst e2;rw [Il] at h4;have:=(hown1 c' o' h4).1;have:=(hh.je b c o h3).2;omega
    .rw [own_ne b' e2] at h4;rw [ayp e1] at h1;rw [ayp e2] at h2;exact hh.sep b b' k k' c o c' o' hne h1 h2 h3 h4
  .dsimp only at hb;rw [own_ne b (by omega)];exact hh.fresh b (by omega)
  .rcases h with h|⟨-,h⟩
   .exact bZ (hh.iY c o h) hst.below.size
   .exact hh1.iY c o h
  .by_cases hbn:b=nx
   .subst hbn;rw [Il] at h;exact ⟨bW hh.bs (hown1 c o h).1,(hown1 c o h).2⟩
   .rw [own_ne b hbn] at h;exact ⟨(hh.je b c o h).1,bZ (hh.je b c o h).2 hst.below.size⟩
 .rw [Ik ht];have e9:(SV.os nx sz 0 (.rlen t)).den ρ=.os nx sz 0 (t.den ρ).R.length:=by simp [SV.den,Tm.den,nM,D.I]
  rw [e9];have hy:∀u,Rep w' E1 (.os 0 sz 0 (t.den ρ).R.length) u->Rep w' E2 (.os nx sz 0 (t.den ρ).R.length) u:=by
   intro u hu;generalize (t.den ρ).R.length=len at hu ⊢;cases hu with
   |kM _ _ _ a1 hb1=>exact .kM nx sz 0 a1 (by rw [Il];exact hb1)|os _ _ _ _ c o cap hb1 hcap hsize=>exact .os nx sz 0 len c o cap (by rw [Il];exact hb1) hcap hsize
  rcases hback with hb|⟨hb,-⟩
  .exact MP (fun x=>x.clean=true) (fun l h=>jS (l:=l) h) (fun l h=>jS (l:=l) h) (y:=.os 0 sz 0 (t.den ρ).R.length) (y':=.os nx sz 0 (t.den ρ).R.length) rfl hy (fun x u hx hc=>KU (fun c o h=>aoA c o h hb) hx hc) (KT rfl auN) (Ul hcell) hv
  .exact MP (fun x=>x.flat=true) (fun l h=>xw (l:=l) h) (fun l h=>xw (l:=l) h) (y:=.os 0 sz 0 (t.den ρ).R.length) (y':=.os nx sz 0 (t.den ρ).R.length) rfl hy (fun x u hx hc=>Au hx hc) hb (Ul hcell) hv
theorem akl {inl:B_}{ρ:List AV}(hρ:fU ρ=true)(hI:lT P ρ inl):lT P ρ (akj inl):=by
 intro pc th nx nv f args R h hp hs base w E ah vs hah hh hG hrep o a he next Q hnext
 unfold akj at h;split at h
 .rename_i R' hR;simp only [aj] at h;subst h;exact hI _ _ _ _ _ _ _ hR hp hs base w E ah vs hah hh hG hrep o a he next Q hnext
 .cases hc:DF args
  case true=>simp [hc] at h
  simp only [hc,cond_false] at h;split at h;rotate_left
  .cases h
  rename_i az rd has hrd;split at h;rotate_left
  .cases h
  rename_i R' hR;simp only [aj] at h;subst h;have hpre:∀s∈(vW th nv args).2.2,s.holds P ρ:=fun s hm=>hs (pc,.s s) (b_ _ (aU.2 ⟨s,hm,rfl⟩)) hp;have hfz:=(AZ hρ hah hpre).trans (rM hρ (yD hρ hah ayw) has);have apZ:rch ah ayw (jf (dK ρ args))=rd:=by rw [oz hρ,LZ hρ hah ayw hrd]
  have hg:=NT hh hrep hfz;rw [apZ] at hg;have e:(DJ rd).map (fun x=>(x.1,x.2.map (SB.den ρ)))=JE rd:=by
   unfold DJ JE;rw [List.map_map];rfl
  have ajU:=Ht (wr:=DJ rd) hah;rw [e] at ajU;have aaX:fG w (Pq E ah rd) (dK ρ (jK az)) vs:=fG.weak (lS (ρ:=ρ)).length (fun i a b h1 h2=>((lS (ρ:=ρ)).get i a b h1 h2).1)
   ⟨hg.1,fun i a v h1 h2=>Aw (fun _ _ h=>h) (hg.2 i a v h1 h2)⟩
  exact hI _ _ _ _ _ _ _ hR hp (fun x hx=>hs x (cO _ hx)) base w (Pq E ah rd) _ vs ajU (NS hh rd) (hG.mono (fun _ _ h=>.inl h) (fun _ _ _=>rfl) (fun _ arr _ fz h=>⟨arr,fz,h,rfl⟩)) aaX o a he next Q
   (fun c hc v w' E' dV q1 q2 q3 q4=>hnext c hc v w' E' dV q1 ((IQ hh rd).trans q2) q3 q4)
theorem am8 {oc:akh}:∀σ:List AV,fU σ=true->lT P σ (aso P oc):=fun σ hσ=>akl hσ (akk σ hσ)
end
end Go.Fw
end
section
namespace Go.Fw
variable [iT]
theorem am9 {ah:AH}{l:List AV}{a':AV}(h:Go.Fw.jE ah (.agg l)=some a'):∃l',lI ah l=some l'/\a'=.agg l':=by
 simp only [Go.Fw.jE,ay] at h;obtain ⟨l',h1,rfl⟩:=h;exact ⟨l',h1,rfl⟩
theorem am_ {ah:AH}{l:List AV}{a':AV}(h:Go.Fw.jE ah (.gW l)=some a'):∃l',lI ah l=some l'/\a'=.gW l':=by
 simp only [Go.Fw.jE,ay] at h;obtain ⟨l',h1,rfl⟩:=h;exact ⟨l',h1,rfl⟩
theorem aa5 {w:World}{E E':Env}{ah:AH}{y0 y':AV}(Q:AV->Prop)(hagg:∀l,Q (.agg l)->∀(i:Nat) (c:AV),l[i]?=some c->Q c)(aa4:∀l,Q (.gW l)->∀(i:Nat) (c:AV),l[i]?=some c->Q c)
  (hfr:∀x x' u,Rep w E x u->Q x->Go.Fw.jE ah x=some x'->Rep w E' x' u) (hs:y'.iL=true) (hne:y0≠eX) (hy:∀u,Rep w E y0 u->Rep w E' y' u) :
  ∀{p:List Nat} {a a':AV} {v:Value},Q (uK p a (.sl [] true))->ayr a p=y0->Rep w E a v->Go.Fw.jE ah (uK p a (.sl [] true))=some a'->Rep w E' (uK p a' y') v
 |[],a,a',v,_,hc,h,_=>hy _ (by cases a<;>(simp only [ayr] at hc;subst hc;exact h))|j::p,.agg l,a',v,hQ,hc,h,hz=>by
  simp only [ayr] at hc;simp only [uK] at hz hQ;have hj:j<l.length:=by
   refine Nat.lt_of_not_le fun hle=>hne ?_;have e:l.getD j eX=eX:=(by simp [aB,bK hle]);rw [e] at hc;rw [<- hc];cases p<;>rfl
  obtain ⟨l',hl',rfl⟩:=am9 hz;obtain ⟨g1,g2⟩:=ji hl';have g1:l'.length=l.length:=by simpa using g1
  have hj':j<l'.length:=by omega
  have hlj:l[j]?=some (l.getD j eX):=by rw [MO hj];simp [hj]
  obtain ⟨z,hz1,hz2⟩:=g2 j (l'.getD j eX) (by rw [MO hj'];simp [hj']);rw [bM hj] at hz1;simp only [aj] at hz1;subst hz1;cases h with
  |agg cs vs hl hsc h=>
   have hsj:=hsc _ (aG hlj);cases p with
   |cons k q=>
    exfalso;apply hne;rw [<- hc];generalize l.getD j eX=zz at hsj;cases zz<;>first|rfl|(simp [AV.iL] at hsj)
   |nil=>
   simp only [uK];refine .agg _ _ (by simpa [g1] using hl) ?_ ?_
   .intro c hcm;rcases List.mem_or_eq_of_mem_set hcm with hcm|rfl
    .obtain ⟨i,hi⟩:=List.getElem?_of_mem hcm;obtain ⟨x,hx1,hx2⟩:=g2 i c hi;refine Ar hx2 ?_;by_cases hij:j=i
     .subst hij;rw [bM hj] at hx1;simp only [aj] at hx1;subst hx1;rfl
     .rw [List.getElem?_set_ne hij] at hx1;exact hsc x (aG hx1)
    .exact hs
   .intro i c u hi hu;by_cases hij:j=i
    .subst hij;rw [bM hj'] at hi;simp only [aj] at hi;subst hi;refine hy u ?_;rw [<- hc];have:=h j _ u hlj hu;generalize l.getD j eX=zz at this ⊢;cases zz<;>exact this
    .rw [List.getElem?_set_ne hij] at hi;obtain ⟨x,hx1,hx2⟩:=g2 i c hi;exact hfr x c u (h i x u (by rw [List.getElem?_set_ne hij] at hx1;exact hx1) hu) (hagg _ hQ i x hx1) hx2
 |j::p,.gW l,a',v,hQ,hc,h,hz=>by
  simp only [ayr] at hc;simp only [uK] at hz hQ;have hj:j<l.length:=by
   refine Nat.lt_of_not_le fun hle=>hne ?_;have e:l.getD j eX=eX:=(by simp [aB,bK hle]);rw [e] at hc;rw [<- hc];cases p<;>rfl
  obtain ⟨l',hl',rfl⟩:=am_ hz;obtain ⟨g1,g2⟩:=ji hl';have g1:l'.length=l.length:=by simpa using g1
  have hj':j<l'.length:=by omega
  have hlj:l[j]?=some (l.getD j eX):=by rw [MO hj];simp [hj]
  obtain ⟨z,hz1,hz2⟩:=g2 j (l'.getD j eX) (by rw [MO hj'];simp [hj']);have hQj:=aa4 _ hQ j _ (by rw [bM hj]);rw [bM hj] at hz1;simp only [aj] at hz1;subst hz1;cases h with
  |gW cs vs hl h=>
   simp only [uK];refine .gW _ _ (by simpa [g1] using hl) ?_;intro i c u hi hu;by_cases hij:j=i
   .subst hij;rw [bM hj'] at hi;simp only [aj] at hi;subst hi;exact aa5 Q hagg aa4 hfr hs hne hy hQj hc (h j _ u hlj hu) hz2
   .rw [List.getElem?_set_ne hij] at hi;obtain ⟨x,hx1,hx2⟩:=g2 i c hi;exact hfr x c u (h i x u (by rw [List.getElem?_set_ne hij] at hx1;exact hx1) hu) (aa4 _ hQ i x hx1) hx2
 |_::_,.p _,_,_,_,hc,_,_|_::_,.str _,_,_,_,hc,_,_|_::_,.nan,_,_,_,hc,_,_|_::_,.sl ..,_,_,_,hc,_,_|_::_,.vp ..,_,_,_,hc,_,_|_::_,.os ..,_,_,_,hc,_,_|_::_,.op ..,_,_,_,hc,_,_|_::_,.fn ..,_,_,_,hc,_,_|_::_,.kY ..,_,_,_,hc,_,_|_::_,.mp _,_,_,_,hc,_,_=>absurd hc.symm hne
theorem Um {y:SV}:∀{p:List Nat} {x z:SV},xW p x=some z->xW p (wH p x y)=some y
 |[],x,z,h=>rfl|j::p,.agg l,z,h=>by
  simp only [xW] at h;split at h
  .rename_i x hx;have hj:j<l.length:=(by rw [vS] at hx;exact (aA.1 hx).1);have e:=(uZ (ρ:=[]) hx).2;simp only [wH,xW,vS,bM hj,e,Um h]
  .cases h
 |j::p,.gW l,z,h=>by
  simp only [xW] at h;split at h
  .rename_i x hx;have hj:j<l.length:=(by rw [vS] at hx;exact (aA.1 hx).1);have e:=(uZ (ρ:=[]) hx).2;simp only [wH,xW,vS,bM hj,e,Um h]
  .cases h
 |j::p,.sc ..,z,h|j::p,.c _,z,h|j::p,.nil,z,h|j::p,.nan,z,h|j::p,.sf _,z,h|j::p,.slc ..,z,h|j::p,.vp ..,z,h|j::p,.os ..,z,h|j::p,.op ..,z,h|j::p,.fn ..,z,h|j::p,.kY ..,z,h|j::p,.mp _,z,h|j::p,.ost ..,z,h=>by simp [xW] at h
theorem OO {ρ:List AV}{y:SV}{y':AV}:∀{p:List Nat} {x z:SV},xW p x=some z->uK p ((wH p x y).den ρ) y'=uK p (x.den ρ) y'
 |[],x,z,h=>rfl|j::p,.agg l,z,h=>by
  simp only [xW] at h;split at h
  .rename_i x hx;have hj:j<(dK ρ l).length:=(by rw [vS] at hx;rw [dX];exact (aA.1 hx).1);obtain ⟨e1,e2⟩:=uZ (ρ:=ρ) hx;simp only [wH,SV.den,uK,Je,e2,e1];rw [show ((dK ρ l).set j ((wH p x y).den ρ)).getD j eX=(wH p x y).den ρ by simp [aB,hj],OO h];simp
  .cases h
 |j::p,.gW l,z,h=>by
  simp only [xW] at h;split at h
  .rename_i x hx;have hj:j<(dK ρ l).length:=(by rw [vS] at hx;rw [dX];exact (aA.1 hx).1);obtain ⟨e1,e2⟩:=uZ (ρ:=ρ) hx;simp only [wH,SV.den,uK,Je,e2,e1];rw [show ((dK ρ l).set j ((wH p x y).den ρ)).getD j eX=(wH p x y).den ρ by simp [aB,hj],OO h];simp
  .cases h
 |j::p,.sc ..,z,h|j::p,.c _,z,h|j::p,.nil,z,h|j::p,.nan,z,h|j::p,.sf _,z,h|j::p,.slc ..,z,h|j::p,.vp ..,z,h|j::p,.os ..,z,h|j::p,.op ..,z,h|j::p,.fn ..,z,h|j::p,.kY ..,z,h|j::p,.mp _,z,h|j::p,.ost ..,z,h=>by simp [xW] at h
def ana (th':Tr SB)(nx b:Nat)(rr:List Nat):Bool:=th'.all (fun j k=>!Nat.beq j b&&(Nat.ble (j+1) nx&&k.zx.all (azc th')))&&rr.all (azc th')
def asq (p:List Nat)(v y:SV):Option SV:=match xW p v with|some _=>some (wH p v y)|none=>none
def OQ (p:List Nat)(x:Lf)(b:Nat)(rr:List Nat)(y:Option SV):Option SV:=
 bif ana (ayy x.th 60 rr .e) x.nx b rr then match (wH p x.v .nil).jE (thN (ayy x.th 60 rr .e) ayw),y with
  |some v,some y=>asq p v y|_,_=>none
 else none
def afl (p:List Nat)(sz:Nat)(x:Lf):Option SV:=
 match xW p x.v with
 |some .nil=>OQ p x x.nx (wH p x.v .nil).zx (some (.slc [] false))|some (.os b sz' off l)=>match x.th.get b with
  |none=>none|some k=>bif Nat.beq sz sz'&&(Nat.beq off 0&&Vy k l) then
    match k with
    | .fZ sz2 t=>bif Nat.beq sz sz2 then OQ p x b (wH p x.v .nil).zx (some (.sc .sl t)) else none
    | .rows sz2 rs=>bif Nat.beq sz sz2 then OQ p x b ((wH p x.v .nil).zx++BX rs)
     (match KH (thN (ayy x.th 60 ((wH p x.v .nil).zx++BX rs) .e) ayw) rs with|some rs'=>some (.slc rs' false)|none=>none) else none
    |_=>none
   else none
 |_=>none
def YH (p:List Nat)(x:Lf):List Side:=
 match xW p x.v with
 |some (.os b _ _ l)=>match x.th.get b with
  |some k=>ae4 k l|none=>[]
 |_=>[]
section
variable {P : Program} {ρ:List AV}
def akm (o:Own)(c:Nat):Prop:=∀o',o≠.at c o'
theorem azC {size:Nat}{w':World}{E2:Env}{th:Tr SB}{nx b:Nat}{rr:List Nat}(hρ:fU ρ=true)(hh:dM size w' E2 (gq ρ th) (fun b=>nx<=b))(hok:ana (ayy th 60 rr .e) nx b rr=true)(ob:Own)(hob:∀c o,ob=.at c o->E2.own b=.at c o/\∃k,gq ρ th b=some k) :
  ∀x x' u,Rep w' E2 x u->(∀j∈x.refs,j∈rr\/(gq ρ (ayy th 60 rr .e) j).isSome=true)->Go.Fw.jE (nR (gq ρ (ayy th 60 rr .e)) ayw) x=some x'->Rep w' (dW fun c o=>E2.fix c o\/(size<=c/\c<w'.heap.size/\akm ob c)) x' u:=by
 intro x x' u hx hrf hz;unfold ana at hok;simp only [ak] at hok;obtain ⟨hall,hrr⟩:=hok;have hsub:∀j k,gq ρ (ayy th 60 rr .e) j=some k->gq ρ th j=some k:=fun j k h=>by
  obtain ⟨z,hz,rfl⟩:=xO h;have:=DW (acc:=.e) (fun b k h=>by simp [Tr.get] at h) j z hz;unfold gq;rw [this];rfl
 have hin:∀{j k},gq ρ (ayy th 60 rr .e) j=some k->j≠b/\j<nx/\∀y∈k.uh,(gq ρ (ayy th 60 rr .e) y).isSome=true:=fun {j k} h=>by
  obtain ⟨z,hz,rfl⟩:=xO h;have:=Tr.I9 hall hz;simp only [ak,Bool.not_eq_true'] at this;refine ⟨fun e=>by subst e;simp at this,aC this.2.1,fun y hy=>?_⟩;rw [DK hρ] at hy;exact L_ hρ (aF.1 this.2.2 y hy)
 have hpart:=Oy hh hsub (nx:=nx) (fun j k h=>(hin h).2.1) (fun j k h=>(hin h).2.2);have auO:∀j∈x.refs,(gq ρ (ayy th 60 rr .e) j).isSome=true:=fun j hj=>by
  rcases hrf j hj with h|h
  .exact L_ hρ (aF.1 hrr j h)
  .exact h
 have hx':=Tt (kP:=gq ρ (ayy th 60 rr .e)) hx auO;refine Lp hpart (fix:=fun c o=>E2.fix c o\/(size<=c/\c<w'.heap.size/\akm ob c)) (fun c o h=>.inl h) (fun j c o ho off=>.inr ?_) ayw hx' hz;have hj:(gq ρ (ayy th 60 rr .e) j).isSome=true:=by
  refine Decidable.byContradiction fun h=>?_;simp [Env.part,h] at ho
 have ho':E2.own j=.at c o:=by simpa [Env.part,hj] using ho
 obtain ⟨k,hk⟩:=Option.isSome_iff_exists.1 hj;refine ⟨(hh.je j c o ho').1,(hh.je j c o ho').2,fun o' e=>?_⟩;obtain ⟨e1,k',hk'⟩:=hob c o' e;exact hh.sep j b k k' c o c o' (hin hk).1 (hsub j k hk) hk' ho' e1 rfl
def adr (P:Program)(fn:Func)(w:World)(fix:Nat->Nat->Prop)(r:AV)(p:List Nat)(sz:Nat)(a':Act)(w':World):Prop:=
 a'.defers=[]/\∃val E',(results fn a'.tmps).run P w'=.ok val w'/\Step w.heap.size w (dW fix) w' E'/\dM w.heap.size w' E' (Vm (.rows sz (Dy p r))) (fun b=>1<=b)/\Rep w' E' (uK p r (.os 0 sz 0 (Dy p r).length)) val
theorem OT {p:List Nat}{sz b:Nat}{x:Lf}{rr:List Nat}{y:SV}{yo:Option SV}{r:SV}(hyo:yo=some y)(hρ:fU ρ=true)(h:OQ p x b rr yo=some r){y0:SV}(hg:xW p x.v=some y0)(hy0:y0.den ρ≠eX){fn:Func}{w w':World}{fix:Nat->Nat->Prop}{a':Act}
  (hsz:∀c o,fix c o->c<w.heap.size) (he:Ih P fn w.heap.size w (dW fix) (x.v.den ρ) (gq ρ x.th) x.nx a' w') (hrr:∀j∈(wH p x.v .nil).zx,j∈rr) (rows:List (List AV)) (hrows:y.den ρ=.sl rows false)
  (hblk:∀E2,dM w.heap.size w' E2 (gq ρ x.th) (fun b=>x.nx<=b)->∃ob:Own,(∀c o,ob=.at c o->E2.own b=.at c o/\∃k,gq ρ x.th b=some k)/\ob≠.free/\
   (∀E3:Env,E3.own 0=ob->(∀z z' u,Rep w' E2 z u->(∀j∈z.refs,j∈rr\/(gq ρ (ayy x.th 60 rr .e) j).isSome=true)->Go.Fw.jE (nR (gq ρ (ayy x.th 60 rr .e)) ayw) z=some z'->Rep w' E3 z' u)->(∀x u,Rep w' E2 x u->x.clean=true->Rep w' E3 x u)->
    (∀c o,ob=.at c o->∀off,¬E3.fix c off)->nN w.heap.size w' E3 0 (.rows sz rows)/\∀u,Rep w' E2 (y0.den ρ) u->Rep w' E3 (.os 0 sz 0 rows.length) u)) :
  adr P fn w fix (r.den ρ) p sz a' w':=by
 subst hyo;unfold OQ at h;cases hok:ana (ayy x.th 60 rr .e) x.nx b rr
 .simp [hok] at h
 simp only [hok,cond_true] at h;split at h;rotate_left
 .cases h
 rename_i v y' hfz hyy;simp only [aj] at hyy;subst hyy;unfold asq at h;split at h;rotate_left
 .cases h
 rename_i z hz;simp only [aj] at h;subst h;obtain ⟨h0,E2,val,h1,h2,h3,h4⟩:=he;obtain ⟨ob,hob,awD,hend⟩:=hblk E2 h4;let E3:Env:=⟨fun c o=>E2.fix c o\/(w.heap.size<=c/\c<w'.heap.size/\akm ob c),fun j=>if j=0 then ob else .free⟩;have auP:=azC (ρ:=ρ) hρ h4 hok ob hob;have hfr:∀x' x'' u,Rep w' E2 x' u->(∀j∈x'.refs,j∈rr\/(gq ρ (ayy x.th 60 rr .e) j).isSome=true)->Go.Fw.jE (nR (gq ρ (ayy x.th 60 rr .e)) ayw) x'=some x''->Rep w' E3 x'' u:=
  fun x' x'' u q1 q2 q3=>Aw (E:=E3) (fun _ _ h=>h) (auP x' x'' u q1 q2 q3)
 have hcl:∀x u,Rep w' E2 x u->x.clean=true->Rep w' E3 x u:=fun x u hx hc=>KU (E':=E3) (fun c o h=>Or.inl h) hx hc;obtain ⟨hb1,hb2⟩:=hend E3 rfl hfr hcl (fun c o e off hf=>by
  rcases hf with hf|⟨-,-,hf⟩
  .obtain ⟨e1,k,hk⟩:=hob c o e;exact ((h4.blk b k hk).lt e1).2.2 off hf
  .exact hf o e)
 have hcell:ayr ((wH p v y).den ρ) p=.sl rows false:=by rw [DY (Um hz),hrows]
 have hrp:Dy p ((wH p v y).den ρ)=rows:=by unfold Dy;rw [hcell];rfl
 refine ⟨h0,val,E3,h1,⟨⟨fun c o h=>.inl (h3.ext.fix c o h),h3.ext.cell,fun b hb=>absurd rfl hb,h3.ext.arr⟩,h3.below,fun c o hc h=>?_,fun c hc _=>h3.below.block c hc,fun j c o h hc=>?_,fun c o h hc=>?_⟩,?_,?_⟩
 .rcases h with h|⟨h,-⟩
  .exact h3.wZ c o hc h
  .omega
 .change (if j=0 then ob else Own.free)=.at c o at h;split at h
  .obtain ⟨e1,-⟩:=hob c o h;have:=(h4.je b c o e1).1;omega
  .cases h
 .rcases h with h|⟨h,-⟩
  .exact (h3.w_ c o h hc).imp id (fun ⟨b,o',h⟩=>by cases h)
  .omega
 .rw [hrp];refine ⟨fun j k hj=>?_,fun j j' k k' c o c' o' hne e1 e2 _ _=>?_,fun j hj=>?_,fun c o h=>?_,h4.bs,fun j c o h=>?_⟩
  .unfold Vm at hj;split at hj
   .rename_i e;subst e;simp only [aj] at hj;subst hj;exact hb1
   .cases hj
  .unfold Vm at e1 e2;split at e1
   .split at e2
    .omega
    .cases e2
   .cases e1
  .show (if j=0 then ob else Own.free)=.free;rw [if_neg (by omega)]
  .rcases h with h|⟨-,h,-⟩
   .exact h4.iY c o h
   .exact h
  .change (if j=0 then ob else Own.free)=.at c o at h;split at h
   .exact h4.je b c o (hob c o h).1
   .cases h
 .rw [hrp,OO hz];have hQ0:(uK p (x.v.den ρ) (.sl [] true))=(wH p x.v .nil).den ρ:=(Ik (ρ:=ρ) (y:=.nil) hg).symm;refine aa5 (E:=E2) (E':=E3) (ah:=nR (gq ρ (ayy x.th 60 rr .e)) ayw) (y0:=y0.den ρ) (fun a=>∀j∈a.refs,j∈rr\/(gq ρ (ayy x.th 60 rr .e) j).isSome=true) (fun l hq i c hi j hj=>hq j (gY i c hi hj)) (fun l hq i c hi j hj=>hq j (gY i c hi hj))
   (fun x' x'' u q1 q2 q3=>hfr x' x'' u q1 q2 q3) rfl hy0 hb2 ?_ (DY hg) h2 ?_
  .intro j hj;rw [hQ0,qm hρ] at hj;exact .inl (hrr j hj)
  .rw [hQ0];exact I7 hρ (yD hρ (fun b k hk=>by unfold gq;rw [hk];rfl) ayw) hfz
theorem aa6 {p:List Nat}{sz:Nat}{x:Lf}{r:SV}(hρ:fU ρ=true)(h:afl p sz x=some r)(hsd:∀s∈YH p x,s.holds P ρ){fn:Func}{w w':World}{fix:Nat->Nat->Prop}{a':Act}
  (hsz:∀c o,fix c o->c<w.heap.size) (he:Ih P fn w.heap.size w (dW fix) (x.v.den ρ) (gq ρ x.th) x.nx a' w'):adr P fn w fix (r.den ρ) p sz a' w':=by
 unfold afl at h;split at h
 .rename_i hg;refine OT rfl hρ h hg (by intro e;cases e) hsz he (fun j hj=>hj) [] rfl (fun E2 h4=>⟨.empty,fun c o e=>(by cases e),(by intro e;cases e),fun E3 h0 hfr hcl hno=>⟨.inl ⟨h0,rfl⟩,fun u hu=>?_⟩⟩);have:∃a1,u=.slice a1 0 0:=by
   cases hu with
   |slnil full a1=>exact ⟨a1,rfl⟩|sl _ _ _ _ _ cap _ _ hfull=>have:=hfull rfl;subst this;exact ⟨_,rfl⟩
  obtain ⟨a1,rfl⟩:=this;exact .kM 0 sz 0 a1 (by rw [h0];intro e;cases e)
 .rename_i b sz' off l hg;split at h
  .cases h
  rename_i k hk;cases hc:Nat.beq sz sz'&&(Nat.beq off 0&&Vy k l)
  .simp [hc] at h
  simp only [hc,cond_true] at h;simp only [ak] at hc;obtain ⟨c1,c2,c3⟩:=hc;have c4:∀s∈ae4 k l,s.holds P ρ:=fun s hm=>hsd s (by simp only [YH,hg,hk];exact hm);obtain rfl:=au c1;obtain rfl:=au c2;have hkb:gq ρ x.th b=some (k.den ρ):=by unfold gq;rw [hk];rfl
  have hos:∀{E2 E3:Env} {n m:Nat},n=m->E3.own 0=E2.own b->∀u,Rep w' E2 (.os b sz 0 n) u->Rep w' E3 (.os 0 sz 0 m) u:=by
   intro E2 E3 n m e h0 u hu;subst e;cases hu with
   |kM _ _ _ a1 hb1=>exact .kM 0 sz 0 a1 (by rw [h0];exact hb1)|os _ _ _ _ c o cap hb1 hcap hsize=>exact .os 0 sz 0 n c o cap (by rw [h0];exact hb1) hcap hsize
  split at h
  .rename_i sz2 t;cases hs2:Nat.beq sz sz2
   .simp [hs2] at h
   simp only [hs2,cond_true] at h;obtain rfl:=au hs2;refine OT rfl hρ h hg (by intro e;cases e) hsz he (fun j hj=>hj) (t.den ρ).R rfl (fun E2 h4=>⟨E2.own b,fun c o e=>⟨e,_,hkb⟩,(h4.blk b _ hkb).own,fun E3 h0 hfr hcl hno=>⟨?_,?_⟩⟩)
   .rcases h4.blk b _ hkb with ⟨q1,q2⟩|⟨c,o,arr,ty,q1,q2,q3,q4,q5,q6,q7,q8⟩
    .exact .inl ⟨by rw [h0];exact q1,q2⟩
    .refine .inr ⟨c,o,arr,ty,by rw [h0];exact q1,q2,hno c o q1,q4,q5,q6,q7,fun i row j y hi hj=>?_⟩;obtain ⟨u,hu,hyu⟩:=q8 i row j y hi hj;exact ⟨u,hu,hcl y u hyu (jS (uU (gQ (Tm.kH hρ t)) i row hi) j y hj)⟩
   .exact hos (TM (ρ:=ρ) c3 c4 rfl) h0
  .rename_i sz2 rs;cases hs2:Nat.beq sz sz2
   .simp [hs2] at h
   simp only [hs2,cond_true] at h;obtain rfl:=au hs2;split at h;rotate_left
   .simp [OQ] at h
   rename_i rs' hrs;have auQ:=I8 hρ (yD hρ (ah:=gq ρ (ayy x.th 60 ((wH p x.v .nil).zx++BX rs) .e)) (fun b k hk=>by unfold gq;rw [hk];rfl) ayw) hrs;obtain ⟨g1,g2⟩:=Aq auQ;refine OT rfl hρ h hg (by intro e;cases e) hsz he (fun j hj=>b_ _ hj) (fQ ρ rs') rfl (fun E2 h4=>⟨E2.own b,fun c o e=>⟨e,_,hkb⟩,(h4.blk b _ hkb).own,fun E3 h0 hfr hcl hno=>⟨?_,?_⟩⟩)
   .rcases h4.blk b _ hkb with ⟨q1,q2⟩|⟨c,o,arr,ty,q1,q2,q3,q4,q5,q6,q7,q8⟩
    .refine .inl ⟨by rw [h0];exact q1,?_⟩;have:(fQ ρ rs').length=0:=(by rw [g1,q2];rfl);exact List.eq_nil_of_length_eq_zero this
    .refine .inr ⟨c,o,arr,ty,by rw [h0];exact q1,q2,hno c o q1,q4,by rw [g1];exact q5,fun i row hi=>?_,fun row hm y hy=>?_,fun i row j y hi hj=>?_⟩
     .obtain ⟨row0,e1,e2⟩:=g2 i row hi;rw [(ji e2).1];exact q6 i row0 e1
     .obtain ⟨i,hi⟩:=List.getElem?_of_mem hm;obtain ⟨row0,e1,e2⟩:=g2 i row hi;obtain ⟨j,hj⟩:=List.getElem?_of_mem hy;obtain ⟨y0,e3,e4⟩:=(ji e2).2 j y hj;exact Ar e4 (q7 row0 (aG e1) y0 (aG e3))
     .obtain ⟨row0,e1,e2⟩:=g2 i row hi;obtain ⟨y0,e3,e4⟩:=(ji e2).2 j y hj;obtain ⟨u,hu,hyu⟩:=q8 i row0 j y0 e1 e3;refine ⟨u,hu,hfr y0 y u hyu (fun q hq=>.inl ?_) e4⟩;have hq2:q∈jo (fQ ρ rs):=rH i row0 e1 (gY j y0 e3 hq);rw [xK hρ] at hq2;exact cO _ hq2
   .refine hos ?_ h0;rw [g1];exact TM (ρ:=ρ) c3 c4 rfl
  .cases h
 .cases h
def OU (P:Program)(rs:List ResultVar)(p:List Nat)(sz:Nat):Pc->Nat->List Out->Option (List (Tm×SV)×Nat×List (Pc×Sd))
 |_,nv,[]=>some ([],nv,[])|pc,nv,o::r=>match Ic P rs (gJ (uY o.g r) true pc) nv o with
  |none=>none|some x=>match afl p sz x with
   |none=>none|some v=>match OU P rs p sz (gJ o.g false pc) x.nv r with
    |none=>none|some (l,tJ,sd)=>some ((o.g,v)::l,tJ,(x.sd++Mc (gJ (uY o.g r) true pc) (YH p x) [])++sd)
theorem P5 {rs:List ResultVar}{p:List Nat}{sz:Nat}{pc:Pc}{nv:Nat}{o:Out}{r:List Out}:OU P rs p sz pc nv (o::r)=(match Ic P rs (gJ (uY o.g r) true pc) nv o with
 |none=>none|some x=>match afl p sz x with
  |none=>none|some v=>match OU P rs p sz (gJ o.g false pc) x.nv r with
   |none=>none|some (l,tJ,sd)=>some ((o.g,v)::l,tJ,(x.sd++Mc (gJ (uY o.g r) true pc) (YH p x) [])++sd)):=rfl
theorem Xa {fn:Func}{N:Nat}(hρ:fU ρ=true){p:List Nat}{sz:Nat}:∀{l:List Out} {pc:Pc} {nv tJ:Nat} {rs:List (Tm×SV)} {sd:List (Pc×Sd)},OU P fn.results.toList p sz pc nv l=some (rs,tJ,sd)->pc.holds ρ->kQ P ρ sd->∀{w w':World} {fix:Nat->Nat->Prop} {E':Env} {fr:jB} {ah:AH} {nx:Nat} {a':Act} {e:Exit},
  (∀c o,fix c o->c<w.heap.size)->EX ρ N l e fr ah nx->Le w.heap.size w' E' fr ah nx a'->Step w.heap.size w (dW fix) w' E'->Ib e=true/\adr P fn w fix (pU ρ rs) p sz a' w'
 |[],pc,nv,tJ,rs,sd,h,hp,hs,w,w',fix,E',fr,ah,nx,a',e,hsz,hsel,iE,hstep=>by
  obtain ⟨st,h1,-⟩:=hsel;cases h1
 |[o],pc,nv,tJ,rs,sd,h,hp,hs,w,w',fix,E',fr,ah,nx,a',e,hsz,hsel,iE,hstep=>by
  obtain ⟨st,h1,h2⟩:=hsel;simp only [sel,aj,aJ] at h1;obtain ⟨rfl,rfl⟩:=h1;simp only [OU,uY,gJ] at h;split at h
  .cases h
  .rename_i x hx;split at h
   .cases h
   .rename_i v hv;simp only [aj,aJ,cu] at h;obtain ⟨rfl,rfl,rfl⟩:=h;obtain ⟨q1,q2⟩:=yP (P:=P) hx hp (kL hs) h2 iE hstep;exact ⟨q1,aa6 hρ hv ((vZ (kX hs)).1 hp) hsz q2⟩
 |o::o'::r,pc,nv,tJ,rs,sd,h,hp,hs,w,w',fix,E',fr,ah,nx,a',e,hsz,hsel,iE,hstep=>by
  obtain ⟨st,h1,h2⟩:=hsel;simp only [sel] at h1;rw [P5] at h;simp only [uY] at h;split at h
  .cases h
  .rename_i x hx;split at h
   .cases h
   .rename_i v hv;split at h
    .cases h
    .rename_i l nv1 sd1 hl;simp only [aj,aJ] at h;obtain ⟨rfl,rfl,rfl⟩:=h;have aaU:∃y s,l=y::s:=by
      rw [P5] at hl;split at hl
      .cases hl
      .split at hl
       .cases hl
       .split at hl
        .cases hl
        .simp only [aj,aJ] at hl;exact ⟨_,_,hl.1.symm⟩
     obtain ⟨y,s,rfl⟩:=aaU;cases hg:(o.g.den ρ).B
     .rw [hg] at h1;obtain ⟨q1,q2⟩:=Xa hρ hl (dY hg hp) (kX hs) hsz ⟨st,h1,h2⟩ iE hstep;exact ⟨q1,by simpa [pU,hg] using q2⟩
     .rw [hg] at h1;simp only [cond_true,aj,aJ] at h1;obtain ⟨rfl,rfl⟩:=h1;obtain ⟨q1,q2⟩:=yP (P:=P) hx (dY hg hp) (kL (kL hs)) h2 iE hstep;exact ⟨q1,by simpa [pU,hg] using aa6 (P:=P) hρ hv ((vZ (kX (kL hs))).1 (dY hg hp)) hsz q2⟩
def ahr (P:Program)(X0:oN)(I0:B_)(md:Md)(FC:FuncId->wQ)(sU CF:Nat)(f:FuncId)(args:List SV)(nv:Nat)(p:List Nat)(sz:Nat):Option kR:=
 match P.funcs[f]? with
 |none=>none|some fn=>match fn.body with
  |none=>none|some c=>bif kN fn&&Nat.ble args.length fn.ntmps then
    match rO P ⟨(MI P X0 I0 md FC sU CF CF).1,is2 md,(MI P X0 I0 md FC sU CF CF).2,sU⟩ {FC f with N:=fn.ntmps} CF [] ⟨Ba 0 args,.e,0⟩ nv c with
    |none=>none|some x=>match OU P fn.results.toList p sz [] x.nv x.outs with
     |none=>none|some (l,_,sd)=>some ⟨l,exS (x.sd++sd),Tv (x.aw++exL (x.sd++sd))⟩
   else none
theorem anb {X0:oN}{I0:B_}{md:Md}{FC:FuncId->wQ}{sU CF:Nat}{f:FuncId}{args:List SV}{nv:Nat}{p:List Nat}{sz:Nat}{R:kR}(h:ahr P X0 I0 md FC sU CF f args nv p sz=some R)(hm:P.follows .mixedOrders=true)(hρ:fU ρ=true)(h0:∀σ:List AV,fU σ=true->lT P σ I0)(hX:∀σ:List AV,fU σ=true->ny P σ X0)
  (hs:qR P ρ R.sd) (haw:OD P ρ R.aw):PCo P f (dK ρ args) (pU ρ R.rs) p sz:=by
 unfold ahr at h;split at h
 .cases h
 rename_i fn hfn;split at h
 .cases h
 rename_i c hc;cases hg:kN fn&&Nat.ble args.length fn.ntmps
 .simp [hg] at h
 simp only [hg,cond_true] at h;split at h
 .cases h
 rename_i x hx;split at h
 .cases h
 rename_i l tJ sd hl;simp only [aj] at h;subst h;obtain ⟨h1,h2⟩:=QJ (md:=md) (FC:=FC) (sU:=sU) (CF:=CF) hm h0 hX CF;simp only [ak] at hg;have hname:fn.name≠ "runtime.NumGoroutine" :=by simpa [kN] using hg.1
 have hlen:=aC hg.2;intro w fix vs hfix hG hargs;rw [hfn];dsimp only;refine ⟨by rw [hc];rfl,hname,?_⟩;have hlenA:(dK ρ args).length<=fn.ntmps:=by rw [dX];exact hlen
 have hst:Gv ρ fn.ntmps ⟨Ba 0 args,.e,0⟩ (wE fn.ntmps (dK ρ args)) (fun _=>none) 0:=Gv.of MJ (fun b k h=>by simp [Tr.get] at h) (wF hlenA) (dD _);have hs:=WC hs (vY.1 (aoc haw)).2;have haw:=(vY.1 (aoc haw)).1;have adn:=nC (G:=⟨(MI P X0 I0 md FC sU CF CF).1,is2 md,(MI P X0 I0 md FC sU CF CF).2,sU⟩) (F:={FC f with N:=fn.ntmps}) hm h1 h2 hρ _ _ _ _ hx (fun x hx=>by cases hx) (kL hs) haw _ _ _ hst;have iE:Le w.heap.size w (dW fix) (wE fn.ntmps (dK ρ args)) (fun _=>none) 0 {tmps:=vs.toArray++Array.replicate (fn.ntmps-vs.toArray.size) undef,defers:=[]}:=
  ⟨⟨fun b k hb=>(by cases hb),fun b b' k k' c o c' o' _ hb=>(by cases hb),fun _ _=>rfl,hfix,dD _,fun b c o hb=>(by cases hb)⟩,DX hG hargs hlenA,rfl⟩
 refine calls_of_wp hfn hc (wp_mono (adn _ w (dW fix) _ iE) fun e a' w' hp'=>?_);obtain ⟨E',fr',dV,nx',hsel,Uh,hst'⟩:=hp';obtain ⟨q1,q0,val,E3,q2,q3,q4,q5⟩:=Xa (P:=P) (fn:=fn) hρ hl (fun x hx=>by cases hx) (kX hs) hfix hsel Uh hst';have fin:a'.defers=[]/\∃v,(results fn a'.tmps).run P w'=.ok v w'/\∃u E',Ending.returned v=.returned u/\Step w.heap.size w (dW fix) w' E'/\dM w.heap.size w' E' (Vm (.rows sz (Dy p (pU ρ l)))) (fun b=>1<=b)/\Rep w' E' (uK p (pU ρ l) (.os 0 sz 0 (Dy p (pU ρ l)).length)) u:=
  ⟨q0,val,q2,val,E3,rfl,q3,q4,q5⟩
 cases e<;>first|exact fin|(simp [Ib] at q1)
theorem ap8 (hm:P.follows .mixedOrders=true){X:oN}(hX:∀σ:List AV,fU σ=true->ny P σ X){I0:B_}(h0:∀σ:List AV,fU σ=true->lT P σ I0){md:Md}{FC:FuncId->wQ}{sU CF f nv:Nat}{args:List SV}{ρ:List AV}{rs:List (Tm×SV)}{sd:List (Pc×Side)}{aw:List Lo}{az:List AV}{r:AV}{p:List Nat}{sz:Nat}
  (h:ahr P X I0 md FC sU CF f args nv p sz=some ⟨rs,sd,aw⟩) (hρ:fU ρ=true) (hs:uO P ρ sd) (hl:QD P aw ρ) (ha:dK ρ args=az) (hr:pU ρ rs=r):PCo P f az r p sz:=by
 subst ha;subst hr;exact anb h hm hρ h0 hX hs.ok hl
end
end Go.Fw
namespace Go.Fw
variable [iT]
def ocT (l:List (Nat×List Nat×Nat×Bool)):akh:=fun f=>(l.find? fun x=>Nat.beq x.1 f).map (·.2)
def mdW (l:List Nat)(md:Md):Md:=fun g=>bif acZ g l then 2 else md g
theorem akn {P:Program}(hm:P.follows .mixedOrders=true){X:oN}(hX:∀σ:List AV,fU σ=true->ny P σ X){I0:B_}(h0:∀σ:List AV,fU σ=true->lT P σ I0){md:Md}{FC:FuncId->wQ}{sU CF f nv:Nat}{args:List SV}{ρ:List AV}{rs:List (Tm×SV)}{sd:List (Pc×Side)}{aw:List Lo}{az:List AV}{r:AV}
  (h:pK P X I0 md FC sU CF f args nv=some ⟨rs,sd,aw⟩) (hρ:fU ρ=true) (hs:uO P ρ sd) (hl:QD P aw ρ) (ha:dK ρ args=az) (hr:pU ρ rs=r):PC P f az r:=by
 subst ha;subst hr;exact amY h hm hρ h0 hX hs.ok hl
end Go.Fw
end
section
namespace Go.Fw
variable [iT]
def u_ : List (Nat×SB)->Nat->Option SB
 |[],_=>none|x::r,b=>bif Nat.beq x.1 b then some x.2 else u_ r b
theorem uF {ρ:List AV}{b:Nat}:∀{bl:List (Nat×SB)},nZ (Gl ρ bl) b=(u_ bl b).map (SB.den ρ)
 |[]=>rfl|x::r=>by
  simp only [Gl,aX,nZ,u_];cases h:Nat.beq x.1 b
  .simp only [cond_false];exact uF (bl:=r)
  .rfl
def azh (th:Tr SB):List Nat->Option (List (Nat×SB))
 |[]=>some []|b::r=>match th.get b with
  |none=>none|some k=>match azh th r with
   |none=>none|some l=>some ((b,k)::l)
theorem Xb {th:Tr SB}:∀{ins:List Nat} {bl:List (Nat×SB)},azh th ins=some bl->∀b k,u_ bl b=some k->th.get b=some k
 |[],bl,h,b,k,hb=>by simp only [azh,aj] at h;subst h;cases hb
 |c::r,bl,h,b,k,hb=>by
  simp only [azh] at h;split at h
  .cases h
  .rename_i k0 hk0;split at h
   .cases h
   .rename_i l hl;simp only [aj] at h;subst h;simp only [u_] at hb;cases e:Nat.beq c b
    .simp only [e,cond_false] at hb;exact Xb hl b k hb
    .simp only [e,cond_true,aj] at hb;subst hb;rw [<- au e];exact hk0
def azp : List (Nat×SB)->Tr SB->Tr SB
 |[],th=>th|(b,k)::r,th=>(azp r th).upd uf b (some k)
def inB (bl:List (Nat×SB))(b:Nat):Bool:=match u_ bl b with|some _=>true|none=>false
def P6 (tK:List (Nat×Nat)):Nat->List (Nat×SB)->Option (List (Nat×SB)×Nat)
 |nv,[]=>some ([],nv)|nv,(b,k)::r=>match tK.find? (fun x=>Nat.beq x.1 b) with
  |some (_,sz)=>(match k with
   | .fZ sz' _=>bif Nat.beq sz sz' then (match P6 tK (nv+1) r with|some (l,n)=>some ((b,.fZ sz (.var nv []))::l,n)|none=>none) else none
   | .rows sz' _=>bif Nat.beq sz sz' then (match P6 tK (nv+1) r with|some (l,n)=>some ((b,.fZ sz (.var nv []))::l,n)|none=>none) else none
   |_=>none)
  |none=>match P6 tK nv r with|some (l,n)=>some ((b,k)::l,n)|none=>none
abbrev ap9 :=FuncId->Option (List (Nat×Nat))
def azD : List Nat->Nat
 |[]=>0|x::r=>Nat.max (x+1) (azD r)
def ads (ins:List Nat):List (Nat×Nat)->List (Nat×Nat)
 |[]=>[]|x::r=>match zu ins x.1 with|some b=>(b,x.2)::ads ins r|none=>ads ins r
def okW (bl Gt:List (Nat×SB))(n0:Nat)(rf:List Nat):Bool:=
 (bl.all fun x=>Nat.ble (x.1+1) n0&&x.2.zx.all (inB bl))&&(rf.all (inB bl)&&(Gt.all fun x=>inB bl x.1&&x.2.zx.all (inB bl)))
def ap_ (P:Program)(wc:ap9):B_:=fun pc th nx nv f args=>
 match wc f with
 |none=>none|some c=>
  let ins:=(Oz th 1000 (zy args) []).reverse;match azh th ins with
  |none=>none|some bl=>match P6 (ads ins c) nv bl with
   |none=>none|some (Gt,tJ)=>match aiS P tJ f with
    |none=>none|some r=>bif r.jL&&okW bl Gt (azD ins) (zy args) then
     some ⟨[(.lb true,⟨r,azp Gt th,nx⟩)],tJ+1,[(pc,.s (.BQ f args bl (azD ins) r Gt))]⟩ else none
def Env.MR (E E1:Env)(kP:AH):Env:=⟨E1.fix,fun b=>if (kP b).isSome=true then E1.own b else E.own b⟩
section
variable {base : Nat} {w:World} {E:Env} {ah kP:AH} {F:Nat->Prop}
theorem adt (hh:dM base w E ah F)(hsub:∀b k,kP b=some k->ah b=some k)
  {w':World} {E1:Env} {dV:AH} {F':Nat->Prop} (hst:Step base w (E.part kP) w' E1) (hh':dM base w' E1 dV F')
  (hlt':∀b k,dV b=some k->(kP b).isSome=true/\∀x∈k.uh,(kP x).isSome=true) {nR:AH} (hN:∀b,nR b=if (kP b).isSome=true then dV b else ah b) :
  Step base w E w' (E.MR E1 kP)/\dM base w' (E.MR E1 kP) nR F/\
   ∀a v,Rep w' E1 a v->(∀x∈a.refs,(kP x).isSome=true)->Rep w' (E.MR E1 kP) a v:=by
 have ac0:∀b,(kP b).isSome=true->(E.part kP).own b=E.own b:=fun b hb=>by simp [Env.part,hb]
 have L9:∀b c o,(E.part kP).own b=.at c o->(kP b).isSome=true/\E.own b=.at c o:=fun b c o h=>by
  by_cases hb:(kP b).isSome=true
  .rw [ac0 b hb] at h;exact ⟨hb,h⟩
  .simp [Env.part,hb] at h
 have in1:∀b,(kP b).isSome=true->(E.MR E1 kP).own b=E1.own b:=fun b hb=>by
  simp only [Env.MR];rw [if_pos hb]
 have out1:∀b,¬(kP b).isSome=true->(E.MR E1 kP).own b=E.own b:=fun b hb=>by
  simp only [Env.MR];rw [if_neg hb]
 
 have extra:∀b k c o,¬(kP b).isSome=true->ah b=some k->E.own b=.at c o->∀b' o',(E.part kP).own b'≠.at c o':=fun b k c o hb hk ho b' o' h=>by
  obtain ⟨h1,h2⟩:=L9 b' c o' h;obtain ⟨k',hk'⟩:=Option.isSome_iff_exists.1 h1;exact hh.sep b' b k' k c o' c o (fun e=>hb (by rw [<- e];exact h1)) (hsub _ _ hk') hk h2 ho rfl
 have hx:Ext w E w' (E.MR E1 kP):=by
  refine ⟨hst.ext.fix,hst.ext.cell,fun b hb=>?_,hst.ext.arr⟩;by_cases hin:(kP b).isSome=true
  .rw [in1 b hin];have:=hst.ext.own b (by rw [ac0 b hin];exact hb);rw [this,ac0 b hin]
  .exact out1 b hin
 refine ⟨⟨hx,hst.below,hst.wZ,fun c hc hno=>hst.keep c hc fun b o h=>hno b o (L9 b c o h).2,fun b c o h hc=>?_,fun c o h hc=>?_⟩,⟨fun b k hb=>?_,fun b b' k k' c o c' o' hne h1 h2 h3 h4=>?_,fun b hb=>?_,hh'.iY,hh'.bs,fun b c o h=>?_⟩,fun a v hr hrf=>?_⟩
 .by_cases hin:(kP b).isSome=true
  .rw [in1 b hin] at h;obtain ⟨b',o',h'⟩:=hst.CX b c o h hc;exact ⟨b',o',(L9 b' c o' h').2⟩
  .rw [out1 b hin] at h;exact ⟨b,o,h⟩
 .exact (hst.w_ c o h hc).imp id fun ⟨b',o',h'⟩=>⟨b',o',(L9 b' c o' h').2⟩
 .rw [hN b] at hb;split at hb
  .rename_i hin;exact (hh'.blk b k hb).env (fun _ _ h=>h) (fun _ _ _ _ h=>h) (in1 b hin) fun x hx=>in1 x ((hlt' b k hb).2 x hx)
  .rename_i hle;have hb0:=hh.blk b k hb;refine hb0.keep hx (fun c o ho=>hst.keep c (hb0.lt ho).1 (extra b k c o hle hb ho)) (fun c o off ho h=>?_);rcases hst.w_ c off h (hb0.lt ho).1 with h|⟨b',o',h⟩
   .exact h
   .exact absurd h (extra b k c o hle hb ho b' o')
 .have mix:∀b b' k c o c' o',¬(kP b).isSome=true->ah b=some k->E.own b=.at c o->E1.own b'=.at c' o'->c≠c':=by
   intro b b' k c o c' o' h1 h2 h3 h6 e;subst e;obtain ⟨x,y,hxy⟩:=hst.CX b' c o' h6 ((hh.blk b k h2).lt h3).1;exact extra b k c o h1 h2 h3 x y hxy
  rw [hN b] at h1;rw [hN b'] at h2;split at h1
  .rename_i g1;rw [in1 b g1] at h3;split at h2
   .rename_i g2;rw [in1 b' g2] at h4;exact hh'.sep b b' k k' c o c' o' hne h1 h2 h3 h4
   .rename_i g2;rw [out1 b' g2] at h4;exact (mix b' b k' c' o' c o g2 h2 h4 h3).symm
  .rename_i g1;rw [out1 b g1] at h3;split at h2
   .rename_i g2;rw [in1 b' g2] at h4;exact mix b b' k c o c' o' g1 h1 h3 h4
   .rename_i g2;rw [out1 b' g2] at h4;exact hh.sep b b' k k' c o c' o' hne h1 h2 h3 h4
 .have h0:=hh.fresh b hb;rw [out1 b fun h=>?_]
  .exact h0
  .obtain ⟨k0,hk0⟩:=Option.isSome_iff_exists.1 h;exact (hh.blk b k0 (hsub _ _ hk0)).own h0
 .by_cases hin:(kP b).isSome=true
  .rw [in1 b hin] at h;exact hh'.je b c o h
  .rw [out1 b hin] at h;have:=hh.je b c o h;exact ⟨this.1,bZ this.2 hst.below.size⟩
 .exact qU (E:=E1) (E':=E.MR E1 kP) (fun _ _ h=>h) hr fun x hx=>in1 x (hrf x hx)
end
theorem Xc {tK:List (Nat×Nat)}:∀{bl Gt:List (Nat×SB)} {nv tJ:Nat},P6 tK nv bl=some (Gt,tJ)->∀b,(u_ Gt b).isSome=(u_ bl b).isSome
 |[],Gt,nv,tJ,h,b=>by simp only [P6,aj,aJ] at h;obtain ⟨rfl,rfl⟩:=h;rfl
 |(c,k)::r,Gt,nv,tJ,h,b=>by
  simp only [P6] at h;have fin:∀{k':SB} {l:List (Nat×SB)} {n m:Nat},P6 tK n r=some (l,m)->(u_ ((c,k')::l) b).isSome=(u_ ((c,k)::r) b).isSome:=fun {k' l n m} hl=>by
   simp only [u_];cases e:Nat.beq c b
   .simp only [cond_false];exact Xc hl b
   .rfl
  split at h
  .split at h
   .rename_i sz _ _ sz' _;cases e:Nat.beq sz sz'
    .simp [e] at h
    .simp only [e,cond_true] at h;split at h
     .rename_i l n hl;simp only [aj,aJ] at h;obtain ⟨rfl,rfl⟩:=h;exact fin hl
     .cases h
   .rename_i sz _ _ sz' _;cases e:Nat.beq sz sz'
    .simp [e] at h
    .simp only [e,cond_true] at h;split at h
     .rename_i l n hl;simp only [aj,aJ] at h;obtain ⟨rfl,rfl⟩:=h;exact fin hl
     .cases h
   .cases h
  .split at h
   .rename_i l n hl;simp only [aj,aJ] at h;obtain ⟨rfl,rfl⟩:=h;exact fin hl
   .cases h
theorem Un {b:Nat}{k:SB}:∀{bl:List (Nat×SB)} {th:Tr SB},(azp bl th).get b=some k->u_ bl b=some k\/(u_ bl b=none/\th.get b=some k)
 |[],th,h=>.inr ⟨rfl,h⟩|(c,x)::r,th,h=>by
  simp only [azp] at h;simp only [u_];rcases Tr.kW _ _ _ _ _ _ h with ⟨rfl,h1⟩|⟨hne,h1⟩
  .exact .inl (by simp only [Nat.beq_refl,cond_true];exact h1)
  .have e:Nat.beq c b=false:=by
    cases e:Nat.beq c b
    .rfl
    .exact absurd (au e).symm hne
   rw [e];exact Un h1
theorem adu {ρ:List AV}{bl:List (Nat×SB)}{b:Nat}(h:inB bl b=true):(nZ (Gl ρ bl) b).isSome=true:=by
 unfold inB at h;rw [uF];split at h
 .rename_i k hk;rw [hk];rfl
 .cases h
theorem Ag : ∀{bl:List (Nat×SB)} {b:Nat} {k:SB},u_ bl b=some k->(b,k)∈bl
 |[],b,k,h=>by cases h
 |x::r,b,k,h=>by
  simp only [u_] at h;cases e:Nat.beq x.1 b
  .simp only [e,cond_false] at h;exact aN _ (Ag h)
  .simp only [e,cond_true,aj] at h;subst h;rw [<- au e];exact aZ
section
variable {P : Program}
theorem anc {wc:ap9}:∀σ:List AV,fU σ=true->lT P σ (ap_ P wc):=by
 intro ρ hρ pc th nx nv f args R h hp hs base w E ah vs hah hh hG hrep o a he next Q hnext
 unfold ap_ at h;split at h
 .cases h
 rename_i c hc;dsimp only at h;generalize (Oz th 1000 (zy args) []).reverse=ins at h;generalize azD ins=n0 at h;split at h
 .cases h
 rename_i bl hbl;split at h
 .cases h
 rename_i Gt tJ auR;split at h
 .cases h
 rename_i r hr;cases hg:(r.jL&&okW bl Gt n0 (zy args))
 .simp [hg] at h
 simp only [hg,cond_true,aj] at h;subst h;simp only [ak] at hg;obtain ⟨hrf,hg⟩:=hg;unfold okW at hg;simp only [ak,aF] at hg;obtain ⟨g1,g2,g3⟩:=hg;have hpw:=hs (pc,.s (.BQ f args bl n0 r Gt)) (bT.2 rfl) hp;have hsub:∀b k,nZ (Gl ρ bl) b=some k->ah b=some k:=fun b k h=>by
  rw [uF] at h;simp only [ay] at h;obtain ⟨z,hz,rfl⟩:=h;exact hah b z (Xb hbl b z hz)
 have hlt:∀b k,nZ (Gl ρ bl) b=some k->b<n0:=fun b k h=>by
  rw [uF] at h;simp only [ay] at h;obtain ⟨z,hz,rfl⟩:=h;exact aC (g1 _ (Ag hz)).1
 have hrefs:∀b k,nZ (Gl ρ bl) b=some k->∀x∈k.uh,(nZ (Gl ρ bl) x).isSome=true:=fun b k h x hx=>by
  rw [uF] at h;simp only [ay] at h;obtain ⟨z,hz,rfl⟩:=h;rw [DK hρ] at hx;exact adu ((g1 _ (Ag hz)).2 x hx)
 have hpart:=Oy hh hsub hlt hrefs;have asr:fG w (E.part (nZ (Gl ρ bl))) (dK ρ args) vs:=⟨hrep.1,fun i a v ha hv=>Tt (hrep.2 i a v ha hv) fun x hx=>by
  have:x∈jf (dK ρ args):=gY i a ha hx;rw [oz hρ] at this;exact adu (g2 x this)⟩
 have hq:=hpw base w (E.part (nZ (Gl ρ bl))) vs hpart hG asr;split at hq
 .exact hq.elim
 rename_i fn hfn;obtain ⟨hbody,hname,hq⟩:=hq;have hcall:(callFunc f vs.toArray).run P w=.ok (.enter f vs.toArray) w:=by
  have:(fn.name == "runtime.NumGoroutine")=false:=by simpa using hname
  simp only [callFunc,Sem.run_bind,run_program,Result.andThen_ok,hfn,this,aP,if_false,hbody,Sem.run_pure]
 unfold Oper.wp;rw [he,hcall];refine hq.mono fun e w' hq=>?_;obtain ⟨v,E1,rfl,hst,hh1,hv⟩:=hq;have hsome:∀b,(nZ (Gl ρ Gt) b).isSome=(nZ (Gl ρ bl) b).isSome:=fun b=>by
  rw [uF,uF];simp only [Option.isSome_map];exact Xc auR b
 obtain ⟨q1,q2,q3⟩:=adt (nR:=fun b=>if (nZ (Gl ρ bl) b).isSome=true then nZ (Gl ρ Gt) b else ah b) hh hsub hst hh1 (fun b k h=>by
  refine ⟨by rw [<- hsome,h];rfl,fun x hx=>?_⟩;rw [uF] at h;simp only [ay] at h;obtain ⟨z,hz,rfl⟩:=h;rw [DK hρ] at hx;exact adu ((g3 _ (Ag hz)).2 x hx)) (fun b=>rfl)
 refine hnext _ rfl v w' _ _ (fun b k hb=>?_) q1 q2 (q3 _ _ hv fun x hx=>?_)
 .rcases Un hb with h1|⟨h1,h2⟩
  .have h3:(nZ (Gl ρ bl) b).isSome=true:=(by rw [<- hsome,uF,h1];rfl);show (if (nZ (Gl ρ bl) b).isSome=true then nZ (Gl ρ Gt) b else ah b)=_;rw [if_pos h3,uF,h1];rfl
  .have h3:¬(nZ (Gl ρ bl) b).isSome=true:=(by rw [<- hsome,uF,h1];simp);show (if (nZ (Gl ρ bl) b).isSome=true then nZ (Gl ρ Gt) b else ah b)=_;rw [if_neg h3];exact hah b k h2
 .have:=Ko (I5 (ρ:=ρ) hrf);have h0:=iM (l:=[r.den ρ]) (by simp [iO,this]);simp only [jf,cu] at h0;rw [h0] at hx;cases hx
end
def Uo (tK:List (Nat×Nat))(th:Tr SB):List (Nat×SB)->Option (List SV)
 |[]=>some []|(b,k)::r=>match th.get b with
  |none=>none|some k'=>match tK.find? (fun x=>Nat.beq x.1 b) with
   |some (_,sz)=>(match wz sz k',Uo tK th r with|some v,some l=>some (v::l)|_,_=>none)|none=>bif k'.beq k then Uo tK th r else none
def ako (bl:List (Nat×SB))(n0:Nat):Bool:=bl.all fun x=>Nat.ble (x.1+1) n0
def aqa (bl:List (Nat×SB))(n0:Nat)(th:Tr SB):Bool:=bl.all fun x=>match th.get x.1 with|some k=>k.zx.all (fun b=>Nat.ble (b+1) n0)|none=>true
def afm (bl:List (Nat×SB))(tK:List (Nat×Nat))(n0:Nat)(x:Lf):Option SV:=bif x.v.jL&&aqa bl n0 x.th then (match Uo tK x.th bl with|some l=>bif HY l then some (.gW (x.v::l)) else none|none=>none) else none
def rW (ρ:List AV)(tK:List (Nat×Nat))(cs:List AV):Nat->List (Nat×SB)->List (Nat×qO)
 |_,[]=>[]|j,(b,k)::r=>match tK.find? (fun x=>Nat.beq x.1 b) with
  |some (_,sz)=>(b,.rows sz (cs.getD j eX).D.R)::rW ρ tK cs (j+1) r|none=>(b,k.den ρ)::rW ρ tK cs j r
section
variable {P : Program} {ρ:List AV}
theorem Bd {tK:List (Nat×Nat)}{th:Tr SB}:∀{bl:List (Nat×SB)} {l:List SV} {pre:List AV},Uo tK th bl=some l->∀b k,nZ (rW ρ tK (pre++dK ρ l) pre.length bl) b=some k->∃k',th.get b=some k'/\pI (k'.den ρ) k/\(inB bl b=true)/\(k=k'.den ρ\/∃sz v R,v∈l/\v.den ρ=.sl R false/\k=.rows sz R)
 |[],l,pre,h,b,k,hb=>by simp [rW,nZ] at hb
 |(c,kc)::r,l,pre,h,b,k,hb=>by
  simp only [Uo] at h;split at h
  .cases h
  rename_i k' hk';simp only [rW] at hb;split at h
  .rename_i x sz hf;rw [hf] at hb;split at h;rotate_left
   .cases h
   rename_i v l' hv hl;simp only [aj] at h;subst h;obtain ⟨rs,R,d1,d2,d3,-⟩:=H6 (ρ:=ρ) hv;simp only [nZ] at hb;cases e:Nat.beq c b
   .simp only [e,cond_false] at hb;have e2:pre++dK ρ (v::l')=(pre++[v.den ρ])++dK ρ l':=(by simp [dK]);rw [e2] at hb;obtain ⟨k2,g1,g2,g3,g4⟩:=Bd (pre:=pre++[v.den ρ]) hl b k (by simpa using hb);refine ⟨k2,g1,g2,?_,g4.imp id fun ⟨a1,a2,a3,a4,a5⟩=>⟨a1,a2,a3,aN _ a4,a5⟩⟩;unfold inB at g3 ⊢;simp only [u_,e,cond_false];exact g3
   .simp only [e,cond_true,aj] at hb;have eb:=au e;subst eb;have e3:(pre++dK ρ (v::l')).getD pre.length eX=v.den ρ:=(by simp [dK,aB]);rw [e3,d2] at hb;subst hb;refine ⟨k',hk',by rw [d1];exact pI.rows d3,by unfold inB;simp [u_],.inr ⟨sz,v,R,aZ,d2,rfl⟩⟩
  .rename_i hf;rw [hf] at hb;cases hq:k'.beq kc
   .simp [hq] at h
   simp only [hq,cond_true] at h;have ek:=SB.beq_eq hq;subst ek;simp only [nZ] at hb;cases e:Nat.beq c b
   .simp only [e,cond_false] at hb;obtain ⟨k2,g1,g2,g3,g4⟩:=Bd (bl:=r) (l:=l) h b k hb;refine ⟨k2,g1,g2,?_,g4⟩;unfold inB at g3 ⊢;simp only [u_,e,cond_false];exact g3
   .simp only [e,cond_true,aj] at hb;have eb:=au e;subst eb;subst hb;exact ⟨k',hk',pI.refl _,by unfold inB;simp [u_],.inl rfl⟩
def afn (P:Program)(fn:Func)(base:Nat)(w:World)(E:Env)(bl:List (Nat×SB))(tK:List (Nat×Nat))(ρ:List AV)(n0:Nat)(t:AV)(a':Act)(w':World):Prop:=
 ∃r cs,t=.gW (r::cs)/\a'.defers=[]/\∃val E',(results fn a'.tmps).run P w'=.ok val w'/\Step base w E w' E'/\dM base w' E' (nZ (rW ρ tK cs 0 bl)) (fun b=>n0<=b)/\Rep w' E' r val
theorem aa7 {bl:List (Nat×SB)}{tK:List (Nat×Nat)}{n0:Nat}{x:Lf}{t:SV}(hρ:fU ρ=true)(h:afm bl tK n0 x=some t)(hbl:ako bl n0=true){fn:Func}{base:Nat}{w w':World}{E:Env}{a':Act}(hE:∀b,n0<=b->E.own b=.free)
  (he:Ih P fn base w E (x.v.den ρ) (gq ρ x.th) x.nx a' w'):afn P fn base w E bl tK ρ n0 (t.den ρ) a' w':=by
 unfold afm at h;cases hg:(x.v.jL&&aqa bl n0 x.th)
 .simp [hg] at h
 simp only [hg,cond_true] at h;simp only [ak] at hg;split at h;rotate_left
 .cases h
 rename_i l hl;cases hn:HY l
 .simp [hn] at h
 simp only [hn,cond_true,aj] at h;subst h;obtain ⟨h0,E2,val,h1,h2,h3,h4⟩:=he;let E3:Env:=⟨E2.fix,fun b=>if b<n0 then E2.own b else .free⟩;have lo:∀b,b<n0->E3.own b=E2.own b:=fun b hb=>if_pos hb;have at3:∀b c o,E3.own b=.at c o->E2.own b=.at c o:=fun b c o h=>by
  by_cases hb:b<n0
  .rw [lo b hb] at h;exact h
  .change (if b<n0 then _ else Own.free)=_ at h;rw [if_neg hb] at h;cases h
 have auS:∀{b},inB bl b=true->b<n0:=fun {b} h=>by
  unfold inB at h;split at h
  .rename_i k hk;unfold ako at hbl;rw [aF] at hbl;exact aC (hbl _ (Ag hk))
  .cases h
 refine ⟨_,_,rfl,h0,val,E3,h1,⟨⟨h3.ext.fix,h3.ext.cell,fun b hb=>?_,h3.ext.arr⟩,h3.below,h3.wZ,h3.keep,fun b c o h hc=>h3.CX b c o (at3 b c o h) hc,h3.w_⟩,⟨fun b k hb=>?_,fun b b' k k' c o c' o' hne e1 e2 e3 e4=>?_,fun b hb=>?_,h4.iY,h4.bs,fun b c o h=>h4.je b c o (at3 b c o h)⟩,Au h2 (I5 hg.1)⟩
 .have hlt:b<n0:=Nat.lt_of_not_le fun hle=>hb (hE b hle);rw [lo b hlt];exact h3.ext.own b hb
 .obtain ⟨k',g1,g2,g3,g4⟩:=Bd (ρ:=ρ) (pre:=[]) hl b k hb;have hb2:=g2 _ _ _ _ (h4.blk b (k'.den ρ) (by unfold gq;rw [g1];rfl));refine hb2.env (fun _ _ h=>h) (fun _ _ _ _ h=>h) (lo b (auS g3)) fun y hy=>lo y ?_;rcases g4 with rfl|⟨sz,v,R,a1,a2,rfl⟩
  .rw [DK hρ] at hy;have hq:=hg.2;unfold aqa at hq;rw [aF] at hq;unfold inB at g3;split at g3
   .rename_i kk hkk;have:=hq _ (Ag hkk);dsimp only at this;rw [g1] at this;exact aC (aF.1 this y hy)
   .cases g3
  .obtain ⟨i,hi⟩:=List.getElem?_of_mem a1;have hnr:=qw hn hi;have hv:(v.den ρ).refs=[]:=(by rw [qm hρ,hnr]);rw [a2] at hv;simp only [qO.uh] at hy;simp only [AV.refs] at hv;rw [hv] at hy;cases hy
 .obtain ⟨k1,g1,-,-,-⟩:=Bd (ρ:=ρ) (pre:=[]) hl b k e1;obtain ⟨k2,g2,-,-,-⟩:=Bd (ρ:=ρ) (pre:=[]) hl b' k' e2;exact h4.sep b b' (k1.den ρ) (k2.den ρ) c o c' o' hne (by unfold gq;rw [g1];rfl) (by unfold gq;rw [g2];rfl) (at3 _ _ _ e3) (at3 _ _ _ e4)
 .show (if b<n0 then _ else Own.free)=_;rw [if_neg (by omega)]
def OV (P:Program)(rs:List ResultVar)(bl:List (Nat×SB))(tK:List (Nat×Nat))(n0:Nat):Pc->Nat->List Out->Option (List (Tm×SV)×Nat×List (Pc×Sd))
 |_,nv,[]=>some ([],nv,[])|pc,nv,o::r=>match Ic P rs (gJ (uY o.g r) true pc) nv o with
  |none=>none|some x=>match afm bl tK n0 x with
   |none=>none|some v=>match OV P rs bl tK n0 (gJ o.g false pc) x.nv r with
    |none=>none|some (l,tJ,sd)=>some ((o.g,v)::l,tJ,x.sd++sd)
theorem P7 {rs:List ResultVar}{bl:List (Nat×SB)}{tK:List (Nat×Nat)}{n0:Nat}{pc:Pc}{nv:Nat}{o:Out}{r:List Out}:OV P rs bl tK n0 pc nv (o::r)=(match Ic P rs (gJ (uY o.g r) true pc) nv o with
 |none=>none|some x=>match afm bl tK n0 x with
  |none=>none|some v=>match OV P rs bl tK n0 (gJ o.g false pc) x.nv r with
   |none=>none|some (l,tJ,sd)=>some ((o.g,v)::l,tJ,x.sd++sd)):=rfl
theorem Xd {fn:Func}{N:Nat}(hρ:fU ρ=true){bl:List (Nat×SB)}{tK:List (Nat×Nat)}{n0:Nat}(hbl:ako bl n0=true):∀{l:List Out} {pc:Pc} {nv tJ:Nat} {rs:List (Tm×SV)} {sd:List (Pc×Sd)},OV P fn.results.toList bl tK n0 pc nv l=some (rs,tJ,sd)->pc.holds ρ->kQ P ρ sd->∀{base:Nat} {w w':World} {E E':Env} {fr:jB} {ah:AH} {nx:Nat} {a':Act} {e:Exit},
  (∀b,n0<=b->E.own b=.free)->EX ρ N l e fr ah nx->Le base w' E' fr ah nx a'->Step base w E w' E'->Ib e=true/\afn P fn base w E bl tK ρ n0 (pU ρ rs) a' w'
 |[],pc,nv,tJ,rs,sd,h,hp,hs,base,w,w',E,E',fr,ah,nx,a',e,hE,hsel,iE,hstep=>by
  obtain ⟨st,h1,-⟩:=hsel;cases h1
 |[o],pc,nv,tJ,rs,sd,h,hp,hs,base,w,w',E,E',fr,ah,nx,a',e,hE,hsel,iE,hstep=>by
  obtain ⟨st,h1,h2⟩:=hsel;simp only [sel,aj,aJ] at h1;obtain ⟨rfl,rfl⟩:=h1;simp only [OV,uY,gJ] at h;split at h
  .cases h
  .rename_i x hx;split at h
   .cases h
   .rename_i v hv;simp only [aj,aJ,cu] at h;obtain ⟨rfl,rfl,rfl⟩:=h;obtain ⟨q1,q2⟩:=yP (P:=P) hx hp hs h2 iE hstep;exact ⟨q1,aa7 hρ hv hbl hE q2⟩
 |o::o'::r,pc,nv,tJ,rs,sd,h,hp,hs,base,w,w',E,E',fr,ah,nx,a',e,hE,hsel,iE,hstep=>by
  obtain ⟨st,h1,h2⟩:=hsel;simp only [sel] at h1;rw [P7] at h;simp only [uY] at h;split at h
  .cases h
  .rename_i x hx;split at h
   .cases h
   .rename_i v hv;split at h
    .cases h
    .rename_i l nv1 sd1 hl;simp only [aj,aJ] at h;obtain ⟨rfl,rfl,rfl⟩:=h;have aaU:∃y s,l=y::s:=by
      rw [P7] at hl;split at hl
      .cases hl
      .split at hl
       .cases hl
       .split at hl
        .cases hl
        .simp only [aj,aJ] at hl;exact ⟨_,_,hl.1.symm⟩
     obtain ⟨y,s,rfl⟩:=aaU;cases hg:(o.g.den ρ).B
     .rw [hg] at h1;obtain ⟨q1,q2⟩:=Xd hρ hbl hl (dY hg hp) (kX hs) hE ⟨st,h1,h2⟩ iE hstep;exact ⟨q1,by simpa [pU,hg] using q2⟩
     .rw [hg] at h1;simp only [cond_true,aj,aJ] at h1;obtain ⟨rfl,rfl⟩:=h1;obtain ⟨q1,q2⟩:=yP (P:=P) hx (dY hg hp) (kL hs) h2 iE hstep;exact ⟨q1,by simpa [pU,hg] using aa7 (P:=P) hρ hv hbl hE q2⟩
def Ur (P:Program)(X0:oN)(I0:B_)(md:Md)(FC:FuncId->wQ)(sU CF:Nat)(f:FuncId)(args:List SV)(nv:Nat)(bl:List (Nat×SB))(tK:List (Nat×Nat))(n0:Nat):Option kR:=
 match P.funcs[f]? with
 |none=>none|some fn=>match fn.body with
  |none=>none|some c=>bif kN fn&&(Nat.ble args.length fn.ntmps&&ako bl n0) then
    match rO P ⟨(MI P X0 I0 md FC sU CF CF).1,is2 md,(MI P X0 I0 md FC sU CF CF).2,sU⟩ {FC f with N:=fn.ntmps} CF [] ⟨Ba 0 args,azp bl .e,n0⟩ nv c with
    |none=>none|some x=>match OV P fn.results.toList bl tK n0 [] x.nv x.outs with
     |none=>none|some (l,_,sd)=>some ⟨l,exS (x.sd++sd),Tv (x.aw++exL (x.sd++sd))⟩
   else none
theorem ane {X0:oN}{I0:B_}{md:Md}{FC:FuncId->wQ}{sU CF:Nat}{f:FuncId}{args:List SV}{nv:Nat}{bl:List (Nat×SB)}{tK:List (Nat×Nat)}{n0:Nat}{R:kR}(h:Ur P X0 I0 md FC sU CF f args nv bl tK n0=some R)(hm:P.follows .mixedOrders=true)(hρ:fU ρ=true)(h0:∀σ:List AV,fU σ=true->lT P σ I0)(hX:∀σ:List AV,fU σ=true->ny P σ X0)
  (hs:qR P ρ R.sd) (haw:OD P ρ R.aw) {r:AV} {cs:List AV} (hr:pU ρ R.rs=.gW (r::cs)):PWL P f (dK ρ args) (Gl ρ bl) n0 r (rW ρ tK cs 0 bl):=by
 unfold Ur at h;split at h
 .cases h
 rename_i fn hfn;split at h
 .cases h
 rename_i c hc;cases hg:kN fn&&(Nat.ble args.length fn.ntmps&&ako bl n0)
 .simp [hg] at h
 simp only [hg,cond_true] at h;split at h
 .cases h
 rename_i x hx;split at h
 .cases h
 rename_i l tJ sd hl;simp only [aj] at h;subst h;obtain ⟨h1,h2⟩:=QJ (md:=md) (FC:=FC) (sU:=sU) (CF:=CF) hm h0 hX CF;simp only [ak] at hg;obtain ⟨hg1,hg2,hbl⟩:=hg;have hname:fn.name≠ "runtime.NumGoroutine" :=by simpa [kN] using hg1
 have hlen:=aC hg2;intro base w E vs hheap hG hargs;rw [hfn];dsimp only;refine ⟨by rw [hc];rfl,hname,?_⟩;have hlenA:(dK ρ args).length<=fn.ntmps:=by rw [dX];exact hlen
 have hah:Dz ρ (azp bl .e) (nZ (Gl ρ bl)):=fun b k hb=>by
  rcases Un hb with h1|⟨-,h2⟩
  .rw [uF,h1];rfl
  .simp [Tr.get] at h2
 have hst:Gv ρ fn.ntmps ⟨Ba 0 args,azp bl .e,n0⟩ (wE fn.ntmps (dK ρ args)) (nZ (Gl ρ bl)) n0:=Gv.of MJ hah (wF hlenA) (dD _);have hs:=WC hs (vY.1 (aoc haw)).2;have haw:=(vY.1 (aoc haw)).1;have adn:=nC (G:=⟨(MI P X0 I0 md FC sU CF CF).1,is2 md,(MI P X0 I0 md FC sU CF CF).2,sU⟩) (F:={FC f with N:=fn.ntmps}) hm h1 h2 hρ _ _ _ _ hx (fun x hx=>by cases hx) (kL hs) haw _ _ _ hst;have iE:Le base w E (wE fn.ntmps (dK ρ args)) (nZ (Gl ρ bl)) n0 {tmps:=vs.toArray++Array.replicate (fn.ntmps-vs.toArray.size) undef,defers:=[]}:=
  ⟨hheap,DX hG hargs hlenA,rfl⟩
 refine calls_of_wp hfn hc (wp_mono (adn _ w E _ iE) fun e a' w' hp'=>?_);obtain ⟨E',fr',dV,nx',hsel,Uh,hst'⟩:=hp';obtain ⟨q1,r',cs',er,q0,val,E3,q2,q3,q4,q5⟩:=Xd (P:=P) (fn:=fn) hρ hbl hl (fun x hx=>by cases hx) (kX hs) (fun b hb=>hheap.fresh b hb) hsel Uh hst';rw [hr] at er;simp only [AV.gW.injEq,List.cons.injEq] at er;obtain ⟨rfl,rfl⟩:=er;have fin:a'.defers=[]/\∃v,(results fn a'.tmps).run P w'=.ok v w'/\∃u E',Ending.returned v=.returned u/\Step base w E w' E'/\dM base w' E' (nZ (rW ρ tK cs 0 bl)) (fun b=>n0<=b)/\Rep w' E' r u:=
  ⟨q0,val,q2,val,E3,rfl,q3,q4,q5⟩
 cases e<;>first|exact fin|(simp [Ib] at q1)
theorem asu (hm:P.follows .mixedOrders=true){X:oN}(hX:∀σ:List AV,fU σ=true->ny P σ X){I0:B_}(h0:∀σ:List AV,fU σ=true->lT P σ I0){md:Md}{FC:FuncId->wQ}{sU CF f nv:Nat}{args:List SV}{ρ:List AV}{rs:List (Tm×SV)}{sd:List (Pc×Side)}{aw:List Lo}{az:List AV}{r:AV}{cs:List AV}{bl:List (Nat×SB)}{tK:List (Nat×Nat)}{n0:Nat}{bin Jw:List (Nat×qO)}
  (h:Ur P X I0 md FC sU CF f args nv bl tK n0=some ⟨rs,sd,aw⟩) (hρ:fU ρ=true) (hs:uO P ρ sd) (hl:QD P aw ρ) (ha:dK ρ args=az) (hb:Gl ρ bl=bin) (hr:pU ρ rs=.gW (r::cs)) (hb2:rW ρ tK cs 0 bl=Jw):PWL P f az bin n0 r Jw:=by
 subst ha;subst hb;subst hb2;exact ane h hm hρ h0 hX hs.ok hl hr
def wcT (l:List (Nat×List (Nat×Nat))):ap9:=fun f=>(l.find? fun x=>Nat.beq x.1 f).map (·.2)
end
end Go.Fw
end
section
namespace Go.Fw
variable [iT]
theorem anf {P:Program}{f:FuncId}{args:List AV}{r:AV}{p:List Nat}{sz:Nat}(h:Fe args->PCo P f args r p sz):PCo P f args r p sz:=by
 intro w fix vs hfix hG hargs;refine h (Fg fun a ha=>?_) w fix vs hfix hG hargs;obtain ⟨i,hi⟩:=bF.1 ha;have hlt:i<vs.length:=by rw [<- hargs.1];exact (aA.1 hi).1
 exact QH (hargs.2 i a vs[i] hi (by simp [hlt]))
theorem aqb {P:Program}{f:FuncId}{args:List AV}{r:AV}{bin Jw:List (Nat×qO)}{n0:Nat}(h:Fe args->PWL P f args bin n0 r Jw):PWL P f args bin n0 r Jw:=by
 intro base w E vs hheap hG hargs;refine h (Fg fun a ha=>?_) base w E vs hheap hG hargs;obtain ⟨i,hi⟩:=bF.1 ha;have hlt:i<vs.length:=by rw [<- hargs.1];exact (aA.1 hi).1
 exact QH (hargs.2 i a vs[i] hi (by simp [hlt]))
def yQ {K V:Type}(f:K->List AV)(g:V->List AV)(e:K×V):List AV:=f e.1++g e.2
theorem ang {K V:Type}{f:K->List AV}{g:V->List AV}(hf:∀x,fU (f x)=true)(hg:∀x,fU (g x)=true)(e:K×V):fU (yQ f g e)=true:=by
 have app:∀{a b:List AV},fU a=true->fU b=true->fU (a++b)=true:=by
  intro a;induction a with
  |nil=>intro b _ h;exact h|cons x r ih=>intro b h1 h2;simp only [fU,ak,bV] at h1 ⊢;exact ⟨h1.1,ih h1.2 h2⟩
 exact app (hf _) (hg _)
def mJ {K V:Type}[DecidableEq K](z:V)(k:K):List (K×V)->Bool×V
 |[]=>(false,z)|e::r=>if k=e.1 then (true,e.2) else mJ z k r
def mM {K V:Type}[DecidableEq K](k:K)(v:V):List (K×V)->List (K×V)
 |[]=>[(k,v)]|e::r=>if k=e.1 then (k,v)::r else e::mM k v r
section
variable {P : Program} {K V:Type} [DecidableEq K] {f:K->List AV} {g:V->List AV} {kt:TypeId} {m:MSh}
theorem Ah (hf:∀k,(f k).length=m.kn)(e:K×V):pV m (yQ f g e)=(lQ m.ka (f e.1),lQ m.va (g e.2)):=by
 unfold pV yQ;rw [<- hf e.1];simp
theorem Xe (hk:∀a b:K,aeq P 10000 kt (lQ m.ka (f a)) (lQ m.ka (f b))=some (decide (a=b)))(hf:∀k,(f k).length=m.kn)(k:K)(z:V):∀(l:List (K×V)),
  ∃r,wV P kt (lQ m.ka (f k)) ((l.map (yQ f g)).map (pV m))=some r/\(mJ z k l).1=r.isSome/\lQ m.va (g (mJ z k l).2)=(match r with|none=>lQ m.va (g z)|some q=>q.2)
 |[]=>⟨none,rfl,rfl,rfl⟩|e::r=>by
  simp only [aX,Ah hf,wV,hk,mJ];by_cases h:k=e.1
  .simp only [h,decide_true,if_true];exact ⟨_,rfl,rfl,rfl⟩
  .simp only [h,decide_false,if_false];obtain ⟨q,h1,h2,h3⟩:=Xe hk hf k z r;rw [h1];cases q with
   |none=>exact ⟨_,rfl,h2,h3⟩|some q=>exact ⟨_,rfl,h2,h3⟩
theorem aa8 (hk:∀a b:K,aeq P 10000 kt (lQ m.ka (f a)) (lQ m.ka (f b))=some (decide (a=b)))(hf:∀k,(f k).length=m.kn)(k:K)(v:V):∀(l:List (K×V)),
  ∃r,wV P kt (lQ m.ka (f k)) ((l.map (yQ f g)).map (pV m))=some r/\(∀q,r=some q->(((l.map (yQ f g)).map (pV m))[q.1]?).map (·.1)=some (lQ m.ka (f k)))/\
   ((mM k v l).map (yQ f g)).map (pV m)=(match r with|none=>(l.map (yQ f g)).map (pV m)++[(lQ m.ka (f k),lQ m.va (g v))]|some q=>((l.map (yQ f g)).map (pV m)).set q.1 (lQ m.ka (f k),lQ m.va (g v)))
 |[]=>⟨none,rfl,(fun q h=>by cases h),by simp [mM,Ah hf]⟩|e::r=>by
  simp only [aX,Ah hf,wV,hk,mM];by_cases h:k=e.1
  .simp only [h,decide_true,if_true];refine ⟨_,rfl,fun q hq=>?_,?_⟩
   .simp only [aj] at hq;subst hq;simp
   .simp [Ah hf]
  .simp only [h,decide_false,if_false];obtain ⟨q,h1,h2,h3⟩:=aa8 hk hf k v r;rw [h1];cases q with
   |none=>exact ⟨_,rfl,(fun q h=>by cases h),by simp only [aX,Ah hf,h3];rfl⟩|some q=>exact ⟨_,rfl,(fun q' hq=>by simp only [aj] at hq;subst hq;simpa using h2 q rfl),by simp only [aX,Ah hf,h3,List.set_cons_succ]⟩
end
theorem anh {α:Type}[Inhabited α]{f:α->List AV}{l:List α}{i:Int}{off n:Nat}{cells:List AV}(y:α)(h0:0<=i)(h1:i<(l.length:Int))(hn:∀x,(f x).length=n)(hc:Nat.ble (off+cells.length) n=true)(hy:f y=lay (f (l.getD i.toNat default)) off cells) :
  ∃row,(List.map f l)[i.toNat]?=some row/\off+cells.length<=row.length/\List.map f (l.set i.toNat y)=(List.map f l).set i.toNat (lay row off cells):=by
 have h3:i.toNat<l.length:=by omega
 refine ⟨f (l.getD i.toNat default),by simp [aB,h3],by rw [hn];exact aC hc,?_⟩;rw [List.map_set,hy]
theorem aAO {a b:Int}(h0 : -9223372036854775808<=a*b)(h1:a*b<9223372036854775808):agu .i64 a b=a*b:=by
 have e:IntKind.wrap .i64 (a*b)=if (a*b) % 18446744073709551616>=9223372036854775808 then (a*b) % 18446744073709551616-18446744073709551616 else (a*b) % 18446744073709551616:=by
  show (if (true&&decide ((a*b) % 2 ^ 64>=2 ^ (64-1)))=true then (a*b) % 2 ^ 64-2 ^ 64 else (a*b) % 2 ^ 64)=_;simp
 unfold agu;rw [e];split<;>omega
theorem akp {P:Program}{f:FuncId}{args:List AV}{r:AV}(hr:r.flat=true)(h:PWL P f args [] 0 r []):PC P f args r:=by
 intro w fix vs hfix hG hrep;have hp:=h w.heap.size w (dW fix) vs ⟨fun b k hb=>by simp [nZ] at hb,fun b b' k k' c o c' o' _ hb=>by simp [nZ] at hb,fun b _=>rfl,hfix,dD _,fun b c o hb=>by simp [dW] at hb⟩ hG hrep;split at hp
 .exact hp.elim
 .rename_i fn hfn;simp only [hfn];obtain ⟨h1,h2,h3⟩:=hp;rw [if_neg (by rw [h1];simp)];refine ⟨h2,h3.mono fun e w' hq=>?_⟩;obtain ⟨v,E',q1,q2,q3,q4⟩:=hq;exact ⟨v,E'.fix,q1,⟨⟨q2.ext.fix,q2.ext.cell,fun b hb=>absurd rfl hb,q2.ext.arr⟩,q2.below,q2.wZ,q2.keep,fun b c o hb=>by simp [dW] at hb,q2.w_⟩,q3.iY,Au q4 hr⟩
def MS (m:List (Int×Bool))(d:List Bool):List Bool:=d.mapIdx fun i b=>b||m.any fun e=>Nat.beq e.1.toNat i
theorem ay2 {a b:Int}:(a == b)=decide (a=b):=by by_cases h:a=b<;>simp [h]
end Go.Fw
namespace Go.Fw
variable [iT]
def azW : List UInt8:=[0,1,2,3,4,5,6,7,8,9,10,11,12,13,14,15,16,17,18,19,20,21,22,23,24,25,26,27,28,29,30,31,32,33,34,35,36,37,38,39,40,41,42,43,44,45,46,47,48,49,50,51,52,53,54,55,56,57,58,59,60,61,62,63,64,65,66,67,68,69,70,71,72,73,74,75,76,77,78,79,80,81,82,83,84,85,86,87,88,89,90,91,92,93,94,95,96,97,98,99,100,101,102,103,104,105,106,107,108,109,110,111,112,113,114,115,116,117,118,119,120,121,122,123,124,125,126,127]
def aAP (n:Int):List UInt8:=(azW.drop n.toNat).take ((fK .i64 n 1).toNat-n.toNat)
end Go.Fw
end
section
namespace Go.Fw
variable [iT]
open Go.ChangeShapes Go.WideShapes Go.RowKit
structure Qo {H:Type}(f:DataW H->Nat)(fa:List (DataW H)->Nat):Prop where
 str:∀b,f (.lit (.string b))=b.length+1
 sl:∀e s,f (.slice e s)=fa e+fa s+1
 agg:∀p,f (.agg p)=fa p+1
 nil:fa []=0
 cons:∀d r,fa (d::r)=f d+fa r
 one:∀d,1<=f d
theorem Qo.get {H:Type}{f:DataW H->Nat}{fa}(hb:Qo f fa):∀{a:List (DataW H)} {i:Nat} {x},a[i]?=some x->f x<=fa a
 |y::a,0,x,h=>by simp at h;subst h;rw [hb.cons];omega
 |y::a,i+1,x,h=>by have:=hb.get (a:=a) (i:=i) (by simpa using h);rw [hb.cons];omega
theorem Qo.len {H:Type}{f:DataW H->Nat}{fa}(hb:Qo f fa)(a:List (DataW H)):a.length<=fa a:=by
 induction a with
 |nil=>simp|cons x a ih=>have:=hb.one x;simp [hb.cons];omega
abbrev lim : Nat:=1048576
def Us (w:World):Env:=dW fun c _=>c<w.heap.size
structure Rd (P:Program)(t:TypeId){α:Type}(row:α->List AV)(wf:α->Prop):Prop where
 get:∀{H:Type} {enc:TypeId×Value->H} {f:DataW H->Nat} {fa:List (DataW H)->Nat} (_:Qo f fa) {w:World} {fuel:Nat} {cs:List Value} {x:DataW H×List MemPlace},
  DataW.trod enc P w 0 (fun _=>true) true fuel t cs=some x->f x.1<=lim->∃a,wf a/\fG w (Us w) (row a) cs/\∀c∈row a,c.iL=true
theorem Rd.to {P t}{α β:Type}{row:α->List AV}{wf:α->Prop}(h:Rd P t row wf)(g:α->β){row':β->List AV}{wf':β->Prop}(hr:∀a,row' (g a)=row a)(hw:∀a,wf a->wf' (g a)):Rd P t row' wf':=by
 constructor;intro H enc f fa hb w fuel cs x hx hl;obtain ⟨a,h1,h2,h3⟩:=h.get hb hx hl;exact ⟨g a,hw a h1,by rw [hr];exact h2,by rw [hr];exact h3⟩
theorem fG.one {w E a v}(h:Rep w E a v):fG w E [a] [v]:=
 ⟨rfl,fun i x y hx hy=>by cases i with|zero=>simp at hx hy;subst hx;subst hy;exact h|succ i=>simp at hx⟩
theorem Jg {P t}(ht:P.underlying t=some .bool):Rd P t (fun b:Bool=>[.p (.bool b)]) (fun _=>True):=by
 constructor;intro H enc f fa hb w fuel cs x hx hl;obtain ⟨b,rfl,rfl⟩:=DataW.trod_bool ht hx;exact ⟨b,trivial,fG.one (.p rfl),by simp [AV.iL]⟩
def Zc (k:IntKind)(n:Int):Prop:=k.min<=n/\n<=k.max
theorem Ut {P t}{k:IntKind}(ht:P.underlying t=some (.int k)):Rd P t (fun n:Int=>[.p (.int k n)]) (Zc k):=by
 constructor;intro H enc f fa hb w fuel cs x hx hl;obtain ⟨n,rfl,rfl,hw⟩:=DataW.trod_int ht hx;exact ⟨n,by simpa [Lit.wf,Zc] using hw,fG.one (.p rfl),by simp [AV.iL]⟩
theorem adv {H:Type}{enc:TypeId×Value->H}{P:Program}{w:World}{base:Nat}{spare:Nat->Bool}{held:Bool}{fuel:Nat}{t:TypeId}{cs:List Value}{x:DataW H×List MemPlace}{k}(ht:P.underlying t=some (.float k))
  (h:DataW.trod enc P w base spare held fuel t cs=some x):∃n,cs=[.float k n]/\x=(.lit (.float k n),[])/\(Lit.float k n).wf=true:=by
 cases fuel with
 |zero=>simp [DataW.trod] at h|succ n=>
  unfold DataW.trod at h;rw [ht] at h;split at h<;>simp_all
theorem akq {P t}(ht:P.underlying t=some (.float .f64)):Rd P t (fun n:Nat=>[.p (.float .f64 n)]) (fun n=>n<2 ^ 64):=by
 constructor;intro H enc f fa hb w fuel cs x hx hl;obtain ⟨n,rfl,rfl,hw⟩:=adv ht hx;exact ⟨n,by simpa [Lit.wf,Zc] using hw,fG.one (.p rfl),by simp [AV.iL]⟩
theorem adw {P t}(ht:P.underlying t=some .string):Rd P t (fun s:List UInt8=>[.str s]) (fun s=>s.length<=lim):=by
 constructor;intro H enc f fa hb w fuel cs x hx hl;obtain ⟨s,rfl,rfl,hw⟩:=DataW.trod_string ht hx;refine ⟨s.data.toList,?_,fG.one (.str s _ rfl),by simp [AV.iL]⟩;rw [hb.str] at hl;omega
theorem fG.get {w E az vs}(h:fG w E az vs){i:Nat}{a:AV}(ha:az[i]?=some a):∃v,vs[i]?=some v/\Rep w E a v:=by
 have hlt:i<vs.length:=by rw [<- h.1];exact (aA.1 ha).1
 exact ⟨vs[i],by simp [hlt],h.2 i a _ ha (by simp [hlt])⟩
theorem azg {w:World}{a:Addr}{v}(h:w.cell? a=some v):a.spot=none:=World.cell?_spot h
theorem P8 {α:Type}{p:Nat->α->Prop}:∀(n:Nat),(∀i,i<n->∃a,p i a)->∃l:List α,l.length=n/\∀i a,l[i]?=some a->p i a
 |0,_=>⟨[],rfl,by simp⟩|n+1,h=>by
  obtain ⟨l,h1,h2⟩:=P8 n (fun i hi=>h i (by omega));obtain ⟨a,ha⟩:=h n (by omega);refine ⟨l++[a],by simp [h1],fun i x hx=>?_⟩;by_cases hi:i<n
  .rw [bf (by omega)] at hx;exact h2 i x hx
  .have:i=n:=by
    have:=(aA.1 hx).1;simp at this;omega
   subst this;rw [bI (by omega)] at hx;simp [h1] at hx;subst hx;exact ha
def ayQ {α:Type}(wf:α->Prop)(l:List α):Prop:=l.length<=lim/\∀x∈l,wf x
theorem aa9 {P:Program}{t e:TypeId}{α:Type}{row:α->List AV}{wf:α->Prop}{m:Nat}(ht:P.underlying t=some (.slice e))(hm:P.cellsOf e=m)(hpos:0<m)(hrow:∀a,(row a).length=m)(he:Rd P e row wf) :
  Rd P t (fun l:List α=>[.sl (l.map row) false]) (ayQ wf):=by
 constructor;intro H enc f fa hb w fuel cs x hx hl;rcases DataW.trod_slice ht hx with ⟨rfl,rfl⟩|⟨a,len,cap,elems,rest,n,-,rfl,rfl,-,hlc,-,hlen,hel,hsp,-⟩
 .exact ⟨[],⟨by simp,by simp⟩,fG.one (.slnil false none),by simp [AV.iL]⟩
 .subst hm;obtain ⟨hrl,hre⟩:=hsp rfl;dsimp only at hl;rw [hb.sl] at hl;have hone:∀i,i<len->∃b:α,wf b/\(∀c∈row b,c.iL=true)/\∃cs',w.cells? 0 (a.add (i*P.cellsOf e)) (P.cellsOf e)=some cs'/\fG w (Us w) (row b) cs':=by
   intro i hi;have h:=hel i hi;have hi':i<elems.length:=(by omega);rw [aW hi',aQ] at h;obtain ⟨cs',h1,h2⟩:=h;have hbd:f elems[i].1<=lim:=by
    have h3:f elems[i].1<=fa (elems.map (·.1)):=hb.get (a:=elems.map (·.1)) (i:=i) (x:=elems[i].1) (by simp [hi']);omega
   obtain ⟨b,g1,g2,g3⟩:=he.get hb h2 hbd;exact ⟨b,g1,g3,cs',h1,g2⟩
  obtain ⟨l,hl1,hl2⟩:=P8 len hone;refine ⟨l,⟨?_,fun x hx=>?_⟩,?_,by simp [AV.iL]⟩
  .have:=hb.len (elems.map (·.1));simp at this;omega
  .obtain ⟨i,hi⟩:=bF.1 hx;exact (hl2 i x hi).1
  .apply fG.one;by_cases hc0:cap=0
   .subst hc0;obtain rfl:len=0:=by omega
    obtain rfl:l=[]:=List.eq_nil_of_length_eq_zero hl1;exact .slnil false _
   .have hspot:a.spot=none:=by
     have key:∃cs',w.cells? 0 (a.add 0) (P.cellsOf e)=some cs':=by
      by_cases hlz:len=0
      .have h:=hre 0 (by omega);have hi':0<rest.length:=(by omega);rw [aW hi',aQ] at h;obtain ⟨cs',h1,h2⟩:=h;subst hlz;exact ⟨cs',by simpa using h1⟩
      .obtain ⟨b,-,-,cs',h1,-⟩:=hone 0 (by omega);exact ⟨cs',by simpa using h1⟩
     obtain ⟨cs',h1⟩:=key;obtain ⟨-,q1,q2⟩:=World.cells?_some h1;have:=q2 0 hpos;rw [aW (by omega)] at this;have:=azg this;obtain ⟨bl,o,s⟩:=a;cases s with
     |none=>rfl|some s=>simp [Addr.add] at this
    obtain ⟨bl,o,s⟩:=a;cases hspot;have cell:∀(i:Nat) (b:α) (j:Nat) (y:AV),l[i]?=some b->(row b)[j]?=some y->∃v,w.cell? ⟨bl,o+i*P.cellsOf e+j,none⟩=some v/\Rep w (Us w) y v:=by
     intro i b j y hi hj;obtain ⟨-,-,cs',h1,h2⟩:=hl2 i b hi;obtain ⟨v,hv,hr⟩:=h2.get hj;obtain ⟨-,q1,q2⟩:=World.cells?_some h1;refine ⟨v,?_,hr⟩;have hjl:j<P.cellsOf e:=(by rw [<- hrow b];exact (aA.1 hj).1);have:=q2 j hjl;rw [hv,WideShapes.add_plain,WideShapes.add_plain] at this;exact this
    have hlim:lim=1048576:=rfl;have hlen2:=hb.len (elems.map (·.1));simp only [dh] at hlen2;have:=Rep.sl (w:=w) (E:=Us w) (l.map row) false (P.cellsOf e) bl o cap (fun i j=>(w.cell? ⟨bl,o+i*P.cellsOf e+j,none⟩).getD .nilIface) (by simp;omega) (by simp)
     (fun i r hr=>by
      simp only [bP,ay] at hr;obtain ⟨b,-,rfl⟩:=hr;exact hrow b)
     (fun i r j y hr hy=>by
      simp only [bP,ay] at hr;obtain ⟨b,hb',rfl⟩:=hr;obtain ⟨v,hv,-⟩:=cell i b j y hb' hy;exact World.block_lt_of_cell? w _ hv)
     (fun i r j y hr hy=>by
      simp only [bP,ay] at hr;obtain ⟨b,hb',rfl⟩:=hr;obtain ⟨v,hv,-⟩:=cell i b j y hb' hy;simp [hv])
     (fun r hr y hy=>by
      obtain ⟨b,hb',rfl⟩:=aU.1 hr;obtain ⟨i,hi⟩:=bF.1 hb';exact (hl2 i b hi).2.1 y hy)
     (fun i r j y hr hy=>by
      simp only [bP,ay] at hr;obtain ⟨b,hb',rfl⟩:=hr;obtain ⟨v,hv,hrp⟩:=cell i b j y hb' hy;simpa [hv] using hrp)
    simp only [dh,hl1] at this;exact this
structure RdF (P:Program)(fs:List Field)(off:Nat){α:Type}(row:α->List AV)(wf:α->Prop):Prop where
 get:∀{H:Type} {enc:TypeId×Value->H} {f:DataW H->Nat} {fa:List (DataW H)->Nat} (_:Qo f fa) {w:World} {n:Nat} {cs:List Value} {xs:List (DataW H×List MemPlace)},
  xs.length=fs.length->(∀(i:Nat) (fd:Field),fs[i]?=some fd->DataW.trod enc P w 0 (fun _=>true) true n fd.type ((cs.drop fd.offset).take (P.cellsOf fd.type))=xs[i]?)->
  cs.length=off+(fs.map fun fd=>P.cellsOf fd.type).sum->fa (xs.map (·.1))<=lim->∃a,wf a/\fG w (Us w) (row a) (cs.drop off)/\∀c∈row a,c.iL=true
theorem Jh {P off}:RdF P [] off (fun _:Unit=>[]) (fun _=>True):=by
 constructor;intro H enc f fa hb w n cs xs hx hf hl hbd;refine ⟨(),trivial,?_,by simp⟩;have:cs.drop off=[]:=List.drop_eq_nil_of_le (by simp at hl;omega);rw [this];exact ⟨rfl,fun i a v h=>by simp at h⟩
theorem iZ {P:Program}{fd:Field}{fs:List Field}{off m:Nat}{α β:Type}{row:α->List AV}{wf:α->Prop}{row':β->List AV}{wf':β->Prop}(ho:fd.offset=off)(hm:P.cellsOf fd.type=m)(h:Rd P fd.type row wf)
  (h':RdF P fs (off+m) row' wf'):RdF P (fd::fs) off (fun x:α×β=>row x.1++row' x.2) (fun x=>wf x.1/\wf' x.2):=by
 subst ho hm;constructor;intro H enc f fa hb w n cs xs hx hf hl hbd;match xs,hx with
 |x::xs,hx=>
  have h0:=hf 0 fd rfl;simp only [List.getElem?_cons_zero] at h0;simp only [aX,hb.cons] at hbd;obtain ⟨a,a1,a2,a3⟩:=h.get hb h0 (by omega);obtain ⟨b,b1,b2,b3⟩:=h'.get hb (xs:=xs) (by simpa using hx) (fun i fd' hi=>by simpa using hf (i+1) fd' (by simpa using hi)) (by simp at hl;omega) (by omega);refine ⟨(a,b),⟨a1,b1⟩,?_,fun c hc=>?_⟩
  .have:cs.drop fd.offset=(cs.drop fd.offset).take (P.cellsOf fd.type)++cs.drop (fd.offset+P.cellsOf fd.type):=by
    rw [<- List.drop_drop,List.take_append_drop]
   rw [this];exact a2.append b2
  .rcases aH.1 hc with hc|hc
   .exact a3 c hc
   .exact b3 c hc
theorem Ai {P:Program}{t:TypeId}{fs:Array Field}{α:Type}{row:α->List AV}{wf:α->Prop}(ht:P.underlying t=some (.struct fs))(hs:P.cellsOf t=(fs.toList.map fun fd=>P.cellsOf fd.type).sum)(h:RdF P fs.toList 0 row wf) :
  Rd P t row wf:=by
 constructor;intro H enc f fa hb w fuel cs x hx hl;obtain ⟨xs,n,-,rfl,hlen,hxs,hf⟩:=DataW.trod_struct ht hx;dsimp only at hl;rw [hb.agg] at hl;obtain ⟨a,a1,a2,a3⟩:=h.get hb (xs:=xs) (w:=w) (n:=n) (cs:=cs) (by simpa using hxs) (fun i fd hi=>hf i fd (by simpa using hi)) (by rw [hlen,hs];simp) (by omega);exact ⟨a,a1,by simpa using a2,a3⟩
structure RdV (P:Program)(t:TypeId){α:Type}(av:α->AV)(wf:α->Prop):Prop where
 get:∀{H:Type} {enc:TypeId×Value->H} {f:DataW H->Nat} {fa:List (DataW H)->Nat} (_:Qo f fa) {w:World} {base:Nat} {v:Value} {d:DataW H} {ps:List MemPlace},
  Value.okWide P w .any base t v->DataW.Trod enc P w 0 (fun _=>true) true t v d ps->f d<=lim->∃a,wf a/\Rep w (Us w) (av a) v
theorem fG.axH {w E a v}(h:fG w E [a] [v]):Rep w E a v:=h.2 0 a v rfl rfl
theorem axI {P:Program}{t:TypeId}{α:Type}{av:α->AV}{wf:α->Prop}(h:Rd P t (fun a=>[av a]) wf)(hc:∀{w base v},Value.okWide P w .any base t v->v.cells.toList=[v]):RdV P t av wf:=by
 constructor;intro H enc f fa hb w base v d ps hok ⟨fuel,htr⟩ hl;rw [hc hok] at htr;obtain ⟨a,h1,h2,-⟩:=h.get hb htr hl;exact ⟨a,h1,h2.axH⟩
theorem axJ {P t}{k:IntKind}(ht:P.underlying t=some (.int k)):RdV P t (fun n:Int=>.p (.int k n)) (Zc k):=
 axI (Ut ht) (fun h=>by obtain ⟨b,rfl⟩:=okWide_int ht h;rfl)
theorem adx {P:Program}{t:TypeId}{fs:Array Field}{α:Type}{row:α->List AV}{wf:α->Prop}(ht:P.underlying t=some (.struct fs))(h:Rd P t row wf):RdV P t (fun a=>.agg (row a)) wf:=by
 constructor;intro H enc f fa hb w base v d ps hok ⟨fuel,htr⟩ hl;obtain ⟨cs,rfl,-⟩:=okWide_struct ht hok;obtain ⟨a,h1,h2,h3⟩:=h.get hb htr hl;refine ⟨a,h1,.agg _ _ ?_ h3 (fun i c v hc hv=>h2.2 i c v hc ?_)⟩
 .simpa [Value.cells] using h2.1
 .simpa [Value.cells] using hv
structure RdA (P:Program)(ts:List TypeId){α:Type}(avs:α->List AV)(wf:α->Prop):Prop where
 get:∀{H:Type} {enc:TypeId×Value->H} {f:DataW H->Nat} {fa:List (DataW H)->Nat} (_:Qo f fa) {w:World} {base:Nat} {vs:List Value} {ds:List (DataW H)} {ps:List MemPlace},
  (∀(j:Nat) t v,ts[j]?=some t->vs[j]?=some v->Value.okWide P w .any base t v)->DataW.TrodAll enc P w 0 (fun _=>true) true ts vs ds ps->fa ds<=lim->∃a,wf a/\fG w (Us w) (avs a) vs
theorem ani {P}:RdA P [] (fun _:Unit=>[]) (fun _=>True):=by
 constructor;intro H enc f fa hb w base vs ds ps hok h hl;obtain ⟨rfl,-,-⟩:=trodAll_nil h;exact ⟨(),trivial,rfl,fun i a v h=>by simp at h⟩
theorem akr {P:Program}{t:TypeId}{ts:List TypeId}{α β:Type}{av:α->AV}{wf:α->Prop}{avs:β->List AV}{wf':β->Prop}(h:RdV P t av wf)(h':RdA P ts avs wf') :
  RdA P (t::ts) (fun x:α×β=>av x.1::avs x.2) (fun x=>wf x.1/\wf' x.2):=by
 constructor;intro H enc f fa hb w base vs ds ps hok ht hl;obtain ⟨v,vs,d,ds,p,q,rfl,rfl,rfl,h1,h2⟩:=trodAll_cons ht;rw [hb.cons] at hl;obtain ⟨a,a1,a2⟩:=h.get hb (hok 0 t v rfl rfl) h1 (by omega);obtain ⟨b,b1,b2⟩:=h'.get hb (fun j t v hj hv=>hok (j+1) t v (by simpa using hj) (by simpa using hv)) h2 (by omega);exact ⟨(a,b),⟨a1,b1⟩,(fG.one a2).append b2⟩
theorem JO {H:Type}{enc:TypeId×Value->H}{P:Program}(hl:laidOutB P=true){W W':World}{sp':Nat->Bool}:∀{ts:List TypeId} (_:∀t∈ts,P.readableRec t=true/\t<P.types.size) {vs:List Value} {ds:List (DataW H)} {ps:List MemPlace},
  DataW.TrodAll enc P W 0 (fun _=>true) true ts vs ds ps->(∀p∈ps,W.sameAt W' p)->(∀p∈ps,sp' p.block=true)->DataW.TrodAll enc P W' 0 sp' true ts vs ds ps
 |[],_,_,_,_,h,_,_=>by
  obtain ⟨rfl,rfl,rfl⟩:=trodAll_nil h;exact trodAll_mk0
 |t::ts,hr,_,_,_,h,hs,hsp=>by
  obtain ⟨v,vs,d,ds,p,q,rfl,rfl,rfl,h1,h2⟩:=trodAll_cons h;exact trodAll_cons_mk (WideElems.Trod_stays hl (hr t (by simp)).1 (hr t (by simp)).2 h1 (fun p hp=>hs p (by simp [hp])) (fun p hp=>hsp p (by simp [hp])))
   (JO hl (fun t ht=>hr t (by simp [ht])) h2 (fun p hp=>hs p (by simp [hp])) (fun p hp=>hsp p (by simp [hp])))
section
variable {H : Type} {enc:TypeId×Value->H} {P:Program}
theorem ady {f:Func}{s:ChangeSpec}{apart fresh handsOn again:Bool}{W W':World}{args:Array Value}{v:Value}{ds gs:List (DataW H)}{before pa pv:List MemPlace}
  (hW:DataW.Whole enc P f.params.toList s.vars apart W args.toList ds gs before)
  (hres:∀(b:Nat) (sp:Nat->Bool) (hd:Bool),DataW.TrodAll enc P W' b sp hd f.resultTypes.toList (v.resultList f.resultTypes.size) (s.fn H (ds++gs)).results [])
  (hargs:∀sp:Nat->Bool,(∀p∈before,sp p.block=true)->DataW.TrodAll enc P W' 0 sp true f.params.toList args.toList (s.fn H (ds++gs)).args pa)
  (hvars:∀sp:Nat->Bool,(∀p∈before,sp p.block=true)->DataW.TrodVars enc P W' sp s.vars (s.fn H (ds++gs)).vars pv)
  (hps:before=pa++pv) (hb:Below W.heap.size W W')
  (hok:∀(j:Nat) (t:TypeId) (r:Value),f.resultTypes[j]?=some t->(v.resultList f.resultTypes.size)[j]?=some r->Value.okWide P W' .any 0 t r) :
  s.post enc P f apart fresh handsOn again W args v W':=by
 have hlt:∀p∈before,p.block<W.heap.size:=fun p hp=>hW.lt p hp;have hold:∀p∈before,(fun b=>decide (b<W.heap.size)) p.block=true:=fun p hp=>by simpa using hlt p hp
 refine ⟨ds,gs,before,[],pa,pv,hW,hres _ _ _,hargs _ hold,hvars _ hold,World.keptBut_mono (fun p hp=>⟨hp,?_⟩) (hb.frame (·∈before)),fun _=>?_⟩
 .rw [hps,aH] at hp;exact Or.inr hp
 .obtain ⟨_,_,_,_,_,hz,hn⟩:=hW;refine ⟨hok,_,_,([]++pa)++pv,⟨[]++pa,pv,trodAll_append (hargs _ (fun _ _=>rfl)) (hres _ _ _),hvars _ (fun _ _=>rfl),rfl,?_,?_⟩,?_⟩
  .intro b off hp;have hin:MemPlace.cell b off∈before:=(by rw [hps];simpa using hp);rw [hb.frozen (hlt _ hin)];exact hz b off hin
  .intro ha;have:=hn ha;rw [hps] at this;simpa using this
  .intro p hp _;rw [hps];simpa using hp
end
theorem YI {P:Program}{fid:FuncId}{fn:Func}{s:ChangeSpec}{apart fresh handsOn again:Bool}{α:Type}{avs:α->List AV}{wf:α->Prop}{tb:TypeId}
  (hf:P.funcs[fid]?=some fn) (hbody:fn.body.isNone=false) (hlaid:laidOutB P=true) (hread:∀t∈fn.params.toList,P.readableRec t=true/\t<P.types.size)
  (hrt:fn.resultTypes=#[tb]) (htb:P.underlying tb=some .bool) (hvars:s.vars=[])
  (hs:∀(H:Type) (ds:List (DataW H)),ds.length=fn.params.size->s.fn H ds={results:=[.lit (.bool true)],args:=ds})
  (ra:RdA P fn.params.toList avs wf) (pc:∀a,wf a->PC P fid (avs a) (.p (.bool true)))
  {H:Type} {enc:TypeId×Value->H} {f:DataW H->Nat} {fa:List (DataW H)->Nat} (hb:Qo f fa) {W:World} {base:Nat} {args:Array Value} {ds gs:List (DataW H)} {before:List MemPlace}
  (hval:∀(j:Nat) t v,fn.params[j]?=some t->args[j]?=some v->Value.okWide P W .any base t v)
  (hW:DataW.Whole enc P fn.params.toList s.vars apart W args.toList ds gs before) (hbd:fa (ds++gs)<=lim) (hG:Zg W (fun c _=>c<W.heap.size)) :
  Calls P fid args W fun e W'=>∃v,e=.returned v/\s.post enc P fn apart fresh handsOn again W args v W':=by
 have hW':=hW;obtain ⟨p,q,hA,hV,rfl,hfz,hnd⟩:=hW;rw [hvars] at hV;obtain ⟨rfl,rfl⟩:=trodVars_none hV;simp only [cu] at hW' hbd;have hlen:∀{ts:List TypeId} {vs:List Value} {ds:List (DataW H)} {ps:List MemPlace},DataW.TrodAll enc P W 0 (fun _=>true) true ts vs ds ps->ds.length=ts.length:=by
  intro ts;induction ts with
  |nil=>intro vs ds ps h;obtain ⟨-,rfl,-⟩:=trodAll_nil h;rfl
  |cons t ts ih=>intro vs ds ps h;obtain ⟨_,_,_,_,_,_,_,rfl,_,_,h2⟩:=trodAll_cons h;simp [ih h2]
 obtain ⟨a,ha,hrep⟩:=ra.get hb (fun j t v hj hv=>hval j t v (by simpa using hj) (by simpa using hv)) hA hbd;have hpc:=pc a ha W (fun c _=>c<W.heap.size) args.toList (fun c o h=>h) hG hrep;rw [hf] at hpc;dsimp only at hpc;rw [if_neg (by simp [hbody])] at hpc;have hc:=hpc.2;simp only [Array.toArray_toList] at hc;refine hc.mono fun e W' ⟨v,kF,he,hstep,_,hr⟩=>?_;obtain rfl:=hr.fO;have hbel:=hstep.below;have hspec:=hs H ds (by rw [hlen hA];simp);refine ⟨_,he,ady (pa:=p) (pv:=[]) (gs:=[]) hW' ?_ ?_ ?_ (by simp) hbel ?_⟩
 .intro b sp hd;rw [cu,hspec,hrt];exact trodAll_cons_mk (shut_bool htb _) trodAll_mk0
 .intro sp hsp;rw [cu,hspec];exact JO hlaid hread hA (fun x hx=>hbel.same (hW'.lt x hx)) hsp
 .intro sp hsp;rw [cu,hspec,hvars];rfl
 .exact ok_one hrt rfl (okWide_bool_mk htb _)
end Go.Fw
end
section
namespace Go.Fw
structure dL.wf (v:dL):Prop where
 Kind:Zc .u8 v.Kind
 Num:v.Num<2 ^ 64
 Str:v.Str.length<=lim
 Ref:Zc .i64 v.Ref
structure dP.wf (v:dP):Prop where
 Str:v.Str.length<=lim
 Sym:Zc .i64 v.Sym
structure dN.wf (v:dN):Prop where
 Has:Zc .u8 v.Has
 Value:v.Value.wf
 Get:v.Get.wf
 Set:v.Set.wf
structure dI.wf (v:dI):Prop where
 Key:v.Key.wf
 dQ:v.dQ.wf
structure dJ.wf (v:dJ):Prop where
 Kind:Zc .u8 v.Kind
 fA:v.fA.wf
 Props:ayQ dI.wf v.Props
 Target:v.Target.wf
 Handler:v.Handler.wf
 Text:v.Text.length<=lim
structure dH.wf (v:dH):Prop where
 Objects:ayQ dJ.wf v.Objects
end Go.Fw
end
section
namespace Go.Fw
theorem aks (a b:Int):compare a b=if a<b then Ordering.lt else if a=b then Ordering.eq else Ordering.gt:=rfl
theorem akt (a b:Int):((some (compare a b) == some Ordering.lt)||(some (compare a b) == some Ordering.eq))=decide (a<=b):=by
 rw [aks];split
 .simp;omega
 .split
  .simp;omega
  .simp;omega
theorem aku (a b:Int):((some (compare a b) == some Ordering.gt)||(some (compare a b) == some Ordering.eq))=decide (b<=a):=by
 rw [aks];split
 .simp;omega
 .split
  .simp;omega
  .simp;omega
theorem ayY (a b:Int):(some (compare a b) == some Ordering.eq)=decide (a=b):=by
 rw [aks];split
 .simp;omega
 .split
  .simp;assumption
  .simp;assumption
theorem aqc (a b:Int):(some (compare a b) != some Ordering.eq)=!decide (a=b):=by
 simp only [bne,ayY]
abbrev jm (x:Nat):Ieee.Datum:=FloatKind.f64.format.read x
theorem afo : jm 0=.number false 0 (-1074):=by rfl
theorem aqd : jm 4607182418800017408=.number false 4503599627370496 (-52):=by rfl
theorem sg0 (s:Bool)(u:Nat):Ieee.signed s 0 u=0:=by cases s<;>simp [Ieee.signed]
theorem sgz {s:Bool}{m u:Nat}:Ieee.signed s m u=0↔m=0:=by
 have:(0:Nat)<2 ^ u:=Nat.two_pow_pos u;have h2:m*2 ^ u=0↔m=0:=Nat.mul_eq_zero.trans ⟨fun h=>h.resolve_right (by omega),.inl⟩;cases s
 .simp only [Ieee.signed,aP,if_false,Nat.shiftLeft_eq];omega
 .simp only [Ieee.signed,if_true,Nat.shiftLeft_eq];omega
def vg (x:Nat):Bool:=match jm x with | .nan ..=>true|_=>false
theorem Bf (x:Nat):Kv x x=vg x:=by
 unfold Kv vg Ieee.Format.order;show (Ieee.Datum.order (jm x) (jm x) != some .eq)=_;cases jm x with
 |nan s t=>simp [Ieee.Datum.order]|infinity s=>cases s<;>rfl
 |number s m i=>simp only [Ieee.Datum.order,aqc];simp
theorem MV (x y:Nat):Kv x y=!fEq x y:=rfl
theorem akv (x y:Nat):fEq x y=fEq y x:=by
 unfold fEq Ieee.Format.order;show (Ieee.Datum.order (jm x) (jm y) == some .eq)=(Ieee.Datum.order (jm y) (jm x) == some .eq);generalize jm x=a;generalize jm y=b;match a,b with
 | .nan _ _,.nan _ _=>rfl| .nan _ _,.infinity _=>rfl| .nan _ _,.number _ _ _=>rfl| .infinity _,.nan _ _=>rfl| .number _ _ _,.nan _ _=>rfl| .infinity s,.infinity t=>cases s<;>cases t<;>rfl
 | .infinity s,.number _ _ _=>cases s<;>rfl
 | .number _ _ _,.infinity s=>cases s<;>rfl
 | .number s m i,.number t n j=>
  simp only [Ieee.Datum.order];rw [ayY,ayY,Int.min_comm j i];by_cases h:Ieee.signed s m (i-min i j).toNat=Ieee.signed t n (j-min i j).toNat
  .simp [h]
  .simp [h,Ne.symm h]
theorem D5 (x:Nat):fEq x 0=(jm x).isZero:=by
 unfold fEq Ieee.Format.order;show (Ieee.Datum.order (jm x) (jm 0) == some .eq)=_;rw [afo];cases jm x with
 |nan s t=>rfl|infinity s=>cases s<;>rfl
 |number s m i=>
  simp only [Ieee.Datum.order,ayY,sg0];cases m with
  |zero=>simp [sg0,Ieee.Datum.isZero]|succ m=>simp [sgz,Ieee.Datum.isZero]
theorem aoC (x:Nat):(jm x).neg=(x / 9223372036854775808 % 2 == 1):=by
 unfold jm Ieee.Format.read;have e:FloatKind.f64.format.signWeight=9223372036854775808:=by rfl
 simp only [e];split
 .rfl
 .split
  .rfl
  .split<;>rfl
theorem aqe (x:Nat):jm (x % 9223372036854775808)=match jm x with | .number _ m i=>.number false m i | .infinity _=>.infinity false | .nan _ t=>.nan false t:=by
 unfold jm Ieee.Format.read;have e:FloatKind.f64.format.signWeight=9223372036854775808:=by rfl
 have e2:x % 9223372036854775808 / 9223372036854775808=0:=Nat.div_eq_of_lt (Nat.mod_lt _ (by decide));simp only [e,e2,Nat.mod_mod];split
 .rfl
 .split
  .rfl
  .split<;>rfl
theorem anj {x:Nat}(h:x<2 ^ 64):decide (((IntKind.wrap .i64 (x:Int)):Int)<0)=(jm x).neg:=by
 rw [aoC];have h2:(2:Nat) ^ 64=18446744073709551616:=by decide
 rw [h2] at h;have e:IntKind.wrap .i64 (x:Int)=if (x:Int) % 18446744073709551616>=9223372036854775808 then (x:Int) % 18446744073709551616-18446744073709551616 else (x:Int) % 18446744073709551616:=by
  show (if (true&&decide ((x:Int) % 2 ^ 64>=2 ^ (64-1)))=true then (x:Int) % 2 ^ 64-2 ^ 64 else (x:Int) % 2 ^ 64)=_;simp
 have h3:(x:Int) % 18446744073709551616=x:=by omega
 rw [e,h3];by_cases hx:(x:Int)>=9223372036854775808
 .have h4:x / 9223372036854775808=1:=by omega
  have h5:(x:Int)-18446744073709551616<0:=by omega
  simp [hx,h4,h5]
 .have h4:x / 9223372036854775808=0:=by omega
  have h5:¬(x:Int)<0:=by omega
  simp [hx,h4,h5]
theorem azk (b:BitVec 64):IntKind.wrap .u64 (b.toNat:Int)=b.toNat:=by
 have h:=b.isLt;have h2:(2:Nat) ^ 64=18446744073709551616:=by decide
 rw [h2] at h;show (if (false&&decide ((b.toNat:Int) % 2 ^ 64>=2 ^ (64-1)))=true then (b.toNat:Int) % 2 ^ 64-2 ^ 64 else (b.toNat:Int) % 2 ^ 64)=_;simp;omega
theorem azz {x:Nat}(h:x<2 ^ 64):(nK .u64 (x:Int) 9223372036854775808).toNat=x % 9223372036854775808:=by
 have e1:(BitVec.ofInt 64 (x:Int))=BitVec.ofNat 64 x:=by
  apply BitVec.eq_of_toNat_eq;simp [BitVec.toNat_ofInt]
 have e2 : ~~~ (BitVec.ofInt 64 (9223372036854775808:Int))=BitVec.ofNat 64 (2 ^ 63-1):=by decide
 have e:nK .u64 (x:Int) 9223372036854775808=((BitVec.ofNat 64 x&&&BitVec.ofNat 64 (2 ^ 63-1)).toNat:Int):=by
  show IntKind.wrap .u64 ((BitVec.ofInt 64 (x:Int)&&&~~~ BitVec.ofInt 64 (9223372036854775808:Int)).toNat:Int)=_;rw [e1,e2,azk]
 rw [e,aV,BitVec.toNat_and,BitVec.toNat_ofNat,BitVec.toNat_ofNat,Nat.mod_eq_of_lt h,Nat.mod_eq_of_lt (by decide:2 ^ 63-1<2 ^ 64),Nat.and_two_pow_sub_one_eq_mod]
theorem ayL {s:Bool}{i:Int}{x:Nat}(h:jm x=.number s 0 i):(FloatKind.f64.format.div 4607182418800017408 x).getD 0=FloatKind.f64.format.word s FloatKind.f64.format.infRung:=by
 unfold Ieee.Format.div;show ((Ieee.Datum.quotient _ (jm 4607182418800017408) (jm x)).map _).getD 0=_;rw [aqd,h];have e:Ieee.Datum.quotient (FloatKind.f64.format.fractionBits+2) (.number false 4503599627370496 (-52)) (.number s 0 i)=some (.infinity s):=by
  simp [Ieee.Datum.quotient]
 rw [e];rfl
theorem adz (s:Bool):jm (FloatKind.f64.format.word s 0)=.number s 0 (-1074):=by cases s<;>rfl
theorem akw {s:Bool}{i:Int}{x:Nat}(h:jm x=.number s 0 i):fLt ((FloatKind.f64.format.div 4607182418800017408 x).getD 0) 0=s:=by
 rw [ayL h];cases s<;>rfl
theorem adA {s:Bool}{i:Int}{x:Nat}(h:jm x=.number s 0 i):fGt ((FloatKind.f64.format.div 4607182418800017408 x).getD 0) 0=!s:=by
 rw [ayL h];cases s<;>rfl
theorem Xf (s:Bool):FloatKind.f64.format.nearest s 0 0=FloatKind.f64.format.word s 0:=by cases s<;>rfl
theorem akx (x:Nat)(h:vg x=false):XZ (x % 9223372036854775808) 4845873199050653695=(ZI x 14069245235905429503&&XZ x 4845873199050653695):=by
 unfold XZ ZI Ieee.Format.order;have e1:FloatKind.f64.format.read 4845873199050653695=.number false 9007199254740991 0:=OM;have e2:FloatKind.f64.format.read 14069245235905429503=.number true 9007199254740991 0:=KR;rw [e1,e2];show ((Ieee.Datum.order (jm _) _ == _)||(Ieee.Datum.order (jm _) _ == _))=(((Ieee.Datum.order (jm x) _ == _)||(Ieee.Datum.order (jm x) _ == _))&&((Ieee.Datum.order (jm x) _ == _)||(Ieee.Datum.order (jm x) _ == _)));rw [aqe];unfold vg at h;cases hx:jm x with
 |nan s t=>rw [hx] at h;cases h
 |infinity s=>cases s<;>rfl
 |number s m i=>
  simp only [Ieee.Datum.order,akt,aku];have hp:0<=((m <<< (i-min i 0).toNat:Nat):Int):=Int.natCast_nonneg _;have hq:0<=((9007199254740991 <<< (0-min i 0).toNat:Nat):Int):=Int.natCast_nonneg _;cases s
  .simp only [Ieee.signed,aP,if_false,if_true];generalize ((m <<< (i-min i 0).toNat:Nat):Int)=a at *;generalize ((9007199254740991 <<< (0-min i 0).toNat:Nat):Int)=b at *;by_cases h:a<=b<;>simp [h];omega
  .simp only [Ieee.signed,aP,if_false,if_true];generalize ((m <<< (i-min i 0).toNat:Nat):Int)=a at *;generalize ((9007199254740991 <<< (0-min i 0).toNat:Nat):Int)=b at *;by_cases h:a<=b
   .have : -b <= -a:=(by omega);simp [h,this];omega
   .have:¬(-b <= -a):=(by omega);simp [h,this]
theorem Uu {x:Nat}{s:Bool}{m:Nat}{i:Int}(h:jm x=.number s m i)(y:Nat) :
  fEq (iH x) y=fEq (FloatKind.f64.nearest (((FloatKind.f64.decode x).toInt .zero).getD 0)) y:=by
 have e1:iH x=FloatKind.f64.format.nearest s (m*2 ^ i.toNat / 2 ^ (-i).toNat) 0:=by
  unfold iH FloatKind.decode FloatKind.encode;show FloatKind.f64.format.write ((jm x).integral .zero)=_;rw [h];simp only [Ieee.Datum.integral,MN,Nat.shiftLeft_eq,Ieee.Format.write]
 have e2:((FloatKind.f64.decode x).toInt .zero).getD 0=Ieee.signed s (m*2 ^ i.toNat / 2 ^ (-i).toNat) 0:=by
  unfold FloatKind.decode;show ((jm x).toInt .zero).getD 0=_;rw [h];simp only [Ieee.Datum.toInt,Ieee.Datum.integral,MN,Nat.shiftLeft_eq,Option.getD_some]
 rw [e1,e2];generalize m*2 ^ i.toNat / 2 ^ (-i).toNat=q;have e3:FloatKind.f64.nearest (Ieee.signed s q 0)=FloatKind.f64.format.nearest (s&&decide (q≠0)) q 0:=by
  unfold FloatKind.nearest FloatKind.encode;simp only [Ieee.Format.write];congr 1
  .cases s
   .simp [Ieee.signed]
   .cases q<;>simp [Ieee.signed]
  .cases s<;>simp [Ieee.signed]
 rw [e3];cases q with
 |succ q=>simp|zero=>
  simp only [ne_eq,not_true_eq_false,decide_false,Bool.and_false,Xf];unfold fEq Ieee.Format.order;show (Ieee.Datum.order (jm _) (jm y) == _)=(Ieee.Datum.order (jm _) (jm y) == _);rw [adz,adz];cases jm y with
  |nan=>rfl|infinity=>rfl|number t n j=>simp only [Ieee.Datum.order,sg0]
end Go.Fw
end
section
namespace Go.Fw
theorem auT (a b:List UInt8):Dw a b=decide (a=b):=rfl
theorem aqf (a b:Int):dU a b=decide (a=b):=by unfold dU;exact ay2
theorem auU (a b:Int):jk a b=!decide (a=b):=by unfold jk bne;rw [ay2]
theorem YJ {α:Type}[Inhabited α](l:List α)(k:Nat)(h:k<l.length):l.drop k=l.getD k default::l.drop (k+1):=by
 rw [List.drop_eq_getElem_cons h];simp [aB,h]
theorem aky {α:Type}[Inhabited α](l:List α)(k:Nat)(h:k<l.length):l.take (k+1)=l.take k++[l.getD k default]:=by
 rw [List.take_add_one];simp [aB,h]
theorem aqg {α:Type}[Inhabited α](l:List α)(k:Nat)(h:k<l.length):l.getD k default∈l:=by
 simp [aB,h]
theorem akz {k:Nat}(h:k<=4294967296):fK .i64 (k:Int) 1=((k+1:Nat):Int):=by
 rw [aow (by omega) (by omega)];omega
theorem aht (b:Bool):(!(dU (mg b) 0))=!b:=by rw [am1]
theorem azE {α:Type}(f:α->List AV)(x:List α)(j:Nat):(!(decide ((j:Int)<(jT f x:Int))))=!decide (j<x.length):=by
 rw [jF];congr 1;exact decide_eq_decide.2 (by omega)
theorem azo (a b:dP):(Dw a.Str b.Str&&dU a.Sym b.Sym)=decide (a=b):=by
 cases a;cases b;simp [auT,aqf,Bool.decide_and]
end Go.Fw
end
section
namespace Go.Fw
def qx (r:Int×Bool):AV:=.gW [(.p (.int .i64 r.1)),(.p (.bool r.2))]
def zK (r:dN×Int):AV:=.gW [(dN.av r.1),(.p (.int .i64 r.2))]
def Io (x0:dL):Bool:=
 ((dU x0.Kind 7)||(dU x0.Kind 8))
def zM (x0:Nat):Bool:=
 let v1:Int:=mY x0
 (decide (((IntKind.wrap .i64 v1):Int)<0))
def MW (x0:Nat):Nat:=
 let v1:Int:=mY x0;let v2:Nat:=oC (nK .u64 v1 9223372036854775808)
 v2
def Fj (x0:Nat):Nat:=
 let v1:Nat:=iH x0
 v1
def uG (x0:Nat):Bool:=
 let v1:Nat:=Fj x0;let v2:Nat:=MW x0;let v3:Bool:=zM x0
 ((Kv x0 x0)||(((fEq v1 x0)&&(XZ v2 4845873199050653695))&&((Kv x0 0)||(!v3))))
def iI (x0:dL):Bool:=
 let v1:Bool:=uG x0.Num;let v2:Bool:=uG x0.Num;let v3:Bool:=uG (bif (dU x0.Kind 2) then 0 else (bif (dU x0.Kind 3) then 0 else x0.Num))
 bif (((decide ((x0.Kind:Int) > 8))||(decide ((x0.Ref:Int)<0)))||(decide (((sLen x0.Str):Int) > 4096))) then false
 else bif ((dU x0.Kind 2)&&((Kv x0.Num 4607182418800017408)&&((Kv x0.Num 0)||(!v1)))) then false
 else bif ((!(dU x0.Kind 2))&&((dU x0.Kind 3)&&(!v2))) then false
 else (((dU x0.Kind x0.Kind)&&(((dU x0.Kind 2)||((dU x0.Kind 3)||(fEq x0.Num 0)))&&((bif (dU x0.Kind 2) then (Dw x0.Str []) else (bif (dU x0.Kind 3) then (Dw x0.Str []) else ((dU x0.Kind 4)||(Dw x0.Str []))))&&(bif (dU x0.Kind 2) then (dU x0.Ref 0) else (bif (dU x0.Kind 3) then (dU x0.Ref 0) else (bif (dU x0.Kind 4) then (dU x0.Ref 0) else (((dU x0.Kind 5)||((dU x0.Kind 6)||((dU x0.Kind 7)||(dU x0.Kind 8))))||(dU x0.Ref 0))))))))&&v3)
def lC (x0:dL):Bool:=
 let v1:Bool:=iI x0;let v2:Bool:=Io x0
 (v1&&((dU x0.Kind 0)||v2))
def iy (x0:dN):Bool:=
 (jk (jl .u8 x0.Has 12) 0)
def kE (x0:dN):Bool:=
 (jk (jl .u8 x0.Has 3) 0)
def rX (x0:dN):Int:=
 let v1:Bool:=kE x0;let v2:Bool:=iy x0;let v3:Bool:=iI x0.Value;let v4:Bool:=lC x0.Get;let v5:Bool:=lC x0.Set
 bif (((((jk (nK .u8 x0.Has 63) 0)||(v1&&v2))||(!v3))||(!v4))||(!v5)) then 90
 else bif ((((jk (jl .u8 (EM .u8 x0.Has) 1) 0)&&(!((dU x0.Value.Kind 0)&&((fEq x0.Value.Num 0)&&((Dw x0.Value.Str [])&&(dU x0.Value.Ref 0))))))||((jk (jl .u8 (EM .u8 x0.Has) 4) 0)&&(!((dU x0.Get.Kind 0)&&((fEq x0.Get.Num 0)&&((Dw x0.Get.Str [])&&(dU x0.Get.Ref 0)))))))||((jk (jl .u8 (EM .u8 x0.Has) 8) 0)&&(!((dU x0.Set.Kind 0)&&((fEq x0.Set.Num 0)&&((Dw x0.Set.Str [])&&(dU x0.Set.Ref 0))))))) then 90
 else bif ((((jk (jl .u8 (EM .u8 x0.Has) 2) 0)&&x0.eH)||((jk (jl .u8 (EM .u8 x0.Has) 16) 0)&&x0.dS))||((jk (jl .u8 (EM .u8 x0.Has) 32) 0)&&x0.Configurable)) then 90
 else 0
def kS (x0:dN):dN:=
 let v1:Bool:=iy x0
 (dN.mk (bif v1 then (ZH .u8 x0.Has 60) else (ZH .u8 x0.Has 51)) x0.Value x0.Get x0.Set x0.eH x0.dS x0.Configurable)
def dR (x0:dL):Bool:=
 ((decide ((x0.Kind:Int)>=6))&&(decide ((x0.Kind:Int)<=8)))
def fP (x0:dN)(x1:Int):Bool:=
 (dU (LV .u8 (LU .u8 x0.Has x1) 2) 1)
def iJ (x0:dN):Bool:=
 let v1:Bool:=fP x0 4;let v2:Bool:=fP x0 8
 (v1||v2)
def jP (x0:dN):Bool:=
 let v1:Bool:=fP x0 1;let v2:Bool:=fP x0 2
 (v1||v2)
def KW (x0:Nat)(x1:Nat):Bool:=
 bif ((Kv x0 x0)||(Kv x1 x1)) then ((Kv x0 x0)&&(Kv x1 x1))
 else ((fEq x0 x1)&&((Kv x0 0)||(fEq ((FloatKind.f64.format.div 4607182418800017408 x0).getD 0) ((FloatKind.f64.format.div 4607182418800017408 x1).getD 0))))
def Iq (x0:dL)(x1:dL):Bool:=
 let v2:Bool:=KW x0.Num x1.Num
 ((((dU x0.Kind x1.Kind)&&(Dw x0.Str x1.Str))&&(dU x0.Ref x1.Ref))&&v2)
def iC (x0:dL):Bool:=
 let v1:Bool:=Iq x0 (dL.mk 0 0 [] 0)
 v1
def iU (x0:Nat):Bool:=
 ((fEq x0 0)&&(fGt ((FloatKind.f64.format.div 4607182418800017408 x0).getD 0) 0))
def Ir (x0:Nat):Int×Bool:=
 bif (!((ZI x0 14069245235905429503)&&(XZ x0 4845873199050653695))) then (0,false)
 else bif ((Kv (FloatKind.f64.nearest (((FloatKind.f64.decode x0).toInt .zero).getD 0)) x0)||((fEq x0 0)&&(fLt ((FloatKind.f64.format.div 4607182418800017408 x0).getD 0) 0))) then (0,false)
 else ((((FloatKind.f64.decode x0).toInt .zero).getD 0),true)
def Ji (x0:Nat):Bool:=
 let v1:Int×Bool:=Ir x0
 (v1.2||(Kv x0 x0))
def kT (x0:dL):Bool:=
 let v1:Bool:=iU x0.Num;let v2:Bool:=Ji x0.Num
 bif (decide ((x0.Kind:Int) > 8)) then false
 else (((bif (dU x0.Kind 3) then v2 else (bif (dU x0.Kind 2) then (v1||(fEq x0.Num 4607182418800017408)) else v1))&&((Dw x0.Str [])||((dU x0.Kind 4)&&(decide (((sLen x0.Str):Int)<=4096)))))&&((dU x0.Ref 0)||((decide ((x0.Kind:Int)>=5))&&(decide ((x0.Ref:Int) > 0)))))
def abb (x0:dL):Bool:=
 ((dU x0.Kind 7)||(dU x0.Kind 8))
def iq (x0:dL):Bool:=
 let v1:Bool:=kT x0;let v2:Bool:=abb x0
 (v1&&((dU x0.Kind 0)||v2))
def jv (x0:dN):Int:=
 let v1:Bool:=jP x0;let v2:Bool:=iJ x0;let v3:Bool:=iC x0.Value;let v4:Bool:=fP x0 1;let v5:Bool:=kT x0.Value;let v6:Bool:=iC x0.Get;let v7:Bool:=fP x0 4;let v8:Bool:=iq x0.Get;let v9:Bool:=iC x0.Set;let v10:Bool:=fP x0 8;let v11:Bool:=iq x0.Set;let v12:Bool:=fP x0 2;let v13:Bool:=fP x0 16;let v14:Bool:=fP x0 32
 bif ((decide ((x0.Has:Int) > 63))||(v1&&v2)) then 90
 else bif ((((!(bif v4 then v5 else v3))||(!(bif v7 then v8 else v6)))||(!(bif v10 then v11 else v9)))||(!((((!x0.eH)||v12)&&((!x0.dS)||v13))&&((!x0.Configurable)||v14)))) then 90
 else 0
def gU (x0:dN):Bool:=
 let v1:Int:=jv x0
 ((dU v1 0)&&((dU x0.Has 51)||(dU x0.Has 60)))
def wI (x0:dL):Bool:=
 (((dU x0.Kind 6)||(dU x0.Kind 7))||(dU x0.Kind 8))
def yF (x0:dN):dN×Int:=
 let v1:Int:=rX x0;let v2:dN:=kS x0
 bif (jk v1 0) then ((dN.mk 0 (dL.mk 0 0 [] 0) (dL.mk 0 0 [] 0) (dL.mk 0 0 [] 0) false false false),v1)
 else (v2,0)
end Go.Fw
end
