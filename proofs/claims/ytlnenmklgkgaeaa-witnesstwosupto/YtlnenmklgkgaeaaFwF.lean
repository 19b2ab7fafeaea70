/- Machinery of this seat's proofs (S16, S17, Ty, Sx, Lp, Mx, Cl, Cn, Mt, Rf, O1, O2, O3, Lq, Br, Wf, Nm, Ar): lemmas that the last text uses; no statement of its own. -/
import Derived.Test.YtlnenmklgkgaeaaFwE
import Derived.Lib.ReflectliteSlice
import Derived.Laws.Externs
import Derived.Test.YtlnenmklgkgaeaaFwA
import Derived.Test.YtlnenmklgkgaeaaFwB
import Derived.WideKeyArgs
import Derived.Below
import Derived.RowKit
import Derived.OpenShut
import Derived.ChangeMaps5
import Derived.ChangeSame
import Derived.ProofKit
import Derived.JoinedCond
section
set_option linter.unusedVariables false
set_option linter.unusedSimpArgs false
set_option linter.unusedSectionVars false
namespace Go.Fw
variable [Glob]
set_option linter.unusedSimpArgs false
set_option linter.unusedVariables false
set_option linter.unnecessarySimpa false
set_option linter.unusedSectionVars false
section
variable {P : Program} {ρ:List AV} {X:Ext'} {inl:Inl} {isI:FuncId→Bool}
def KOk (P:Program)(ρ:List AV)(N:Nat)(k:Pc→St'→Nat→Option CRes)(A:AFr→AH→Nat→AQ→Prop):Prop:=
 ∀pc st nv x,k pc st nv=some x→Pc.holds ρ pc→SidesX P ρ x.sd→AwOk P ρ x.aw→∀fr ah nx,StW ρ N st fr ah nx→A fr ah nx (Sel ρ N x.outs)
theorem sides_l {a b:List (Pc×Sd)}(h:SidesX P ρ (a++b)):SidesX P ρ a:=fun x hx=>h x (by simp [hx])
theorem sides_r {a b:List (Pc×Sd)}(h:SidesX P ρ (a++b)):SidesX P ρ b:=fun x hx=>h x (by simp [hx])
theorem aws_l {a b:List Lo}(h:AwOk P ρ (a++b)):AwOk P ρ a:=(LoL_app.1 h).1
theorem aws_r {a b:List Lo}(h:AwOk P ρ (a++b)):AwOk P ρ b:=(LoL_app.1 h).2
theorem sThen_ne {k:Pc→St'→Nat→Option CRes}(hk:∀pc st nv x,k pc st nv=some x→x.outs≠[]):∀{l:List Out} {pc:Pc} {nv:Nat} {x:CRes},sThen k pc l nv=some x→x.outs≠[]
 |[],pc,nv,x,h=>by simp [sThen] at h
 |[o],pc,nv,x,h=>by
  simp only [sThen] at h
  cases hn:isN o.e
  ·simp only [hn,cond_false,Option.some.injEq] at h;subst h;simp
  ·simp only [hn,cond_true] at h;exact hk _ _ _ _ h
 |o::o'::r,pc,nv,x,h=>by
  simp only [sThen] at h
  cases hn:isN o.e
  ·simp only [hn,cond_false] at h
   split at h
   ·cases h
   ·simp only [Option.some.injEq] at h;subst h;simp
  ·simp only [hn,cond_true] at h
   split at h
   ·cases h
   ·rename_i y hy
    split at h
    ·cases h
    ·rename_i z hz
     simp only [Option.some.injEq] at h;subst h
     have:=sThen_ne hk hz
     simp [this]
theorem sThen_ok {N:Nat}{k:Pc→St'→Nat→Option CRes}{A:AFr→AH→Nat→AQ→Prop}(hA:∀fr ah nx (Q Q':AQ),(∀e fr ah nx,Q e fr ah nx→Q' e fr ah nx)→A fr ah nx Q→A fr ah nx Q')
  (hne:∀pc st nv x,k pc st nv=some x→x.outs≠[]) (hk:KOk P ρ N k A):∀{l:List Out} {pc:Pc} {nv:Nat} {x:CRes},sThen k pc l nv=some x→Pc.holds ρ pc→SidesX P ρ x.sd→AwOk P ρ x.aw→
  ∀e fr ah nx,Sel ρ N l e fr ah nx→AThen (fun fr ah nx=>A fr ah nx (Sel ρ N x.outs)) (Sel ρ N x.outs) e fr ah nx
 |[],pc,nv,x,h,hp,hs,ha,e,fr,ah,nx,hsel=>by simp [sThen] at h
 |[o],pc,nv,x,h,hp,hs,ha,e,fr,ah,nx,hsel=>by
  obtain ⟨st,h1,h2⟩:=hsel
  simp only [sel,Option.some.injEq,Prod.mk.injEq] at h1
  obtain ⟨rfl,rfl⟩:=h1
  simp only [sThen] at h
  cases hn:isN o.e
  ·simp only [hn,cond_false,Option.some.injEq] at h;subst h
   have hQ:Sel ρ N [o] o.e fr ah nx:=⟨o.st,rfl,h2⟩
   revert hQ hn
   generalize o.e=e
   intro hn hQ
   cases e<;>first|(simp [isN] at hn;done)|exact hQ
  ·simp only [hn,cond_true] at h
   rw [isN_eq hn]
   exact hk _ _ _ _ h hp hs ha fr ah nx h2
 |o::o'::r,pc,nv,x,h,hp,hs,ha,e,fr,ah,nx,hsel=>by
  obtain ⟨st,h1,h2⟩:=hsel
  simp only [sel] at h1
  simp only [sThen] at h
  cases hn:isN o.e
  ·simp only [hn,cond_false] at h
   split at h
   ·cases h
   ·rename_i y hy
    simp only [Option.some.injEq] at h;subst h
    have hyne:=sThen_ne hne hy
    cases hg:(o.g.den ρ).B
    ·rw [hg] at h1
     have ih:=sThen_ok hA hne hk hy (addPc_holds hg hp) hs ha e fr ah nx ⟨st,h1,h2⟩
     have lift:∀e fr ah nx,Sel ρ N y.outs e fr ah nx→Sel ρ N (o::y.outs) e fr ah nx:=by
      intro e fr ah nx ⟨st,q1,q2⟩
      obtain ⟨z,s,hz⟩:=List.exists_cons_of_ne_nil hyne
      rw [hz] at q1 ⊢
      exact ⟨st,by simp [sel,hg,q1],q2⟩
     cases e with
     |normal=>exact hA _ _ _ _ _ lift ih
     |_=>exact lift _ _ _ _ ih
    ·rw [hg] at h1
     simp only [cond_true,Option.some.injEq,Prod.mk.injEq] at h1
     obtain ⟨rfl,rfl⟩:=h1
     obtain ⟨z,s,hz⟩:=List.exists_cons_of_ne_nil hyne
     have hQ:Sel ρ N (o::y.outs) o.e fr ah nx:=⟨o.st,by rw [hz];simp [sel,hg],h2⟩
     revert hQ hn
     generalize hoe:o.e=e
     intro hn hQ
     cases e<;>first|(simp [isN] at hn;done)|exact hQ
  ·simp only [hn,cond_true] at h
   split at h
   ·cases h
   ·rename_i y hy
    split at h
    ·cases h
    ·rename_i z hz
     simp only [Option.some.injEq] at h;subst h
     have hzne:=sThen_ne hne hz
     cases hg:(o.g.den ρ).B
     ·rw [hg] at h1
      have ih:=sThen_ok hA hne hk hz (addPc_holds hg hp) (sides_r hs) (aws_r ha) e fr ah nx ⟨st,h1,h2⟩
      have lift:∀e fr ah nx,Sel ρ N z.outs e fr ah nx→Sel ρ N (guardA o.g y.outs++z.outs) e fr ah nx:=by
       intro e fr ah nx ⟨st,q1,q2⟩
       exact ⟨st,by rw [sel_guardA hzne,hg];simpa using q1,q2⟩
      cases e with
      |normal=>exact hA _ _ _ _ _ lift ih
      |_=>exact lift _ _ _ _ ih
     ·rw [hg] at h1
      simp only [cond_true,Option.some.injEq,Prod.mk.injEq] at h1
      obtain ⟨rfl,rfl⟩:=h1
      rw [isN_eq hn]
      refine hA _ _ _ _ _ (fun e fr ah nx ⟨st,q1,q2⟩=>⟨st,?_,q2⟩) (hk _ _ _ _ hy (addPc_holds hg hp) (sides_l hs) (aws_l ha) fr ah nx h2)
      have hyne:y.outs≠[]:=sel_ne q1
      rw [sel_guardA hzne,hg]
      simpa [hyne] using q1
theorem sel_mapG {l:List (Tm×RQ)}:sel ρ (l.map fun x=>(⟨x.1,.normal,⟨x.2.tr,x.2.th,x.2.nx⟩⟩:Out))=(selG ρ l).map fun R=>(Exit.normal,(⟨R.tr,R.th,R.nx⟩:St')):=by
 induction l with
 |nil=>rfl
 |cons x l ih=>
  cases l with
  |nil=>rfl
  |cons y r=>
   simp only [List.map_cons,sel,selG] at ih ⊢
   rw [ih]
   cases (x.1.den ρ).B<;>rfl
theorem swE_swE (l:Nat)(e:Exit):swE l (swE l e)=e:=by
 cases e with
 |normal=>simp [swE]
 |goto m=>
  simp only [swE]
  cases h:Nat.beq m l
  ·simp [swE,h]
  ·simp only [cond_true,swE]
   rw [Nat.eq_of_beq_eq_true h]
 |_=>rfl
theorem sel_swO {l:Nat}:∀{o:List Out},sel ρ (swO l o)=(sel ρ o).map fun x=>(swE l x.1,x.2)
 |[]=>rfl
 |[x]=>rfl
 |x::y::r=>by
  have ih:=sel_swO (l:=l) (o:=y::r)
  simp only [swO,List.map_cons,sel] at ih ⊢
  rw [ih]
  cases (x.g.den ρ).B<;>rfl
theorem Sel.sw {N l:Nat}{o:List Out}{e:Exit}{fr:AFr}{ah:AH}{nx:Nat}(h:Sel ρ N o e fr ah nx):Sel ρ N (swO l o) (swE l e) fr ah nx:=by
 obtain ⟨st,h1,h2⟩:=h
 exact ⟨st,by rw [sel_swO,h1];rfl,h2⟩
theorem gotoOf_none : ∀{o:List Out} {x:Exit×St'},gotoOf o=none→sel ρ o=some x→∀l,x.1≠.goto l
 |[],x,h,hs,l=>by simp [sel] at hs
 |[y],x,h,hs,l=>by
  simp only [sel,Option.some.injEq] at hs;subst hs
  simp only [gotoOf] at h
  split at h
  ·cases h
  ·rename_i hn;exact hn l
 |y::z::r,x,h,hs,l=>by
  rw [gotoOf] at h
  split at h
  ·cases h
  ·rename_i hn
   simp only [sel] at hs
   cases hb:(y.g.den ρ).B
   ·rw [hb] at hs;exact gotoOf_none h hs l
   ·rw [hb] at hs;simp only [cond_true,Option.some.injEq] at hs;subst hs;exact hn l
theorem sJmp_ne {run:Pc→St'→Nat→Code→Option CRes}{c:Code}(hne:∀pc st nv c x,run pc st nv c=some x→x.outs≠[]):∀{n:Nat} {pc:Pc} {outs:List Out} {nv:Nat} {y:CRes},outs≠[]→sJmp run c n pc outs nv=some y→y.outs≠[]
 |0,pc,outs,nv,y,_,h=>by simp [sJmp] at h
 |n+1,pc,outs,nv,y,ho,h=>by
  simp only [sJmp] at h
  split at h
  ·simp only [Option.some.injEq] at h;subst h;exact ho
  ·split at h
   ·cases h
   ·split at h
    ·cases h
    ·rename_i y0 hy
     split at h
     ·simp only [Option.some.injEq] at h;subst h
      have:y0.outs≠[]:=sThen_ne (fun pc st nv x hx=>by
       split at hx
       ·cases hx
       ·rename_i x1 hx1
        split at hx
        ·cases hx
        ·rename_i y1 hy1
         simp only [Option.some.injEq] at hx;subst hx
         have:=sJmp_ne hne (hne _ _ _ _ _ hx1) hy1
         simp [swO,this]) hy
      simp [swO,this]
     ·cases h
theorem sJmp_ok {N:Nat}{run:Pc→St'→Nat→Code→Option CRes}{c:Code}(hrun:∀c,KOk P ρ N (fun pc st nv=>run pc st nv c) fun fr ah nx Q=>AW P c fr ah nx Q)(hne:∀pc st nv c x,run pc st nv c=some x→x.outs≠[]) :
  ∀{n:Nat} {pc:Pc} {outs:List Out} {nv:Nat} {y:CRes},sJmp run c n pc outs nv=some y→Pc.holds ρ pc→SidesX P ρ y.sd→AwOk P ρ y.aw→∀e fr ah nx,Sel ρ N outs e fr ah nx→AScQ P c (Sel ρ N y.outs) e fr ah nx
 |0,pc,outs,nv,y,h,_,_,_,_,_,_,_,_=>by simp [sJmp] at h
 |n+1,pc,outs,nv,y,h,hp,hs,haw,e,fr,ah,nx,hsel=>by
  simp only [sJmp] at h
  split at h
  ·rename_i hg
   simp only [Option.some.injEq] at h;subst h
   obtain ⟨st,h1,h2⟩:=hsel
   have:=gotoOf_none hg h1
   cases e with
   |goto l=>exact absurd rfl (this l)
   |_=>exact ⟨st,h1,h2⟩
  ·rename_i l hl
   split at h
   ·cases h
   ·rename_i rest hf
    split at h
    ·cases h
    ·rename_i y0 hy0
     split at h
     ·rename_i hgn
      simp only [Option.some.injEq] at h;subst h
      have key:=sThen_ok (P:=P) (ρ:=ρ) (N:=N) (A:=fun fr ah nx Q=>AScope P c rest fr ah nx (fun e fr ah nx=>Q (swE l e) fr ah nx))
       (fun _ _ _ _ _ hQ h=>AScope.mono h fun e=>hQ (swE l e)) (fun pc st nv x hx=>by
        split at hx
        ·cases hx
        ·rename_i x1 hx1
         split at hx
         ·cases hx
         ·rename_i y1 hy1
          simp only [Option.some.injEq] at hx;subst hx
          have:=sJmp_ne hne (hne _ _ _ _ _ hx1) hy1
          simp [swO,this])
       (fun pc st nv x hx hp hs haw fr ah nx hst=>by
        split at hx
        ·cases hx
        ·rename_i x1 hx1
         split at hx
         ·cases hx
         ·rename_i y1 hy1
          simp only [Option.some.injEq] at hx;subst hx
          refine AScope_step (AW.mono (hrun rest _ _ _ _ hx1 hp (sides_l hs) (aws_l haw) fr ah nx hst) fun e fr ah nx hsel=>?_)
          have ih:=sJmp_ok hrun hne hy1 hp (sides_r hs) (aws_r haw) e fr ah nx hsel
          cases e with
          |goto m=>
           simp only [AScQ] at ih ⊢
           split
           ·rename_i r hr
            rw [hr] at ih
            exact AScope.mono ih fun e fr ah nx h=>h.sw
           ·rename_i hr
            rw [hr] at ih
            exact ih.sw
          |_=>exact Sel.sw ih) hy0 hp hs haw (swE l e) fr ah nx hsel.sw
      have conv:∀e fr ah nx,Sel ρ N y0.outs (swE l e) fr ah nx→Sel ρ N (swO l y0.outs) e fr ah nx:=by
       intro e fr ah nx h
       have:=h.sw (l:=l)
       rwa [swE_swE] at this
      cases e with
      |normal=>exact conv .normal _ _ _ key
      |goto m=>
       by_cases hm:m=l
       ·subst hm
        simp only [swE,Nat.beq_refl,cond_true] at key
        simp only [AScQ,hf]
        exact AScope.mono key conv
       ·have hb:Nat.beq m l=false:=by
         cases hb:Nat.beq m l
         ·rfl
         ·exact absurd (Nat.eq_of_beq_eq_true hb) hm
        have e1:swE l (.goto m)=.goto m:=by simp [swE,hb]
        rw [e1] at key
        have k2:Sel ρ N (swO l y0.outs) (.goto m) fr ah nx:=conv (.goto m) _ _ _ (by rw [e1];exact key)
        obtain ⟨st,q1,q2⟩:=k2
        exact absurd rfl (gotoOf_none hgn q1 m)
      |exit id=>exact conv (.exit id) _ _ _ key
      |ret=>exact conv .ret _ _ _ key
      |panic ch=>exact conv (.panic ch) _ _ _ key
      |outgrown=>exact conv .outgrown _ _ _ key
     ·cases h
theorem sReg_ok {N:Nat}{pc:Pc}{st:St'}{nv:Nat}{id:Nat}{ops:Array Oper}{draw:Bool}{x:CRes}(hm:P.follows .mixedOrders=true)(hρ:fzL ρ=true)(hX:ExtOk P ρ X)(hI:InlOk P ρ inl)(h:sReg P X inl isI N pc st nv ops draw=some x)
  (hp:Pc.holds ρ pc) (hs:SidesX P ρ x.sd) {fr:AFr} {ah:AH} {nx:Nat} (hst:StW ρ N st fr ah nx):AW P (.region id ops draw) fr ah nx (Sel ρ N x.outs):=by
 refine AW_canon hst fun fr0 ah0 hf ha hN=>?_
 unfold sReg at h
 split at h
 ·cases h
 ·rename_i R hR
  simp only [Option.some.injEq] at h;subst h
  cases draw with
  |true=>
   simp only [cond_true] at hR
   cases hc:edgesOk ops&&slotsOk ops (masks ops.toList [])
   ·simp [hc] at hR
   ·simp only [hc,cond_true] at hR
    simp only [Bool.and_eq_true] at hc
    intro base w E a hsim
    refine wp_region_any hm ?_
    obtain ⟨d1,d2⟩:=draw_ok hsim.heap (w.drawn+1)
    obtain ⟨R',L,frE,ahE,q1,q2,q3,q4,q5,q6,q7,q8,q9⟩:=sDraw_ok (P:=P) (base:=base) hρ hX hI ops.toList 0 fr0 ah0 hR hp hs hf ha hN (by simp)
    have hsz:L.length=ops.size:=by rw [q2];simp
    have get:∀k,k<ops.size→∃o r,ops[k]?=some o∧L[k]?=some r∧DGood P ops base (masks ops.toList []) 0 ops.toList L frE ahE R'.nx [] [] [] k o r:=fun k hk=>by
     have h1:ops[k]?=some ops[k]:=by simp [hk]
     have h2:L[k]?=some L[k]:=by simp [hsz,hk]
     exact ⟨_,_,h1,h2,q9 k _ _ (by simpa using h1) h2⟩
    have atS:∀{α:Type} (f:OpRec→α) (e:α) (k:Nat) (r:OpRec),L[k]?=some r→atO f L e k=f r:=fun f e k r h=>by unfold atO;rw [h]
    have mono1:∀k,k<ops.size→atO (·.nx) L R'.nx k≤atO (·.nx) L R'.nx (k+1):=fun k hk=>by
     obtain ⟨o,r,h1,h2,g⟩:=get k hk
     rw [atS _ _ k r h2];exact g.nx
    have mono:∀n m,m+n≤ops.size→atO (·.nx) L R'.nx m≤atO (·.nx) L R'.nx (m+n):=by
     intro n
     induction n with
     |zero=>intro m _;exact Nat.le_refl _
     |succ n ih=>intro m hm;exact Nat.le_trans (ih m (by omega)) (mono1 (m+n) (by omega))
    have hend:atO (·.nx) L R'.nx ops.size=R'.nx:=by unfold atO;rw [List.getElem?_eq_none (by omega)]
    have hendf:atO (·.fr) L frE ops.size=frE:=by unfold atO;rw [List.getElem?_eq_none (by omega)]
    have henda:atO (·.ah) L ahE ops.size=ahE:=by unfold atO;rw [List.getElem?_eq_none (by omega)]
    have hL:DRec P ops base (masks ops.toList []) (fun b=>st.nx≤b) (fun k=>atO (·.fr) L frE k) (fun k=>atO (·.ah) L ahE k) (fun k=>atO (·.rv) L undefA k) (fun k=>atO (·.WR) L (fun _=>false) k) (fun k=>atO (·.RD) L (fun _=>false) k)
      (fun k=>atO (·.NEW) L (fun _=>False) k) (fun k=>atO (·.REQ) L (fun _=>False) k):=by
     refine ⟨fun j o ho=>?_,fun j o ho=>?_,fun j b hj=>?_,fun j hj j' hj'=>?_,fun j b hj=>?_,fun x y hx hy hxy=>?_⟩
     ·have hj:=(Array.getElem?_eq_some_iff.1 ho).1
      obtain ⟨o',r,h1,h2,g⟩:=get j hj
      rw [ho] at h1;cases h1
      simp only [atS _ _ j r h2]
      have:=g.step
      rw [Nat.zero_add] at this
      exact this
     ·have hj:=(Array.getElem?_eq_some_iff.1 ho).1
      obtain ⟨o',r,h1,h2,g⟩:=get j hj
      rw [ho] at h1;cases h1
      simp only [atS _ _ j r h2]
      exact g.fr
     ·obtain ⟨o,r,h1,h2,g⟩:=get j hj
      simp only [atS _ _ j r h2]
      exact g.ah b
     ·obtain ⟨o,r,h1,h2,g⟩:=get j hj
      obtain ⟨o',r',h1',h2',g'⟩:=get j' (by omega)
      simp only [atS _ _ j r h2,atS _ _ j' r' h2']
      have:=(g.prev j' r' hj' h2').1
      rw [Nat.zero_add,Nat.zero_add] at this
      exact this
     ·obtain ⟨o,r,h1,h2,g⟩:=get j hj
      simp only [atS _ _ j r h2]
      intro hb
      have e1:=g.req b hb
      have e2:=mono j 0 (by omega)
      rw [Nat.zero_add,q8,atS _ _ j r h2] at e2
      exact Nat.le_trans e2 e1
     ·obtain ⟨ox,rx,hx1,hx2,gx⟩:=get x hx
      obtain ⟨oy,ry,hy1,hy2,gy⟩:=get y hy
      simp only [atS _ _ x rx hx2,atS _ _ y ry hy2]
      rcases Nat.lt_or_gt_of_ne hxy with hlt|hgt
      ·refine .inr fun b hb hn=>?_
       have e1:=gx.new b hn
       have e2:=gy.req b hb
       have e3:=mono (y-(x+1)) (x+1) (by omega)
       rw [show x+1+(y-(x+1))=y by omega,atS _ _ y ry hy2] at e3
       have:b<ry.nx:=Nat.lt_of_lt_of_le e1 e3
       omega
      ·cases hcy:ry.call with
       |true=>
        rcases (gx.prev y ry hgt hy2).2.1 hcy with h|h
        ·rw [Nat.zero_add,Nat.zero_add] at h;exact .inl h
        ·exact .inr fun b hb hn=>h b hb hn
       |false=>
        cases hcx:rx.call with
        |true=>
         rcases (gx.prev y ry hgt hy2).2.2 hcx with h|h
         ·rw [Nat.zero_add,Nat.zero_add] at h;exact .inl h
         ·exact .inr fun b hb=>(h b hb).elim
        |false=>
         refine .inr fun b hb hn=>?_
         have e1:=(gy.plain hcy).1 b hb
         have e2:=(gx.plain hcx).2 b hn
         have e3:=mono (x-(y+1)) (y+1) (by omega)
         rw [show y+1+(x-(y+1))=x by omega,atS _ _ x rx hx2] at e3
         have:b<rx.nx:=Nat.lt_of_lt_of_le e1 e3
         omega
    refine drec_draw hc.1 hc.2 hL (by simp only [q7];exact d2) (by simp only [q6];exact hsim.fr.mono d1.ext) (fun a' w' hp'=>?_)
    obtain ⟨E',p1,p2,p3,p4⟩:=hp'
    simp only [hendf,henda] at p2 p3
    refine ⟨E',frE,ahE,R'.nx,⟨⟨R'.tr,R'.th,R'.nx⟩,by rw [sel_mapG,q1];rfl,StW.of q3 q4 q5 (Nat.le_refl _)⟩,⟨p2.weaken fun b hb=>⟨?_,fun i hi hn=>?_⟩,p3,by rw [p4];exact hsim.defers⟩,d1.trans p1⟩
    ·have:=mono ops.size 0 (by omega)
     rw [Nat.zero_add,hend,q8] at this
     exact Nat.le_trans this hb
    ·obtain ⟨o,r,h1,h2,g⟩:=get i hi
     rw [atS _ _ i r h2] at hn
     have e1:=g.new b hn
     have e3:=mono (ops.size-(i+1)) (i+1) (by omega)
     rw [show i+1+(ops.size-(i+1))=ops.size by omega,hend] at e3
     have:b<R'.nx:=Nat.lt_of_lt_of_le e1 e3
     have hb':R'.nx≤b:=hb
     omega
  |false=>
   simp only [cond_false] at hR
   intro base w E a hsim
   refine wp_region ?_
   have:=sSeq_ok (isI:=isI) (Q:=APost base w E (Sel ρ N (R.outs.map fun x=>⟨x.1,.normal,⟨x.2.tr,x.2.th,x.2.nx⟩⟩))) (base:=base) hρ hX hI ops.toList 0 fr0 ah0 w E a hR hp hs hf ha hN (by simp) hsim.heap hsim.fr (fun R' hR' a' w' hpost=>?_)
   ·simpa [List.range_eq_range'] using this
   ·obtain ⟨E',fr',ah',q1,q2,q3,q4,q5,q6,q7⟩:=hpost
    exact ⟨E',fr',ah',R'.nx,⟨⟨R'.tr,R'.th,R'.nx⟩,by rw [sel_mapG,hR'];rfl,StW.of q1 q2 q3 (Nat.le_refl _)⟩,⟨q5,q6,by rw [q7];exact hsim.defers⟩,q4⟩
def RoundsA (P:Program)(c:Code)(Q:AQ):Nat→AFr→AH→Nat→Prop
 |0,_,_,_=>False
 |n+1,fr,ah,nx=>AW P c fr ah nx (AThen (RoundsA P c Q n) Q)
theorem AThen_mono {K K':AFr→AH→Nat→Prop}{Q Q':AQ}(hK:∀fr ah nx,K fr ah nx→K' fr ah nx)(hQ:∀e fr ah nx,Q e fr ah nx→Q' e fr ah nx):∀e fr ah nx,AThen K Q e fr ah nx→AThen K' Q' e fr ah nx:=by
 intro e fr ah nx h
 cases e<;>first|exact hK _ _ _ h|exact hQ _ _ _ _ h
theorem RoundsA_mono {c:Code}{Q Q':AQ}(hQ:∀e fr ah nx,Q e fr ah nx→Q' e fr ah nx):∀{n:Nat} {fr:AFr} {ah:AH} {nx:Nat},RoundsA P c Q n fr ah nx→RoundsA P c Q' n fr ah nx
 |0,_,_,_,h=>h
 |n+1,fr,ah,nx,h=>AW.mono h (AThen_mono (fun _ _ _ h=>RoundsA_mono hQ h) hQ)
theorem FrLe.refl : ∀fr:AFr,FrLe fr fr
 |[]=>trivial
 |none::r=>FrLe.refl r
 |some a::r=>⟨rfl,FrLe.refl r⟩
theorem AW_rounds {c:Code}{Q:AQ}{n:Nat}{fr:AFr}{ah:AH}{nx:Nat}(h:RoundsA P c Q n fr ah nx):AW P (.loop c) fr ah nx Q:=by
 refine AW_loop (fun n fr ah nx=>RoundsA P c Q n fr ah nx) n fr (FrLe.refl fr) h fun n fr ah nx h K hK=>?_
 cases n with
 |zero=>exact h.elim
 |succ n=>exact AW.mono h (AThen_mono (fun fr ah nx h=>hK fr ah nx ⟨n,Nat.lt_succ_self n,fr,FrLe.refl fr,h⟩) fun _ _ _ _ h=>h)
theorem sLoop_ne {body:Pc→St'→Nat→Option CRes}:∀{m:Nat} {pc:Pc} {st:St'} {nv:Nat} {x:CRes},sLoop body m pc st nv=some x→x.outs≠[]
 |0,pc,st,nv,x,h=>by simp [sLoop] at h
 |m+1,pc,st,nv,x,h=>by
  simp only [sLoop] at h
  split at h
  ·cases h
  ·split at h
   ·cases h
   ·rename_i y hy
    simp only [Option.some.injEq] at h;subst h
    exact (sThen_ne (k:=sLoop body m) (fun _ _ _ _ h=>sLoop_ne h) hy:y.outs≠[])
theorem sLoop_ok {N:Nat}{body:Pc→St'→Nat→Option CRes}{c:Code}(hb:KOk P ρ N body fun fr ah nx Q=>AW P c fr ah nx Q):∀{m:Nat},KOk P ρ N (sLoop body m) fun fr ah nx Q=>RoundsA P c Q m fr ah nx
 |0=>fun pc st nv x h=>by simp [sLoop] at h
 |m+1=>fun pc st nv x h hp hs ha fr ah nx hst=>by
  simp only [sLoop] at h
  split at h
  ·cases h
  ·rename_i x1 hx1
   split at h
   ·cases h
   ·rename_i y hy
    simp only [Option.some.injEq] at h;subst h
    refine AW.mono (hb _ _ _ _ hx1 hp (sides_l hs) (aws_l ha) fr ah nx hst) fun e fr ah nx hsel=>?_
    exact sThen_ok (A:=fun fr ah nx Q=>RoundsA P c Q m fr ah nx) (fun _ _ _ _ _ hQ h=>RoundsA_mono hQ h) (fun _ _ _ _ h=>sLoop_ne h) (sLoop_ok hb) hy hp (sides_r hs) (aws_r ha) e fr ah nx hsel
theorem get_only {tr:Tr Ent}:∀{l:List Nat} {t:Nat} {e:Ent},(Tr.only tr l).get t=some e→tr.get t=some e
 |[],t,e,h=>by simp [Tr.only,Tr.get] at h
 |s::r,t,e,h=>by
  simp only [Tr.only] at h
  split at h
  ·rename_i x hx
   rcases Tr.get_upd _ _ _ _ _ _ h with ⟨rfl,h1⟩|⟨-,h1⟩
   ·simp only [Option.some.injEq] at h1;subst h1;exact hx
   ·exact get_only h1
  ·exact get_only h
theorem get_reach {th:Tr SB}:∀{n:Nat} {l:List Nat} {acc:Tr SB},(∀b k,acc.get b=some k→th.get b=some k)→∀b k,(reach th n l acc).get b=some k→th.get b=some k
 |0,l,acc,h=>h
 |n+1,[],acc,h=>h
 |n+1,b::r,acc,h=>by
  simp only [reach]
  split
  ·exact get_reach h
  ·split
   ·exact get_reach h
   ·rename_i k hk
    refine get_reach fun j y hj=>?_
    rcases Tr.get_upd _ _ _ _ _ _ hj with ⟨rfl,h1⟩|⟨-,h1⟩
    ·simp only [Option.some.injEq] at h1;subst h1;exact hk
    ·exact h _ _ h1
theorem StW.only {N:Nat}{st:St'}{fr:AFr}{ah:AH}{nx:Nat}(h:StW ρ N st fr ah nx)(l:List Nat):StW ρ N (st.only l) fr ah nx:=
 ⟨fun t e he=>h.fr t e (get_only he),fun b k hk=>h.ah b k (get_reach (acc:=.e) (fun b k h=>by simp [Tr.get] at h) b k hk),h.len,h.nx⟩
theorem sel_leave {id:Nat}:∀{l:List Out},sel ρ (leave id l)=(sel ρ l).map fun x=>(lvE id x.1,x.2)
 |[]=>rfl
 |[o]=>rfl
 |o::o'::r=>by
  have ih:=sel_leave (id:=id) (l:=o'::r)
  simp only [leave,List.map_cons,sel] at ih ⊢
  rw [ih]
  cases hb:(o.g.den ρ).B<;>rfl
theorem Sel.leave {N id:Nat}{l:List Out}{e:Exit}{fr:AFr}{ah:AH}{nx:Nat}(h:Sel ρ N l e fr ah nx):AIn id (Sel ρ N (Go.Fw.leave id l)) e fr ah nx:=by
 obtain ⟨st,h1,h2⟩:=h
 have e1:=sel_leave (ρ:=ρ) (id:=id) (l:=l)
 rw [h1] at e1
 cases e with
 |exit j=>
  simp only [AIn]
  split
  ·rename_i hj;subst hj;exact ⟨st,by rw [e1];simp [lvE],h2⟩
  ·rename_i hj
   refine ⟨st,?_,h2⟩
   rw [e1]
   have:Nat.beq j id=false:=by
    cases hb:Nat.beq j id
    ·rfl
    ·exact absurd (Nat.eq_of_beq_eq_true hb) hj
   simp [lvE,this]
 |_=>exact ⟨st,e1,h2⟩
theorem mrgO_ne {keep:Kp}:∀{l:List Out},l≠[]→mrgO keep l≠[]
 |[],h=>absurd rfl h
 |o::r,_=>by
  unfold mrgO
  cases isN o.e
  ·simp
  ·simp only [cond_true]
   split
   ·simp
   ·rename_i l n _
    cases isN n.e
    ·simp
    ·simp only [cond_true];split<;>simp
theorem xOuts_ne {cs:St'}{nv k q:Nat}{x:Exit×Pats}{r:List (Exit×Pats)}:xOuts cs nv k q (x::r)≠[]:=by cases r<;>simp [xOuts]
theorem sMark_ne {N:Nat}{pc:Pc}{st:St'}{nv id:Nat}{b:Code}{x:CRes}(h:sMark P N pc st nv id b=some x):x.outs≠[]:=by
 unfold sMark at h
 split at h
 ·cases h
 ·unfold sMarkV at h
  split at h
  ·split at h
   ·split at h
    ·rw [Bool.cond_eq_ite] at h
     split at h
     ·split at h
      ·simp only [Option.some.injEq] at h;subst h;simp
      ·cases h
     ·cases h
    ·cases h
   ·cases h
  ·cases h
theorem sCode_ne {G:Cfg}{F:FCfg}:∀{n:Nat} {pc:Pc} {st:St'} {nv:Nat} {c:Code} {x:CRes},sCode P G F n pc st nv c=some x→x.outs≠[]
 |0,pc,st,nv,c,x,h=>by simp [sCode] at h
 |n+1,pc,st,nv,c,x,h=>by
  unfold sCode at h
  split at h
  ·simp only [Option.some.injEq] at h;subst h;simp
  ·simp only [Option.some.injEq] at h;subst h;simp
  ·simp only [Option.some.injEq] at h;subst h;simp
  ·unfold sReg at h
   rename_i id ops draw
   split at h
   ·cases h
   ·rename_i S hS
    simp only [Option.some.injEq] at h;subst h
    have:S.outs≠[]:=by
     cases draw
     ·exact sSeq_ne hS
     ·simp only [cond_true] at hS
      generalize (edgesOk ops&&slotsOk ops (masks ops.toList []))=q at hS
      cases q
      ·cases hS
      ·exact sDraw_ne hS
    simp [this]
  ·split at h
   ·cases h
   ·split at h
    ·cases h
    ·rename_i y hy
     simp only [Option.some.injEq] at h;subst h
     exact mrgO_ne (sThen_ne (fun _ _ _ _ h=>sCode_ne h) hy)
  ·split at h
   ·split at h
    ·exact sCode_ne h
    ·exact sCode_ne h
    ·split at h
     ·cases h
     ·split at h
      ·cases h
      ·rename_i y hy
       simp only [Option.some.injEq] at h;subst h
       refine mrgO_ne ?_
       have:=sCode_ne hy
       simp [twoWays,this]
   ·cases h
  ·split at h
   ·rename_i c hh hm
    dsimp only at h
    split at h
    ·cases h
    ·split at h
     ·cases h
     ·split at h
      ·rename_i x r hxs
       simp only [Option.some.injEq] at h;subst h
       rw [hxs]
       exact xOuts_ne
      ·cases h
   ·split at h
    ·rename_i y hy
     simp only [Option.some.injEq] at h;subst h
     exact sMark_ne hy
    ·split at h
     ·cases h
     ·rename_i y hy
      simp only [Option.some.injEq] at h;subst h
      refine mrgO_ne ?_
      have:=sCode_ne hy
      simp [leave,this]
  ·simp only [Option.some.injEq] at h;subst h;simp
  ·simp only [Option.some.injEq] at h;subst h;simp
  ·split at h
   ·cases h
   ·rename_i x1 hx1
    split at h
    ·cases h
    ·rename_i y hy
     simp only [Option.some.injEq] at h;subst h
     exact mrgO_ne (sJmp_ne (fun _ _ _ _ _ h=>sCode_ne h) (sCode_ne hx1) hy)
  ·exact sLoop_ne h
  ·cases h
end
section
variable {P : Program}
theorem sMark_ok {N:Nat}{ρ:List AV}{pc:Pc}{st:St'}{nv id:Nat}{b:Code}{x:CRes}{fr:AFr}{ah:AH}{nx:Nat}(hp:pc.holds ρ)(hs:SidesX P ρ x.sd)(hst:StW ρ N st fr ah nx)(h:sMark P N pc st nv id b=some x) :
  AW P (.block id b) fr ah nx (Sel ρ N x.outs):=by
 unfold sMark at h
 split at h
 ·cases h
 rename_i m hm
 obtain ⟨r1,r2,r3,id5,o1,o2,p1,p2,p3,q1,q2,q3,q4,hmo,rfl⟩:=markCode_ok hm
 refine AW_canon hst fun fr ah hf ha hN=>?_
 unfold sMarkV at h
 split at h
 ·rename_i q sq bd len h1 h2
  split at h
  ·rename_i mb n d h3 h4
   split at h
   ·rename_i mk t h5
    rw [Bool.cond_eq_ite] at h
    split at h
    case isFalse=>cases h
    case isTrue hg=>
     split at h
     ·rename_i e9 hT hTB
      simp only [Option.some.injEq] at h;subst h
      simp only [Bool.and_eq_true,List.all_eq_true,Bool.not_eq_true',List.contains_eq_mem,decide_eq_false_iff_not] at hg
      obtain ⟨g1,g2,g3,g4,g5,g6,g7,g8,g9⟩:=hg
      have bne:∀{a b:Nat},Nat.beq a b=false→a≠b:=fun {a b} h e=>by subst e;simp at h
      obtain rfl:=Tm.beq_eq g1
      obtain ⟨k1,k2,k3,k4⟩:=hs (pc,.s (.mark mk t d len (.var nv []))) (by simp) hp
      have hq:fget fr m.it=some (.op q sq 0 0):=evS_ev hp hf h1
      have hD:fget fr m.tD=some (.os bd 1 0 (len.den ρ).I.toNat):=evS_ev hp hf h2
      have hqa:ah q=some (.it mb ((t.den ρ).R.map (entOf mk)).length 0):=by
       rw [ha _ _ h3];simp [SB.den,Tm.den,D.I,lLen]
      refine AW_mark (es:=(t.den ρ).R.map (entOf mk)) (rs:=(d.den ρ).R) hmo (fun t ht=>by rw [hN];exact Nat.le_of_ble_eq_true (g2 t ht)) g3 g4 (bne g5) (bne g6) hq hqa (ha _ _ h5) hD (ha _ _ h4) k1 hT hTB k2 (bne g7) (bne g8) (bne g9) ?_
      intro fr' rs' hl hfr hrl hrs
      refine ⟨_,rfl,StW.of (fun t e he=>?_) (fun b k hk=>?_) (hl.trans hN) (Nat.le_refl _)⟩
      ·obtain ⟨h6,h7⟩:=dropTs_get he
       rw [hfr t h6];exact hf t e h7
      ·rcases Tr.get_upd _ _ _ _ _ _ hk with ⟨rfl,h6⟩|⟨hne,h6⟩
       ·simp only [Option.some.injEq] at h6;subst h6
        rw [upd_eq rfl]
        have:rs'=(Tm.den ρ (.var nv [])).R:=by
         apply List.ext_getElem?
         intro i
         by_cases hi:i<(d.den ρ).R.length
         ·rw [hrs i hi,k4 i hi]
         ·rw [List.getElem?_eq_none (by omega),List.getElem?_eq_none (by omega)]
        rw [this];rfl
       ·rw [upd_ne hne]
        rcases Tr.get_upd _ _ _ _ _ _ h6 with ⟨_,h7⟩|⟨hne2,h7⟩
        ·cases h7
        ·rw [upd_ne hne2];exact ha _ _ h7
     ·cases h
   ·cases h
  ·cases h
 ·cases h
theorem sCode_ok {G:Cfg}{F:FCfg}(hm:P.follows .mixedOrders=true)(hX:∀σ:List AV,fzL σ=true→ExtOk P σ G.X)(hI:∀σ:List AV,fzL σ=true→InlOk P σ G.inl):∀{n:Nat} {c:Code} {ρ:List AV},fzL ρ=true→KOk P ρ F.N (fun pc st nv=>sCode P G F n pc st nv c) fun fr ah nx Q=>AW P c fr ah nx Q
 |0,c,ρ,hρ=>fun pc st nv x h=>by simp [sCode] at h
 |n+1,c,ρ,hρ=>fun pc st nv x h hp hs ha fr ah nx hst=>by
  unfold sCode at h
  dsimp only at h
  split at h
  ·simp only [Option.some.injEq] at h;subst h;exact AW_skip ⟨st,rfl,hst⟩
  ·simp only [Option.some.injEq] at h;subst h;exact AW_exit ⟨st,rfl,hst⟩
  ·simp only [Option.some.injEq] at h;subst h;exact AW_ret ⟨st,rfl,hst⟩
  ·exact sReg_ok hm hρ (hX ρ hρ) (hI ρ hρ) h hp hs hst
  ·split at h
   ·cases h
   ·rename_i x1 hx1
    split at h
    ·cases h
    ·rename_i y hy
     simp only [Option.some.injEq] at h;subst h
     refine AW_seq' (AW.mono (sCode_ok hm hX hI hρ _ _ _ _ hx1 hp (sides_l hs) (aws_l ha) fr ah nx hst) fun e fr ah nx hsel=>?_)
     have:=sThen_ok (A:=fun fr ah nx Q=>AW P _ fr ah nx Q) (fun _ _ _ _ _ hQ h=>AW.mono h hQ) (fun _ _ _ _ h=>sCode_ne h) (sCode_ok hm hX hI hρ) hy hp (sides_r hs) (aws_r ha) e fr ah nx hsel
     exact AThen_mono (fun fr ah nx h=>AW.mono h fun _ _ _ _ h=>mrgO_ok h) (fun _ _ _ _ h=>mrgO_ok h) _ _ _ _ this
  ·split at h
   ·rename_i t ht
    refine AW_canon hst fun fr0 ah0 hf hah hN=>?_
    have hev:=evS_ev hp hf ht
    have hst0:StW ρ F.N st fr0 ah0 st.nx:=StW.of hf hah hN (Nat.le_refl _)
    refine AW_cond (t.den ρ).B hev ?_
    split at h
    ·rename_i hk
     rw [if_pos (Pc.known_holds hp hk)]
     exact sCode_ok hm hX hI hρ _ _ _ _ h hp hs ha fr0 ah0 _ hst0
    ·rename_i hk
     rw [if_neg (by rw [Pc.known_holds hp hk];simp)]
     exact sCode_ok hm hX hI hρ _ _ _ _ h hp hs ha fr0 ah0 _ hst0
    ·split at h
     ·cases h
     ·rename_i x1 hx1
      split at h
      ·cases h
      ·rename_i y hy
       simp only [Option.some.injEq] at h;subst h
       have n1:=sCode_ne hx1
       have n2:=sCode_ne hy
       cases hb:(t.den ρ).B
       ·rw [if_neg (by simp)]
        refine AW.mono (sCode_ok hm hX hI hρ _ _ _ _ hy (addPc_holds hb hp) (sides_r hs) (aws_r ha) fr0 ah0 _ hst0) fun e fr ah nx ⟨st',q1,q2⟩=>mrgO_ok ⟨st',?_,q2⟩
        rw [sel_two n1 n2,hb];simpa using q1
       ·rw [if_pos rfl]
        refine AW.mono (sCode_ok hm hX hI hρ _ _ _ _ hx1 (addPc_holds hb hp) (sides_l hs) (aws_l ha) fr0 ah0 _ hst0) fun e fr ah nx ⟨st',q1,q2⟩=>mrgO_ok ⟨st',?_,q2⟩
        rw [sel_two n1 n2,hb];simpa using q1
   ·cases h
  ·rename_i id b
   split at h
   ·rename_i c' hh hmm
    split at h
    ·cases h
    ·rename_i ent hent
     split at h
     ·cases h
     ·rename_i x1 hx1
      split at h
      ·rename_i outs y r hcls hxs
       simp only [Option.some.injEq] at h;subst h
       obtain ⟨rfl,-⟩:=hintOf_eq hmm
       refine loop_case hρ hp hent hcls (fun s hm=>hs (pc,.s s) (List.mem_map.2 ⟨s,hm,rfl⟩) hp) (fun x hx=>List.mem_append_right _ hx) (fun σ hσ h1 h2 h3 fr ah nx h4=>sCode_ok hm hX hI hσ _ _ _ _ hx1 h1 (ex_ok (fun x hx=>h2 x (List.mem_append_left _ hx)) (LoL_app.1 (srtLo_ok h3)).2) (LoL_app.1 (srtLo_ok h3)).1 fr ah nx h4) ?_ rfl hst
       exact ha.1
      ·cases h
   ·split at h
    ·rename_i y hy
     simp only [Option.some.injEq] at h;subst h
     exact sMark_ok hp hs hst hy
    ·split at h
     ·cases h
     rename_i y hy
     simp only [Option.some.injEq] at h;subst h
     refine AW_block (AW.mono (sCode_ok hm hX hI hρ _ _ _ _ hy hp hs ha fr ah nx hst) fun e fr ah nx hsel=>?_)
     have:=Sel.leave (id:=id) hsel
     cases e with
     |exit j=>
      simp only [AIn] at this ⊢
      split
      ·rename_i hj;rw [if_pos hj] at this;exact mrgO_ok this
      ·rename_i hj;rw [if_neg hj] at this;exact mrgO_ok this
     |_=>exact mrgO_ok this
  ·simp only [Option.some.injEq] at h;subst h;exact AW_label ⟨st,rfl,hst⟩
  ·simp only [Option.some.injEq] at h;subst h;exact AW_goto ⟨st,rfl,hst⟩
  ·split at h
   ·cases h
   ·rename_i x1 hx1
    split at h
    ·cases h
    ·rename_i y hy
     simp only [Option.some.injEq] at h;subst h
     refine AW_scope (AScope_step (AW.mono (sCode_ok hm hX hI hρ _ _ _ _ hx1 hp (sides_l hs) (aws_l ha) fr ah nx hst) fun e fr ah nx hsel=>?_))
     have key:=sJmp_ok (fun c=>sCode_ok hm hX hI hρ) (fun _ _ _ _ _ h=>sCode_ne h) hy hp (sides_r hs) (aws_r ha) e fr ah nx hsel
     cases e with
     |goto m=>
      simp only [AScQ] at key ⊢
      split
      ·rename_i r hr;rw [hr] at key;exact AScope.mono key fun e fr ah nx h=>mrgO_ok h
      ·rename_i hr;rw [hr] at key;exact mrgO_ok key
     |_=>exact mrgO_ok key
  ·exact AW_rounds (sLoop_ok (sCode_ok hm hX hI hρ) _ _ _ _ h hp hs ha fr ah nx hst)
  ·cases h
end
end Go.Fw
end
section
set_option linter.unusedVariables false
set_option linter.unusedSimpArgs false
set_option linter.unusedSectionVars false
namespace Go.Fw
variable [Glob]
set_option linter.unusedSimpArgs false
set_option linter.unusedVariables false
set_option linter.unusedSectionVars false
def initT : Nat→List SV→Tr Ent
 |_,[]=>.e
 |i,a::r=>(initT (i+1) r).upd fuelT i (some ⟨[],a⟩)
def sRes (P:Program)(pc:Pc)(st:St'):Nat→List ResultVar→Option (List SV×Nat×List Side)
 |nv,[]=>some ([],nv,[])
 |nv,.tmp t::r=>match evS pc st.fr (.tmp t) with
  |none=>none
  |some v=>match sRes P pc st nv r with
   |none=>none
   |some (l,nv',sd)=>some (v::l,nv',sd)
 |nv,.cell t ty::r=>match evS pc st.fr (.tmp t) with
  |none=>none
  |some p=>match sLoad P pc st.ah nv ty p with
   |none=>none
   |some x=>match sRes P pc st x.nv r with
    |none=>none
    |some (l,nv',sd)=>some (x.v::l,nv',x.sd++sd)
def oneV : List SV→SV
 |[a]=>a
 |l=>.tup l
def isEnd : Exit→Bool | .normal | .ret=>true|_=>false
structure Lf where
 v:SV
 th:Tr SB
 nx:Nat
 nv:Nat
 sd:List (Pc×Sd)
def sLeaf (P:Program)(rs:List ResultVar)(pc:Pc)(nv:Nat)(o:Out):Option Lf:=
 bif isEnd o.e then
  match sRes P pc o.st nv rs with
  |none=>none
  |some (l,nv',sd)=>some ⟨oneV l,o.st.ah,o.st.nx,nv',tagX pc sd []⟩
 else none
structure EQ where
 outs:List (Tm×CO)
 nv:Nat
 sd:List (Pc×Sd)
def mrgC (low:Nat)(g:Tm)(c d:CO):Option CO:=
 match mrgV g c.v d.v with
 |none=>none
 |some v=>
  let th:=Tr.mrg (mrgSB g) c.th d.th
  bif lossB low v.rfs c.th d.th th then none else some ⟨v,th,Nat.max c.nx d.nx⟩
def mrgH (low:Nat)(g:Tm)(c:CO):List (Tm×CO)→List (Tm×CO)
 |[]=>[(g,c)]
 |x::r=>match mrgC low g c x.2 with
  |some m=>(mkOr g x.1,m)::r
  |none=>(g,c)::x::r
def sEnds (P:Program)(low:Nat)(rs:List ResultVar):Pc→Nat→List Out→Option EQ
 |_,_,[]=>none
 |pc,nv,[o]=>match sLeaf P rs pc nv o with
  |none=>none
  |some x=>some ⟨[(.lb true,⟨x.v,x.th,x.nx⟩)],x.nv,x.sd⟩
 |pc,nv,o::o'::r=>match sLeaf P rs (addPc o.g true pc) nv o with
  |none=>none
  |some x=>match sEnds P low rs (addPc o.g false pc) x.nv (o'::r) with
   |none=>none
   |some y=>some ⟨mrgH low o.g ⟨x.v,x.th,x.nx⟩ y.outs,y.nv,x.sd++y.sd⟩
def goodName (fn:Func):Bool:=decide (fn.name≠ "runtime.NumGoroutine")
abbrev Md :=FuncId→Nat
def is2 (md:Md):FuncId→Bool:=fun f=>Nat.beq (md f) 2
def awX (l:List Lo):List (Pc×Sd):=l.map fun x=>([],.l x)
theorem awX_ok {P:Program}{ρ:List AV}:∀{l:List Lo},SidesX P ρ (awX l)→LoL P l ρ
 |[],_=>trivial
 |x::r,h=>⟨h ([],.l x) (by simp [awX]) (fun y hy=>by cases hy),awX_ok (l:=r) fun y hy=>h y (by simp [awX] at hy ⊢;exact .inr hy)⟩
def deadV : SV→Bool
 | .tup (.agg [.nil]::_) | .tup (.agg [.slc [] _]::_)=>true
 |_=>false
def dropN (c:Bool):Pc→List (Tm×CO)→List (Tm×CO)×List (Pc×Sd)
 |pc,o::o'::r=>bif c&&deadV o.2.v then ((dropN c (addPc o.1 false pc) (o'::r)).1,(addPc o.1 true pc,.s (.tm (.lb false)))::(dropN c (addPc o.1 false pc) (o'::r)).2)
  else (o::(dropN c (addPc o.1 false pc) (o'::r)).1,(dropN c (addPc o.1 false pc) (o'::r)).2)
 |_,l=>(l,[])
theorem dropN_ok {P:Program}{ρ:List AV}{c:Bool}{d:CO}:∀{l:List (Tm×CO)} {pc:Pc},pc.holds ρ→SidesX P ρ (dropN c pc l).2→selG ρ l=some d→selG ρ (dropN c pc l).1=some d
 |[],pc,hp,hs,h=>by simp [selG] at h
 |[o],pc,hp,hs,h=>h
 |o::o'::r,pc,hp,hs,h=>by
  simp only [dropN] at hs ⊢
  cases hc:c&&deadV o.2.v
  ·simp only [hc,cond_false] at hs ⊢
   cases hg:(o.1.den ρ).B
   ·have h':selG ρ (o'::r)=some d:=by simpa [selG,hg] using h
    have ih:=dropN_ok (l:=o'::r) (addPc_holds hg hp) hs h'
    generalize (dropN c (addPc o.1 false pc) (o'::r)).1=q at ih ⊢
    cases q with
    |nil=>simp [selG] at ih
    |cons z q=>simpa [selG,hg] using ih
   ·have h':o.2=d:=by simpa [selG,hg] using h
    generalize (dropN c (addPc o.1 false pc) (o'::r)).1=q
    cases q with
    |nil=>simp [selG,h']
    |cons z q=>simp [selG,hg,h']
  ·simp only [hc,cond_true] at hs ⊢
   cases hg:(o.1.den ρ).B
   ·have h':selG ρ (o'::r)=some d:=by simpa [selG,hg] using h
    exact dropN_ok (l:=o'::r) (addPc_holds hg hp) (fun x hx=>hs x (List.mem_cons_of_mem _ hx)) h'
   ·have:=hs _ List.mem_cons_self (addPc_holds hg hp)
    exact absurd this (by show ¬(Tm.den ρ (.lb false)).B=true;simp [Tm.den,D.B])
def inlOf (P:Program)(I0:Inl)(L:Ext'×Inl)(md:Md)(FC:FuncId→FCfg)(unr CF:Nat):Inl:=fun pc th nx nv f args=>
 match I0 pc th nx nv f args with
 |some R=>some R
 |none=>
  match P.funcs[f]? with
  |none=>none
  |some fn=>match fn.body with
   |none=>none
   |some c=>bif goodName fn&&Nat.ble args.length fn.ntmps then
     match sCode P ⟨L.1,is2 md,L.2,unr⟩ {FC f with N:=fn.ntmps,keep:=⟨(FC f).keep.ks,nx⟩} CF pc ⟨initT 0 args,th,nx⟩ nv c with
     |none=>none
     |some x=>match sEnds P nx fn.results.toList pc x.nv x.outs with
      |none=>none
      |some y=>some ⟨(dropN ((FC f).loops 999999).isSome pc y.outs).1,y.nv,awX x.aw++((x.sd++y.sd)++(dropN ((FC f).loops 999999).isSome pc y.outs).2)⟩
    else none
def frzArg (FC:FuncId→FCfg)(inl:Inl):Inl:=fun pc th nx nv f args=>
 bif ((FC f).loops 999998).isSome&&!clnL args then
  match sfrzL (thN th deep) (preL th nv args).1,rchS th deep (rfsL args) with
  |some az,some rd=>match inl pc (wrT th (dropS rd)) nx (preL th nv args).2.1 f (nrmL az) with
   |some R=>some ⟨R.outs,R.nv,(preL th nv args).2.2.map (fun s=>(pc,Sd.s s))++R.sd⟩
   |none=>none
  |_,_=>none
 else inl pc th nx nv f args
theorem frzArg_ok {P:Program}{FC:FuncId→FCfg}{inl:Inl}{ρ:List AV}(hρ:fzL ρ=true)(hI:InlOk P ρ inl):InlOk P ρ (frzArg FC inl):=by
 intro pc th nx nv f args R h hp hs base w E ah vs hah hh hG hrep o a he next Q hnext
 unfold frzArg at h
 cases hc:((FC f).loops 999998).isSome&&!clnL args
 ·simp only [hc,cond_false] at h
  exact hI _ _ _ _ _ _ _ h hp hs base w E ah vs hah hh hG hrep o a he next Q hnext
 ·simp only [hc,cond_true] at h
  split at h
  rotate_left
  ·cases h
  rename_i az rd has hrd
  split at h
  rotate_left
  ·cases h
  rename_i R' hR
  simp only [Option.some.injEq] at h;subst h
  have hpre:∀s∈(preL th nv args).2.2,s.holds P ρ:=fun s hm=>hs (pc,.s s) (List.mem_append_left _ (List.mem_map.2 ⟨s,hm,rfl⟩)) hp
  have hfz:=(preL_den hρ hah hpre).trans (frzL_den hρ (thN_den hρ hah deep) has)
  have hrd2:rch ah deep (refsL (denL ρ args))=rd:=by rw [rfsL_den hρ,rchS_den hρ hah deep hrd]
  have hg:=goneL_rep hh hrep hfz
  rw [hrd2] at hg
  have e:(dropS rd).map (fun x=>(x.1,x.2.map (SB.den ρ)))=dropW rd:=by
   unfold dropS dropW
   rw [List.map_map]
   rfl
  have hah2:=AhR_wr (wr:=dropS rd) hah
  rw [e] at hah2
  have hrep1:RepL w (goneE E ah rd) (denL ρ (nrmL az)) vs:=RepL.weak (nrmL_weak (ρ:=ρ)).length (fun i a b h1 h2=>((nrmL_weak (ρ:=ρ)).get i a b h1 h2).1)
   ⟨hg.1,fun i a v h1 h2=>free_rep (fun _ _ h=>h) (hg.2 i a v h1 h2)⟩
  exact hI _ _ _ _ _ _ _ hR hp (fun x hx=>hs x (List.mem_append_right _ hx)) base w (goneE E ah rd) _ vs hah2 (gone_heap hh rd) (hG.mono (fun _ _ h=>.inl h) (fun _ _ _=>rfl) (fun _ arr _ fz h=>⟨arr,fz,h,rfl⟩)) hrep1 o a he next Q
   (fun c hc v w' E' ah' q1 q2 q3 q4=>hnext c hc v w' E' ah' q1 ((gone_step hh rd).trans q2) q3 q4)
def lastG (g:Tm):List Out→Tm
 |[]=>.lb true
 |_::_=>g
def sOutsN (P:Program)(rs:List ResultVar):Pc→Nat→List Out→Option (List (Tm×SV)×Nat×List (Pc×Sd))
 |_,nv,[]=>some ([],nv,[])
 |pc,nv,o::r=>match sLeaf P rs (addPc (lastG o.g r) true pc) nv o with
  |none=>none
  |some x=>match (preF x.th x.nv x.v).1.frz (thN x.th deep) with
   |none=>none
   |some v=>match sOutsN P rs (addPc o.g false pc) (preF x.th x.nv x.v).2.1 r with
    |none=>none
    |some (l,nv',sd)=>some ((o.g,v.nrm)::l,nv',(x.sd++tagX (addPc (lastG o.g r) true pc) (preF x.th x.nv x.v).2.2 [])++sd)
def mrgR : List (Tm×SV)→Option SV
 |[]=>none
 |[x]=>some x.2
 |x::y::r=>match mrgR (y::r) with
  |none=>none
  |some v=>mrgV x.1 x.2 v
 mutual
def SV.lit : SV→Bool
  | .sc _ t=>(match t with | .lb _ | .li _ | .lf _ | .ls _ | .nl=>true|_=>false)
  | .c _ | .nil | .nan | .mp _=>true
  | .sf t=>(match t with | .nl=>true|_=>false)
  | .agg l | .tup l=>litL l
  | .slc r _=>litLL r
  | .vp r _=>litL r
  | .fn _ x y=>litL x&&litL y
  | .ifc _ v=>v.lit
  | .os _ _ _ t=>(match t with | .li _=>true|_=>false)
  | .op _ _ t _=>(match t with | .li _=>true|_=>false)
  | .ost ..=>false
def litL : List SV→Bool
  |[]=>true
  |x::r=>x.lit&&litL r
def litLL : List (List SV)→Bool
  |[]=>true
  |x::r=>litL x&&litLL r
end
 mutual
def SV.own1 (th:Tr SB):SV→Bool
  | .sc .sl _=>false
  | .sc _ _=>true
  | .c _ | .nil | .nan=>true
  | .agg l | .tup l=>own1L th l
  | .ifc _ v=>v.own1 th
  | .slc [] _=>true
  | .os b _ _ _=>match th.get b with|some (.rows _ rs)=>rs.all fltL|_=>false
  |_=>false
def own1L (th:Tr SB):List SV→Bool
  |[]=>true
  |x::r=>x.own1 th&&own1L th r
end
def sNewMem (P:Program)(rs:List ResultVar):Pc→Nat→List Out→Bool
 |_,_,[]=>true
 |pc,nv,o::r=>match sLeaf P rs (addPc (lastG o.g r) true pc) nv o with
  |none=>false
  |some x=>x.v.own1 x.th&&sNewMem P rs (addPc o.g false pc) (preF x.th x.nv x.v).2.1 r
def pureOf (P:Program)(X0:Ext')(L:Ext'×Inl)(md:Md)(FC:FuncId→FCfg)(unr CF:Nat):Ext':=fun pc nv f args=>
 bif Nat.beq (md f) 1||(Nat.beq (md f) 3&&litL args) then
  match P.funcs[f]? with
  |none=>none
  |some fn=>match fn.body with
   |none=>none
   |some c=>bif goodName fn&&Nat.ble args.length fn.ntmps then
     match sCode P ⟨L.1,is2 md,L.2,unr⟩ {FC f with N:=fn.ntmps} CF pc ⟨initT 0 args,.e,0⟩ nv c with
     |none=>none
     |some x=>bif x.aw.isEmpty then
       match sOutsN P fn.results.toList pc x.nv x.outs with
       |none=>none
       |some (l,nv',sd)=>match (bif noL (x.sd++sd) then mrgR l else none) with
        |none=>none
        |some v=>some (v,nv',exS (x.sd++sd),sNewMem P fn.results.toList pc x.nv x.outs)
      else none
    else none
 else X0 pc nv f args
def sLvI (P:Program)(X0:Ext')(I0:Inl)(md:Md)(FC:FuncId→FCfg)(unr CF:Nat):Nat→Ext'×Inl
 |0=>(X0,I0)
 |n+1=>(pureOf P X0 (sLvI P X0 I0 md FC unr CF n) md FC unr CF,frzArg FC (inlOf P I0 (sLvI P X0 I0 md FC unr CF n) md FC unr CF))
section
variable {P : Program} {ρ:List AV} {N:Nat}
theorem Sim.canon {base:Nat}{w:World}{E:Env}{fr:AFr}{ah:AH}{nx:Nat}{a:Act}{st:St'}(hs:StW ρ N st fr ah nx)(hsim:Sim base w E fr ah nx a) :
  ∃fr0,FrR ρ st.fr fr0∧AhR ρ st.ah (toAh ρ st.ah)∧fr0.length=N∧Sim base w E fr0 (toAh ρ st.ah) st.nx a:=by
 have hf:FrR ρ st.fr (toFr ρ N st.fr):=by
  intro t e he
  obtain ⟨a,ha,-⟩:=hs.fr t e he
  have:=fget_lt ha
  rw [hs.len] at this
  rw [fget_toFr,if_pos this,he];rfl
 have ha:AhR ρ st.ah (toAh ρ st.ah):=fun b k hk=>by unfold toAh;rw [hk];rfl
 refine ⟨_,hf,ha,by simp [toFr],⟨fun b k hb=>?_,fun b b' k k' c o c' o' hne h1 h2=>?_,fun b hb=>hsim.heap.fresh b (Nat.le_trans hs.nx hb),hsim.heap.fixlt,hsim.heap.bs,hsim.heap.ownlt⟩,⟨?_,fun i x hx=>?_,hsim.fr.glob⟩,hsim.defers⟩
 ·unfold toAh at hb
  simp only [Option.map_eq_some_iff] at hb
  obtain ⟨k1,hk1,rfl⟩:=hb
  obtain ⟨k0,h0,hw⟩:=hs.ah b k1 hk1
  exact hw _ _ _ _ (hsim.heap.blk b k0 h0)
 ·unfold toAh at h1 h2
  simp only [Option.map_eq_some_iff] at h1 h2
  obtain ⟨k1,hk1,rfl⟩:=h1
  obtain ⟨k2,hk2,rfl⟩:=h2
  obtain ⟨j1,q1,-⟩:=hs.ah b k1 hk1
  obtain ⟨j2,q2,-⟩:=hs.ah b' k2 hk2
  exact hsim.heap.sep b b' j1 j2 c o c' o' hne q1 q2
 ·have:=hsim.fr.size
  rw [hs.len] at this
  simpa [toFr] using this
 ·rw [fget_toFr] at hx
  split at hx
  ·simp only [Option.map_eq_some_iff] at hx
   obtain ⟨e,he,rfl⟩:=hx
   obtain ⟨y,hy,hw⟩:=hs.fr i e he
   obtain ⟨v,hv,hr⟩:=hsim.fr.get i y hy
   exact ⟨v,hv,hw _ _ _ hr⟩
  ·cases hx
theorem sRes_ok {pc:Pc}{st:St'}{fr:AFr}{ah:AH}(hp:pc.holds ρ)(hf:FrR ρ st.fr fr)(ha:AhR ρ st.ah ah):∀{l:List ResultVar} {nv nv':Nat} {vs:List SV} {sd:List Side},sRes P pc st nv l=some (vs,nv',sd)→(∀s∈sd,s.holds P ρ)→
  ∀{k:List AV→Prop},k (denL ρ vs)→aResults P fr ah l k
 |[],nv,nv',vs,sd,h,hs,k,hk=>by
  simp only [sRes,Option.some.injEq,Prod.mk.injEq] at h
  obtain ⟨rfl,rfl,rfl⟩:=h
  exact hk
 | .tmp t::r,nv,nv',vs,sd,h,hs,k,hk=>by
  simp only [sRes] at h
  split at h
  ·cases h
  ·rename_i v hv
   split at h
   ·cases h
   ·rename_i l nv1 sd1 hl
    simp only [Option.some.injEq,Prod.mk.injEq] at h
    obtain ⟨rfl,rfl,rfl⟩:=h
    exact withO_iff.2 ⟨_,evS_ev hp hf hv,sRes_ok hp hf ha hl hs hk⟩
 | .cell t ty::r,nv,nv',vs,sd,h,hs,k,hk=>by
  simp only [sRes] at h
  split at h
  ·cases h
  ·rename_i p hv
   split at h
   ·cases h
   ·rename_i x hx
    split at h
    ·cases h
    ·rename_i l nv1 sd1 hl
     simp only [Option.some.injEq,Prod.mk.injEq] at h
     obtain ⟨rfl,rfl,rfl⟩:=h
     exact withO_iff.2 ⟨_,evS_ev hp hf hv,sLoad_ok ha hx (fun s hm=>hs s (by simp [hm])) (sRes_ok hp hf ha hl (fun s hm=>hs s (by simp [hm])) hk)⟩
theorem oneV_den {l:List SV}:one (denL ρ l)=(oneV l).den ρ:=by
 match l with
 |[]=>rfl
 |[a]=>rfl
 |a::b::r=>rfl
def EndV (P:Program)(fn:Func)(base:Nat)(w:World)(E:Env)(v:AV)(ah:AH)(nx:Nat)(a':Act)(w':World):Prop:=
 a'.defers=[]∧∃E' val,(results fn a'.tmps).run P w'=.ok val w'∧Rep w' E' v val∧Step base w E w' E'∧HeapOk base w' E' ah (fun b=>nx≤b)
theorem EndV.weak {fn:Func}{base:Nat}{w:World}{E:Env}{v v':AV}{ah ah':AH}{nx nx':Nat}{a':Act}{w':World}(h:EndV P fn base w E v ah nx a' w')(hv:Weak v v')(hah:∀b k',ah' b=some k'→∃k,ah b=some k∧WeakB k k')(hn:nx≤nx') :
  EndV P fn base w E v' ah' nx' a' w':=by
 obtain ⟨h0,E',val,h1,h2,h3,h4⟩:=h
 refine ⟨h0,E',val,h1,hv _ _ _ h2,h3,⟨fun b k hb=>?_,fun b b' k k' c o c' o' hne q1 q2=>?_,fun b hb=>h4.fresh b (Nat.le_trans hn hb),h4.fixlt,h4.bs,h4.ownlt⟩⟩
 ·obtain ⟨k0,q,hw⟩:=hah b k hb;exact hw _ _ _ _ (h4.blk b k0 q)
 ·obtain ⟨j1,e1,-⟩:=hah b k q1
  obtain ⟨j2,e2,-⟩:=hah b' k' q2
  exact h4.sep b b' j1 j2 c o c' o' hne e1 e2
theorem results_eq (fn:Func)(tmps:Array Value):results fn tmps=(do
  let vs ← fn.results.mapM (resOf tmps)
  pure (if h:vs.size=1 then vs[0] else .tuple vs)):=by
 unfold results
 congr 1
theorem sLeaf_ok {fn:Func}{pc:Pc}{nv:Nat}{o:Out}{x:Lf}(h:sLeaf P fn.results.toList pc nv o=some x)(hp:pc.holds ρ)(hs:SidesX P ρ x.sd){base:Nat}{w w':World}{E E':Env}{fr:AFr}{ah:AH}{nx:Nat}{a':Act}
  (hst:StW ρ N o.st fr ah nx) (hsim:Sim base w' E' fr ah nx a') (hstep:Step base w E w' E'):isEnd o.e=true∧EndV P fn base w E (x.v.den ρ) (toAh ρ x.th) x.nx a' w':=by
 unfold sLeaf at h
 cases he:isEnd o.e
 ·simp [he] at h
 ·simp only [he,cond_true] at h
  split at h
  ·cases h
  ·rename_i l nv' sd hl
   simp only [Option.some.injEq] at h;subst h
   refine ⟨rfl,?_⟩
   obtain ⟨fr0,hf,hah,hN,hsim0⟩:=Sim.canon hst hsim
   have hres:=sRes_ok (P:=P) hp hf hah hl ((tagX_ok hs).1 hp) (k:=fun az=>az=denL ρ l) rfl
   obtain ⟨az,vs',rfl,hrun,hrep⟩:=aResults_run hsim0 hres
   refine ⟨hsim0.defers,E',(if h:vs'.toArray.size=1 then vs'.toArray[0] else .tuple vs'.toArray),?_,?_,hstep,hsim0.heap⟩
   ·rw [results_eq,Array.mapM_eq_mapM_toList,Sem.run_bind,Sem.run_map,hrun]
    rfl
   ·have:=one_rep hrep
    rw [oneV_den] at this
    exact this
theorem toAh_mrg {g:Tm}{x y:Tr SB}:∀b k',toAh ρ (Tr.mrg (mrgSB g) x y) b=some k'→(bif (g.den ρ).B then (∃k,toAh ρ x b=some k∧WeakB k k') else (∃k,toAh ρ y b=some k∧WeakB k k'))=True:=by
 intro b k' h
 unfold toAh at h
 simp only [Option.map_eq_some_iff] at h
 obtain ⟨z,hz,rfl⟩:=h
 obtain ⟨u,v,h1,h2,h3⟩:=Tr.get_mrg hz
 have:=mrgSB_weak (ρ:=ρ) h3
 cases hg:(g.den ρ).B
 ·rw [hg] at this
  simp only [cond_false,eq_iff_iff,iff_true]
  exact ⟨_,by unfold toAh;rw [h2];rfl,this⟩
 ·rw [hg] at this
  simp only [cond_true,eq_iff_iff,iff_true]
  exact ⟨_,by unfold toAh;rw [h1];rfl,this⟩
theorem mrgC_ok {low:Nat}{g:Tm}{c d m:CO}(h:mrgC low g c d=some m){fn:Func}{base:Nat}{w w':World}{E:Env}{a':Act}
  (hq:bif (g.den ρ).B then EndV P fn base w E (c.v.den ρ) (toAh ρ c.th) c.nx a' w' else EndV P fn base w E (d.v.den ρ) (toAh ρ d.th) d.nx a' w'):EndV P fn base w E (m.v.den ρ) (toAh ρ m.th) m.nx a' w':=by
 unfold mrgC at h
 split at h
 ·cases h
 ·rename_i v hv
  dsimp only at h
  generalize (lossB low v.rfs c.th d.th _)=q at h
  cases q
  ·simp only [cond_false,Option.some.injEq] at h;subst h
   have hw:=(mrgV_ok (ρ:=ρ) hv).1
   have hm:=toAh_mrg (ρ:=ρ) (g:=g) (x:=c.th) (y:=d.th)
   cases hg:(g.den ρ).B
   ·rw [hg] at hq hw hm
    exact EndV.weak hq hw (fun b k' hk=>of_eq_true (hm b k' hk)) (Nat.le_max_right _ _)
   ·rw [hg] at hq hw hm
    exact EndV.weak hq hw (fun b k' hk=>of_eq_true (hm b k' hk)) (Nat.le_max_left _ _)
  ·cases h
theorem mrgH_ok {low:Nat}{g:Tm}{c:CO}{l:List (Tm×CO)}(hl:l≠[]){fn:Func}{base:Nat}{w w':World}{E:Env}{a':Act}
  (hq:bif (g.den ρ).B then EndV P fn base w E (c.v.den ρ) (toAh ρ c.th) c.nx a' w' else ∃d,selG ρ l=some d∧EndV P fn base w E (d.v.den ρ) (toAh ρ d.th) d.nx a' w') :
  ∃d,selG ρ (mrgH low g c l)=some d∧EndV P fn base w E (d.v.den ρ) (toAh ρ d.th) d.nx a' w':=by
 match l,hl with
 |x::r,_=>
  simp only [mrgH]
  cases hm:mrgC low g c x.2 with
  |none=>
   dsimp only
   simp only [selG]
   cases hg:(g.den ρ).B
   ·rw [hg] at hq;exact hq
   ·rw [hg] at hq;exact ⟨_,rfl,hq⟩
  |some m=>
   dsimp only
   have hmk:=fun h=>mrgC_ok (P:=P) (ρ:=ρ) hm (fn:=fn) (base:=base) (w:=w) (w':=w') (E:=E) (a':=a') h
   cases hg:(g.den ρ).B
   ·rw [hg] at hq hmk
    simp only [cond_false] at hq hmk
    obtain ⟨d,h1,h2⟩:=hq
    cases r with
    |nil=>
     simp only [selG,Option.some.injEq] at h1;subst h1
     exact ⟨m,rfl,hmk h2⟩
    |cons y r=>
     simp only [selG,mkOr_den,hg,Bool.false_or] at h1 ⊢
     cases hx:(x.1.den ρ).B
     ·rw [hx] at h1;exact ⟨d,h1,h2⟩
     ·rw [hx] at h1
      simp only [cond_true,Option.some.injEq] at h1;subst h1
      exact ⟨m,rfl,hmk h2⟩
   ·rw [hg] at hq hmk
    simp only [cond_true] at hq hmk
    cases r with
    |nil=>exact ⟨m,rfl,hmk hq⟩
    |cons y r=>exact ⟨m,by simp only [selG,mkOr_den,hg,Bool.true_or,cond_true],hmk hq⟩
theorem mrgH_ne {low:Nat}{g:Tm}{c:CO}{l:List (Tm×CO)}:mrgH low g c l≠[]:=by
 cases l with
 |nil=>simp [mrgH]
 |cons x r=>simp only [mrgH];split<;>simp
theorem sEnds_ne {low:Nat}{rs:List ResultVar}:∀{l:List Out} {pc:Pc} {nv:Nat} {x:EQ},sEnds P low rs pc nv l=some x→x.outs≠[]
 |[],pc,nv,x,h=>by simp [sEnds] at h
 |[o],pc,nv,x,h=>by
  simp only [sEnds] at h
  split at h
  ·cases h
  ·simp only [Option.some.injEq] at h;subst h;simp
 |o::o'::r,pc,nv,x,h=>by
  simp only [sEnds] at h
  split at h
  ·cases h
  ·split at h
   ·cases h
   ·simp only [Option.some.injEq] at h;subst h;exact mrgH_ne
theorem sEnds_ok {fn:Func}{low:Nat}:∀{l:List Out} {pc:Pc} {nv:Nat} {x:EQ},sEnds P low fn.results.toList pc nv l=some x→pc.holds ρ→SidesX P ρ x.sd→∀{base:Nat} {w w':World} {E E':Env} {fr:AFr} {ah:AH} {nx:Nat} {a':Act} {e:Exit},
  Sel ρ N l e fr ah nx→Sim base w' E' fr ah nx a'→Step base w E w' E'→isEnd e=true∧∃d,selG ρ x.outs=some d∧EndV P fn base w E (d.v.den ρ) (toAh ρ d.th) d.nx a' w'
 |[],pc,nv,x,h,_,_,_,_,_,_,_,_,_,_,_,_,_,_,_=>by simp [sEnds] at h
 |[o],pc,nv,x,h,hp,hs,base,w,w',E,E',fr,ah,nx,a',e,hsel,hsim,hstep=>by
  obtain ⟨st,h1,h2⟩:=hsel
  simp only [sel,Option.some.injEq,Prod.mk.injEq] at h1
  obtain ⟨rfl,rfl⟩:=h1
  simp only [sEnds] at h
  split at h
  ·cases h
  ·rename_i y hy
   simp only [Option.some.injEq] at h;subst h
   obtain ⟨q1,q2⟩:=sLeaf_ok (P:=P) hy hp hs h2 hsim hstep
   exact ⟨q1,_,rfl,q2⟩
 |o::o'::r,pc,nv,x,h,hp,hs,base,w,w',E,E',fr,ah,nx,a',e,hsel,hsim,hstep=>by
  obtain ⟨st,h1,h2⟩:=hsel
  simp only [sel] at h1
  simp only [sEnds] at h
  split at h
  ·cases h
  ·rename_i y hy
   split at h
   ·cases h
   ·rename_i z hz
    simp only [Option.some.injEq] at h;subst h
    have hzn:=sEnds_ne hz
    cases hg:(o.g.den ρ).B
    ·rw [hg] at h1
     obtain ⟨q1,q2⟩:=sEnds_ok hz (addPc_holds hg hp) (sides_r hs) ⟨st,h1,h2⟩ hsim hstep
     exact ⟨q1,mrgH_ok (P:=P) hzn (by rw [hg];exact q2)⟩
    ·rw [hg] at h1
     simp only [cond_true,Option.some.injEq,Prod.mk.injEq] at h1
     obtain ⟨rfl,rfl⟩:=h1
     obtain ⟨q1,q2⟩:=sLeaf_ok (P:=P) hy (addPc_holds hg hp) (sides_l hs) h2 hsim hstep
     exact ⟨q1,mrgH_ok (P:=P) hzn (by rw [hg];exact q2)⟩
theorem get_initT : ∀{l:List SV} {i t:Nat} {e:Ent},(initT i l).get t=some e→∃j a,t=i+j∧l[j]?=some a∧e=⟨[],a⟩
 |[],i,t,e,h=>by simp [initT,Tr.get] at h
 |a::r,i,t,e,h=>by
  simp only [initT] at h
  rcases Tr.get_upd _ _ _ _ _ _ h with ⟨rfl,h1⟩|⟨-,h1⟩
  ·simp only [Option.some.injEq] at h1;exact ⟨0,a,rfl,rfl,h1.symm⟩
  ·obtain ⟨j,b,rfl,h2,h3⟩:=get_initT h1
   exact ⟨j+1,b,by omega,by simpa using h2,h3⟩
theorem fget_args : ∀(l:List AV) (m i:Nat),fget (l.map some++List.replicate m none) i=l[i]?
 |[],0,i=>by simp [fget]
 |[],m+1,0=>by simp [List.replicate_succ,fget]
 |[],m+1,i+1=>by
  have:=fget_args [] m i
  simp only [List.map_nil,List.nil_append,List.replicate_succ,fget] at this ⊢
  rw [this];simp
 |a::l,m,0=>by simp [fget]
 |a::l,m,i+1=>by
  have:=fget_args l m i
  simp only [List.map_cons,List.cons_append,fget] at this ⊢
  rw [this];simp
def argFr (N:Nat)(l:List AV):AFr:=l.map some++List.replicate (N-l.length) none
theorem FrR_init {l:List SV}:FrR ρ (initT 0 l) (argFr N (denL ρ l)):=by
 intro t e he
 obtain ⟨j,a,rfl,h1,rfl⟩:=get_initT he
 rw [argFr,fget_args,denL_map,List.getElem?_map]
 simp [h1,Ent.den]
theorem argFr_length {l:List AV}(h:l.length≤N):(argFr N l).length=N:=by simp [argFr];omega
theorem args_frOk {w:World}{E:Env}{l:List AV}{vs:List Value}(hG:GOk w E.fix)(h:RepL w E l vs)(hN:l.length≤N):FrOk w E (argFr N l) (vs.toArray++Array.replicate (N-vs.toArray.size) undef):=by
 refine ⟨?_,fun i x hx=>?_,hG⟩
 ·simp [argFr,h.1]
 ·rw [argFr,fget_args] at hx
  have hi:=(List.getElem?_eq_some_iff.1 hx).1
  have hvl:i<vs.length:=by rw [← h.1];exact hi
  refine ⟨vs[i],?_,h.2 i x _ hx (by simp [hvl])⟩
  rw [Array.getElem?_append_left (by simpa using hvl)]
  simp [hvl]
theorem inlOf_ok {I0:Inl}{L:Ext'×Inl}{md:Md}{FC:FuncId→FCfg}{unr CF:Nat}(hm:P.follows .mixedOrders=true)(h0:∀σ:List AV,fzL σ=true→InlOk P σ I0)(hX:∀σ:List AV,fzL σ=true→ExtOk P σ L.1)(hI:∀σ:List AV,fzL σ=true→InlOk P σ L.2)(hρ:fzL ρ=true) :
 InlOk P ρ (inlOf P I0 L md FC unr CF):=fun pc th nx nv f args R h hp hs base w E ah vs hah hh hG hrep o a he next Q hnext=>by
 simp only [inlOf] at h
 split at h
 ·rename_i R0 hR0
  simp only [Option.some.injEq] at h;subst h
  exact h0 ρ hρ _ _ _ _ _ _ _ hR0 hp hs _ _ _ _ _ hah hh hG hrep o a he next Q hnext
 split at h
 ·cases h
 ·rename_i fn hfn
  split at h
  ·cases h
  ·rename_i c hc
   cases hg:goodName fn&&Nat.ble args.length fn.ntmps
   ·simp [hg] at h
   ·simp only [hg,cond_true] at h
    simp only [Bool.and_eq_true] at hg
    have hname:fn.name≠ "runtime.NumGoroutine" :=by simpa [goodName] using hg.1
    have hlen:=Nat.le_of_ble_eq_true hg.2
    split at h
    ·cases h
    ·rename_i x hx
     ·split at h
      ·cases h
      ·rename_i y hy
       simp only [Option.some.injEq] at h;subst h
       have hawOk:AwOk P ρ x.aw:=awX_ok (sides_l hs)
       have hdr:=sides_r (sides_r hs)
       have hs:=sides_l (sides_r hs)
       have hlenA:(denL ρ args).length≤fn.ntmps:=by rw [denL_length];exact hlen
       have hst:StW ρ fn.ntmps ⟨initT 0 args,th,nx⟩ (argFr fn.ntmps (denL ρ args)) ah nx:=StW.of FrR_init hah (argFr_length hlenA) (Nat.le_refl _)
       have haw':=sCode_ok (G:=⟨L.1,is2 md,L.2,unr⟩) (F:={FC f with N:=fn.ntmps,keep:=⟨(FC f).keep.ks,nx⟩}) hm hX hI hρ _ _ _ _ hx hp (sides_l hs) hawOk _ _ _ hst
       have hsim:Sim base w E (argFr fn.ntmps (denL ρ args)) ah nx {tmps:=vs.toArray++Array.replicate (fn.ntmps-vs.toArray.size) undef,defers:=[]}:=
        ⟨hh,args_frOk hG hrep hlenA,rfl⟩
       have hcall:(callFunc f vs.toArray).run P w=.ok (.enter f vs.toArray) w:=by
        have e1:(fn.name == "runtime.NumGoroutine")=false:=by simpa using hname
        have e2:fn.body.isNone=false:=by rw [hc];rfl
        simp only [callFunc,Sem.run_bind,run_program,Result.andThen_ok,hfn,e1,Bool.false_eq_true,if_false,e2,Sem.run_pure]
       unfold Oper.wp
       rw [he,hcall]
       have hcalls:Calls P f vs.toArray w fun e w'=>∃d v E',selG ρ y.outs=some d∧e=.returned v∧Step base w E w' E'∧HeapOk base w' E' (toAh ρ d.th) (fun b=>d.nx≤b)∧Rep w' E' (d.v.den ρ) v:=by
        refine calls_of_wp hfn hc (wp_mono (haw' base w E _ hsim) fun e a' w' hp'=>?_)
        obtain ⟨E',fr',ah',nx',hsel,hsim',hstep⟩:=hp'
        obtain ⟨q1,d,hd,q2⟩:=sEnds_ok (P:=P) (fn:=fn) hy hp (sides_r hs) hsel hsim' hstep
        obtain ⟨h0,E2,val,h1,h2,h3,h4⟩:=q2
        have fin:a'.defers=[]∧∃v,(results fn a'.tmps).run P w'=.ok v w'∧∃d u E',selG ρ y.outs=some d∧Ending.returned v=.returned u∧Step base w E w' E'∧HeapOk base w' E' (toAh ρ d.th) (fun b=>d.nx≤b)∧Rep w' E' (d.v.den ρ) u:=
         ⟨h0,val,h1,d,val,E2,hd,rfl,h3,h4,h2⟩
        cases e<;>first|exact fin|(simp [isEnd] at q1)
       refine hcalls.mono fun e w' hq=>?_
       obtain ⟨d,v,E',hd,rfl,q1,q2,q3⟩:=hq
       exact hnext d (dropN_ok hp hdr hd) v w' E' (toAh ρ d.th) (fun b k hk=>by unfold toAh;rw [hk];rfl) q1 q2 q3
 mutual
theorem own1_den (hρ:fzL ρ=true){th:Tr SB}:∀{x:SV},x.own1 th=true→(x.den ρ).nofx=true∧∀b∈(x.den ρ).refs,∀k,toAh ρ th b=some k→k.flatB=true
  | .sc k t,h=>by cases k<;>first|(simp [SV.own1] at h;done)|exact ⟨rfl,fun b hb=>by cases hb⟩
  | .c v,_=>⟨rfl,fun b hb=>by cases hb⟩
  | .nil,_=>⟨rfl,fun b hb=>by cases hb⟩
  | .nan,_=>⟨rfl,fun b hb=>by cases hb⟩
  | .agg l,h=>by
   have:=own1L_den hρ (l:=l) (by simpa [SV.own1] using h)
   exact ⟨by simpa [SV.den,AV.nofx] using this.1,by simpa [SV.den,AV.refs] using this.2⟩
  | .tup l,h=>by
   have:=own1L_den hρ (l:=l) (by simpa [SV.own1] using h)
   exact ⟨by simpa [SV.den,AV.nofx] using this.1,by simpa [SV.den,AV.refs] using this.2⟩
  | .ifc t v,h=>by
   have:=own1_den hρ (x:=v) (by simpa [SV.own1] using h)
   exact ⟨by simpa [SV.den,AV.nofx] using this.1,by simpa [SV.den,AV.refs] using this.2⟩
  | .slc [] f,_=>⟨rfl,fun b hb=>by cases hb⟩
  | .slc (x::r) f,h=>by simp [SV.own1] at h
  | .os b sz off l,h=>by
   refine ⟨rfl,fun b' hb k hk=>?_⟩
   simp only [SV.den,AV.refs,List.mem_singleton] at hb
   subst hb
   simp only [SV.own1] at h
   unfold toAh at hk
   simp only [Option.map_eq_some_iff] at hk
   obtain ⟨z,hz,rfl⟩:=hk
   rw [hz] at h
   cases z with
   |rows sz rs=>
    simp only [List.all_eq_true] at h
    simp only [SB.den,Blk.flatB,denLL_map,List.all_map,List.all_eq_true]
    intro row hr
    exact fltL_den (h row hr)
   |rowsT sz t=>cases h
   |map es=>cases h
   |mapT m t=>cases h
   |it m n k=>cases h
   |rowsE ty sz rs=>cases h
   |rowsF sz t i off x=>cases h
  | .sf t,h=>by simp [SV.own1] at h
  | .vp row off,h=>by simp [SV.own1] at h
  | .op b sz t off,h=>by simp [SV.own1] at h
  | .fn f x y,h=>by simp [SV.own1] at h
  | .mp b,h=>by simp [SV.own1] at h
  | .ost ..,h=>by simp [SV.own1] at h
theorem own1L_den (hρ:fzL ρ=true){th:Tr SB}:∀{l:List SV},own1L th l=true→nofxL (denL ρ l)=true∧∀b∈refsL (denL ρ l),∀k,toAh ρ th b=some k→k.flatB=true
  |[],_=>⟨rfl,fun b hb=>by cases hb⟩
  |x::r,h=>by
   simp only [own1L,Bool.and_eq_true] at h
   have h1:=own1_den hρ (x:=x) h.1
   have h2:=own1L_den hρ (l:=r) h.2
   refine ⟨by simp [denL,nofxL,h1.1,h2.1],fun b hb=>?_⟩
   simp only [denL,refsL,List.mem_append] at hb
   rcases hb with hb|hb
   ·exact h1.2 b hb
   ·exact h2.2 b hb
end
def selR (ρ:List AV):List (Tm×SV)→AV
 |[]=>undefA
 |[x]=>x.2.den ρ
 |x::y::r=>bif (x.1.den ρ).B then x.2.den ρ else selR ρ (y::r)
structure PRes where
 rs:List (Tm×SV)
 sd:List (Pc×Side)
 aw:List Lo
theorem sOutsN_cons {rs:List ResultVar}{pc:Pc}{nv:Nat}{o:Out}{r:List Out}:sOutsN P rs pc nv (o::r)=(match sLeaf P rs (addPc (lastG o.g r) true pc) nv o with
 |none=>none
 |some x=>match (preF x.th x.nv x.v).1.frz (thN x.th deep) with
  |none=>none
  |some v=>match sOutsN P rs (addPc o.g false pc) (preF x.th x.nv x.v).2.1 r with
   |none=>none
   |some (l,nv',sd)=>some ((o.g,v.nrm)::l,nv',(x.sd++tagX (addPc (lastG o.g r) true pc) (preF x.th x.nv x.v).2.2 [])++sd)):=rfl
theorem sOuts_ok {fn:Func}(hρ:fzL ρ=true):∀{l:List Out} {pc:Pc} {nv nv':Nat} {rs:List (Tm×SV)} {sd:List (Pc×Sd)},sOutsN P fn.results.toList pc nv l=some (rs,nv',sd)→pc.holds ρ→SidesX P ρ sd→∀{base:Nat} {w w':World} {E E':Env} {fr:AFr} {ah:AH} {nx:Nat} {a':Act} {e:Exit},
  Sel ρ N l e fr ah nx→Sim base w' E' fr ah nx a'→Step base w E w' E'→isEnd e=true∧∃v v' ah' nx',EndV P fn base w E v ah' nx' a' w'∧Go.Fw.frz (ahN ah' deep) v=some v'∧Weak v' (selR ρ rs)∧(sNewMem P fn.results.toList pc nv l=true→v.nofx=true∧∀b∈v.refs,∀k,ah' b=some k→k.flatB=true)
 |[],pc,nv,nv',rs,sd,h,hp,hs,base,w,w',E,E',fr,ah,nx,a',e,hsel,hsim,hstep=>by
  obtain ⟨st,h1,-⟩:=hsel;cases h1
 |[o],pc,nv,nv',rs,sd,h,hp,hs,base,w,w',E,E',fr,ah,nx,a',e,hsel,hsim,hstep=>by
  obtain ⟨st,h1,h2⟩:=hsel
  simp only [sel,Option.some.injEq,Prod.mk.injEq] at h1
  obtain ⟨rfl,rfl⟩:=h1
  simp only [sOutsN,lastG,addPc] at h
  split at h
  ·cases h
  ·rename_i x hx
   split at h
   ·cases h
   ·rename_i v hv
    simp only [Option.some.injEq,Prod.mk.injEq,List.append_nil] at h
    obtain ⟨rfl,rfl,rfl⟩:=h
    obtain ⟨q1,q2⟩:=sLeaf_ok (P:=P) hx hp (sides_l hs) h2 hsim hstep
    have hpre:=(tagX_ok (sides_r hs)).1 hp
    refine ⟨q1,_,_,_,_,q2,(preF_den (P:=P) hρ (fun b k hk=>by unfold toAh;rw [hk];rfl) hpre).trans (frz_den hρ (thN_den hρ (fun b k hk=>by unfold toAh;rw [hk];rfl) deep) hv),nrm_weak,fun hap=>?_⟩
    simp only [sNewMem,lastG,addPc,hx,Bool.and_eq_true] at hap
    exact own1_den hρ hap.1
 |o::o'::r,pc,nv,nv',rs,sd,h,hp,hs,base,w,w',E,E',fr,ah,nx,a',e,hsel,hsim,hstep=>by
  obtain ⟨st,h1,h2⟩:=hsel
  simp only [sel] at h1
  rw [sOutsN_cons] at h
  simp only [lastG] at h
  split at h
  ·cases h
  ·rename_i x hx
   split at h
   ·cases h
   ·rename_i v hv
    split at h
    ·cases h
    ·rename_i l nv1 sd1 hl
     simp only [Option.some.injEq,Prod.mk.injEq] at h
     obtain ⟨rfl,rfl,rfl⟩:=h
     have hlne:∃y s,l=y::s:=by
      rw [sOutsN_cons] at hl
      split at hl
      ·cases hl
      ·split at hl
       ·cases hl
       ·split at hl
        ·cases hl
        ·simp only [Option.some.injEq,Prod.mk.injEq] at hl;exact ⟨_,_,hl.1.symm⟩
     cases hg:(o.g.den ρ).B
     ·rw [hg] at h1
      obtain ⟨q1,v1,v2,a1,n1,q2,q3,q4,q5⟩:=sOuts_ok hρ hl (addPc_holds hg hp) (sides_r hs) ⟨st,h1,h2⟩ hsim hstep
      obtain ⟨y,s,rfl⟩:=hlne
      refine ⟨q1,v1,v2,a1,n1,q2,q3,by simpa [selR,hg] using q4,fun hap=>q5 ?_⟩
      rw [sNewMem] at hap
      simp only [lastG,hx,Bool.and_eq_true] at hap
      exact hap.2
     ·rw [hg] at h1
      simp only [cond_true,Option.some.injEq,Prod.mk.injEq] at h1
      obtain ⟨rfl,rfl⟩:=h1
      obtain ⟨q1,q2⟩:=sLeaf_ok (P:=P) hx (addPc_holds hg hp) (sides_l (sides_l hs)) h2 hsim hstep
      obtain ⟨y,s,rfl⟩:=hlne
      have hpre:=(tagX_ok (sides_r (sides_l hs))).1 (addPc_holds hg hp)
      refine ⟨q1,_,_,_,_,q2,(preF_den (P:=P) hρ (fun b k hk=>by unfold toAh;rw [hk];rfl) hpre).trans (frz_den hρ (thN_den hρ (fun b k hk=>by unfold toAh;rw [hk];rfl) deep) hv),?_,fun hap=>?_⟩
      ·simp only [selR,hg,cond_true]
       exact nrm_weak
      ·rw [sNewMem] at hap
       simp only [lastG,hx,Bool.and_eq_true] at hap
       exact own1_den hρ hap.1
theorem pc_of_run {L:Ext'×Inl}{md:Md}{F:FCfg}{unr CF:Nat}(hm:P.follows .mixedOrders=true)(hX:∀σ:List AV,fzL σ=true→ExtOk P σ L.1)(hI:∀σ:List AV,fzL σ=true→InlOk P σ L.2)(hρ:fzL ρ=true)
  {f:FuncId} {fn:Func} {c:Code} (hfn:P.funcs[f]?=some fn) (hc:fn.body=some c) {args:List SV} (hg:(goodName fn&&Nat.ble args.length fn.ntmps)=true) {pc:Pc} {nv nv':Nat} {x:CRes} (hp:pc.holds ρ)
  (hx:sCode P ⟨L.1,is2 md,L.2,unr⟩ {F with N:=fn.ntmps} CF pc ⟨initT 0 args,.e,0⟩ nv c=some x) {l:List (Tm×SV)} {sd:List (Pc×Sd)} (hl:sOutsN P fn.results.toList pc x.nv x.outs=some (l,nv',sd)) (hs:SidesX P ρ (x.sd++sd)) (haw:AwOk P ρ x.aw) :
  PC P f (denL ρ args) (selR ρ l)∧(sNewMem P fn.results.toList pc x.nv x.outs=true→PCa P f (denL ρ args) (selR ρ l)):=by
 simp only [Bool.and_eq_true] at hg
 have hname:fn.name≠ "runtime.NumGoroutine" :=by simpa [goodName] using hg.1
 have hlen:=Nat.le_of_ble_eq_true hg.2
 have hall:∀(w:World) (fix:Nat→Nat→Prop) (vs:List Value),(∀c o,fix c o→c<w.heap.size)→GOk w fix→RepL w (freeEnv fix) (denL ρ args) vs→
   Calls P f vs.toArray w fun e w'=>∃v fix',e=.returned v∧Step w.heap.size w (freeEnv fix) w' (freeEnv fix')∧
    (∀c o,fix' c o→c<w'.heap.size)∧Rep w' (freeEnv fix') (selR ρ l) v∧(sNewMem P fn.results.toList pc x.nv x.outs=true→Rep w' (freeEnv fun c o=>fix' c o∧w.heap.size≤c) (selR ρ l) v):=?_
 ·refine ⟨fun w fix vs hfix hG hargs=>?_,fun hap w fix vs hfix hG hargs=>?_⟩
  ·rw [hfn]
   dsimp only
   rw [if_neg (by rw [hc];simp)]
   refine ⟨hname,(hall w fix vs hfix hG hargs).mono fun e w' hq=>?_⟩
   obtain ⟨v,fix',h1,h2,h3,h4,-⟩:=hq
   exact ⟨v,fix',h1,h2,h3,h4⟩
  ·rw [hfn]
   dsimp only
   rw [if_neg (by rw [hc];simp)]
   refine ⟨hname,(hall w fix vs hfix hG hargs).mono fun e w' hq=>?_⟩
   obtain ⟨v,fix',h1,h2,h3,-,h4⟩:=hq
   exact ⟨v,fix',h1,h2,h3,h4 hap⟩
 intro w fix vs hfix hG hargs
 have hlenA:(denL ρ args).length≤fn.ntmps:=by rw [denL_length];exact hlen
 have hst:StW ρ fn.ntmps ⟨initT 0 args,.e,0⟩ (argFr fn.ntmps (denL ρ args)) (fun _=>none) 0:=StW.of FrR_init (fun b k h=>by simp [Tr.get] at h) (argFr_length hlenA) (Nat.le_refl _)
 have haw':=sCode_ok (G:=⟨L.1,is2 md,L.2,unr⟩) (F:={F with N:=fn.ntmps}) hm hX hI hρ _ _ _ _ hx hp (sides_l hs) haw _ _ _ hst
 have hsim:Sim w.heap.size w (freeEnv fix) (argFr fn.ntmps (denL ρ args)) (fun _=>none) 0 {tmps:=vs.toArray++Array.replicate (fn.ntmps-vs.toArray.size) undef,defers:=[]}:=
  ⟨⟨fun b k hb=>(by cases hb),fun b b' k k' c o c' o' _ hb=>(by cases hb),fun _ _=>rfl,hfix,Nat.le_refl _,fun b c o hb=>(by cases hb)⟩,args_frOk hG hargs hlenA,rfl⟩
 refine calls_of_wp hfn hc (wp_mono (haw' _ w (freeEnv fix) _ hsim) fun e a' w' hp'=>?_)
 obtain ⟨E',fr',ah',nx',hsel,hsim',hst'⟩:=hp'
 obtain ⟨q1,v,v',ah2,nx2,⟨h0,E2,val,h1,h2,h3,h4⟩,hz,hwk,hapt⟩:=sOuts_ok (P:=P) (fn:=fn) hρ hl hp (sides_r hs) hsel hsim' hst'
 let fix':Nat→Nat→Prop:=fun c o=>E2.fix c o∨(w.heap.size≤c∧c<w'.heap.size)
 have hfr:=frzN_rep h4 (fix:=fix') (fun c o h=>.inl h) (fun b c o ho off=>.inr (h4.ownlt b c o ho)) deep h2 hz
 have hfinal:∃v fix',Ending.returned val=.returned v∧Step w.heap.size w (freeEnv fix) w' (freeEnv fix')∧
   (∀c o,fix' c o→c<w'.heap.size)∧Rep w' (freeEnv fix') (selR ρ l) v∧(sNewMem P fn.results.toList pc x.nv x.outs=true→Rep w' (freeEnv fun c o=>fix' c o∧w.heap.size≤c) (selR ρ l) v):=by
  refine ⟨_,fix',rfl,⟨⟨fun c o h=>.inl (h3.ext.fix c o h),h3.ext.cell,fun b hb=>absurd rfl hb,h3.ext.arr⟩,h3.below,fun c o hc h=>?_,fun c hc _=>h3.below.block c hc,fun b c o h _=>(by cases h),fun c o h hc=>?_⟩,fun c o h=>?_,hwk _ _ _ hfr,fun hap=>?_⟩
  rotate_left 3
  ·exact hwk _ _ _ (frz_apart h4 h2 (hapt hap).1 (hapt hap).2 hz (fun b _ c o ho off=>⟨.inr (h4.ownlt b c o ho),(h4.ownlt b c o ho).1⟩))
  ·rcases h with h|⟨h,-⟩
   ·exact h3.fixold c o hc h
   ·omega
  ·rcases h with h|⟨h,-⟩
   ·exact h3.fixnew c o h hc |>.imp id (fun ⟨b,o',h⟩=>by cases h)
   ·omega
  ·rcases h with h|⟨-,h⟩
   ·exact h4.fixlt c o h
   ·exact h
 cases e<;>first|exact ⟨h0,_,h1,hfinal⟩|(simp [isEnd] at q1)
theorem PC.weak {f:FuncId}{args:List AV}{r r':AV}(h:PC P f args r)(hw:Weak r r'):PC P f args r':=by
 intro w fix vs hfix hG hargs
 have:=h w fix vs hfix hG hargs
 split at this
 ·exact this
 ·rename_i fn hfn
  split at this
  ·rename_i hb
   rw [if_pos hb]
   obtain ⟨v,h1,h2⟩:=this
   exact ⟨v,h1,hw _ _ _ h2⟩
  ·rename_i hb
   rw [if_neg hb]
   refine ⟨this.1,this.2.mono fun e w' hq=>?_⟩
   obtain ⟨v,fix',h1,h2,h3,h4⟩:=hq
   exact ⟨v,fix',h1,h2,h3,hw _ _ _ h4⟩
theorem PCa.weak {f:FuncId}{args:List AV}{r r':AV}(h:PCa P f args r)(hw:Weak r r'):PCa P f args r':=by
 intro w fix vs hfix hG hargs
 have:=h w fix vs hfix hG hargs
 split at this
 ·exact this
 ·rename_i fn hfn
  split at this
  ·rename_i hb
   rw [if_pos hb]
   obtain ⟨v,h1,h2⟩:=this
   exact ⟨v,h1,hw _ _ _ h2⟩
  ·rename_i hb
   rw [if_neg hb]
   refine ⟨this.1,this.2.mono fun e w' hq=>?_⟩
   obtain ⟨v,fix',h1,h2,h3,h4⟩:=hq
   exact ⟨v,fix',h1,h2,h3,hw _ _ _ h4⟩
theorem mrgR_ok : ∀{l:List (Tm×SV)} {v:SV},mrgR l=some v→Weak (selR ρ l) (v.den ρ)
 |[],v,h=>by simp [mrgR] at h
 |[x],v,h=>by simp only [mrgR,Option.some.injEq] at h;subst h;exact Weak.refl _
 |x::y::r,v,h=>by
  simp only [mrgR] at h
  split at h
  ·cases h
  ·rename_i u hu
   have ih:=mrgR_ok (l:=y::r) hu
   have hw:=(mrgV_ok (ρ:=ρ) h).1
   simp only [selR]
   cases hg:(x.1.den ρ).B
   ·rw [hg] at hw;exact ih.trans hw
   ·rw [hg] at hw;exact hw
theorem pureOf_ok {X0:Ext'}{L:Ext'×Inl}{md:Md}{FC:FuncId→FCfg}{unr CF:Nat}(hm:P.follows .mixedOrders=true)(hX0:∀σ:List AV,fzL σ=true→ExtOk P σ X0)(hX:∀σ:List AV,fzL σ=true→ExtOk P σ L.1)(hI:∀σ:List AV,fzL σ=true→InlOk P σ L.2)(hρ:fzL ρ=true) :
  ExtOk P ρ (pureOf P X0 L md FC unr CF):=fun pc nv f args r h hp hs=>by
 unfold pureOf at h
 cases h1:Nat.beq (md f) 1||(Nat.beq (md f) 3&&litL args)
 ·simp only [h1,cond_false] at h
  exact hX0 ρ hρ pc nv f args r h hp hs
 ·simp only [h1,cond_true] at h
  split at h
  ·cases h
  ·rename_i fn hfn
   split at h
   ·cases h
   ·rename_i c hc
    cases hg:goodName fn&&Nat.ble args.length fn.ntmps
    ·simp [hg] at h
    ·simp only [hg,cond_true] at h
     split at h
     ·cases h
     ·rename_i x hx
      cases haw:x.aw.isEmpty
      ·simp [haw] at h
      ·simp only [haw,cond_true] at h
       split at h
       ·cases h
       ·rename_i l nv' sd hl
        split at h
        ·cases h
        ·rename_i v hv
         simp only [Option.some.injEq] at h;subst h
         have hawOk:AwOk P ρ x.aw:=by
          have:x.aw=[]:=by simpa using haw
          rw [this];exact trivial
         have hn:noL (x.sd++sd)=true:=by
          cases hn:noL (x.sd++sd)
          ·rw [hn] at hv;cases hv
          ·rfl
         rw [hn] at hv
         have hs':SidesX P ρ (x.sd++sd):=by
          rw [← noL_toX hn];exact toX_of hs
         have hpc:=pc_of_run (F:=FC f) hm hX hI hρ hfn hc hg hp hx hl hs' hawOk
         exact ⟨hpc.1.weak (mrgR_ok hv),fun hap=>(hpc.2 hap).weak (mrgR_ok hv)⟩
theorem sLvI_ok {X0:Ext'}{I0:Inl}{md:Md}{FC:FuncId→FCfg}{unr CF:Nat}(hm:P.follows .mixedOrders=true)(h0:∀σ:List AV,fzL σ=true→InlOk P σ I0)(hX0:∀σ:List AV,fzL σ=true→ExtOk P σ X0):∀n,(∀σ:List AV,fzL σ=true→ExtOk P σ (sLvI P X0 I0 md FC unr CF n).1)∧∀σ:List AV,fzL σ=true→InlOk P σ (sLvI P X0 I0 md FC unr CF n).2
 |0=>⟨hX0,h0⟩
 |n+1=>by
  obtain ⟨h1,h2⟩:=sLvI_ok (md:=md) (FC:=FC) (unr:=unr) (CF:=CF) hm h0 hX0 n
  exact ⟨fun σ hσ=>pureOf_ok hm hX0 h1 h2 hσ,fun σ hσ=>frzArg_ok hσ (inlOf_ok hm h0 h1 h2 hσ)⟩
def sFnI (P:Program)(X0:Ext')(I0:Inl)(md:Md)(FC:FuncId→FCfg)(unr CF:Nat)(f:FuncId)(args:List SV)(nv:Nat):Option PRes:=
 match P.funcs[f]? with
 |none=>none
 |some fn=>match fn.body with
  |none=>none
  |some c=>bif goodName fn&&Nat.ble args.length fn.ntmps then
    match sCode P ⟨(sLvI P X0 I0 md FC unr CF CF).1,is2 md,(sLvI P X0 I0 md FC unr CF CF).2,unr⟩ {FC f with N:=fn.ntmps} CF [] ⟨initT 0 args,.e,0⟩ nv c with
    |none=>none
    |some x=>match sOutsN P fn.results.toList [] x.nv x.outs with
     |none=>none
     |some (l,_,sd)=>some ⟨l,exS (x.sd++sd),srtLo (x.aw++exL (x.sd++sd))⟩
   else none
theorem sFnI_ok {X0:Ext'}{I0:Inl}{md:Md}{FC:FuncId→FCfg}{unr CF:Nat}{f:FuncId}{args:List SV}{nv:Nat}{R:PRes}(h:sFnI P X0 I0 md FC unr CF f args nv=some R)(hm:P.follows .mixedOrders=true)(hρ:fzL ρ=true)(h0:∀σ:List AV,fzL σ=true→InlOk P σ I0)(hX:∀σ:List AV,fzL σ=true→ExtOk P σ X0)
  (hs:SidesOk P ρ R.sd) (haw:AwOk P ρ R.aw):PC P f (denL ρ args) (selR ρ R.rs):=by
 unfold sFnI at h
 split at h
 ·cases h
 ·rename_i fn hfn
  split at h
  ·cases h
  ·rename_i c hc
   cases hg:goodName fn&&Nat.ble args.length fn.ntmps
   ·simp [hg] at h
   ·simp only [hg,cond_true] at h
    split at h
    ·cases h
    ·rename_i x hx
     split at h
     ·cases h
     ·rename_i l nv' sd hl
      simp only [Option.some.injEq] at h;subst h
      obtain ⟨h1,h2⟩:=sLvI_ok (md:=md) (FC:=FC) (unr:=unr) (CF:=CF) hm h0 hX CF
      exact (pc_of_run (F:=FC f) hm h1 h2 hρ hfn hc hg (fun x hx=>by cases hx) hx hl (ex_ok hs (LoL_app.1 (srtLo_ok haw)).2) (LoL_app.1 (srtLo_ok haw)).1).1
end
end Go.Fw
end
section
set_option linter.unusedVariables false
set_option linter.unusedSimpArgs false
set_option linter.unusedSectionVars false
namespace Go.Fw
set_option linter.unusedSimpArgs false
set_option linter.unusedVariables false
theorem fzLL_map {α:Type}{f:α→List AV}{l:List α}(h:∀x,fzL (f x)=true):fzLL (l.map f)=true:=by
 induction l with
 |nil=>rfl
 |cons x l ih=>simp [fzLL,h x,ih]
theorem fzn : fzL []=true:=rfl
theorem fzc {a:AV}{l:List AV}(h:a.fz=true)(k:fzL l=true):fzL (a::l)=true:=by simp [fzL,h,k]
theorem fzs {α:Type}{f:α→List AV}(h:∀x,fzL (f x)=true)(l:List α):(AV.sl (List.map f l) false).fz=true:=by simp [AV.fz,fzLL_map h]
theorem fzb {b:Bool}{x y:List AV}(h:fzL x=true)(k:fzL y=true):fzL (bif b then x else y)=true:=by cases b<;>simpa
def rowB (b:Bool):List AV:=[.p (.bool b)]
def rowI (n:Int):List AV:=[.p (.int .i64 n)]
def rowU8 (n:Int):List AV:=[.p (.int .u8 n)]
def rowS (s:List UInt8):List AV:=[.str s]
theorem rowB_fz (b:Bool):fzL (rowB b)=true:=rfl
theorem rowI_fz (b:Int):fzL (rowI b)=true:=rfl
theorem rowU8_fz (b:Int):fzL (rowU8 b)=true:=rfl
theorem rowS_fz (b:List UInt8):fzL (rowS b)=true:=rfl
structure GVal where
 Kind:Int
 Num:Nat
 Str:List UInt8
 Ref:Int
 deriving DecidableEq,Inhabited
def GVal.enc (v:GVal):List AV:=[.p (.int .u8 v.Kind),.p (.float .f64 v.Num),.str v.Str,.p (.int .i64 v.Ref)]
def GVal.av (v:GVal):AV:=.agg v.enc
def GVal.kds : List Kd:=[.int .u8,.flt,.str,.int .i64]
theorem GVal.fzL (v:GVal):Go.Fw.fzL v.enc=true:=fzc rfl (fzc rfl (fzc rfl (fzc rfl (fzn))))
theorem GVal.fz (v:GVal):v.av.fz=true:=GVal.fzL v
theorem GVal.len (v:GVal):v.enc.length=4:=rfl
theorem GVal.rok (l:List GVal):rowsOk 4 (l.map GVal.enc):=by
 intro row h
 obtain ⟨x,-,rfl⟩:=List.mem_map.1 h
 rfl
structure GKey where
 Str:List UInt8
 Sym:Int
 deriving DecidableEq,Inhabited
def GKey.enc (v:GKey):List AV:=[.str v.Str,.p (.int .i64 v.Sym)]
def GKey.av (v:GKey):AV:=.agg v.enc
def GKey.kds : List Kd:=[.str,.int .i64]
theorem GKey.fzL (v:GKey):Go.Fw.fzL v.enc=true:=fzc rfl (fzc rfl (fzn))
theorem GKey.fz (v:GKey):v.av.fz=true:=GKey.fzL v
theorem GKey.len (v:GKey):v.enc.length=2:=rfl
theorem GKey.rok (l:List GKey):rowsOk 2 (l.map GKey.enc):=by
 intro row h
 obtain ⟨x,-,rfl⟩:=List.mem_map.1 h
 rfl
structure GDesc where
 Has:Int
 Value:GVal
 Get:GVal
 Set:GVal
 Writable:Bool
 Enumerable:Bool
 Configurable:Bool
 deriving DecidableEq,Inhabited
def GDesc.enc (v:GDesc):List AV:=[.p (.int .u8 v.Has),.p (.int .u8 v.Value.Kind),.p (.float .f64 v.Value.Num),.str v.Value.Str,.p (.int .i64 v.Value.Ref),.p (.int .u8 v.Get.Kind),.p (.float .f64 v.Get.Num),.str v.Get.Str,.p (.int .i64 v.Get.Ref),.p (.int .u8 v.Set.Kind),.p (.float .f64 v.Set.Num),.str v.Set.Str,.p (.int .i64 v.Set.Ref),.p (.bool v.Writable),.p (.bool v.Enumerable),.p (.bool v.Configurable)]
def GDesc.av (v:GDesc):AV:=.agg v.enc
def GDesc.kds : List Kd:=[.int .u8,.int .u8,.flt,.str,.int .i64,.int .u8,.flt,.str,.int .i64,.int .u8,.flt,.str,.int .i64,.bool,.bool,.bool]
theorem GDesc.fzL (v:GDesc):Go.Fw.fzL v.enc=true:=fzc rfl (fzc rfl (fzc rfl (fzc rfl (fzc rfl (fzc rfl (fzc rfl (fzc rfl (fzc rfl (fzc rfl (fzc rfl (fzc rfl (fzc rfl (fzc rfl (fzc rfl (fzc rfl (fzn))))))))))))))))
theorem GDesc.fz (v:GDesc):v.av.fz=true:=GDesc.fzL v
theorem GDesc.len (v:GDesc):v.enc.length=16:=rfl
theorem GDesc.rok (l:List GDesc):rowsOk 16 (l.map GDesc.enc):=by
 intro row h
 obtain ⟨x,-,rfl⟩:=List.mem_map.1 h
 rfl
structure GProp where
 Key:GKey
 Desc:GDesc
 deriving DecidableEq,Inhabited
def GProp.enc (v:GProp):List AV:=[.str v.Key.Str,.p (.int .i64 v.Key.Sym),.p (.int .u8 v.Desc.Has),.p (.int .u8 v.Desc.Value.Kind),.p (.float .f64 v.Desc.Value.Num),.str v.Desc.Value.Str,.p (.int .i64 v.Desc.Value.Ref),.p (.int .u8 v.Desc.Get.Kind),.p (.float .f64 v.Desc.Get.Num),.str v.Desc.Get.Str,.p (.int .i64 v.Desc.Get.Ref),.p (.int .u8 v.Desc.Set.Kind),.p (.float .f64 v.Desc.Set.Num),.str v.Desc.Set.Str,.p (.int .i64 v.Desc.Set.Ref),.p (.bool v.Desc.Writable),.p (.bool v.Desc.Enumerable),.p (.bool v.Desc.Configurable)]
def GProp.av (v:GProp):AV:=.agg v.enc
def GProp.kds : List Kd:=[.str,.int .i64,.int .u8,.int .u8,.flt,.str,.int .i64,.int .u8,.flt,.str,.int .i64,.int .u8,.flt,.str,.int .i64,.bool,.bool,.bool]
theorem GProp.fzL (v:GProp):Go.Fw.fzL v.enc=true:=fzc rfl (fzc rfl (fzc rfl (fzc rfl (fzc rfl (fzc rfl (fzc rfl (fzc rfl (fzc rfl (fzc rfl (fzc rfl (fzc rfl (fzc rfl (fzc rfl (fzc rfl (fzc rfl (fzc rfl (fzc rfl (fzn))))))))))))))))))
theorem GProp.fz (v:GProp):v.av.fz=true:=GProp.fzL v
theorem GProp.len (v:GProp):v.enc.length=18:=rfl
theorem GProp.rok (l:List GProp):rowsOk 18 (l.map GProp.enc):=by
 intro row h
 obtain ⟨x,-,rfl⟩:=List.mem_map.1 h
 rfl
structure GObj where
 Kind:Int
 Proto:GVal
 Ext:Bool
 Props:List GProp
 Target:GVal
 Handler:GVal
 Text:List UInt8
 Calls:Bool
 Makes:Bool
 deriving DecidableEq,Inhabited
def GObj.enc (v:GObj):List AV:=[.p (.int .u8 v.Kind),.p (.int .u8 v.Proto.Kind),.p (.float .f64 v.Proto.Num),.str v.Proto.Str,.p (.int .i64 v.Proto.Ref),.p (.bool v.Ext),.sl (List.map GProp.enc v.Props) false,.p (.int .u8 v.Target.Kind),.p (.float .f64 v.Target.Num),.str v.Target.Str,.p (.int .i64 v.Target.Ref),.p (.int .u8 v.Handler.Kind),.p (.float .f64 v.Handler.Num),.str v.Handler.Str,.p (.int .i64 v.Handler.Ref),.str v.Text,.p (.bool v.Calls),.p (.bool v.Makes)]
def GObj.av (v:GObj):AV:=.agg v.enc
def GObj.kds : List Kd:=[.int .u8,.int .u8,.flt,.str,.int .i64,.bool,.sl,.int .u8,.flt,.str,.int .i64,.int .u8,.flt,.str,.int .i64,.str,.bool,.bool]
theorem GObj.fzL (v:GObj):Go.Fw.fzL v.enc=true:=fzc rfl (fzc rfl (fzc rfl (fzc rfl (fzc rfl (fzc rfl (fzc (fzs GProp.fzL _) (fzc rfl (fzc rfl (fzc rfl (fzc rfl (fzc rfl (fzc rfl (fzc rfl (fzc rfl (fzc rfl (fzc rfl (fzc rfl (fzn))))))))))))))))))
theorem GObj.fz (v:GObj):v.av.fz=true:=GObj.fzL v
theorem GObj.len (v:GObj):v.enc.length=18:=rfl
theorem GObj.rok (l:List GObj):rowsOk 18 (l.map GObj.enc):=by
 intro row h
 obtain ⟨x,-,rfl⟩:=List.mem_map.1 h
 rfl
structure GHeap where
 Objects:List GObj
 deriving DecidableEq,Inhabited
def GHeap.enc (v:GHeap):List AV:=[.sl (List.map GObj.enc v.Objects) false]
def GHeap.av (v:GHeap):AV:=.agg v.enc
def GHeap.kds : List Kd:=[.sl]
theorem GHeap.fzL (v:GHeap):Go.Fw.fzL v.enc=true:=fzc (fzs GObj.fzL _) (fzn)
theorem GHeap.fz (v:GHeap):v.av.fz=true:=GHeap.fzL v
theorem GHeap.len (v:GHeap):v.enc.length=1:=rfl
theorem GHeap.rok (l:List GHeap):rowsOk 1 (l.map GHeap.enc):=by
 intro row h
 obtain ⟨x,-,rfl⟩:=List.mem_map.1 h
 rfl
structure GOut where
 Kind:Int
 Value:GVal
 Yes:Bool
 Found:Bool
 Desc:GDesc
 Keys:List GKey
 Error:Int
 Text:List UInt8
 deriving DecidableEq,Inhabited
def GOut.enc (v:GOut):List AV:=[.p (.int .u8 v.Kind),.p (.int .u8 v.Value.Kind),.p (.float .f64 v.Value.Num),.str v.Value.Str,.p (.int .i64 v.Value.Ref),.p (.bool v.Yes),.p (.bool v.Found),.p (.int .u8 v.Desc.Has),.p (.int .u8 v.Desc.Value.Kind),.p (.float .f64 v.Desc.Value.Num),.str v.Desc.Value.Str,.p (.int .i64 v.Desc.Value.Ref),.p (.int .u8 v.Desc.Get.Kind),.p (.float .f64 v.Desc.Get.Num),.str v.Desc.Get.Str,.p (.int .i64 v.Desc.Get.Ref),.p (.int .u8 v.Desc.Set.Kind),.p (.float .f64 v.Desc.Set.Num),.str v.Desc.Set.Str,.p (.int .i64 v.Desc.Set.Ref),.p (.bool v.Desc.Writable),.p (.bool v.Desc.Enumerable),.p (.bool v.Desc.Configurable),.sl (List.map GKey.enc v.Keys) false,.p (.int .u8 v.Error),.str v.Text]
def GOut.av (v:GOut):AV:=.agg v.enc
def GOut.kds : List Kd:=[.int .u8,.int .u8,.flt,.str,.int .i64,.bool,.bool,.int .u8,.int .u8,.flt,.str,.int .i64,.int .u8,.flt,.str,.int .i64,.int .u8,.flt,.str,.int .i64,.bool,.bool,.bool,.sl,.int .u8,.str]
theorem GOut.fzL (v:GOut):Go.Fw.fzL v.enc=true:=fzc rfl (fzc rfl (fzc rfl (fzc rfl (fzc rfl (fzc rfl (fzc rfl (fzc rfl (fzc rfl (fzc rfl (fzc rfl (fzc rfl (fzc rfl (fzc rfl (fzc rfl (fzc rfl (fzc rfl (fzc rfl (fzc rfl (fzc rfl (fzc rfl (fzc rfl (fzc rfl (fzc (fzs GKey.fzL _) (fzc rfl (fzc rfl (fzn))))))))))))))))))))))))))
theorem GOut.fz (v:GOut):v.av.fz=true:=GOut.fzL v
theorem GOut.len (v:GOut):v.enc.length=26:=rfl
theorem GOut.rok (l:List GOut):rowsOk 26 (l.map GOut.enc):=by
 intro row h
 obtain ⟨x,-,rfl⟩:=List.mem_map.1 h
 rfl
structure GSeen where
 Began:Int
 Object:Int
 Method:Int
 Key:GKey
 Throw:Bool
 Out:GOut
 deriving DecidableEq,Inhabited
def GSeen.enc (v:GSeen):List AV:=[.p (.int .i64 v.Began),.p (.int .i64 v.Object),.p (.int .u8 v.Method),.str v.Key.Str,.p (.int .i64 v.Key.Sym),.p (.bool v.Throw),.p (.int .u8 v.Out.Kind),.p (.int .u8 v.Out.Value.Kind),.p (.float .f64 v.Out.Value.Num),.str v.Out.Value.Str,.p (.int .i64 v.Out.Value.Ref),.p (.bool v.Out.Yes),.p (.bool v.Out.Found),.p (.int .u8 v.Out.Desc.Has),.p (.int .u8 v.Out.Desc.Value.Kind),.p (.float .f64 v.Out.Desc.Value.Num),.str v.Out.Desc.Value.Str,.p (.int .i64 v.Out.Desc.Value.Ref),.p (.int .u8 v.Out.Desc.Get.Kind),.p (.float .f64 v.Out.Desc.Get.Num),.str v.Out.Desc.Get.Str,.p (.int .i64 v.Out.Desc.Get.Ref),.p (.int .u8 v.Out.Desc.Set.Kind),.p (.float .f64 v.Out.Desc.Set.Num),.str v.Out.Desc.Set.Str,.p (.int .i64 v.Out.Desc.Set.Ref),.p (.bool v.Out.Desc.Writable),.p (.bool v.Out.Desc.Enumerable),.p (.bool v.Out.Desc.Configurable),.sl (List.map GKey.enc v.Out.Keys) false,.p (.int .u8 v.Out.Error),.str v.Out.Text]
def GSeen.av (v:GSeen):AV:=.agg v.enc
def GSeen.kds : List Kd:=[.int .i64,.int .i64,.int .u8,.str,.int .i64,.bool,.int .u8,.int .u8,.flt,.str,.int .i64,.bool,.bool,.int .u8,.int .u8,.flt,.str,.int .i64,.int .u8,.flt,.str,.int .i64,.int .u8,.flt,.str,.int .i64,.bool,.bool,.bool,.sl,.int .u8,.str]
theorem GSeen.fzL (v:GSeen):Go.Fw.fzL v.enc=true:=fzc rfl (fzc rfl (fzc rfl (fzc rfl (fzc rfl (fzc rfl (fzc rfl (fzc rfl (fzc rfl (fzc rfl (fzc rfl (fzc rfl (fzc rfl (fzc rfl (fzc rfl (fzc rfl (fzc rfl (fzc rfl (fzc rfl (fzc rfl (fzc rfl (fzc rfl (fzc rfl (fzc rfl (fzc rfl (fzc rfl (fzc rfl (fzc rfl (fzc rfl (fzc (fzs GKey.fzL _) (fzc rfl (fzc rfl (fzn))))))))))))))))))))))))))))))))
theorem GSeen.fz (v:GSeen):v.av.fz=true:=GSeen.fzL v
theorem GSeen.len (v:GSeen):v.enc.length=32:=rfl
theorem GSeen.rok (l:List GSeen):rowsOk 32 (l.map GSeen.enc):=by
 intro row h
 obtain ⟨x,-,rfl⟩:=List.mem_map.1 h
 rfl
structure GAsk where
 Method:Int
 Object:Int
 Key:GKey
 Desc:GDesc
 Value:GVal
 Receiver:GVal
 Args:List GVal
 deriving DecidableEq,Inhabited
def GAsk.enc (v:GAsk):List AV:=[.p (.int .u8 v.Method),.p (.int .i64 v.Object),.str v.Key.Str,.p (.int .i64 v.Key.Sym),.p (.int .u8 v.Desc.Has),.p (.int .u8 v.Desc.Value.Kind),.p (.float .f64 v.Desc.Value.Num),.str v.Desc.Value.Str,.p (.int .i64 v.Desc.Value.Ref),.p (.int .u8 v.Desc.Get.Kind),.p (.float .f64 v.Desc.Get.Num),.str v.Desc.Get.Str,.p (.int .i64 v.Desc.Get.Ref),.p (.int .u8 v.Desc.Set.Kind),.p (.float .f64 v.Desc.Set.Num),.str v.Desc.Set.Str,.p (.int .i64 v.Desc.Set.Ref),.p (.bool v.Desc.Writable),.p (.bool v.Desc.Enumerable),.p (.bool v.Desc.Configurable),.p (.int .u8 v.Value.Kind),.p (.float .f64 v.Value.Num),.str v.Value.Str,.p (.int .i64 v.Value.Ref),.p (.int .u8 v.Receiver.Kind),.p (.float .f64 v.Receiver.Num),.str v.Receiver.Str,.p (.int .i64 v.Receiver.Ref),.sl (List.map GVal.enc v.Args) false]
def GAsk.av (v:GAsk):AV:=.agg v.enc
def GAsk.kds : List Kd:=[.int .u8,.int .i64,.str,.int .i64,.int .u8,.int .u8,.flt,.str,.int .i64,.int .u8,.flt,.str,.int .i64,.int .u8,.flt,.str,.int .i64,.bool,.bool,.bool,.int .u8,.flt,.str,.int .i64,.int .u8,.flt,.str,.int .i64,.sl]
theorem GAsk.fzL (v:GAsk):Go.Fw.fzL v.enc=true:=fzc rfl (fzc rfl (fzc rfl (fzc rfl (fzc rfl (fzc rfl (fzc rfl (fzc rfl (fzc rfl (fzc rfl (fzc rfl (fzc rfl (fzc rfl (fzc rfl (fzc rfl (fzc rfl (fzc rfl (fzc rfl (fzc rfl (fzc rfl (fzc rfl (fzc rfl (fzc rfl (fzc rfl (fzc rfl (fzc rfl (fzc rfl (fzc rfl (fzc (fzs GVal.fzL _) (fzn)))))))))))))))))))))))))))))
theorem GAsk.fz (v:GAsk):v.av.fz=true:=GAsk.fzL v
theorem GAsk.len (v:GAsk):v.enc.length=29:=rfl
theorem GAsk.rok (l:List GAsk):rowsOk 29 (l.map GAsk.enc):=by
 intro row h
 obtain ⟨x,-,rfl⟩:=List.mem_map.1 h
 rfl
structure GWant where
 Kind:Int
 Ask:GAsk
 Func:GVal
 This:GVal
 For:GVal
 Args:List GVal
 Object:GObj
 Out:GOut
 deriving DecidableEq,Inhabited
def GWant.enc (v:GWant):List AV:=[.p (.int .u8 v.Kind),.p (.int .u8 v.Ask.Method),.p (.int .i64 v.Ask.Object),.str v.Ask.Key.Str,.p (.int .i64 v.Ask.Key.Sym),.p (.int .u8 v.Ask.Desc.Has),.p (.int .u8 v.Ask.Desc.Value.Kind),.p (.float .f64 v.Ask.Desc.Value.Num),.str v.Ask.Desc.Value.Str,.p (.int .i64 v.Ask.Desc.Value.Ref),.p (.int .u8 v.Ask.Desc.Get.Kind),.p (.float .f64 v.Ask.Desc.Get.Num),.str v.Ask.Desc.Get.Str,.p (.int .i64 v.Ask.Desc.Get.Ref),.p (.int .u8 v.Ask.Desc.Set.Kind),.p (.float .f64 v.Ask.Desc.Set.Num),.str v.Ask.Desc.Set.Str,.p (.int .i64 v.Ask.Desc.Set.Ref),.p (.bool v.Ask.Desc.Writable),.p (.bool v.Ask.Desc.Enumerable),.p (.bool v.Ask.Desc.Configurable),.p (.int .u8 v.Ask.Value.Kind),.p (.float .f64 v.Ask.Value.Num),.str v.Ask.Value.Str,.p (.int .i64 v.Ask.Value.Ref),.p (.int .u8 v.Ask.Receiver.Kind),.p (.float .f64 v.Ask.Receiver.Num),.str v.Ask.Receiver.Str,.p (.int .i64 v.Ask.Receiver.Ref),.sl (List.map GVal.enc v.Ask.Args) false,.p (.int .u8 v.Func.Kind),.p (.float .f64 v.Func.Num),.str v.Func.Str,.p (.int .i64 v.Func.Ref),.p (.int .u8 v.This.Kind),.p (.float .f64 v.This.Num),.str v.This.Str,.p (.int .i64 v.This.Ref),.p (.int .u8 v.For.Kind),.p (.float .f64 v.For.Num),.str v.For.Str,.p (.int .i64 v.For.Ref),.sl (List.map GVal.enc v.Args) false,.p (.int .u8 v.Object.Kind),.p (.int .u8 v.Object.Proto.Kind),.p (.float .f64 v.Object.Proto.Num),.str v.Object.Proto.Str,.p (.int .i64 v.Object.Proto.Ref),.p (.bool v.Object.Ext),.sl (List.map GProp.enc v.Object.Props) false,.p (.int .u8 v.Object.Target.Kind),.p (.float .f64 v.Object.Target.Num),.str v.Object.Target.Str,.p (.int .i64 v.Object.Target.Ref),.p (.int .u8 v.Object.Handler.Kind),.p (.float .f64 v.Object.Handler.Num),.str v.Object.Handler.Str,.p (.int .i64 v.Object.Handler.Ref),.str v.Object.Text,.p (.bool v.Object.Calls),.p (.bool v.Object.Makes),.p (.int .u8 v.Out.Kind),.p (.int .u8 v.Out.Value.Kind),.p (.float .f64 v.Out.Value.Num),.str v.Out.Value.Str,.p (.int .i64 v.Out.Value.Ref),.p (.bool v.Out.Yes),.p (.bool v.Out.Found),.p (.int .u8 v.Out.Desc.Has),.p (.int .u8 v.Out.Desc.Value.Kind),.p (.float .f64 v.Out.Desc.Value.Num),.str v.Out.Desc.Value.Str,.p (.int .i64 v.Out.Desc.Value.Ref),.p (.int .u8 v.Out.Desc.Get.Kind),.p (.float .f64 v.Out.Desc.Get.Num),.str v.Out.Desc.Get.Str,.p (.int .i64 v.Out.Desc.Get.Ref),.p (.int .u8 v.Out.Desc.Set.Kind),.p (.float .f64 v.Out.Desc.Set.Num),.str v.Out.Desc.Set.Str,.p (.int .i64 v.Out.Desc.Set.Ref),.p (.bool v.Out.Desc.Writable),.p (.bool v.Out.Desc.Enumerable),.p (.bool v.Out.Desc.Configurable),.sl (List.map GKey.enc v.Out.Keys) false,.p (.int .u8 v.Out.Error),.str v.Out.Text]
def GWant.av (v:GWant):AV:=.agg v.enc
def GWant.kds : List Kd:=[.int .u8,.int .u8,.int .i64,.str,.int .i64,.int .u8,.int .u8,.flt,.str,.int .i64,.int .u8,.flt,.str,.int .i64,.int .u8,.flt,.str,.int .i64,.bool,.bool,.bool,.int .u8,.flt,.str,.int .i64,.int .u8,.flt,.str,.int .i64,.sl,.int .u8,.flt,.str,.int .i64,.int .u8,.flt,.str,.int .i64,.int .u8,.flt,.str,.int .i64,.sl,.int .u8,.int .u8,.flt,.str,.int .i64,.bool,.sl,.int .u8,.flt,.str,.int .i64,.int .u8,.flt,.str,.int .i64,.str,.bool,.bool,.int .u8,.int .u8,.flt,.str,.int .i64,.bool,.bool,.int .u8,.int .u8,.flt,.str,.int .i64,.int .u8,.flt,.str,.int .i64,.int .u8,.flt,.str,.int .i64,.bool,.bool,.bool,.sl,.int .u8,.str]
theorem GWant.fzL (v:GWant):Go.Fw.fzL v.enc=true:=fzc rfl (fzc rfl (fzc rfl (fzc rfl (fzc rfl (fzc rfl (fzc rfl (fzc rfl (fzc rfl (fzc rfl (fzc rfl (fzc rfl (fzc rfl (fzc rfl (fzc rfl (fzc rfl (fzc rfl (fzc rfl (fzc rfl (fzc rfl (fzc rfl (fzc rfl (fzc rfl (fzc rfl (fzc rfl (fzc rfl (fzc rfl (fzc rfl (fzc rfl (fzc (fzs GVal.fzL _) (fzc rfl (fzc rfl (fzc rfl (fzc rfl (fzc rfl (fzc rfl (fzc rfl (fzc rfl (fzc rfl (fzc rfl (fzc rfl (fzc rfl (fzc (fzs GVal.fzL _) (fzc rfl (fzc rfl (fzc rfl (fzc rfl (fzc rfl (fzc rfl (fzc (fzs GProp.fzL _) (fzc rfl (fzc rfl (fzc rfl (fzc rfl (fzc rfl (fzc rfl (fzc rfl (fzc rfl (fzc rfl (fzc rfl (fzc rfl (fzc rfl (fzc rfl (fzc rfl (fzc rfl (fzc rfl (fzc rfl (fzc rfl (fzc rfl (fzc rfl (fzc rfl (fzc rfl (fzc rfl (fzc rfl (fzc rfl (fzc rfl (fzc rfl (fzc rfl (fzc rfl (fzc rfl (fzc rfl (fzc rfl (fzc rfl (fzc rfl (fzc (fzs GKey.fzL _) (fzc rfl (fzc rfl (fzn)))))))))))))))))))))))))))))))))))))))))))))))))))))))))))))))))))))))))))))))))))))))
theorem GWant.fz (v:GWant):v.av.fz=true:=GWant.fzL v
theorem GWant.len (v:GWant):v.enc.length=87:=rfl
theorem GWant.rok (l:List GWant):rowsOk 87 (l.map GWant.enc):=by
 intro row h
 obtain ⟨x,-,rfl⟩:=List.mem_map.1 h
 rfl
structure GFix where
 shut:Bool
 proto:GVal
 keys:List GKey
 found:Bool
 desc:GDesc
 deriving DecidableEq,Inhabited
def GFix.enc (v:GFix):List AV:=[.p (.bool v.shut),.p (.int .u8 v.proto.Kind),.p (.float .f64 v.proto.Num),.str v.proto.Str,.p (.int .i64 v.proto.Ref),.sl (List.map GKey.enc v.keys) false,.p (.bool v.found),.p (.int .u8 v.desc.Has),.p (.int .u8 v.desc.Value.Kind),.p (.float .f64 v.desc.Value.Num),.str v.desc.Value.Str,.p (.int .i64 v.desc.Value.Ref),.p (.int .u8 v.desc.Get.Kind),.p (.float .f64 v.desc.Get.Num),.str v.desc.Get.Str,.p (.int .i64 v.desc.Get.Ref),.p (.int .u8 v.desc.Set.Kind),.p (.float .f64 v.desc.Set.Num),.str v.desc.Set.Str,.p (.int .i64 v.desc.Set.Ref),.p (.bool v.desc.Writable),.p (.bool v.desc.Enumerable),.p (.bool v.desc.Configurable)]
def GFix.av (v:GFix):AV:=.agg v.enc
def GFix.kds : List Kd:=[.bool,.int .u8,.flt,.str,.int .i64,.sl,.bool,.int .u8,.int .u8,.flt,.str,.int .i64,.int .u8,.flt,.str,.int .i64,.int .u8,.flt,.str,.int .i64,.bool,.bool,.bool]
theorem GFix.fzL (v:GFix):Go.Fw.fzL v.enc=true:=fzc rfl (fzc rfl (fzc rfl (fzc rfl (fzc rfl (fzc (fzs GKey.fzL _) (fzc rfl (fzc rfl (fzc rfl (fzc rfl (fzc rfl (fzc rfl (fzc rfl (fzc rfl (fzc rfl (fzc rfl (fzc rfl (fzc rfl (fzc rfl (fzc rfl (fzc rfl (fzc rfl (fzc rfl (fzn)))))))))))))))))))))))
theorem GFix.fz (v:GFix):v.av.fz=true:=GFix.fzL v
theorem GFix.len (v:GFix):v.enc.length=23:=rfl
theorem GFix.rok (l:List GFix):rowsOk 23 (l.map GFix.enc):=by
 intro row h
 obtain ⟨x,-,rfl⟩:=List.mem_map.1 h
 rfl
structure GFacts where
 Ext:Bool
 Proto:GVal
 Found:Bool
 Desc:GDesc
 Keys:List GKey
 Own:List GDesc
 deriving DecidableEq,Inhabited
def GFacts.enc (v:GFacts):List AV:=[.p (.bool v.Ext),.p (.int .u8 v.Proto.Kind),.p (.float .f64 v.Proto.Num),.str v.Proto.Str,.p (.int .i64 v.Proto.Ref),.p (.bool v.Found),.p (.int .u8 v.Desc.Has),.p (.int .u8 v.Desc.Value.Kind),.p (.float .f64 v.Desc.Value.Num),.str v.Desc.Value.Str,.p (.int .i64 v.Desc.Value.Ref),.p (.int .u8 v.Desc.Get.Kind),.p (.float .f64 v.Desc.Get.Num),.str v.Desc.Get.Str,.p (.int .i64 v.Desc.Get.Ref),.p (.int .u8 v.Desc.Set.Kind),.p (.float .f64 v.Desc.Set.Num),.str v.Desc.Set.Str,.p (.int .i64 v.Desc.Set.Ref),.p (.bool v.Desc.Writable),.p (.bool v.Desc.Enumerable),.p (.bool v.Desc.Configurable),.sl (List.map GKey.enc v.Keys) false,.sl (List.map GDesc.enc v.Own) false]
def GFacts.av (v:GFacts):AV:=.agg v.enc
def GFacts.kds : List Kd:=[.bool,.int .u8,.flt,.str,.int .i64,.bool,.int .u8,.int .u8,.flt,.str,.int .i64,.int .u8,.flt,.str,.int .i64,.int .u8,.flt,.str,.int .i64,.bool,.bool,.bool,.sl,.sl]
theorem GFacts.fzL (v:GFacts):Go.Fw.fzL v.enc=true:=fzc rfl (fzc rfl (fzc rfl (fzc rfl (fzc rfl (fzc rfl (fzc rfl (fzc rfl (fzc rfl (fzc rfl (fzc rfl (fzc rfl (fzc rfl (fzc rfl (fzc rfl (fzc rfl (fzc rfl (fzc rfl (fzc rfl (fzc rfl (fzc rfl (fzc rfl (fzc (fzs GKey.fzL _) (fzc (fzs GDesc.fzL _) (fzn))))))))))))))))))))))))
theorem GFacts.fz (v:GFacts):v.av.fz=true:=GFacts.fzL v
theorem GFacts.len (v:GFacts):v.enc.length=24:=rfl
theorem GFacts.rok (l:List GFacts):rowsOk 24 (l.map GFacts.enc):=by
 intro row h
 obtain ⟨x,-,rfl⟩:=List.mem_map.1 h
 rfl
structure GPast where
 entries:List Int
 closing:Int
 deriving DecidableEq,Inhabited
def GPast.enc (v:GPast):List AV:=[.sl (List.map rowI v.entries) false,.p (.int .i64 v.closing)]
def GPast.av (v:GPast):AV:=.agg v.enc
def GPast.kds : List Kd:=[.sl,.int .i64]
theorem GPast.fzL (v:GPast):Go.Fw.fzL v.enc=true:=fzc (fzs rowI_fz _) (fzc rfl (fzn))
theorem GPast.fz (v:GPast):v.av.fz=true:=GPast.fzL v
theorem GPast.len (v:GPast):v.enc.length=2:=rfl
theorem GPast.rok (l:List GPast):rowsOk 2 (l.map GPast.enc):=by
 intro row h
 obtain ⟨x,-,rfl⟩:=List.mem_map.1 h
 rfl
end Go.Fw
end
section
set_option linter.unusedVariables false
set_option linter.unusedSimpArgs false
set_option linter.unusedSectionVars false
namespace Go.Fw
set_option linter.unusedSectionVars false
variable [Glob]
set_option linter.unusedSimpArgs false
set_option linter.unusedVariables false
def X0 : Ext':=fun _ _ _ _=>none
def SidesC (P:Program)(ρ:List AV):List (Pc×Side)→Prop
 |[]=>True
 |x::r=>(Pc.holds ρ x.1→x.2.holds P ρ)∧SidesC P ρ r
theorem SidesC.ok {P:Program}{ρ:List AV}:∀{l:List (Pc×Side)},SidesC P ρ l→SidesOk P ρ l
 |[],_,x,hx=>nomatch hx
 |y::r,h,x,hx=>by
  cases hx with
  |head=>exact h.1
  |tail _ hx=>exact SidesC.ok h.2 x hx
theorem sc {P:Program}{ρ:List AV}{pc:Pc}{s:Side}{l:List (Pc×Side)}(h:Pc.holds ρ pc→s.holds P ρ)(k:SidesC P ρ l):SidesC P ρ ((pc,s)::l):=⟨h,k⟩
theorem Pc.holds.at {ρ:List AV}{pc:Pc}(h:Pc.holds ρ pc)(k:Nat){x:Tm×Bool}(e:pc[k]?=some x):(x.1.den ρ).B=x.2:=h x (List.mem_of_getElem? e)
theorem selL {ρ:List AV}{g:Tm}{v:SV}{A:AV}(h:v.den ρ=A):selR ρ [(g,v)]=A:=h
theorem selE {α:Type}{ρ:List AV}{g:Tm}{v:SV}{y:Tm×SV}{r:List (Tm×SV)}(enc:α→AV){c:Bool}{a b:α}(hg:(g.den ρ).B=c)(ha:v.den ρ=enc a)(hb:selR ρ (y::r)=enc b) :
  selR ρ ((g,v)::y::r)=enc (bif c then a else b):=by
 simp only [selR,hg]
 cases c
 ·exact hb
 ·exact ha
def mLen {α:Type}(f:α→List AV)(l:List α):Int:=lLen (List.map f l)
theorem mLen_eq {α:Type}(f:α→List AV)(l:List α):mLen f l=l.length:=by simp [mLen,lLen]
end Go.Fw
end
section
set_option linter.unusedVariables false
set_option linter.unusedSimpArgs false
set_option linter.unusedSectionVars false
namespace Go.Fw
set_option linter.unusedSectionVars false
variable [Glob]
set_option linter.unusedSimpArgs false
set_option linter.unusedVariables false
theorem iAdd1 {i:Int}(h0:0≤i)(h1:i<9223372036854775807):iAdd .i64 i 1=i+1:=by
 have e:IntKind.wrap .i64 (i+1)=if (i+1) % 18446744073709551616≥9223372036854775808 then (i+1) % 18446744073709551616-18446744073709551616 else (i+1) % 18446744073709551616:=by
  show (if (true&&decide ((i+1) % 2 ^ 64≥2 ^ (64-1)))=true then (i+1) % 2 ^ 64-2 ^ 64 else (i+1) % 2 ^ 64)=_
  simp
 have h3:(i+1) % 18446744073709551616=i+1:=by omega
 show IntKind.wrap .i64 (i+1)=i+1
 rw [e,h3,if_neg (by omega)]
def selB (b:Bool):Int:=bif b then 0 else 1
def rk2 (b:Bool)(l0 l1:List AV):Nat×List AV:=bif b then (0,l0) else (1,l1)
theorem hu_of {ρ:List AV}{p:Nat}{l:List AV}(h:(ρ.drop p).take l.length=l):∀(i:Nat) (u:AV),l[i]?=some u→ρ.getD (p+i) undefA=u:=by
 intro i u hu
 have hi:=(List.getElem?_eq_some_iff.1 hu).1
 rw [← h,List.getElem?_take,if_pos hi,List.getElem?_drop] at hu
 simp [List.getD_eq_getElem?_getD,hu]
theorem iEq_t {a b:Int}:iEq a b=true↔a=b:=by simp [iEq]
theorem iEq_f {a b:Int}:iEq a b=false↔a≠b:=by simp [iEq]
theorem row_i {α:Type}[Inhabited α]{f:α→List AV}{l:List α}{i:Int}(h0:0≤i)(h1:i<(l.length:Int)):0≤i∧(List.map f l)[i.toNat]?=some (f (l.getD i.toNat default)):=by
 refine ⟨h0,?_⟩
 have h3:i.toNat<l.length:=by omega
 simp [List.getD_eq_getElem?_getD,h3]
end Go.Fw
end
section
set_option linter.unusedVariables false
set_option linter.unusedSimpArgs false
set_option linter.unusedSectionVars false
namespace Go.Fw
set_option linter.unusedSectionVars false
variable [Glob]
set_option linter.unusedSimpArgs false
set_option linter.unusedVariables false
def notNan (n:Nat):Prop:=∀s t,FloatKind.f64.format.read n≠.nan s t
theorem order_nn {m n:Nat}{o:Ordering}(h:FloatKind.f64.format.order m n=some o):notNan m∧notNan n:=by
 unfold Ieee.Format.order at h
 constructor<;>intro s t e
 ·rw [e] at h;simp [Ieee.Datum.order] at h
 ·rw [e] at h;cases hm:FloatKind.f64.format.read m<;>rw [hm] at h<;>simp [Ieee.Datum.order] at h
theorem fnn2 {m n:Nat}(h:fEq m n=true):notNan n:=(order_nn (by simpa [fEq] using h)).2
theorem fnn3 {m n:Nat}(h:fNe m n=false):notNan m:=(order_nn (by simpa [fNe] using h)).1
theorem read_one : ∃m i,m≠0∧FloatKind.f64.format.read 4607182418800017408=.number false m i:=⟨4503599627370496,-52,by decide,by rfl⟩
theorem fdiv_one {n:Nat}(h:notNan n):FloatKind.f64.format.div 4607182418800017408 n=some ((FloatKind.f64.format.div 4607182418800017408 n).getD 0):=by
 have:∃d,FloatKind.f64.format.div 4607182418800017408 n=some d:=by
  unfold Ieee.Format.div
  obtain ⟨m,i,hm,e⟩:=read_one
  rw [e]
  cases hn:FloatKind.f64.format.read n with
  |nan s t=>exact absurd hn (h s t)
  |infinity s=>simp [Ieee.Datum.quotient]
  |number s k j=>
   by_cases hk:k=0
   ·simp [Ieee.Datum.quotient,hk,hm]
   ·simp [Ieee.Datum.quotient,hk,hm]
 obtain ⟨d,hd⟩:=this
 rw [hd];rfl
theorem quo1 {P:Program}{ρ:List AV}{x:Tm}(h:notNan (x.den ρ).F):Side.holds P ρ (.fop .quo (.lf 4607182418800017408) x):=by
 show (FloatKind.f64.format.div 4607182418800017408 (x.den ρ).F).isSome=true
 rw [fdiv_one h];rfl
def math_Float64bits (x:Nat):Int:=x
def math_Float64frombits (n:Int):Nat:=n.toNat
def math_archTrunc (x:Nat):Nat:=FloatKind.f64.encode ((FloatKind.f64.decode x).integral .zero)
theorem trunc_run {x:Nat}(h:notNan x):Extern.MathFloor.toIntegral "math.archTrunc" .zero #[.float .f64 x]=pure (.float .f64 (math_archTrunc x)):=by
 have e:Extern.MathFloor.toIntegral "math.archTrunc" .zero #[.float .f64 x]=(match FloatKind.f64.decode x with
  | .nan s t=>
   if FloatKind.f64.format.quiet t=t then pure (.float .f64 x) else do
   let kept ← choose (.extern "math.Floor,Ceil,Trunc,RoundToEven.signallingNaN kept" 2)
   pure (.float .f64 (if kept == 1 then x else FloatKind.f64.encode (.nan s (FloatKind.f64.format.quiet t))))
  |d=>pure (.float .f64 (FloatKind.f64.encode (d.integral .zero)))):=by kernel_rfl
 rw [e]
 unfold math_archTrunc
 cases hd:FloatKind.f64.decode x with
 |nan s t=>exact absurd hd (h s t)
 |_=>rfl
theorem pc_ext1 {P:Program}{f:FuncId}{fn:Func}{e:Array Value→Sem Value}{a u:Value}{r:AV}(hf:P.funcs[f]?=some fn)(hb:fn.body.isNone=true)(hname:(fn.name == "runtime.NumGoroutine")=false)
  (hn:Extern.findNext fn=none) (he:Extern.find fn=some e) (ha:plainV a=true) (hrun:e #[a]=pure u) (hr:plainV u=true) (hu:r=.p u):PC P f [.p a] r:=by
 intro w fix vs hfix hG hargs
 rw [hf]
 dsimp only
 rw [if_pos hb]
 obtain ⟨v0,rfl⟩:∃v0,vs=[v0]:=by
  have:=hargs.1
  match vs,this with
  |[v0],_=>exact ⟨v0,rfl⟩
 have h0:=hargs.2 0 (.p a) v0 rfl rfl
 obtain rfl:=h0.p_inv
 subst hu
 refine ⟨u,?_,.p hr⟩
 have hm:(mark (.extern f)).run P w=.ok () w:=rfl
 simp only [callFunc,Sem.run_bind,run_program,Result.andThen_ok,hf,hname,Bool.false_eq_true,if_false,hb,if_true,hm,hn,he]
 simp [hrun]
def isNanB (n:Nat):Bool:=match FloatKind.f64.format.read n with | .nan _ _=>true|_=>false
theorem isNanB_ok {n:Nat}(h:isNanB n=false):notNan n:=by
 intro s t e
 unfold isNanB at h
 rw [e] at h
 cases h
def xNum (a b c:FuncId):Ext':=fun _ nv f args=>
 match args with
 |[.sc .flt (.lf n)]=>bif Nat.beq f a then some (.sc (.int .u64) (.li (.ofNat n)),nv,[],false) else bif Nat.beq f c&&!isNanB n then fNat (math_archTrunc n) fun m=>some (.sc .flt (.lf m),nv,[],false) else none
 |[.sc (.int .u64) (.li (.ofNat n))]=>bif Nat.beq f b then some (.sc .flt (.lf n),nv,[],false) else none
 |_=>none
theorem xNum_ok {P:Program}{a b c:FuncId}(h1:∀x,PC P a [.p (.float .f64 x)] (.p (.int .u64 (math_Float64bits x))))(h2:∀x,PC P b [.p (.int .u64 x)] (.p (.float .f64 (math_Float64frombits x))))
  (h3:∀x,notNan x→PC P c [.p (.float .f64 x)] (.p (.float .f64 (math_archTrunc x)))):∀σ:List AV,fzL σ=true→ExtOk P σ (xNum a b c):=by
 intro σ _ pc nv f args r h _ _
 unfold xNum at h
 split at h
 ·rename_i n
  cases h4:Nat.beq f a
  ·simp only [h4,cond_false] at h
   cases h5:Nat.beq f c&&!isNanB n
   ·simp [h5] at h
   ·simp only [h5,cond_true,fNat_eq,Option.some.injEq] at h;subst h
    simp only [Bool.and_eq_true,Bool.not_eq_true'] at h5
    have:=Nat.eq_of_beq_eq_true h5.1
    subst this
    exact ⟨h3 n (isNanB_ok h5.2),fun h=>by cases h⟩
  ·simp only [h4,cond_true,Option.some.injEq] at h;subst h
   have:=Nat.eq_of_beq_eq_true h4
   subst this
   exact ⟨h1 n,fun h=>by cases h⟩
 ·rename_i n
  cases h4:Nat.beq f b
  ·simp [h4] at h
  ·simp only [h4,cond_true,Option.some.injEq] at h;subst h
   have:=Nat.eq_of_beq_eq_true h4
   subst this
   exact ⟨h2 n,fun h=>by cases h⟩
 ·cases h
end Go.Fw
end
section
set_option linter.unusedVariables false
set_option linter.unusedSimpArgs false
set_option linter.unusedSectionVars false
namespace Go.Fw
set_option linter.unusedSectionVars false
variable [Glob]
set_option linter.unusedSimpArgs false
set_option linter.unusedVariables false
section
variable {P : Program}
theorem nil_eq {w:World}{E:Env}{t e:TypeId}(hu:P.underlying t=some (.slice e)){rows:List (List AV)}{full:Bool}{v:Value}(h:Rep w E (.sl rows full) v)(ox oy:Operand) :
  ∃b:Bool,(do eqGuard .eql t ox oy v (.slice none 0 0);binOp .eql t v (.slice none 0 0):Sem Value).run P w=.ok (.bool b) w∧(b=true→rows=[]):=by
 have run:∀(a:Option Addr) (n c:Nat),(do eqGuard .eql t ox oy (.slice a n c) (.slice none 0 0);binOp .eql t (.slice a n c) (.slice none 0 0):Sem Value).run P w=.ok (.bool a.isNone) w:=by
  intro a n c
  have key:∀d,(Op.equalIn (d+1) t (.slice a n c) (.slice none 0 0)).run P w=.ok a.isNone w:=by
   intro d
   cases a<;>simp [Op.equalIn,run_underlying hu]
  have key2:(Op.equal t (.slice a n c) (.slice none 0 0)).run P w=.ok a.isNone w:=key 9999
  simp [eqGuard,binOp,key2]
 cases h with
 |slnil _ a=>exact ⟨_,run a 0 0,fun _=>rfl⟩
 |sl _ _ sz c o cap g=>exact ⟨_,run _ _ _,fun h=>by cases h⟩
theorem AW_nil {id:Nat}{ops:Array Oper}{o0 o1:Oper}{t e:TypeId}{yt:TypeId}{fr:AFr}{ah:AH}{nx:Nat}{Q:AQ}{rows:List (List AV)}{full:Bool}(hops:ops=#[o0,o1])(h0:o0.op=.move (.tmp 0))(g0:o0.guard=none)(d0:o0.dst=some 3)
  (h1:o1.op=.binOp .eql t (.tmp 3) (.const (.slice none 0 0)) yt) (g1:o1.guard=none) (d1:o1.dst=some 4) (hu:P.underlying t=some (.slice e)) (hfr:fget fr 0=some (.sl rows full)) (hlen:4<fr.length)
  (hQ:∀b:Bool,(b=true→rows=[])→Q .normal (fset (fset fr 3 (.sl rows full)) 4 (.p (.bool b))) ah (nx+2)):AW P (.region id ops false) fr ah nx Q:=by
 subst hops
 intro base w E a hs
 refine wp_region ?_
 show wpOps P #[o0,o1] _ [0,1] a w
 rw [wpOps_cons]
 unfold wpOp
 simp only [List.getElem?_toArray,List.getElem?_cons_zero]
 obtain ⟨v,hv,hr⟩:=hs.fr.get 0 _ hfr
 have ev0:a.eval (.tmp 0)=v:=by simp [Act.eval,hv]
 rw [if_pos (by simp [Region.wanted,g0])]
 refine .inl (upon_value (P:=P) (s:=pure (.value v)) (v:=v) (w':=w) (by simp [execOp,h0,ev0]) rfl ?_)
 rw [wpOps_cons]
 unfold wpOp
 simp only [List.getElem?_toArray,List.getElem?_cons_zero,List.getElem?_cons_succ]
 rw [if_pos (by simp [Region.wanted,g1])]
 have hfr1:=hs.fr.put o0.dst hr
 have hput:fget (fput fr o0.dst (.sl rows full)) 3=some (.sl rows full):=by rw [d0];simp only [fput,fget_fset];rw [if_pos ⟨trivial,by omega⟩]
 obtain ⟨v1,hv1,hr1⟩:=hfr1.get 3 _ hput
 have ev1:(a.put o0.dst v).eval (.tmp 3)=v1:=by simp [Act.eval,hv1]
 have ev2:(a.put o0.dst v).eval (.const (.slice none 0 0))=.slice none 0 0:=rfl
 obtain ⟨b,hb,hbr⟩:=nil_eq (P:=P) hu hr1 (.tmp 3) (.const (.slice none 0 0))
 refine .inl (upon_value (P:=P) (s:=do pure (.value (← (do eqGuard .eql t (.tmp 3) (.const (.slice none 0 0)) v1 (.slice none 0 0);binOp .eql t v1 (.slice none 0 0):Sem Value)))) (v:=.bool b) (w':=w) (by simp only [execOp,h1,ev1,ev2]) ?_ ?_)
 ·rw [Sem.run_bind,hb];rfl
 ·show APost base w E Q .normal _ _
  have hfr2:=hfr1.put (x:=.p (.bool b)) o1.dst (.p rfl)
  have e1:fput (fput fr o0.dst (.sl rows full)) o1.dst (.p (.bool b))=fset (fset fr 3 (.sl rows full)) 4 (.p (.bool b)):=by rw [d0,d1];rfl
  rw [e1] at hfr2
  exact ⟨E,_,ah,nx+2,hQ b hbr,⟨hs.heap.weaken (fun b hb=>by omega),hfr2,by rw [put_defers,put_defers];exact hs.defers⟩,Step.refl _ _ _⟩
def cloneShape (fn:Func):Option TypeId:=
 match fn.body with
 |some (.seq (.region _ r0 false) (.seq (.seq (.region _ r1 false) (.cond (.tmp 4) (.seq (.region _ r2 false) .ret) .skip)) (.seq (.region _ r3 false) .ret)))=>
  match r0.toList,r1.toList,r2.toList,r3.toList with
  |[a0],[b0,b1],[c0],[d0,d1,d2,d3]=>
   match a0.op,b0.op,b1.op,c0.op,d0.op,d1.op,d2.op,d3.op with
   | .assign (.const (.slice none 0 0)),.move (.tmp 0),.binOp .eql t (.tmp 3) (.const (.slice none 0 0)) _,.assign (.const (.slice none 0 0)),.buildSlice t1 0 ps,.move (.tmp 0),.call ⟨.builtin .append,az,ts⟩,.assign (.tmp 7)=>
    match az.toList,ts.toList with
    |[.tmp 5,.tmp 6],[t2,t3]=>
     bif [a0,b0,b1,c0,d0,d1,d2,d3].all (fun o=>o.guard.isNone)&&([a0,b0,b1,c0,d0,d1,d2,d3].map (·.dst) == [some 2,some 3,some 4,some 2,some 5,some 6,some 7,some 2])&&(Nat.beq t t1&&(Nat.beq t t2&&(Nat.beq t t3&&ps.isEmpty)))
      &&Nat.beq fn.ntmps 8&&decide (fn.name≠ "runtime.NumGoroutine")&&(match fn.results.toList with | [.tmp 2]=>true|_=>false) then some t else none
    |_,_=>none
   |_,_,_,_,_,_,_,_=>none
  |_,_,_,_=>none
 |_=>none
theorem clone_pc {f:FuncId}{fn:Func}{t e:TypeId}{i:TypeInfo}{z:List AV}(hfn:P.funcs[f]?=some fn)(h:cloneShape fn=some t)(hu:P.underlying t=some (.slice e))(hi:P.info? e=some i)(hz:zeroOf P e=some z)
  (hzl:z.length=i.size) (hby:i.bytes≤4096) (hsz:i.size≠0) {rows:List (List AV)} (hr:rowsOk i.size rows) (hc:cleanLL rows=true) (hl:rows.length≤4294967296):PC P f [.sl rows false] (.sl rows false):=by
 unfold cloneShape at h
 split at h
 ·rename_i id0 r0 id1 r1 id2 r2 id3 r3 hbody
  split at h
  ·rename_i a0 b0 b1 c0 d0 d1 d2 d3 e0 e1 e2 e3
   split at h
   ·rename_i t' yt t1 ps az ts q0 q1 q2 q3 q4 q5 q6 q7
    split at h
    ·rename_i t2 t3 eas ets
     generalize hg:(([a0,b0,b1,c0,d0,d1,d2,d3].all (fun o=>o.guard.isNone)&&([a0,b0,b1,c0,d0,d1,d2,d3].map (·.dst) == [some 2,some 3,some 4,some 2,some 5,some 6,some 7,some 2])&&(Nat.beq t' t1&&(Nat.beq t' t2&&(Nat.beq t' t3&&ps.isEmpty)))
      &&Nat.beq fn.ntmps 8&&decide (fn.name≠ "runtime.NumGoroutine")&&(match fn.results.toList with | [.tmp 2]=>true|_=>false)))=g at h
     cases g
     ·cases h
     ·simp only [cond_true,Option.some.injEq] at h
      subst h
      simp only [Bool.and_eq_true,decide_eq_true_eq,beq_iff_eq] at hg
      obtain ⟨⟨⟨⟨⟨hgu,hds⟩,hty,hty2,hty3,hps⟩,hnt⟩,hname⟩,hres⟩:=hg
      have ht1:=Nat.eq_of_beq_eq_true hty
      have ht2:=Nat.eq_of_beq_eq_true hty2
      have ht3:=Nat.eq_of_beq_eq_true hty3
      subst ht1;subst ht2;subst ht3
      have hnt:=Nat.eq_of_beq_eq_true hnt
      simp only [List.all_cons,List.all_nil,Bool.and_true,Bool.and_eq_true,Option.isNone_iff_eq_none] at hgu
      obtain ⟨ga0,gb0,gb1,gc0,gd0,gd1,gd2,gd3⟩:=hgu
      simp only [List.map_cons,List.map_nil,List.cons.injEq,and_true] at hds
      obtain ⟨da0,db0,db1,dc0,dd0,dd1,dd2,dd3⟩:=hds
      have hps':ps.toList=[]:=by
       have:ps=#[]:=by simpa using hps
       rw [this]
      have hresl:fn.results.toList=[.tmp 2]:=by
       split at hres
       ·assumption
       ·cases hres
      have er1:r1=#[b0,b1]:=by apply Array.ext';simpa using e1
      have one:∀(id:Nat) (ops:Array Oper) (l:List Oper) (fr:AFr) (ah:AH) (nx:Nat) (Q:AQ),ops.toList=l→aRun P ops none nx 0 l fr ah [] (fun fr' ah'=>Q .normal fr' ah' (nx+ops.size))→AW P (.region id ops false) fr ah nx Q:=by
       intro id ops l fr ah nx Q hl h
       subst hl
       exact AW_region h
      have huE:zeroOf P e=some z:=hz
      have hsle:slElem P t'=some (i.size,i.bytes):=by simp [slElem,hu,hi]
      refine PC_of_AW hfn hbody hname (by rw [hnt];simp) ?_
      rw [hnt]
      refine AW_seq' (one _ _ _ _ _ _ _ e0 ?_)
      simp only [aRun,aWanted,ga0,aIf,aOp,q0,ev,ofV,ofC,withO,compat,da0,fput,true_and]
      refine AW_seq' (AW_seq' (AW_nil er1 q1 gb0 db0 q2 gb1 db1 hu (rows:=rows) (full:=false) (by rfl) (by simp [length_fset]) fun b hb=>?_))
      refine AW_cond b (by rfl) ?_
      cases b with
      |true=>
       have hrn:=hb rfl
       subst hrn
       rw [if_pos rfl]
       refine AW_seq' (one _ _ _ _ _ _ _ e2 ?_)
       simp only [aRun,aWanted,gc0,aIf,aOp,q3,ev,ofV,ofC,withO,compat,dc0,fput,true_and]
       refine AW_ret ⟨.inr rfl,?_⟩
       rw [hresl]
       rfl
      |false=>
       rw [if_neg (by simp)]
       refine AW_skip ?_
       refine AW_seq' (one _ _ _ _ _ _ _ e3 ?_)
       have happ:∀(ah:AH) (id1 id2:Nat) (K:Res→Prop),ah id1=some (.rows i.size [])→K ⟨.os id2 i.size 0 (0+rows.length),[(id1,none),(id2,some (.rows i.size (((([]:List (List AV)).drop 0).take 0)++rows)))],id1::[]⟩→
         aAppend P id2 ah t' t' (.os id1 i.size 0 0) (.sl rows false) K:=by
        intro ah id1 id2 K hab hK
        refine withO_iff.2 ⟨_,hsle,hby,hsz,?_,?_,hr,rfl,?_⟩
        ·rw [hu];trivial
        ·rw [hu];simp [huE,hzl]
        ·rw [hab];exact ⟨rfl,by simp,by simpa using hl,hK⟩
       have hbs:∀(id:Nat) (K:Res→Prop),K ⟨.os id i.size 0 0,[(id,some (.rows i.size (chunks i.size 0 [])))],[]⟩→aBuildSlice P t' id 0 [] K:=by
        intro id K hK
        unfold aBuildSlice
        rw [hu]
        exact withO_iff.2 ⟨i,hi,withO_iff.2 ⟨z,huE,hzl,by simp,withO_iff.2 ⟨[],rfl,hK⟩⟩⟩
       simp only [aRun,aWanted,gd0,gd1,gd2,gd3,aIf,aOp,q4,q5,q6,q7,hps',evL,eas,ets,compat,dd0,dd1,dd2,dd3,true_and]
       refine withO_iff.2 ⟨[],rfl,hbs _ _ ?_⟩
       refine withO_iff.2 ⟨.sl rows false,rfl,?_⟩
       refine withO_iff.2 ⟨[.os _ i.size 0 0,.sl rows false],rfl,?_⟩
       have hts:ts=#[t',t']:=by apply Array.ext';simpa using ets
       subst hts
       refine withO_iff.2 ⟨t',rfl,withO_iff.2 ⟨t',rfl,.inl<|happ _ _ _ _ (by simp [upds,upd,chunks]) ?_⟩⟩
       refine withO_iff.2 ⟨.os _ i.size 0 (0+rows.length),rfl,?_⟩
       refine AW_ret ⟨.inr rfl,?_⟩
       rw [hresl]
       refine withO_iff.2 ⟨.os _ i.size 0 (0+rows.length),rfl,?_⟩
       exact frz_os_clean (by simp [upds,upd]) hc (by simp)
    ·cases h
   ·cases h
  ·cases h
 ·cases h
theorem clone_pca {f:FuncId}{fn:Func}{t e:TypeId}{i:TypeInfo}{z:List AV}(hfn:P.funcs[f]?=some fn)(h:cloneShape fn=some t)(hu:P.underlying t=some (.slice e))(hi:P.info? e=some i)(hz:zeroOf P e=some z)
  (hzl:z.length=i.size) (hby:i.bytes≤4096) (hsz:i.size≠0) {rows:List (List AV)} (hr:rowsOk i.size rows) (hc:cleanLL rows=true) (hl:rows.length≤4294967296) (hfl:rows.all flatL=true):PCa P f [.sl rows false] (.sl rows false):=by
 unfold cloneShape at h
 split at h
 ·rename_i id0 r0 id1 r1 id2 r2 id3 r3 hbody
  split at h
  ·rename_i a0 b0 b1 c0 d0 d1 d2 d3 e0 e1 e2 e3
   split at h
   ·rename_i t' yt t1 ps az ts q0 q1 q2 q3 q4 q5 q6 q7
    split at h
    ·rename_i t2 t3 eas ets
     generalize hg:(([a0,b0,b1,c0,d0,d1,d2,d3].all (fun o=>o.guard.isNone)&&([a0,b0,b1,c0,d0,d1,d2,d3].map (·.dst) == [some 2,some 3,some 4,some 2,some 5,some 6,some 7,some 2])&&(Nat.beq t' t1&&(Nat.beq t' t2&&(Nat.beq t' t3&&ps.isEmpty)))
      &&Nat.beq fn.ntmps 8&&decide (fn.name≠ "runtime.NumGoroutine")&&(match fn.results.toList with | [.tmp 2]=>true|_=>false)))=g at h
     cases g
     ·cases h
     ·simp only [cond_true,Option.some.injEq] at h
      subst h
      simp only [Bool.and_eq_true,decide_eq_true_eq,beq_iff_eq] at hg
      obtain ⟨⟨⟨⟨⟨hgu,hds⟩,hty,hty2,hty3,hps⟩,hnt⟩,hname⟩,hres⟩:=hg
      have ht1:=Nat.eq_of_beq_eq_true hty
      have ht2:=Nat.eq_of_beq_eq_true hty2
      have ht3:=Nat.eq_of_beq_eq_true hty3
      subst ht1;subst ht2;subst ht3
      have hnt:=Nat.eq_of_beq_eq_true hnt
      simp only [List.all_cons,List.all_nil,Bool.and_true,Bool.and_eq_true,Option.isNone_iff_eq_none] at hgu
      obtain ⟨ga0,gb0,gb1,gc0,gd0,gd1,gd2,gd3⟩:=hgu
      simp only [List.map_cons,List.map_nil,List.cons.injEq,and_true] at hds
      obtain ⟨da0,db0,db1,dc0,dd0,dd1,dd2,dd3⟩:=hds
      have hps':ps.toList=[]:=by
       have:ps=#[]:=by simpa using hps
       rw [this]
      have hresl:fn.results.toList=[.tmp 2]:=by
       split at hres
       ·assumption
       ·cases hres
      have er1:r1=#[b0,b1]:=by apply Array.ext';simpa using e1
      have one:∀(id:Nat) (ops:Array Oper) (l:List Oper) (fr:AFr) (ah:AH) (nx:Nat) (Q:AQ),ops.toList=l→aRun P ops none nx 0 l fr ah [] (fun fr' ah'=>Q .normal fr' ah' (nx+ops.size))→AW P (.region id ops false) fr ah nx Q:=by
       intro id ops l fr ah nx Q hl h
       subst hl
       exact AW_region h
      have huE:zeroOf P e=some z:=hz
      have hsle:slElem P t'=some (i.size,i.bytes):=by simp [slElem,hu,hi]
      refine PCa_of_AW hfn hbody hname (by rw [hnt];simp) ?_
      rw [hnt]
      refine AW_seq' (one _ _ _ _ _ _ _ e0 ?_)
      simp only [aRun,aWanted,ga0,aIf,aOp,q0,ev,ofV,ofC,withO,compat,da0,fput,true_and]
      refine AW_seq' (AW_seq' (AW_nil er1 q1 gb0 db0 q2 gb1 db1 hu (rows:=rows) (full:=false) (by rfl) (by simp [length_fset]) fun b hb=>?_))
      refine AW_cond b (by rfl) ?_
      cases b with
      |true=>
       have hrn:=hb rfl
       subst hrn
       rw [if_pos rfl]
       refine AW_seq' (one _ _ _ _ _ _ _ e2 ?_)
       simp only [aRun,aWanted,gc0,aIf,aOp,q3,ev,ofV,ofC,withO,compat,dc0,fput,true_and]
       refine AW_ret ⟨.inr rfl,?_⟩
       rw [hresl]
       exact ⟨rfl,rfl,fun b hb=>by cases hb⟩
      |false=>
       rw [if_neg (by simp)]
       refine AW_skip ?_
       refine AW_seq' (one _ _ _ _ _ _ _ e3 ?_)
       have happ:∀(ah:AH) (id1 id2:Nat) (K:Res→Prop),ah id1=some (.rows i.size [])→K ⟨.os id2 i.size 0 (0+rows.length),[(id1,none),(id2,some (.rows i.size (((([]:List (List AV)).drop 0).take 0)++rows)))],id1::[]⟩→
         aAppend P id2 ah t' t' (.os id1 i.size 0 0) (.sl rows false) K:=by
        intro ah id1 id2 K hab hK
        refine withO_iff.2 ⟨_,hsle,hby,hsz,?_,?_,hr,rfl,?_⟩
        ·rw [hu];trivial
        ·rw [hu];simp [huE,hzl]
        ·rw [hab];exact ⟨rfl,by simp,by simpa using hl,hK⟩
       have hbs:∀(id:Nat) (K:Res→Prop),K ⟨.os id i.size 0 0,[(id,some (.rows i.size (chunks i.size 0 [])))],[]⟩→aBuildSlice P t' id 0 [] K:=by
        intro id K hK
        unfold aBuildSlice
        rw [hu]
        exact withO_iff.2 ⟨i,hi,withO_iff.2 ⟨z,huE,hzl,by simp,withO_iff.2 ⟨[],rfl,hK⟩⟩⟩
       simp only [aRun,aWanted,gd0,gd1,gd2,gd3,aIf,aOp,q4,q5,q6,q7,hps',evL,eas,ets,compat,dd0,dd1,dd2,dd3,true_and]
       refine withO_iff.2 ⟨[],rfl,hbs _ _ ?_⟩
       refine withO_iff.2 ⟨.sl rows false,rfl,?_⟩
       refine withO_iff.2 ⟨[.os _ i.size 0 0,.sl rows false],rfl,?_⟩
       have hts:ts=#[t',t']:=by apply Array.ext';simpa using ets
       subst hts
       refine withO_iff.2 ⟨t',rfl,withO_iff.2 ⟨t',rfl,.inl<|happ _ _ _ _ (by simp [upds,upd,chunks]) ?_⟩⟩
       refine withO_iff.2 ⟨.os _ i.size 0 (0+rows.length),rfl,?_⟩
       refine AW_ret ⟨.inr rfl,?_⟩
       rw [hresl]
       refine withO_iff.2 ⟨.os _ i.size 0 (0+rows.length),rfl,?_⟩
       refine ⟨?_,rfl,fun b hb k hk=>?_⟩
       ·exact frz_os_clean (by simp [upds,upd]) hc (by simp)
       ·have hb':b=_:=List.mem_singleton.1 hb
        subst hb'
        have hk':some (Blk.rows i.size ((([]:List (List AV)).drop 0).take 0++rows))=some k:=by rw [← hk];simp [upds,upd]
        cases hk'
        simpa [Blk.flatB] using hfl
    ·cases h
   ·cases h
  ·cases h
 ·cases h
def cloneOf (P:Program)(f:FuncId):Option Nat:=
 match P.funcs[f]? with
 |none=>none
 |some fn=>match cloneShape fn with
  |none=>none
  |some t=>match P.underlying t with
   |some (.slice e)=>match P.info? e,(zeroOf P e).map List.length with
    |some i,some n=>bif Nat.beq n i.size&&(Nat.ble i.bytes 4096&&!Nat.beq i.size 0) then some i.size else none
    |_,_=>none
   |_=>none
def xClone (P:Program):Ext':=fun pc nv f args=>
 match args with
 |[.sc .sl tm]=>match cloneOf P f with
  |some n=>some (.sc .sl tm,nv,[(pc,.rok n tm),(pc,.len2 0 tm)],false)
  |none=>none
 |[.slc rows false]=>match cloneOf P f with
  |some n=>bif rows.all (fun r=>Nat.beq r.length n)&&(clnLL rows&&Nat.ble rows.length 4294967296) then some (.slc rows false,nv,[],rows.all fltL) else none
  |none=>none
 |_=>none
theorem cloneOf_ok {f:FuncId}{n:Nat}(h:cloneOf P f=some n){rows:List (List AV)}(hr:rowsOk n rows)(hc:cleanLL rows=true)(hl:rows.length≤4294967296):PC P f [.sl rows false] (.sl rows false):=by
 unfold cloneOf at h
 split at h
 ·cases h
 ·rename_i fn hfn
  split at h
  ·cases h
  ·rename_i t ht
   split at h
   ·rename_i e hu
    split at h
    ·rename_i i m hi hm
     cases hg:Nat.beq m i.size&&(Nat.ble i.bytes 4096&&!Nat.beq i.size 0)
     ·simp [hg] at h
     ·simp only [hg,cond_true,Option.some.injEq] at h;subst h
      simp only [Bool.and_eq_true,Bool.not_eq_true'] at hg
      simp only [Option.map_eq_some_iff] at hm
      obtain ⟨z,hz,hzm⟩:=hm
      exact clone_pc hfn ht hu hi hz (by rw [hzm];exact Nat.eq_of_beq_eq_true hg.1) (Nat.le_of_ble_eq_true hg.2.1) (fun e0=>by rw [e0] at hg;exact absurd hg.2.2 (by decide)) hr hc hl
    ·cases h
   ·cases h
theorem cloneOf_oka {f:FuncId}{n:Nat}(h:cloneOf P f=some n){rows:List (List AV)}(hr:rowsOk n rows)(hc:cleanLL rows=true)(hl:rows.length≤4294967296)(hfl:rows.all flatL=true):PCa P f [.sl rows false] (.sl rows false):=by
 unfold cloneOf at h
 split at h
 ·cases h
 ·rename_i fn hfn
  split at h
  ·cases h
  ·rename_i t ht
   split at h
   ·rename_i e hu
    split at h
    ·rename_i i m hi hm
     cases hg:Nat.beq m i.size&&(Nat.ble i.bytes 4096&&!Nat.beq i.size 0)
     ·simp [hg] at h
     ·simp only [hg,cond_true,Option.some.injEq] at h;subst h
      simp only [Bool.and_eq_true,Bool.not_eq_true'] at hg
      simp only [Option.map_eq_some_iff] at hm
      obtain ⟨z,hz,hzm⟩:=hm
      exact clone_pca hfn ht hu hi hz (by rw [hzm];exact Nat.eq_of_beq_eq_true hg.1) (Nat.le_of_ble_eq_true hg.2.1) (fun e0=>by rw [e0] at hg;exact absurd hg.2.2 (by decide)) hr hc hl hfl
    ·cases h
   ·cases h
theorem xClone_ok : ∀σ:List AV,fzL σ=true→ExtOk P σ (xClone P):=by
 intro σ hσ pc nv f args r h hp hs
 unfold xClone at h
 split at h
 ·rename_i tm
  split at h
  ·rename_i n hn
   simp only [Option.some.injEq] at h;subst h
   have h1:rowsOk n (tm.den σ).R:=hs (pc,.rok n tm) (by simp) hp
   have h2:0+(tm.den σ).R.length≤4294967296:=hs (pc,.len2 0 tm) (by simp) hp
   exact ⟨cloneOf_ok hn h1 (fzLL_clean (Tm.den_fz hσ tm)) (by omega),fun h=>by cases h⟩
  ·cases h
 ·rename_i rows
  split at h
  ·rename_i n hn
   cases hg:rows.all (fun r=>Nat.beq r.length n)&&(clnLL rows&&Nat.ble rows.length 4294967296)
   ·simp [hg] at h
   ·simp only [hg,cond_true,Option.some.injEq] at h;subst h
    simp only [Bool.and_eq_true] at hg
    have hlen:(denLL σ rows).length≤4294967296:=by rw [denLL_length];exact Nat.le_of_ble_eq_true hg.2.2
    refine ⟨cloneOf_ok hn (rowsOk_all hg.1) (clnLL_den hσ hg.2.1) hlen,fun hf=>cloneOf_oka hn (rowsOk_all hg.1) (clnLL_den hσ hg.2.1) hlen ?_⟩
    have hf:rows.all fltL=true:=hf
    rw [denLL_map,List.all_map,List.all_eq_true]
    intro row hr
    exact fltL_den (List.all_eq_true.1 hf row hr)
  ·cases h
 ·cases h
def xOr (X Y:Ext'):Ext':=fun pc nv f args=>match X pc nv f args with|some r=>some r|none=>Y pc nv f args
theorem xOr_ok {X Y:Ext'}(hX:∀σ:List AV,fzL σ=true→ExtOk P σ X)(hY:∀σ:List AV,fzL σ=true→ExtOk P σ Y):∀σ:List AV,fzL σ=true→ExtOk P σ (xOr X Y):=by
 intro σ hσ pc nv f args r h hp hs
 unfold xOr at h
 split at h
 ·rename_i r' hr
  simp only [Option.some.injEq] at h;subst h
  exact hX σ hσ _ _ _ _ _ hr hp hs
 ·exact hY σ hσ _ _ _ _ _ h hp hs
end
end Go.Fw
end
section
set_option linter.unusedVariables false
set_option linter.unusedSimpArgs false
set_option linter.unusedSectionVars false
namespace Go.Fw
set_option linter.unusedSectionVars false
variable [Glob]
set_option linter.unusedSimpArgs false
set_option linter.unusedVariables false
section
variable {P : Program}
def inOr (X Y:Inl):Inl:=fun pc th nx nv f args=>match X pc th nx nv f args with|some r=>some r|none=>Y pc th nx nv f args
theorem inOr_ok {X Y:Inl}(hX:∀σ:List AV,fzL σ=true→InlOk P σ X)(hY:∀σ:List AV,fzL σ=true→InlOk P σ Y):∀σ:List AV,fzL σ=true→InlOk P σ (inOr X Y):=by
 intro σ hσ pc th nx nv f args R h hp hs
 unfold inOr at h
 split at h
 ·rename_i r' hr
  simp only [Option.some.injEq] at h;subst h
  exact hX σ hσ _ _ _ _ _ _ _ hr hp hs
 ·exact hY σ hσ _ _ _ _ _ _ _ h hp hs
end
end Go.Fw
end
section
set_option linter.unusedVariables false
set_option linter.unusedSimpArgs false
set_option linter.unusedSectionVars false
namespace Go.Fw
set_option linter.unusedSectionVars false
variable [Glob]
set_option linter.unusedVariables false
end Go.Fw
namespace Go.Fw
variable [Glob]
def mdT (n:Nat):Md:=fun g=>(n / 4 ^ g) % 4
end Go.Fw
namespace Go.Fw
variable [Glob]
set_option linter.unusedVariables false
end Go.Fw
namespace Go.Fw
variable [Glob]
def fcI (kA:List (List Nat))(f:Nat)(keep:List Nat)(l:List (Nat×LoopH)):FuncId→FCfg:=fun g=>bif Nat.beq g f then ⟨0,⟨keep,0⟩,fun id=>(l.find? fun x=>Nat.beq x.1 id).map (·.2)⟩ else ⟨0,⟨kA.getD g [],0⟩,fun _=>none⟩
end Go.Fw
namespace Go.Fw
variable [Glob]
end Go.Fw
end
section
set_option linter.unusedVariables false
set_option linter.unusedSimpArgs false
set_option linter.unusedSectionVars false
namespace Go.Fw
set_option linter.unusedSectionVars false
variable [Glob]
open Go.Lib
set_option linter.unusedSimpArgs false
set_option linter.unusedVariables false
structure RefCfg where
 vo:FuncId
 ln:FuncId
 sw:FuncId
 l1:FuncId
 l2:FuncId
 l9:FuncId
def RunsAs (P:Program)(f:FuncId)(e:Array Value→Sem Value):Prop:=
 ∀args w,(callFunc f args).run P w=((e args).run P w).andThen fun v w'=>.ok (.value v) w'
structure RefOk (P:Program)(c:RefCfg):Prop where
 vo:RunsAs P c.vo fun args=>Extern.ReflectliteValue.unpack (args.getD 0 (.tuple #[]))
 ln:RunsAs P c.ln (Extern.ReflectliteValue.method (Extern.ReflectliteValue.valueError "reflectlite.Value.Len" 0) Extern.ReflectliteValue.len)
 sw:RunsAs P c.sw (Extern.ReflectliteSwapper.swapper "internal/reflectlite" (Extern.ReflectliteValue.valueError "Swapper"))
 l9:RunsAs P c.l9 (Extern.ReflectliteSwapper.swap false)
 n1:P.funcs.findIdx? (·.name == "internal/reflectlite" ++ ".Swapper$" ++toString 1)=some c.l1
 n2:P.funcs.findIdx? (·.name == "internal/reflectlite" ++ ".Swapper$" ++toString 2)=some c.l2
 n9:P.funcs.findIdx? (·.name == "internal/reflectlite" ++ ".Swapper$" ++toString 9)=some c.l9
end Go.Fw
end
section
set_option linter.unusedVariables false
set_option linter.unusedSimpArgs false
set_option linter.unusedSectionVars false
namespace Go.Fw
variable [Glob]
set_option linter.unusedSimpArgs false
set_option linter.unusedVariables false
set_option linter.unusedSectionVars false
def setS : List Nat→SV→SV→SV
 |[],_,y=>y
 |j::p,.agg l,y=>.agg (l.set j (setS p (l.getD j .nil) y))
 |j::p,.tup l,y=>.tup (l.set j (setS p (l.getD j .nil) y))
 |_::_,a,_=>a
def getS : List Nat→SV→Option SV
 |[],x=>some x
 |j::p,.agg l=>match nthL l j with|some x=>getS p x|none=>none
 |j::p,.tup l=>match nthL l j with|some x=>getS p x|none=>none
 |_::_,_=>none
theorem getD_denL {ρ:List AV}{l:List SV}{j:Nat}{x:SV}(h:nthL l j=some x):(denL ρ l).getD j undefA=x.den ρ∧l.getD j .nil=x:=by
 have h2:=denL_get (ρ:=ρ) h
 rw [nthL_eq] at h
 exact ⟨by simp [List.getD_eq_getElem?_getD,h2],by simp [List.getD_eq_getElem?_getD,h]⟩
theorem denL_setL {ρ:List AV}{l:List SV}{j:Nat}{x:SV}:denL ρ (l.set j x)=(denL ρ l).set j (x.den ρ):=by simp [denL_map,List.map_set]
theorem setS_den {ρ:List AV}{y:SV}:∀{p:List Nat} {x z:SV},getS p x=some z→(setS p x y).den ρ=setP p (x.den ρ) (y.den ρ)
 |[],x,z,h=>rfl
 |j::p,.agg l,z,h=>by
  simp only [getS] at h
  split at h
  ·rename_i x hx
   obtain ⟨e1,e2⟩:=getD_denL (ρ:=ρ) hx
   simp only [setS,SV.den,setP,denL_setL,e1,e2,setS_den h]
  ·cases h
 |j::p,.tup l,z,h=>by
  simp only [getS] at h
  split at h
  ·rename_i x hx
   obtain ⟨e1,e2⟩:=getD_denL (ρ:=ρ) hx
   simp only [setS,SV.den,setP,denL_setL,e1,e2,setS_den h]
  ·cases h
 |j::p,.sc ..,z,h|j::p,.c _,z,h|j::p,.nil,z,h|j::p,.nan,z,h|j::p,.sf _,z,h|j::p,.slc ..,z,h|j::p,.vp ..,z,h|j::p,.os ..,z,h|j::p,.op ..,z,h|j::p,.fn ..,z,h|j::p,.ifc ..,z,h|j::p,.mp _,z,h|j::p,.ost ..,z,h=>by simp [getS] at h
theorem getS_cell {ρ:List AV}:∀{p:List Nat} {x z:SV},getS p x=some z→cellAt (x.den ρ) p=z.den ρ
 |[],x,z,h=>by simp only [getS,Option.some.injEq] at h;subst h;cases x<;>rfl
 |j::p,.agg l,z,h=>by
  simp only [getS] at h
  split at h
  ·rename_i x hx
   simp only [SV.den,cellAt,(getD_denL (ρ:=ρ) hx).1,getS_cell h]
  ·cases h
 |j::p,.tup l,z,h=>by
  simp only [getS] at h
  split at h
  ·rename_i x hx
   simp only [SV.den,cellAt,(getD_denL (ρ:=ρ) hx).1,getS_cell h]
  ·cases h
 |j::p,.sc ..,z,h|j::p,.c _,z,h|j::p,.nil,z,h|j::p,.nan,z,h|j::p,.sf _,z,h|j::p,.slc ..,z,h|j::p,.vp ..,z,h|j::p,.os ..,z,h|j::p,.op ..,z,h|j::p,.fn ..,z,h|j::p,.ifc ..,z,h|j::p,.mp _,z,h|j::p,.ost ..,z,h=>by simp [getS] at h
theorem setP_scal {y y':AV}(hs:y'.scal=y.scal):∀{p:List Nat} {a:AV},(setP p a y').scal=(setP p a y).scal
 |[],a=>hs
 |j::p,a=>by cases a<;>rfl
theorem set_other {l:List AV}{j i:Nat}{x c:AV}(hij:j≠i)(hi:l[i]?=some c):(l.set j x)[i]?=some c:=by rw [List.getElem?_set_ne hij];exact hi
theorem setP_rep {w:World}{E E':Env}{y y':AV}(Q:AV→Prop)(hagg:∀l,Q (.agg l)→∀(i:Nat) (c:AV),l[i]?=some c→Q c)(htup:∀l,Q (.tup l)→∀(i:Nat) (c:AV),l[i]?=some c→Q c)(hs:y'.scal=y.scal)(hy:∀u,Rep w E y u→Rep w E' y' u)(hall:∀x u,Rep w E x u→Q x→Rep w E' x u):∀{p:List Nat} {a:AV} {v:Value},Q (setP p a (.sl [] true))→cellAt a p≠undefA→Rep w E (setP p a y) v→Rep w E' (setP p a y') v
 |[],a,v,_,_,h=>hy _ h
 |j::p,.agg l,v,hc,hne,h=>by
  simp only [cellAt] at hne
  simp only [setP] at h hc ⊢
  have hj:j<l.length:=by
   refine Nat.lt_of_not_le fun hle=>hne ?_
   have e:l.getD j undefA=undefA:=by simp [List.getD_eq_getElem?_getD,List.getElem?_eq_none hle]
   rw [e]
   cases p<;>rfl
  have hcj:=hagg _ hc j _ (by rw [List.getElem?_set_self hj])
  cases h with
  |agg cs vs hl hsc h=>
   refine .agg _ _ (by simpa using hl) ?_ ?_
   ·intro c hcm
    obtain ⟨i,hi⟩:=List.getElem?_of_mem hcm
    by_cases hij:j=i
    ·subst hij
     rw [List.getElem?_set_self (by simpa using hj)] at hi
     simp only [Option.some.injEq] at hi;subst hi
     rw [setP_scal hs]
     exact hsc _ (List.mem_of_getElem? (i:=j) (by rw [List.getElem?_set_self hj]))
    ·rw [List.getElem?_set_ne hij] at hi
     exact hsc c (List.mem_of_getElem? (i:=i) (set_other hij hi))
   ·intro i c u hi hu
    by_cases hij:j=i
    ·subst hij
     rw [List.getElem?_set_self (by simpa using hj)] at hi
     simp only [Option.some.injEq] at hi;subst hi
     exact setP_rep Q hagg htup hs hy hall hcj hne (h j _ u (by rw [List.getElem?_set_self hj]) hu)
    ·rw [List.getElem?_set_ne hij] at hi
     exact hall _ _ (h i c u (set_other hij hi) hu) (hagg _ hc i c (set_other hij hi))
 |j::p,.tup l,v,hc,hne,h=>by
  simp only [cellAt] at hne
  simp only [setP] at h hc ⊢
  have hj:j<l.length:=by
   refine Nat.lt_of_not_le fun hle=>hne ?_
   have e:l.getD j undefA=undefA:=by simp [List.getD_eq_getElem?_getD,List.getElem?_eq_none hle]
   rw [e]
   cases p<;>rfl
  have hcj:=htup _ hc j _ (by rw [List.getElem?_set_self hj])
  cases h with
  |tup cs vs hl h=>
   refine .tup _ _ (by simpa using hl) ?_
   intro i c u hi hu
   by_cases hij:j=i
   ·subst hij
    rw [List.getElem?_set_self (by simpa using hj)] at hi
    simp only [Option.some.injEq] at hi;subst hi
    exact setP_rep Q hagg htup hs hy hall hcj hne (h j _ u (by rw [List.getElem?_set_self hj]) hu)
   ·rw [List.getElem?_set_ne hij] at hi
    exact hall _ _ (h i c u (set_other hij hi) hu) (htup _ hc i c (set_other hij hi))
 |_::_,.p _,_,_,hne,_|_::_,.str _,_,_,hne,_|_::_,.nan,_,_,hne,_|_::_,.sl ..,_,_,hne,_|_::_,.vp ..,_,_,hne,_|_::_,.os ..,_,_,hne,_|_::_,.op ..,_,_,hne,_|_::_,.fn ..,_,_,hne,_|_::_,.ifc ..,_,_,hne,_|_::_,.mp _,_,_,hne,_=>absurd rfl hne
theorem setP_clean {y:AV}(hy:y.clean=true):∀{p:List Nat} {a:AV},a.clean=true→(setP p a y).clean=true
 |[],a,_=>hy
 |j::p,.agg l,h=>by
  show cleanL (l.set j (setP p (l.getD j undefA) y))=true
  refine cleanL_all fun x hx=>?_
  rcases List.mem_or_eq_of_mem_set hx with hx|rfl
  ·exact cleanL_mem (l:=l) h hx
  ·refine setP_clean hy ?_
   rw [List.getD_eq_getElem?_getD]
   cases e:l[j]? with
   |none=>rfl
   |some z=>exact cleanL_get (l:=l) h j z e
 |j::p,.tup l,h=>by
  show cleanL (l.set j (setP p (l.getD j undefA) y))=true
  refine cleanL_all fun x hx=>?_
  rcases List.mem_or_eq_of_mem_set hx with hx|rfl
  ·exact cleanL_mem (l:=l) h hx
  ·refine setP_clean hy ?_
   rw [List.getD_eq_getElem?_getD]
   cases e:l[j]? with
   |none=>rfl
   |some z=>exact cleanL_get (l:=l) h j z e
 |_::_,.p _,h|_::_,.str _,h|_::_,.nan,h|_::_,.sl ..,h|_::_,.vp ..,h|_::_,.os ..,h|_::_,.op ..,h|_::_,.fn ..,h|_::_,.ifc ..,h|_::_,.mp _,h=>h
abbrev OCfg :=FuncId→Option (List Nat×Nat×Bool)
def inlO0 (P:Program)(oc:OCfg):Inl:=fun pc th nx nv f args=>
 match oc f with
 |none=>none
 |some c=>
  match sfrzL (thN th deep) (preL th nv args).1 with
  |none=>none
  |some az=>match resSV P (preL th nv args).2.1 f with
   |none=>none
   |some r=>match getS c.1 r with
    |some (.sc .sl t)=>bif r.cln&&(clnL args||(c.2.2&&(setS c.1 r .nil).flt)) then
     some ⟨[(.lb true,⟨setS c.1 r (.os nx c.2.1 0 (.rlen t)),wrT th [(nx,some (.rowsT c.2.1 t))],nx+1⟩)],(preL th nv args).2.1+1,(preL th nv args).2.2.map (fun s=>(pc,Sd.s s))++[(pc,.s (.callo f (nrmL az) r c.1 c.2.1 c.2.2))]⟩ else none
    |_=>none
def inlFz (inl:Inl):Inl:=fun pc th nx nv f args=>
 match inl pc th nx nv f args with
 |some R=>some R
 |none=>bif clnL args then none else
  match sfrzL (thN th deep) (preL th nv args).1,rchS th deep (rfsL args) with
  |some az,some rd=>match inl pc (wrT th (dropS rd)) nx (preL th nv args).2.1 f (nrmL az) with
   |some R=>some ⟨R.outs,R.nv,(preL th nv args).2.2.map (fun s=>(pc,Sd.s s))++R.sd⟩
   |none=>none
  |_,_=>none
def inlO (P:Program)(oc:OCfg):Inl:=inlFz (inlO0 P oc)
theorem refsL_at : ∀{l:List AV} {b:Nat},b∈refsL l→∃(i:Nat) (x:AV),l[i]?=some x∧b∈x.refs
 |[],b,h=>by simp [refsL] at h
 |y::r,b,h=>by
  simp only [refsL,List.mem_append] at h
  rcases h with h|h
  ·exact ⟨0,y,rfl,h⟩
  ·obtain ⟨i,x,h1,h2⟩:=refsL_at h;exact ⟨i+1,x,by simpa using h1,h2⟩
theorem refsLL_at : ∀{l:List (List AV)} {b:Nat},b∈refsLL l→∃(i:Nat) (x:List AV),l[i]?=some x∧b∈refsL x
 |[],b,h=>by simp [refsLL] at h
 |y::r,b,h=>by
  simp only [refsLL,List.mem_append] at h
  rcases h with h|h
  ·exact ⟨0,y,rfl,h⟩
  ·obtain ⟨i,x,h1,h2⟩:=refsLL_at h;exact ⟨i+1,x,by simpa using h1,h2⟩
section
variable {P : Program}
theorem rep_refs_own {w:World}{E:Env}{a:AV}{v:Value}(h:Rep w E a v):∀b∈a.refs,E.own b≠.free:=by
 induction h with
 |p|str|slnil|nan=>intro b hb;simp [AV.refs,refsLL] at hb
 |agg cs vs hl hs h ih=>
  intro b hb
  obtain ⟨i,c,hi,hb⟩:=refsL_at hb
  exact ih i c (vs[i]'(by rw [← hl];exact (List.getElem?_eq_some_iff.1 hi).1)) hi (by simp) b hb
 |tup cs vs hl h ih=>
  intro b hb
  obtain ⟨i,c,hi,hb⟩:=refsL_at hb
  exact ih i c (vs[i]'(by rw [← hl];exact (List.getElem?_eq_some_iff.1 hi).1)) hi (by simp) b hb
 |sl rows full sz c o cap g h1 h2 h3 h4 h5 h6 h7 ih=>
  intro b hb
  obtain ⟨i,row,hi,hb⟩:=refsLL_at hb
  obtain ⟨j,x,hj,hb⟩:=refsL_at hb
  exact ih i row j x hi hj b hb
 |vp row off c o g h1 h2 h3 h4 ih=>
  intro b hb
  obtain ⟨j,x,hj,hb⟩:=refsL_at hb
  exact ih j x hj b hb
 |osnil b sz off a hb=>intro x hx;simp [AV.refs] at hx;subst hx;exact hb
 |os b sz off len c o cap hb=>intro x hx;simp [AV.refs] at hx;subst hx;rw [hb];simp
 |op b sz row off c o hb=>intro x hx;simp [AV.refs] at hx;subst hx;rw [hb];simp
 |fn f first captured vs us hl hl' h h' ih ih'=>
  intro b hb
  simp only [AV.refs,List.mem_append] at hb
  rcases hb with hb|hb
  ·obtain ⟨i,c,hi,hb⟩:=refsL_at hb
   exact ih i c (vs[i]'(by rw [← hl];exact (List.getElem?_eq_some_iff.1 hi).1)) hi (by simp) b hb
  ·obtain ⟨i,c,hi,hb⟩:=refsL_at hb
   exact ih' i c (us[i]'(by rw [← hl'];exact (List.getElem?_eq_some_iff.1 hi).1)) hi (by simp) b hb
 |ifc t a v h ih=>exact ih
 |mp b c hb=>intro x hx;simp [AV.refs] at hx;subst hx;rw [hb];simp
theorem refsB_own {base:Nat}{w:World}{E:Env}{b:Nat}{k:Blk}(h:BlkOk base w E b k){x:Nat}(hx:x∈k.refsB):E.own x≠.free:=by
 cases k with
 |rows sz rs=>
  obtain ⟨i,row,hi,hx⟩:=refsLL_at hx
  obtain ⟨j,y,hj,hx⟩:=refsL_at hx
  rcases h with ⟨-,q2⟩|⟨c,o,arr,ty,q1,q2,q3,q4,q5,q6,q7,q8⟩
  ·rw [q2] at hi;simp at hi
  ·obtain ⟨v,-,hr⟩:=q8 i row j y hi hj
   exact rep_refs_own hr x hx
 |rowsE ty sz rs=>
  obtain ⟨i,row,hi,hx⟩:=refsLL_at hx
  obtain ⟨j,y,hj,hx⟩:=refsL_at hx
  rcases h with ⟨-,q2⟩|⟨c,o,arr,q1,q2,q3,q4,⟨q5,q6,q7,q8⟩,q9⟩
  ·rw [q2] at hi;simp at hi
  ·obtain ⟨v,-,hr⟩:=q8 i row j y hi hj
   exact rep_refs_own hr x hx
 |it m n k=>
  obtain ⟨c,cm,q1,q2,q3,q4,q5⟩:=h
  simp only [Blk.refsB,List.mem_singleton] at hx
  subst hx;rw [q5];simp
 |map es=>
  obtain ⟨c,ces,clock,q1,q2,q3,q4,q5,q6,q7⟩:=h
  simp only [Blk.refsB,List.mem_append] at hx
  rcases hx with hx|hx
  ·obtain ⟨i,y,hi,hx⟩:=refsL_at hx
   simp only [List.getElem?_map,Option.map_eq_some_iff] at hi
   obtain ⟨e,he,rfl⟩:=hi
   exact rep_refs_own (q6 i e (ces[i]'(by rw [← q5];exact (List.getElem?_eq_some_iff.1 he).1)) he (by simp)).1 x hx
  ·obtain ⟨i,y,hi,hx⟩:=refsL_at hx
   simp only [List.getElem?_map,Option.map_eq_some_iff] at hi
   obtain ⟨e,he,rfl⟩:=hi
   exact rep_refs_own (q6 i e (ces[i]'(by rw [← q5];exact (List.getElem?_eq_some_iff.1 he).1)) he (by simp)).2.1 x hx
theorem clean_rep2 {w:World}{E E':Env}(hf:∀c o,E.fix c o→E'.fix c o){a:AV}{v:Value}(h:Rep w E a v)(hc:a.clean=true):Rep w E' a v:=by
 refine rep_own hf h fun b hb=>?_
 have:=cleanL_norefs (l:=[a]) (by simp [cleanL,hc])
 simp only [refsL,List.append_nil] at this
 rw [this] at hb;cases hb
theorem cell_fz_ne {p:List Nat}{r:AV}{rows:List (List AV)}{f:Bool}(h:cellAt r p=.sl rows f):cellAt r p≠undefA:=by rw [h];intro e;cases e
theorem inlO0_ok {oc:OCfg}:∀σ:List AV,fzL σ=true→InlOk P σ (inlO0 P oc):=by
 intro ρ hρ pc th nx nv f args R h hp hs base w E ah vs hah hh hG hrep o a he next Q hnext
 unfold inlO0 at h
 split at h
 ·cases h
 rename_i c hc
 obtain ⟨p,sz,fl⟩:=c
 dsimp only at h
 split at h
 ·cases h
 rename_i az has
 split at h
 ·cases h
 rename_i r hr
 split at h
 rotate_left
 ·cases h
 rename_i t ht
 cases hg:(r.cln&&(clnL args||(fl&&(setS p r .nil).flt)))
 ·simp [hg] at h
 simp only [hg,cond_true,Option.some.injEq] at h
 subst h
 simp only [Bool.and_eq_true] at hg
 obtain ⟨hrc,hg⟩:=hg
 have hpre:∀s∈(preL th nv args).2.2,s.holds P ρ:=fun s hm=>hs (pc,.s s) (List.mem_append_left _ (List.mem_map.2 ⟨s,hm,rfl⟩)) hp
 obtain ⟨hpc,hflr⟩:=hs (pc,.s (.callo f (nrmL az) r p sz fl)) (List.mem_append_right _ (List.mem_singleton.2 rfl)) hp
 have hfz:=(preL_den hρ hah hpre).trans (frzL_den hρ (thN_den hρ hah deep) has)
 have hclr:(r.den ρ).clean=true:=cln_den hρ hrc
 have hcell:cellAt (r.den ρ) p=.sl (t.den ρ).R false:=getS_cell ht
 have hrows:rowsP p (r.den ρ)=(t.den ρ).R:=by unfold rowsP;rw [hcell];rfl
 -- the fixed cells for the call
 obtain ⟨fix,hfix,hfixlt,hrep0,hback⟩:∃fix:Nat→Nat→Prop,(∀c o,E.fix c o→fix c o)∧(∀c o,fix c o→c<w.heap.size)∧RepL w (freeEnv fix) (denL ρ az) vs∧
   ((∀c o,fix c o→E.fix c o)∨((setP p (r.den ρ) (.sl [] true)).flat=true∧∀row∈rowsP p (r.den ρ),flatL row=true)):=by
  rw [Bool.or_eq_true] at hg
  rcases hg with hcl|hcl
  ·have hcl':=clnL_den hρ hcl
   rw [frzL_free hcl' (ah:=ah)] at hfz
   refine ⟨E.fix,fun _ _ h=>h,hh.fixlt,frzL_rep hh (fun _ _ h=>h) hrep hfz (fun b hb=>?_),.inl (fun _ _ h=>h)⟩
   rw [cleanL_norefs hcl'] at hb;cases hb
  ·rw [Bool.and_eq_true] at hcl
   refine ⟨fun c o=>c<w.heap.size,hh.fixlt,fun c o h=>h,frzNL_rep hh hh.fixlt (fun b c o h off=>(hh.ownlt b c o h).2) deep hrep hfz,.inr ⟨?_,hflr hcl.1⟩⟩
   have:=flt_den (ρ:=ρ) hcl.2
   rwa [setS_den ht] at this
 have hrep1:RepL w (freeEnv fix) (denL ρ (nrmL az)) vs:=RepL.weak (nrmL_weak (ρ:=ρ)).length (fun i a b h1 h2=>((nrmL_weak (ρ:=ρ)).get i a b h1 h2).1) hrep0
 have hq:=hpc w fix vs hfixlt (hG.mono hfix (fun _ _ _=>rfl) (fun _ arr _ fz h=>⟨arr,fz,h,rfl⟩)) hrep1
 split at hq
 ·exact hq.elim
 rename_i fn hfn
 obtain ⟨hbody,hname,hq⟩:=hq
 have hcall:(callFunc f vs.toArray).run P w=.ok (.enter f vs.toArray) w:=by
  have:(fn.name == "runtime.NumGoroutine")=false:=by simpa using hname
  simp only [callFunc,Sem.run_bind,run_program,Result.andThen_ok,hfn,this,Bool.false_eq_true,if_false,hbody,Sem.run_pure]
 unfold Oper.wp
 rw [he,hcall]
 refine hq.mono fun e w' hq=>?_
 obtain ⟨v,E1,rfl,hst,hh1,hv⟩:=hq
 rw [hrows] at hh1 hv hback
 let E2:Env:=⟨fun c o=>E.fix c o∨(w.heap.size≤c∧E1.fix c o),fun b=>if b=nx then E1.own 0 else E.own b⟩
 have hnxfree:E.own nx=.free:=hh.fresh nx (Nat.le_refl _)
 have own_nx:E2.own nx=E1.own 0:=if_pos rfl
 have own_ne:∀b,b≠nx→E2.own b=E.own b:=fun b h=>if_neg h
 have hblk:∀c,c<w.heap.size→w'.heap[c]?=w.heap[c]?:=hst.below.block
 have hown1:∀c o,E1.own 0=.at c o→w.heap.size≤c∧c<w'.heap.size:=fun c o h=>hh1.ownlt 0 c o h
 have hx:Ext w E w' E2:=by
  refine ⟨fun c o h=>.inl h,fun c o h=>World.cell?_of_block (w:=w) (hblk c (hh.fixlt c o h)),fun b hb=>own_ne b fun e=>hb (by rw [e];exact hnxfree),fun c arr ty fz h=>⟨arr,fz,?_,rfl⟩⟩
  rw [hblk c (Array.getElem?_eq_some_iff.1 h).1];exact h
 have hfix1:∀c o,E1.fix c o→(∀c o,fix c o→E.fix c o)→E2.fix c o:=fun c o h hb=>by
  rcases Nat.lt_or_ge c w.heap.size with hc|hc
  ·exact .inl (hb c o (hst.fixold c o hc h))
  ·exact .inr ⟨hc,h⟩
 refine hnext _ rfl v w' E2 (upd ah nx (some (.rows sz (t.den ρ).R))) ?_ ⟨hx,hst.below.mono hh.bs,fun c o hc h=>?_,fun c hc _=>hblk c hc,fun b c o h hc=>?_,fun c o h hc=>?_⟩ ?_ ?_
 ·exact AhR_wr (wr:=[(nx,some (.rowsT sz t))]) hah
 ·rcases h with h|⟨h,-⟩
  ·exact h
  ·have:=hh.bs;omega
 ·by_cases hb:b=nx
  ·subst hb;rw [own_nx] at h;have:=(hown1 c o h).1;omega
  ·rw [own_ne b hb] at h;exact ⟨b,o,h⟩
 ·rcases h with h|⟨h,-⟩
  ·exact .inl h
  ·omega
 ·have hb1:=hh1.blk 0 _ (by rfl:ah1 (.rows sz (t.den ρ).R) 0=some _)
  refine ⟨fun b k hb=>?_,fun b b' k k' c o c' o' hne h1 h2 h3 h4=>?_,fun b hb=>?_,fun c o h=>?_,Nat.le_trans hh.bs hst.below.size,fun b c o h=>?_⟩
  ·by_cases hbn:b=nx
   ·subst hbn
    rw [upd_eq rfl] at hb
    simp only [Option.some.injEq] at hb;subst hb
    rcases hb1 with ⟨q1,q2⟩|⟨c,o,arr,ty,q1,q2,q3,q4,q5,q6,q7,q8⟩
    ·exact .inl ⟨by rw [own_nx];exact q1,q2⟩
    ·refine .inr ⟨c,o,arr,ty,by rw [own_nx];exact q1,Nat.le_trans hh.bs q2,fun off h=>?_,q4,q5,q6,q7,fun i row j x hi hj=>?_⟩
     ·rcases h with h|⟨-,h⟩
      ·have:=hh.fixlt c off h;omega
      ·exact q3 off h
     ·obtain ⟨u,hu,hxu⟩:=q8 i row j x hi hj
      refine ⟨u,hu,?_⟩
      rcases hback with hb|⟨-,hb⟩
      ·refine clean_rep2 (fun c o h=>hfix1 c o h hb) hxu ?_
       exact cleanL_get (cleanLL_get (fzLL_clean (Tm.den_fz hρ t)) i row hi) j x hj
      ·exact flat_rep hxu (flatL_get (hb row (List.mem_of_getElem? hi)) j x hj)
   ·rw [upd_ne hbn] at hb
    have hb':=hh.blk b k hb
    have hk:=hb'.keep (w':=w') (E':=⟨E2.fix,E.own⟩) ⟨fun c o h=>.inl h,hx.cell,fun _ _=>rfl,hx.arr⟩ (fun c o ho=>hblk c (hb'.lt ho).1) (fun c o off ho h=>?_)
    ·refine hk.env (fun _ _ h=>h) (fun _ _ _ _ h=>h) (own_ne b hbn) fun x hxr=>own_ne x ?_
     intro e
     rw [e] at hxr
     exact refsB_own hb' hxr hnxfree
    ·rcases h with h|⟨h,-⟩
     ·exact h
     ·have:=(hb'.lt ho).1;omega
  ·have lt0:∀b k c o,b≠nx→ah b=some k→E.own b=.at c o→c<w.heap.size:=fun b k c o _ _ h=>(hh.ownlt b c o h).2
   by_cases e1:b=nx
   ·subst e1
    rw [own_nx] at h3
    rw [own_ne b' (Ne.symm hne)] at h4
    have:=(hown1 c o h3).1
    have:=(hh.ownlt b' c' o' h4).2
    omega
   ·rw [own_ne b e1] at h3
    by_cases e2:b'=nx
    ·subst e2
     rw [own_nx] at h4
     have:=(hown1 c' o' h4).1
     have:=(hh.ownlt b c o h3).2
     omega
    ·rw [own_ne b' e2] at h4
     rw [upd_ne e1] at h1
     rw [upd_ne e2] at h2
     exact hh.sep b b' k k' c o c' o' hne h1 h2 h3 h4
  ·dsimp only at hb
   rw [own_ne b (by omega)];exact hh.fresh b (by omega)
  ·rcases h with h|⟨-,h⟩
   ·exact Nat.lt_of_lt_of_le (hh.fixlt c o h) hst.below.size
   ·exact hh1.fixlt c o h
  ·by_cases hbn:b=nx
   ·subst hbn;rw [own_nx] at h;exact ⟨Nat.le_trans hh.bs (hown1 c o h).1,(hown1 c o h).2⟩
   ·rw [own_ne b hbn] at h;exact ⟨(hh.ownlt b c o h).1,Nat.lt_of_lt_of_le (hh.ownlt b c o h).2 hst.below.size⟩
 ·rw [setS_den ht]
  have e9:(SV.os nx sz 0 (.rlen t)).den ρ=.os nx sz 0 (t.den ρ).R.length:=by simp [SV.den,Tm.den,lLen,D.I]
  rw [e9]
  have hy:∀u,Rep w' E1 (.os 0 sz 0 (t.den ρ).R.length) u→Rep w' E2 (.os nx sz 0 (t.den ρ).R.length) u:=by
   intro u hu
   generalize (t.den ρ).R.length=len at hu ⊢
   cases hu with
   |osnil _ _ _ a1 hb1=>exact .osnil nx sz 0 a1 (by rw [own_nx];exact hb1)
   |os _ _ _ _ c o cap hb1 hcap hsize=>exact .os nx sz 0 len c o cap (by rw [own_nx];exact hb1) hcap hsize
  rcases hback with hb|⟨hb,-⟩
  ·exact setP_rep (fun x=>x.clean=true) (fun l h=>cleanL_get (l:=l) h) (fun l h=>cleanL_get (l:=l) h) (y:=.os 0 sz 0 (t.den ρ).R.length) (y':=.os nx sz 0 (t.den ρ).R.length) rfl hy (fun x u hx hc=>clean_rep2 (fun c o h=>hfix1 c o h hb) hx hc) (setP_clean rfl hclr) (cell_fz_ne hcell) hv
  ·exact setP_rep (fun x=>x.flat=true) (fun l h=>flatL_get (l:=l) h) (fun l h=>flatL_get (l:=l) h) (y:=.os 0 sz 0 (t.den ρ).R.length) (y':=.os nx sz 0 (t.den ρ).R.length) rfl hy (fun x u hx hc=>flat_rep hx hc) hb (cell_fz_ne hcell) hv
theorem inlFz_ok {inl:Inl}{ρ:List AV}(hρ:fzL ρ=true)(hI:InlOk P ρ inl):InlOk P ρ (inlFz inl):=by
 intro pc th nx nv f args R h hp hs base w E ah vs hah hh hG hrep o a he next Q hnext
 unfold inlFz at h
 split at h
 ·rename_i R' hR
  simp only [Option.some.injEq] at h;subst h
  exact hI _ _ _ _ _ _ _ hR hp hs base w E ah vs hah hh hG hrep o a he next Q hnext
 ·cases hc:clnL args
  case true=>simp [hc] at h
  simp only [hc,cond_false] at h
  split at h
  rotate_left
  ·cases h
  rename_i az rd has hrd
  split at h
  rotate_left
  ·cases h
  rename_i R' hR
  simp only [Option.some.injEq] at h;subst h
  have hpre:∀s∈(preL th nv args).2.2,s.holds P ρ:=fun s hm=>hs (pc,.s s) (List.mem_append_left _ (List.mem_map.2 ⟨s,hm,rfl⟩)) hp
  have hfz:=(preL_den hρ hah hpre).trans (frzL_den hρ (thN_den hρ hah deep) has)
  have hrd2:rch ah deep (refsL (denL ρ args))=rd:=by rw [rfsL_den hρ,rchS_den hρ hah deep hrd]
  have hg:=goneL_rep hh hrep hfz
  rw [hrd2] at hg
  have e:(dropS rd).map (fun x=>(x.1,x.2.map (SB.den ρ)))=dropW rd:=by
   unfold dropS dropW
   rw [List.map_map]
   rfl
  have hah2:=AhR_wr (wr:=dropS rd) hah
  rw [e] at hah2
  have hrep1:RepL w (goneE E ah rd) (denL ρ (nrmL az)) vs:=RepL.weak (nrmL_weak (ρ:=ρ)).length (fun i a b h1 h2=>((nrmL_weak (ρ:=ρ)).get i a b h1 h2).1)
   ⟨hg.1,fun i a v h1 h2=>free_rep (fun _ _ h=>h) (hg.2 i a v h1 h2)⟩
  exact hI _ _ _ _ _ _ _ hR hp (fun x hx=>hs x (List.mem_append_right _ hx)) base w (goneE E ah rd) _ vs hah2 (gone_heap hh rd) (hG.mono (fun _ _ h=>.inl h) (fun _ _ _=>rfl) (fun _ arr _ fz h=>⟨arr,fz,h,rfl⟩)) hrep1 o a he next Q
   (fun c hc v w' E' ah' q1 q2 q3 q4=>hnext c hc v w' E' ah' q1 ((gone_step hh rd).trans q2) q3 q4)
theorem inlO_ok {oc:OCfg}:∀σ:List AV,fzL σ=true→InlOk P σ (inlO P oc):=fun σ hσ=>inlFz_ok hσ (inlO0_ok σ hσ)
end
end Go.Fw
end
section
set_option linter.unusedVariables false
set_option linter.unusedSimpArgs false
set_option linter.unusedSectionVars false
namespace Go.Fw
variable [Glob]
set_option linter.unusedSimpArgs false
set_option linter.unusedVariables false
set_option linter.unusedSectionVars false
section
variable {P : Program} {ρ:List AV}
end
end Go.Fw
namespace Go.Fw
variable [Glob]
def ocT (l:List (Nat×List Nat×Nat×Bool)):OCfg:=fun f=>(l.find? fun x=>Nat.beq x.1 f).map (·.2)
theorem mk_pcXIL {P:Program}(hm:P.follows .mixedOrders=true){X:Ext'}(hX:∀σ:List AV,fzL σ=true→ExtOk P σ X){I0:Inl}(h0:∀σ:List AV,fzL σ=true→InlOk P σ I0){md:Md}{FC:FuncId→FCfg}{unr CF f nv:Nat}{args:List SV}{ρ:List AV}{rs:List (Tm×SV)}{sd:List (Pc×Side)}{aw:List Lo}{az:List AV}{r:AV}
  (h:sFnI P X I0 md FC unr CF f args nv=some ⟨rs,sd,aw⟩) (hρ:fzL ρ=true) (hs:SidesC P ρ sd) (hl:LoL P aw ρ) (ha:denL ρ args=az) (hr:selR ρ rs=r):PC P f az r:=by
 subst ha;subst hr
 exact sFnI_ok h hm hρ h0 hX hs.ok hl
end Go.Fw
end
section
set_option linter.unusedVariables false
set_option linter.unusedSimpArgs false
set_option linter.unusedSectionVars false
namespace Go.Fw
variable [Glob]
set_option linter.unusedSimpArgs false
set_option linter.unusedVariables false
set_option linter.unusedSectionVars false
def blGet : List (Nat×SB)→Nat→Option SB
 |[],_=>none
 |x::r,b=>bif Nat.beq x.1 b then some x.2 else blGet r b
theorem ahL_blD {ρ:List AV}{b:Nat}:∀{bl:List (Nat×SB)},ahL (blD ρ bl) b=(blGet bl b).map (SB.den ρ)
 |[]=>rfl
 |x::r=>by
  simp only [blD,List.map_cons,ahL,blGet]
  cases h:Nat.beq x.1 b
  ·simp only [cond_false];exact ahL_blD (bl:=r)
  ·rfl
def takeB (th:Tr SB):List Nat→Option (List (Nat×SB))
 |[]=>some []
 |b::r=>match th.get b with
  |none=>none
  |some k=>match takeB th r with
   |none=>none
   |some l=>some ((b,k)::l)
theorem takeB_get {th:Tr SB}:∀{ins:List Nat} {bl:List (Nat×SB)},takeB th ins=some bl→∀b k,blGet bl b=some k→th.get b=some k
 |[],bl,h,b,k,hb=>by simp only [takeB,Option.some.injEq] at h;subst h;cases hb
 |c::r,bl,h,b,k,hb=>by
  simp only [takeB] at h
  split at h
  ·cases h
  ·rename_i k0 hk0
   split at h
   ·cases h
   ·rename_i l hl
    simp only [Option.some.injEq] at h;subst h
    simp only [blGet] at hb
    cases e:Nat.beq c b
    ·simp only [e,cond_false] at hb;exact takeB_get hl b k hb
    ·simp only [e,cond_true,Option.some.injEq] at hb;subst hb
     rw [← Nat.eq_of_beq_eq_true e];exact hk0
def updB : List (Nat×SB)→Tr SB→Tr SB
 |[],th=>th
 |(b,k)::r,th=>(updB r th).upd fuelT b (some k)
def inB (bl:List (Nat×SB))(b:Nat):Bool:=match blGet bl b with|some _=>true|none=>false
def turnB (chs:List (Nat×Nat)):Nat→List (Nat×SB)→Option (List (Nat×SB)×Nat)
 |nv,[]=>some ([],nv)
 |nv,(b,k)::r=>match chs.find? (fun x=>Nat.beq x.1 b) with
  |some (_,sz)=>(match k with
   | .rowsT sz' _=>bif Nat.beq sz sz' then (match turnB chs (nv+1) r with|some (l,n)=>some ((b,.rowsT sz (.var nv []))::l,n)|none=>none) else none
   | .rows sz' _=>bif Nat.beq sz sz' then (match turnB chs (nv+1) r with|some (l,n)=>some ((b,.rowsT sz (.var nv []))::l,n)|none=>none) else none
   |_=>none)
  |none=>match turnB chs nv r with|some (l,n)=>some ((b,k)::l,n)|none=>none
abbrev WCfg :=FuncId→Option (List (Nat×Nat))
def maxL : List Nat→Nat
 |[]=>0
 |x::r=>Nat.max (x+1) (maxL r)
def nthIds (ins:List Nat):List (Nat×Nat)→List (Nat×Nat)
 |[]=>[]
 |x::r=>match nthL ins x.1 with|some b=>(b,x.2)::nthIds ins r|none=>nthIds ins r
def okW (bl bl':List (Nat×SB))(n0:Nat)(rf:List Nat):Bool:=
 (bl.all fun x=>Nat.ble (x.1+1) n0&&x.2.rfs.all (inB bl))&&(rf.all (inB bl)&&(bl'.all fun x=>inB bl x.1&&x.2.rfs.all (inB bl)))
def inlW (P:Program)(wc:WCfg):Inl:=fun pc th nx nv f args=>
 match wc f with
 |none=>none
 |some c=>
  let ins:=(closeB th 1000 (rfsL args) []).reverse
  match takeB th ins with
  |none=>none
  |some bl=>match turnB (nthIds ins c) nv bl with
   |none=>none
   |some (bl',nv')=>match resSV P nv' f with
    |none=>none
    |some r=>bif r.flt&&okW bl bl' (maxL ins) (rfsL args) then
     some ⟨[(.lb true,⟨r,updB bl' th,nx⟩)],nv'+1,[(pc,.s (.callw f args bl (maxL ins) r bl'))]⟩ else none
def Env.back2 (E E1:Env)(ah0:AH):Env:=⟨E1.fix,fun b=>if (ah0 b).isSome=true then E1.own b else E.own b⟩
section
variable {base : Nat} {w:World} {E:Env} {ah ah0:AH} {F:Nat→Prop}
theorem part_back2 (hh:HeapOk base w E ah F)(hsub:∀b k,ah0 b=some k→ah b=some k)
  {w':World} {E1:Env} {ah':AH} {F':Nat→Prop} (hst:Step base w (E.part ah0) w' E1) (hh':HeapOk base w' E1 ah' F')
  (hlt':∀b k,ah' b=some k→(ah0 b).isSome=true∧∀x∈k.refsB,(ah0 x).isSome=true) {ahN:AH} (hN:∀b,ahN b=if (ah0 b).isSome=true then ah' b else ah b) :
  Step base w E w' (E.back2 E1 ah0)∧HeapOk base w' (E.back2 E1 ah0) ahN F∧
   ∀a v,Rep w' E1 a v→(∀x∈a.refs,(ah0 x).isSome=true)→Rep w' (E.back2 E1 ah0) a v:=by
 have own0:∀b,(ah0 b).isSome=true→(E.part ah0).own b=E.own b:=fun b hb=>by simp [Env.part,hb]
 have own0':∀b c o,(E.part ah0).own b=.at c o→(ah0 b).isSome=true∧E.own b=.at c o:=fun b c o h=>by
  by_cases hb:(ah0 b).isSome=true
  ·rw [own0 b hb] at h;exact ⟨hb,h⟩
  ·simp [Env.part,hb] at h
 have in1:∀b,(ah0 b).isSome=true→(E.back2 E1 ah0).own b=E1.own b:=fun b hb=>by
  simp only [Env.back2];rw [if_pos hb]
 have out1:∀b,¬(ah0 b).isSome=true→(E.back2 E1 ah0).own b=E.own b:=fun b hb=>by
  simp only [Env.back2];rw [if_neg hb]
 -- a block that the call knows nothing of
 have extra:∀b k c o,¬(ah0 b).isSome=true→ah b=some k→E.own b=.at c o→∀b' o',(E.part ah0).own b'≠.at c o':=fun b k c o hb hk ho b' o' h=>by
  obtain ⟨h1,h2⟩:=own0' b' c o' h
  obtain ⟨k',hk'⟩:=Option.isSome_iff_exists.1 h1
  exact hh.sep b' b k' k c o' c o (fun e=>hb (by rw [← e];exact h1)) (hsub _ _ hk') hk h2 ho rfl
 have hx:Ext w E w' (E.back2 E1 ah0):=by
  refine ⟨hst.ext.fix,hst.ext.cell,fun b hb=>?_,hst.ext.arr⟩
  by_cases hin:(ah0 b).isSome=true
  ·rw [in1 b hin]
   have:=hst.ext.own b (by rw [own0 b hin];exact hb)
   rw [this,own0 b hin]
  ·exact out1 b hin
 refine ⟨⟨hx,hst.below,hst.fixold,fun c hc hno=>hst.keep c hc fun b o h=>hno b o (own0' b c o h).2,fun b c o h hc=>?_,fun c o h hc=>?_⟩,⟨fun b k hb=>?_,fun b b' k k' c o c' o' hne h1 h2 h3 h4=>?_,fun b hb=>?_,hh'.fixlt,hh'.bs,fun b c o h=>?_⟩,fun a v hr hrf=>?_⟩
 ·by_cases hin:(ah0 b).isSome=true
  ·rw [in1 b hin] at h
   obtain ⟨b',o',h'⟩:=hst.ownnew b c o h hc
   exact ⟨b',o',(own0' b' c o' h').2⟩
  ·rw [out1 b hin] at h;exact ⟨b,o,h⟩
 ·exact (hst.fixnew c o h hc).imp id fun ⟨b',o',h'⟩=>⟨b',o',(own0' b' c o' h').2⟩
 ·rw [hN b] at hb
  split at hb
  ·rename_i hin
   exact (hh'.blk b k hb).env (fun _ _ h=>h) (fun _ _ _ _ h=>h) (in1 b hin) fun x hx=>in1 x ((hlt' b k hb).2 x hx)
  ·rename_i hle
   have hb0:=hh.blk b k hb
   refine hb0.keep hx (fun c o ho=>hst.keep c (hb0.lt ho).1 (extra b k c o hle hb ho)) (fun c o off ho h=>?_)
   rcases hst.fixnew c off h (hb0.lt ho).1 with h|⟨b',o',h⟩
   ·exact h
   ·exact absurd h (extra b k c o hle hb ho b' o')
 ·have mix:∀b b' k c o c' o',¬(ah0 b).isSome=true→ah b=some k→E.own b=.at c o→E1.own b'=.at c' o'→c≠c':=by
   intro b b' k c o c' o' h1 h2 h3 h6 e
   subst e
   obtain ⟨x,y,hxy⟩:=hst.ownnew b' c o' h6 ((hh.blk b k h2).lt h3).1
   exact extra b k c o h1 h2 h3 x y hxy
  rw [hN b] at h1
  rw [hN b'] at h2
  split at h1
  ·rename_i g1
   rw [in1 b g1] at h3
   split at h2
   ·rename_i g2
    rw [in1 b' g2] at h4
    exact hh'.sep b b' k k' c o c' o' hne h1 h2 h3 h4
   ·rename_i g2
    rw [out1 b' g2] at h4
    exact (mix b' b k' c' o' c o g2 h2 h4 h3).symm
  ·rename_i g1
   rw [out1 b g1] at h3
   split at h2
   ·rename_i g2
    rw [in1 b' g2] at h4
    exact mix b b' k c o c' o' g1 h1 h3 h4
   ·rename_i g2
    rw [out1 b' g2] at h4
    exact hh.sep b b' k k' c o c' o' hne h1 h2 h3 h4
 ·have h0:=hh.fresh b hb
  rw [out1 b fun h=>?_]
  ·exact h0
  ·obtain ⟨k0,hk0⟩:=Option.isSome_iff_exists.1 h
   exact (hh.blk b k0 (hsub _ _ hk0)).own h0
 ·by_cases hin:(ah0 b).isSome=true
  ·rw [in1 b hin] at h;exact hh'.ownlt b c o h
  ·rw [out1 b hin] at h
   have:=hh.ownlt b c o h
   exact ⟨this.1,Nat.lt_of_lt_of_le this.2 hst.below.size⟩
 ·exact rep_own (E:=E1) (E':=E.back2 E1 ah0) (fun _ _ h=>h) hr fun x hx=>in1 x (hrf x hx)
end
theorem turnB_get {chs:List (Nat×Nat)}:∀{bl bl':List (Nat×SB)} {nv nv':Nat},turnB chs nv bl=some (bl',nv')→∀b,(blGet bl' b).isSome=(blGet bl b).isSome
 |[],bl',nv,nv',h,b=>by simp only [turnB,Option.some.injEq,Prod.mk.injEq] at h;obtain ⟨rfl,rfl⟩:=h;rfl
 |(c,k)::r,bl',nv,nv',h,b=>by
  simp only [turnB] at h
  have fin:∀{k':SB} {l:List (Nat×SB)} {n m:Nat},turnB chs n r=some (l,m)→(blGet ((c,k')::l) b).isSome=(blGet ((c,k)::r) b).isSome:=fun {k' l n m} hl=>by
   simp only [blGet]
   cases e:Nat.beq c b
   ·simp only [cond_false];exact turnB_get hl b
   ·rfl
  split at h
  ·split at h
   ·rename_i sz _ _ sz' _
    cases e:Nat.beq sz sz'
    ·simp [e] at h
    ·simp only [e,cond_true] at h
     split at h
     ·rename_i l n hl
      simp only [Option.some.injEq,Prod.mk.injEq] at h;obtain ⟨rfl,rfl⟩:=h
      exact fin hl
     ·cases h
   ·rename_i sz _ _ sz' _
    cases e:Nat.beq sz sz'
    ·simp [e] at h
    ·simp only [e,cond_true] at h
     split at h
     ·rename_i l n hl
      simp only [Option.some.injEq,Prod.mk.injEq] at h;obtain ⟨rfl,rfl⟩:=h
      exact fin hl
     ·cases h
   ·cases h
  ·split at h
   ·rename_i l n hl
    simp only [Option.some.injEq,Prod.mk.injEq] at h;obtain ⟨rfl,rfl⟩:=h
    exact fin hl
   ·cases h
theorem get_updB {b:Nat}{k:SB}:∀{bl:List (Nat×SB)} {th:Tr SB},(updB bl th).get b=some k→blGet bl b=some k∨(blGet bl b=none∧th.get b=some k)
 |[],th,h=>.inr ⟨rfl,h⟩
 |(c,x)::r,th,h=>by
  simp only [updB] at h
  simp only [blGet]
  rcases Tr.get_upd _ _ _ _ _ _ h with ⟨rfl,h1⟩|⟨hne,h1⟩
  ·exact .inl (by simp only [Nat.beq_refl,cond_true];exact h1)
  ·have e:Nat.beq c b=false:=by
    cases e:Nat.beq c b
    ·rfl
    ·exact absurd (Nat.eq_of_beq_eq_true e).symm hne
   rw [e]
   exact get_updB h1
theorem inB_ok {ρ:List AV}{bl:List (Nat×SB)}{b:Nat}(h:inB bl b=true):(ahL (blD ρ bl) b).isSome=true:=by
 unfold inB at h
 rw [ahL_blD]
 split at h
 ·rename_i k hk;rw [hk];rfl
 ·cases h
theorem mem_blGet : ∀{bl:List (Nat×SB)} {b:Nat} {k:SB},blGet bl b=some k→(b,k)∈bl
 |[],b,k,h=>by cases h
 |x::r,b,k,h=>by
  simp only [blGet] at h
  cases e:Nat.beq x.1 b
  ·simp only [e,cond_false] at h;exact List.mem_cons_of_mem _ (mem_blGet h)
  ·simp only [e,cond_true,Option.some.injEq] at h;subst h
   rw [← Nat.eq_of_beq_eq_true e];exact List.mem_cons_self
section
variable {P : Program}
theorem inlW_ok {wc:WCfg}:∀σ:List AV,fzL σ=true→InlOk P σ (inlW P wc):=by
 intro ρ hρ pc th nx nv f args R h hp hs base w E ah vs hah hh hG hrep o a he next Q hnext
 unfold inlW at h
 split at h
 ·cases h
 rename_i c hc
 dsimp only at h
 generalize (closeB th 1000 (rfsL args) []).reverse=ins at h
 generalize maxL ins=n0 at h
 split at h
 ·cases h
 rename_i bl hbl
 split at h
 ·cases h
 rename_i bl' nv' hbl'
 split at h
 ·cases h
 rename_i r hr
 cases hg:(r.flt&&okW bl bl' n0 (rfsL args))
 ·simp [hg] at h
 simp only [hg,cond_true,Option.some.injEq] at h
 subst h
 simp only [Bool.and_eq_true] at hg
 obtain ⟨hrf,hg⟩:=hg
 unfold okW at hg
 simp only [Bool.and_eq_true,List.all_eq_true] at hg
 obtain ⟨g1,g2,g3⟩:=hg
 have hpw:=hs (pc,.s (.callw f args bl n0 r bl')) (List.mem_singleton.2 rfl) hp
 have hsub:∀b k,ahL (blD ρ bl) b=some k→ah b=some k:=fun b k h=>by
  rw [ahL_blD] at h
  simp only [Option.map_eq_some_iff] at h
  obtain ⟨z,hz,rfl⟩:=h
  exact hah b z (takeB_get hbl b z hz)
 have hlt:∀b k,ahL (blD ρ bl) b=some k→b<n0:=fun b k h=>by
  rw [ahL_blD] at h
  simp only [Option.map_eq_some_iff] at h
  obtain ⟨z,hz,rfl⟩:=h
  exact Nat.le_of_ble_eq_true (g1 _ (mem_blGet hz)).1
 have hrefs:∀b k,ahL (blD ρ bl) b=some k→∀x∈k.refsB,(ahL (blD ρ bl) x).isSome=true:=fun b k h x hx=>by
  rw [ahL_blD] at h
  simp only [Option.map_eq_some_iff] at h
  obtain ⟨z,hz,rfl⟩:=h
  rw [rfsB_den hρ] at hx
  exact inB_ok ((g1 _ (mem_blGet hz)).2 x hx)
 have hpart:=part_heap hh hsub hlt hrefs
 have hrepP:RepL w (E.part (ahL (blD ρ bl))) (denL ρ args) vs:=⟨hrep.1,fun i a v ha hv=>part_rep (hrep.2 i a v ha hv) fun x hx=>by
  have:x∈refsL (denL ρ args):=refsL_get i a ha hx
  rw [rfsL_den hρ] at this
  exact inB_ok (g2 x this)⟩
 have hq:=hpw base w (E.part (ahL (blD ρ bl))) vs hpart hG hrepP
 split at hq
 ·exact hq.elim
 rename_i fn hfn
 obtain ⟨hbody,hname,hq⟩:=hq
 have hcall:(callFunc f vs.toArray).run P w=.ok (.enter f vs.toArray) w:=by
  have:(fn.name == "runtime.NumGoroutine")=false:=by simpa using hname
  simp only [callFunc,Sem.run_bind,run_program,Result.andThen_ok,hfn,this,Bool.false_eq_true,if_false,hbody,Sem.run_pure]
 unfold Oper.wp
 rw [he,hcall]
 refine hq.mono fun e w' hq=>?_
 obtain ⟨v,E1,rfl,hst,hh1,hv⟩:=hq
 have hsome:∀b,(ahL (blD ρ bl') b).isSome=(ahL (blD ρ bl) b).isSome:=fun b=>by
  rw [ahL_blD,ahL_blD];simp only [Option.isSome_map];exact turnB_get hbl' b
 obtain ⟨q1,q2,q3⟩:=part_back2 (ahN:=fun b=>if (ahL (blD ρ bl) b).isSome=true then ahL (blD ρ bl') b else ah b) hh hsub hst hh1 (fun b k h=>by
  refine ⟨by rw [← hsome,h];rfl,fun x hx=>?_⟩
  rw [ahL_blD] at h
  simp only [Option.map_eq_some_iff] at h
  obtain ⟨z,hz,rfl⟩:=h
  rw [rfsB_den hρ] at hx
  exact inB_ok ((g3 _ (mem_blGet hz)).2 x hx)) (fun b=>rfl)
 refine hnext _ rfl v w' _ _ (fun b k hb=>?_) q1 q2 (q3 _ _ hv fun x hx=>?_)
 ·rcases get_updB hb with h1|⟨h1,h2⟩
  ·have h3:(ahL (blD ρ bl) b).isSome=true:=by rw [← hsome,ahL_blD,h1];rfl
   show (if (ahL (blD ρ bl) b).isSome=true then ahL (blD ρ bl') b else ah b)=_
   rw [if_pos h3,ahL_blD,h1];rfl
  ·have h3:¬(ahL (blD ρ bl) b).isSome=true:=by rw [← hsome,ahL_blD,h1];simp
   show (if (ahL (blD ρ bl) b).isSome=true then ahL (blD ρ bl') b else ah b)=_
   rw [if_neg h3];exact hah b k h2
 ·have:=flat_clean (flt_den (ρ:=ρ) hrf)
  have h0:=cleanL_norefs (l:=[r.den ρ]) (by simp [cleanL,this])
  simp only [refsL,List.append_nil] at h0
  rw [h0] at hx;cases hx
end
section
variable {P : Program} {ρ:List AV}
def wcT (l:List (Nat×List (Nat×Nat))):WCfg:=fun f=>(l.find? fun x=>Nat.beq x.1 f).map (·.2)
end
end Go.Fw
end
section
set_option linter.unusedVariables false
set_option linter.unusedSimpArgs false
set_option linter.unusedSectionVars false
namespace Go.Fw
set_option linter.unusedSectionVars false
variable [Glob]
set_option linter.unusedSimpArgs false
set_option linter.unusedVariables false
def rowM {K V:Type}(f:K→List AV)(g:V→List AV)(e:K×V):List AV:=f e.1++g e.2
theorem rowM_fz {K V:Type}{f:K→List AV}{g:V→List AV}(hf:∀x,fzL (f x)=true)(hg:∀x,fzL (g x)=true)(e:K×V):fzL (rowM f g e)=true:=by
 have app:∀{a b:List AV},fzL a=true→fzL b=true→fzL (a++b)=true:=by
  intro a
  induction a with
  |nil=>intro b _ h;exact h
  |cons x r ih=>intro b h1 h2;simp only [fzL,Bool.and_eq_true,List.cons_append] at h1 ⊢;exact ⟨h1.1,ih h1.2 h2⟩
 exact app (hf _) (hg _)
section
variable {P : Program} {K V:Type} [DecidableEq K] {f:K→List AV} {g:V→List AV} {kt:TypeId} {m:MSh}
end
end Go.Fw
namespace Go.Fw
variable [Glob]
end Go.Fw
end
section
set_option linter.unusedVariables false
set_option linter.unusedSimpArgs false
set_option linter.unusedSectionVars false
namespace Go.Fw
set_option linter.unusedSectionVars false
variable [Glob]
open Go.ChangeShapes Go.WideShapes Go.RowKit
set_option linter.unusedVariables false
set_option linter.unusedSimpArgs false
structure Bulk {H:Type}(f:DataW H→Nat)(fa:List (DataW H)→Nat):Prop where
 str:∀b,f (.lit (.string b))=b.length+1
 sl:∀e s,f (.slice e s)=fa e+fa s+1
 agg:∀p,f (.agg p)=fa p+1
 nil:fa []=0
 cons:∀d r,fa (d::r)=f d+fa r
 one:∀d,1≤f d
theorem Bulk.append {H:Type}{f:DataW H→Nat}{fa}(hb:Bulk f fa)(a b:List (DataW H)):fa (a++b)=fa a+fa b:=by
 induction a with
 |nil=>simp [hb.nil]
 |cons x a ih=>simp [hb.cons,ih];omega
theorem Bulk.get {H:Type}{f:DataW H→Nat}{fa}(hb:Bulk f fa):∀{a:List (DataW H)} {i:Nat} {x},a[i]?=some x→f x≤fa a
 |y::a,0,x,h=>by simp at h;subst h;rw [hb.cons];omega
 |y::a,i+1,x,h=>by have:=hb.get (a:=a) (i:=i) (by simpa using h);rw [hb.cons];omega
theorem Bulk.len {H:Type}{f:DataW H→Nat}{fa}(hb:Bulk f fa)(a:List (DataW H)):a.length≤fa a:=by
 induction a with
 |nil=>simp
 |cons x a ih=>have:=hb.one x;simp [hb.cons];omega
abbrev lim : Nat:=1048576
def frEnv (w:World):Env:=freeEnv fun c _=>c<w.heap.size
structure Rd (P:Program)(t:TypeId){α:Type}(row:α→List AV)(wf:α→Prop):Prop where
 get:∀{H:Type} {enc:TypeId×Value→H} {f:DataW H→Nat} {fa:List (DataW H)→Nat} (_:Bulk f fa) {w:World} {fuel:Nat} {cs:List Value} {x:DataW H×List MemPlace},
  DataW.trod enc P w 0 (fun _=>true) true fuel t cs=some x→f x.1≤lim→∃a,wf a∧RepL w (frEnv w) (row a) cs∧∀c∈row a,c.scal=true
theorem Rd.to {P t}{α β:Type}{row:α→List AV}{wf:α→Prop}(h:Rd P t row wf)(g:α→β){row':β→List AV}{wf':β→Prop}(hr:∀a,row' (g a)=row a)(hw:∀a,wf a→wf' (g a)):Rd P t row' wf':=by
 constructor
 intro H enc f fa hb w fuel cs x hx hl
 obtain ⟨a,h1,h2,h3⟩:=h.get hb hx hl
 exact ⟨g a,hw a h1,by rw [hr];exact h2,by rw [hr];exact h3⟩
theorem RepL.one {w E a v}(h:Rep w E a v):RepL w E [a] [v]:=
 ⟨rfl,fun i x y hx hy=>by cases i with|zero=>simp at hx hy;subst hx;subst hy;exact h|succ i=>simp at hx⟩
theorem rd_bool {P t}(ht:P.underlying t=some .bool):Rd P t (fun b:Bool=>[.p (.bool b)]) (fun _=>True):=by
 constructor
 intro H enc f fa hb w fuel cs x hx hl
 obtain ⟨b,rfl,rfl⟩:=DataW.trod_bool ht hx
 exact ⟨b,trivial,RepL.one (.p rfl),by simp [AV.scal]⟩
def inR (k:IntKind)(n:Int):Prop:=k.min≤n∧n≤k.max
theorem rd_int {P t}{k:IntKind}(ht:P.underlying t=some (.int k)):Rd P t (fun n:Int=>[.p (.int k n)]) (inR k):=by
 constructor
 intro H enc f fa hb w fuel cs x hx hl
 obtain ⟨n,rfl,rfl,hw⟩:=DataW.trod_int ht hx
 exact ⟨n,by simpa [Lit.wf,inR] using hw,RepL.one (.p rfl),by simp [AV.scal]⟩
theorem trod_float {H:Type}{enc:TypeId×Value→H}{P:Program}{w:World}{base:Nat}{spare:Nat→Bool}{held:Bool}{fuel:Nat}{t:TypeId}{cs:List Value}{x:DataW H×List MemPlace}{k}(ht:P.underlying t=some (.float k))
  (h:DataW.trod enc P w base spare held fuel t cs=some x):∃n,cs=[.float k n]∧x=(.lit (.float k n),[])∧(Lit.float k n).wf=true:=by
 cases fuel with
 |zero=>simp [DataW.trod] at h
 |succ n=>
  unfold DataW.trod at h
  rw [ht] at h
  split at h<;>simp_all
theorem rd_float {P t}(ht:P.underlying t=some (.float .f64)):Rd P t (fun n:Nat=>[.p (.float .f64 n)]) (fun n=>n<2 ^ 64):=by
 constructor
 intro H enc f fa hb w fuel cs x hx hl
 obtain ⟨n,rfl,rfl,hw⟩:=trod_float ht hx
 exact ⟨n,by simpa [Lit.wf,inR] using hw,RepL.one (.p rfl),by simp [AV.scal]⟩
theorem rd_str {P t}(ht:P.underlying t=some .string):Rd P t (fun s:List UInt8=>[.str s]) (fun s=>s.length≤lim):=by
 constructor
 intro H enc f fa hb w fuel cs x hx hl
 obtain ⟨s,rfl,rfl,hw⟩:=DataW.trod_string ht hx
 refine ⟨s.data.toList,?_,RepL.one (.str s _ rfl),by simp [AV.scal]⟩
 rw [hb.str] at hl
 omega
theorem RepL.length {w E az vs}(h:RepL w E az vs):az.length=vs.length:=h.1
theorem RepL.get {w E az vs}(h:RepL w E az vs){i:Nat}{a:AV}(ha:az[i]?=some a):∃v,vs[i]?=some v∧Rep w E a v:=by
 have hlt:i<vs.length:=by rw [← h.1];exact (List.getElem?_eq_some_iff.1 ha).1
 exact ⟨vs[i],by simp [hlt],h.2 i a _ ha (by simp [hlt])⟩
theorem cell_spot {w:World}{a:Addr}{v}(h:w.cell? a=some v):a.spot=none:=World.cell?_spot h
theorem choose_list {α:Type}{p:Nat→α→Prop}:∀(n:Nat),(∀i,i<n→∃a,p i a)→∃l:List α,l.length=n∧∀i a,l[i]?=some a→p i a
 |0,_=>⟨[],rfl,by simp⟩
 |n+1,h=>by
  obtain ⟨l,h1,h2⟩:=choose_list n (fun i hi=>h i (by omega))
  obtain ⟨a,ha⟩:=h n (by omega)
  refine ⟨l++[a],by simp [h1],fun i x hx=>?_⟩
  by_cases hi:i<n
  ·rw [List.getElem?_append_left (by omega)] at hx
   exact h2 i x hx
  ·have:i=n:=by
    have:=(List.getElem?_eq_some_iff.1 hx).1
    simp at this;omega
   subst this
   rw [List.getElem?_append_right (by omega)] at hx
   simp [h1] at hx
   subst hx
   exact ha
def allWf {α:Type}(wf:α→Prop)(l:List α):Prop:=l.length≤lim∧∀x∈l,wf x
theorem rd_slice {P:Program}{t e:TypeId}{α:Type}{row:α→List AV}{wf:α→Prop}{m:Nat}(ht:P.underlying t=some (.slice e))(hm:P.cellsOf e=m)(hpos:0<m)(hrow:∀a,(row a).length=m)(he:Rd P e row wf) :
  Rd P t (fun l:List α=>[.sl (l.map row) false]) (allWf wf):=by
 constructor
 intro H enc f fa hb w fuel cs x hx hl
 rcases DataW.trod_slice ht hx with ⟨rfl,rfl⟩|⟨a,len,cap,elems,rest,n,-,rfl,rfl,-,hlc,-,hlen,hel,hsp,-⟩
 ·exact ⟨[],⟨by simp,by simp⟩,RepL.one (.slnil false none),by simp [AV.scal]⟩
 ·subst hm
  obtain ⟨hrl,hre⟩:=hsp rfl
  dsimp only at hl
  rw [hb.sl] at hl
  have hone:∀i,i<len→∃b:α,wf b∧(∀c∈row b,c.scal=true)∧∃cs',w.cells? 0 (a.add (i*P.cellsOf e)) (P.cellsOf e)=some cs'∧RepL w (frEnv w) (row b) cs':=by
   intro i hi
   have h:=hel i hi
   have hi':i<elems.length:=by omega
   rw [List.getElem?_eq_getElem hi',Option.bind_eq_some_iff] at h
   obtain ⟨cs',h1,h2⟩:=h
   have hbd:f elems[i].1≤lim:=by
    have h3:f elems[i].1≤fa (elems.map (·.1)):=hb.get (a:=elems.map (·.1)) (i:=i) (x:=elems[i].1) (by simp [hi'])
    omega
   obtain ⟨b,g1,g2,g3⟩:=he.get hb h2 hbd
   exact ⟨b,g1,g3,cs',h1,g2⟩
  obtain ⟨l,hl1,hl2⟩:=choose_list len hone
  refine ⟨l,⟨?_,fun x hx=>?_⟩,?_,by simp [AV.scal]⟩
  ·have:=hb.len (elems.map (·.1))
   simp at this
   omega
  ·obtain ⟨i,hi⟩:=List.mem_iff_getElem?.1 hx
   exact (hl2 i x hi).1
  ·apply RepL.one
   by_cases hc0:cap=0
   ·subst hc0
    obtain rfl:len=0:=by omega
    obtain rfl:l=[]:=List.eq_nil_of_length_eq_zero hl1
    exact .slnil false _
   ·have hspot:a.spot=none:=by
     have key:∃cs',w.cells? 0 (a.add 0) (P.cellsOf e)=some cs':=by
      by_cases hlz:len=0
      ·have h:=hre 0 (by omega)
       have hi':0<rest.length:=by omega
       rw [List.getElem?_eq_getElem hi',Option.bind_eq_some_iff] at h
       obtain ⟨cs',h1,h2⟩:=h
       subst hlz
       exact ⟨cs',by simpa using h1⟩
      ·obtain ⟨b,-,-,cs',h1,-⟩:=hone 0 (by omega)
       exact ⟨cs',by simpa using h1⟩
     obtain ⟨cs',h1⟩:=key
     obtain ⟨-,q1,q2⟩:=World.cells?_some h1
     have:=q2 0 hpos
     rw [List.getElem?_eq_getElem (by omega)] at this
     have:=cell_spot this
     obtain ⟨bl,o,s⟩:=a
     cases s with
     |none=>rfl
     |some s=>simp [Addr.add] at this
    obtain ⟨bl,o,s⟩:=a
    cases hspot
    have cell:∀(i:Nat) (b:α) (j:Nat) (y:AV),l[i]?=some b→(row b)[j]?=some y→∃v,w.cell? ⟨bl,o+i*P.cellsOf e+j,none⟩=some v∧Rep w (frEnv w) y v:=by
     intro i b j y hi hj
     obtain ⟨-,-,cs',h1,h2⟩:=hl2 i b hi
     obtain ⟨v,hv,hr⟩:=h2.get hj
     obtain ⟨-,q1,q2⟩:=World.cells?_some h1
     refine ⟨v,?_,hr⟩
     have hjl:j<P.cellsOf e:=by rw [← hrow b];exact (List.getElem?_eq_some_iff.1 hj).1
     have:=q2 j hjl
     rw [hv,WideShapes.add_plain,WideShapes.add_plain] at this
     exact this
    have hlim:lim=1048576:=rfl
    have hlen2:=hb.len (elems.map (·.1))
    simp only [List.length_map] at hlen2
    have:=Rep.sl (w:=w) (E:=frEnv w) (l.map row) false (P.cellsOf e) bl o cap (fun i j=>(w.cell? ⟨bl,o+i*P.cellsOf e+j,none⟩).getD .nilIface) (by simp;omega) (by simp)
     (fun i r hr=>by
      simp only [List.getElem?_map,Option.map_eq_some_iff] at hr
      obtain ⟨b,-,rfl⟩:=hr
      exact hrow b)
     (fun i r j y hr hy=>by
      simp only [List.getElem?_map,Option.map_eq_some_iff] at hr
      obtain ⟨b,hb',rfl⟩:=hr
      obtain ⟨v,hv,-⟩:=cell i b j y hb' hy
      exact World.block_lt_of_cell? w _ hv)
     (fun i r j y hr hy=>by
      simp only [List.getElem?_map,Option.map_eq_some_iff] at hr
      obtain ⟨b,hb',rfl⟩:=hr
      obtain ⟨v,hv,-⟩:=cell i b j y hb' hy
      simp [hv])
     (fun r hr y hy=>by
      obtain ⟨b,hb',rfl⟩:=List.mem_map.1 hr
      obtain ⟨i,hi⟩:=List.mem_iff_getElem?.1 hb'
      exact (hl2 i b hi).2.1 y hy)
     (fun i r j y hr hy=>by
      simp only [List.getElem?_map,Option.map_eq_some_iff] at hr
      obtain ⟨b,hb',rfl⟩:=hr
      obtain ⟨v,hv,hrp⟩:=cell i b j y hb' hy
      simpa [hv] using hrp)
    simp only [List.length_map,hl1] at this
    exact this
structure RdF (P:Program)(fs:List Field)(off:Nat){α:Type}(row:α→List AV)(wf:α→Prop):Prop where
 get:∀{H:Type} {enc:TypeId×Value→H} {f:DataW H→Nat} {fa:List (DataW H)→Nat} (_:Bulk f fa) {w:World} {n:Nat} {cs:List Value} {xs:List (DataW H×List MemPlace)},
  xs.length=fs.length→(∀(i:Nat) (fd:Field),fs[i]?=some fd→DataW.trod enc P w 0 (fun _=>true) true n fd.type ((cs.drop fd.offset).take (P.cellsOf fd.type))=xs[i]?)→
  cs.length=off+(fs.map fun fd=>P.cellsOf fd.type).sum→fa (xs.map (·.1))≤lim→∃a,wf a∧RepL w (frEnv w) (row a) (cs.drop off)∧∀c∈row a,c.scal=true
theorem rdF_nil {P off}:RdF P [] off (fun _:Unit=>[]) (fun _=>True):=by
 constructor
 intro H enc f fa hb w n cs xs hx hf hl hbd
 refine ⟨(),trivial,?_,by simp⟩
 have:cs.drop off=[]:=List.drop_eq_nil_of_le (by simp at hl;omega)
 rw [this]
 exact ⟨rfl,fun i a v h=>by simp at h⟩
theorem rdF_cons {P:Program}{fd:Field}{fs:List Field}{off m:Nat}{α β:Type}{row:α→List AV}{wf:α→Prop}{row':β→List AV}{wf':β→Prop}(ho:fd.offset=off)(hm:P.cellsOf fd.type=m)(h:Rd P fd.type row wf)
  (h':RdF P fs (off+m) row' wf'):RdF P (fd::fs) off (fun x:α×β=>row x.1++row' x.2) (fun x=>wf x.1∧wf' x.2):=by
 subst ho hm
 constructor
 intro H enc f fa hb w n cs xs hx hf hl hbd
 match xs,hx with
 |x::xs,hx=>
  have h0:=hf 0 fd rfl
  simp only [List.getElem?_cons_zero] at h0
  simp only [List.map_cons,hb.cons] at hbd
  obtain ⟨a,a1,a2,a3⟩:=h.get hb h0 (by omega)
  obtain ⟨b,b1,b2,b3⟩:=h'.get hb (xs:=xs) (by simpa using hx) (fun i fd' hi=>by simpa using hf (i+1) fd' (by simpa using hi)) (by simp at hl;omega) (by omega)
  refine ⟨(a,b),⟨a1,b1⟩,?_,fun c hc=>?_⟩
  ·have:cs.drop fd.offset=(cs.drop fd.offset).take (P.cellsOf fd.type)++cs.drop (fd.offset+P.cellsOf fd.type):=by
    rw [← List.drop_drop,List.take_append_drop]
   rw [this]
   exact a2.append b2
  ·rcases List.mem_append.1 hc with hc|hc
   ·exact a3 c hc
   ·exact b3 c hc
theorem rd_struct {P:Program}{t:TypeId}{fs:Array Field}{α:Type}{row:α→List AV}{wf:α→Prop}(ht:P.underlying t=some (.struct fs))(hs:P.cellsOf t=(fs.toList.map fun fd=>P.cellsOf fd.type).sum)(h:RdF P fs.toList 0 row wf) :
  Rd P t row wf:=by
 constructor
 intro H enc f fa hb w fuel cs x hx hl
 obtain ⟨xs,n,-,rfl,hlen,hxs,hf⟩:=DataW.trod_struct ht hx
 dsimp only at hl
 rw [hb.agg] at hl
 obtain ⟨a,a1,a2,a3⟩:=h.get hb (xs:=xs) (w:=w) (n:=n) (cs:=cs) (by simpa using hxs) (fun i fd hi=>hf i fd (by simpa using hi)) (by rw [hlen,hs];simp) (by omega)
 exact ⟨a,a1,by simpa using a2,a3⟩
structure RdV (P:Program)(t:TypeId){α:Type}(av:α→AV)(wf:α→Prop):Prop where
 get:∀{H:Type} {enc:TypeId×Value→H} {f:DataW H→Nat} {fa:List (DataW H)→Nat} (_:Bulk f fa) {w:World} {base:Nat} {v:Value} {d:DataW H} {ps:List MemPlace},
  Value.okWide P w .any base t v→DataW.Trod enc P w 0 (fun _=>true) true t v d ps→f d≤lim→∃a,wf a∧Rep w (frEnv w) (av a) v
theorem RepL.one_inv {w E a v}(h:RepL w E [a] [v]):Rep w E a v:=h.2 0 a v rfl rfl
theorem rdV_one {P:Program}{t:TypeId}{α:Type}{av:α→AV}{wf:α→Prop}(h:Rd P t (fun a=>[av a]) wf)(hc:∀{w base v},Value.okWide P w .any base t v→v.cells.toList=[v]):RdV P t av wf:=by
 constructor
 intro H enc f fa hb w base v d ps hok ⟨fuel,htr⟩ hl
 rw [hc hok] at htr
 obtain ⟨a,h1,h2,-⟩:=h.get hb htr hl
 exact ⟨a,h1,h2.one_inv⟩
theorem rdV_int {P t}{k:IntKind}(ht:P.underlying t=some (.int k)):RdV P t (fun n:Int=>.p (.int k n)) (inR k):=
 rdV_one (rd_int ht) (fun h=>by obtain ⟨b,rfl⟩:=okWide_int ht h;rfl)
theorem rdV_slice {P:Program}{t e:TypeId}{α:Type}{row:α→List AV}{wf:α→Prop}{m:Nat}(ht:P.underlying t=some (.slice e))(hm:P.cellsOf e=m)(hpos:0<m)(hrow:∀a,(row a).length=m)(he:Rd P e row wf) :
  RdV P t (fun l:List α=>.sl (l.map row) false) (allWf wf):=
 rdV_one (rd_slice ht hm hpos hrow he) (fun h=>by obtain ⟨a,b,c,rfl⟩:=okWide_slice ht h;rfl)
structure RdA (P:Program)(ts:List TypeId){α:Type}(avs:α→List AV)(wf:α→Prop):Prop where
 get:∀{H:Type} {enc:TypeId×Value→H} {f:DataW H→Nat} {fa:List (DataW H)→Nat} (_:Bulk f fa) {w:World} {base:Nat} {vs:List Value} {ds:List (DataW H)} {ps:List MemPlace},
  (∀(j:Nat) t v,ts[j]?=some t→vs[j]?=some v→Value.okWide P w .any base t v)→DataW.TrodAll enc P w 0 (fun _=>true) true ts vs ds ps→fa ds≤lim→∃a,wf a∧RepL w (frEnv w) (avs a) vs
theorem rdA_nil {P}:RdA P [] (fun _:Unit=>[]) (fun _=>True):=by
 constructor
 intro H enc f fa hb w base vs ds ps hok h hl
 obtain ⟨rfl,-,-⟩:=trodAll_nil h
 exact ⟨(),trivial,rfl,fun i a v h=>by simp at h⟩
theorem rdA_cons {P:Program}{t:TypeId}{ts:List TypeId}{α β:Type}{av:α→AV}{wf:α→Prop}{avs:β→List AV}{wf':β→Prop}(h:RdV P t av wf)(h':RdA P ts avs wf') :
  RdA P (t::ts) (fun x:α×β=>av x.1::avs x.2) (fun x=>wf x.1∧wf' x.2):=by
 constructor
 intro H enc f fa hb w base vs ds ps hok ht hl
 obtain ⟨v,vs,d,ds,p,q,rfl,rfl,rfl,h1,h2⟩:=trodAll_cons ht
 rw [hb.cons] at hl
 obtain ⟨a,a1,a2⟩:=h.get hb (hok 0 t v rfl rfl) h1 (by omega)
 obtain ⟨b,b1,b2⟩:=h'.get hb (fun j t v hj hv=>hok (j+1) t v (by simpa using hj) (by simpa using hv)) h2 (by omega)
 exact ⟨(a,b),⟨a1,b1⟩,(RepL.one a2).append b2⟩
theorem trodAll_stays {H:Type}{enc:TypeId×Value→H}{P:Program}(hl:laidOutB P=true){W W':World}{sp':Nat→Bool}:∀{ts:List TypeId} (_:∀t∈ts,P.readableRec t=true∧t<P.types.size) {vs:List Value} {ds:List (DataW H)} {ps:List MemPlace},
  DataW.TrodAll enc P W 0 (fun _=>true) true ts vs ds ps→(∀p∈ps,W.sameAt W' p)→(∀p∈ps,sp' p.block=true)→DataW.TrodAll enc P W' 0 sp' true ts vs ds ps
 |[],_,_,_,_,h,_,_=>by
  obtain ⟨rfl,rfl,rfl⟩:=trodAll_nil h
  exact trodAll_mk0
 |t::ts,hr,_,_,_,h,hs,hsp=>by
  obtain ⟨v,vs,d,ds,p,q,rfl,rfl,rfl,h1,h2⟩:=trodAll_cons h
  exact trodAll_cons_mk (WideElems.Trod_stays hl (hr t (by simp)).1 (hr t (by simp)).2 h1 (fun p hp=>hs p (by simp [hp])) (fun p hp=>hsp p (by simp [hp])))
   (trodAll_stays hl (fun t ht=>hr t (by simp [ht])) h2 (fun p hp=>hs p (by simp [hp])) (fun p hp=>hsp p (by simp [hp])))
section
variable {H : Type} {enc:TypeId×Value→H} {P:Program}
theorem post_below {f:Func}{s:ChangeSpec}{apart fresh handsOn again:Bool}{W W':World}{args:Array Value}{v:Value}{ds gs:List (DataW H)}{before pa pv:List MemPlace}
  (hW:DataW.Whole enc P f.params.toList s.vars apart W args.toList ds gs before)
  (hres:∀(b:Nat) (sp:Nat→Bool) (hd:Bool),DataW.TrodAll enc P W' b sp hd f.resultTypes.toList (v.resultList f.resultTypes.size) (s.fn H (ds++gs)).results [])
  (hargs:∀sp:Nat→Bool,(∀p∈before,sp p.block=true)→DataW.TrodAll enc P W' 0 sp true f.params.toList args.toList (s.fn H (ds++gs)).args pa)
  (hvars:∀sp:Nat→Bool,(∀p∈before,sp p.block=true)→DataW.TrodVars enc P W' sp s.vars (s.fn H (ds++gs)).vars pv)
  (hps:before=pa++pv) (hb:Below W.heap.size W W')
  (hok:∀(j:Nat) (t:TypeId) (r:Value),f.resultTypes[j]?=some t→(v.resultList f.resultTypes.size)[j]?=some r→Value.okWide P W' .any 0 t r) :
  s.post enc P f apart fresh handsOn again W args v W':=by
 have hlt:∀p∈before,p.block<W.heap.size:=fun p hp=>hW.lt p hp
 have hold:∀p∈before,(fun b=>decide (b<W.heap.size)) p.block=true:=fun p hp=>by simpa using hlt p hp
 refine ⟨ds,gs,before,[],pa,pv,hW,hres _ _ _,hargs _ hold,hvars _ hold,World.keptBut_mono (fun p hp=>⟨hp,?_⟩) (hb.frame (·∈before)),fun _=>?_⟩
 ·rw [hps,List.mem_append] at hp
  exact Or.inr hp
 ·obtain ⟨_,_,_,_,_,hz,hn⟩:=hW
  refine ⟨hok,_,_,([]++pa)++pv,⟨[]++pa,pv,trodAll_append (hargs _ (fun _ _=>rfl)) (hres _ _ _),hvars _ (fun _ _=>rfl),rfl,?_,?_⟩,?_⟩
  ·intro b off hp
   have hin:MemPlace.cell b off∈before:=by rw [hps];simpa using hp
   rw [hb.frozen (hlt _ hin)]
   exact hz b off hin
  ·intro ha
   have:=hn ha
   rw [hps] at this
   simpa using this
  ·intro p hp _
   rw [hps]
   simpa using hp
end
theorem law_contract {P:Program}{fid:FuncId}{fn:Func}{s:ChangeSpec}{apart fresh handsOn again:Bool}{α:Type}{avs:α→List AV}{wf:α→Prop}{tb:TypeId}
  (hf:P.funcs[fid]?=some fn) (hbody:fn.body.isNone=false) (hlaid:laidOutB P=true) (hread:∀t∈fn.params.toList,P.readableRec t=true∧t<P.types.size)
  (hrt:fn.resultTypes=#[tb]) (htb:P.underlying tb=some .bool) (hvars:s.vars=[])
  (hs:∀(H:Type) (ds:List (DataW H)),ds.length=fn.params.size→s.fn H ds={results:=[.lit (.bool true)],args:=ds})
  (ra:RdA P fn.params.toList avs wf) (pc:∀a,wf a→PC P fid (avs a) (.p (.bool true)))
  {H:Type} {enc:TypeId×Value→H} {f:DataW H→Nat} {fa:List (DataW H)→Nat} (hb:Bulk f fa) {W:World} {base:Nat} {args:Array Value} {ds gs:List (DataW H)} {before:List MemPlace}
  (hval:∀(j:Nat) t v,fn.params[j]?=some t→args[j]?=some v→Value.okWide P W .any base t v)
  (hW:DataW.Whole enc P fn.params.toList s.vars apart W args.toList ds gs before) (hbd:fa (ds++gs)≤lim) (hG:GOk W (fun c _=>c<W.heap.size)) :
  Calls P fid args W fun e W'=>∃v,e=.returned v∧s.post enc P fn apart fresh handsOn again W args v W':=by
 have hW':=hW
 obtain ⟨p,q,hA,hV,rfl,hfz,hnd⟩:=hW
 rw [hvars] at hV
 obtain ⟨rfl,rfl⟩:=trodVars_none hV
 simp only [List.append_nil] at hW' hbd
 have hlen:∀{ts:List TypeId} {vs:List Value} {ds:List (DataW H)} {ps:List MemPlace},DataW.TrodAll enc P W 0 (fun _=>true) true ts vs ds ps→ds.length=ts.length:=by
  intro ts
  induction ts with
  |nil=>intro vs ds ps h;obtain ⟨-,rfl,-⟩:=trodAll_nil h;rfl
  |cons t ts ih=>intro vs ds ps h;obtain ⟨_,_,_,_,_,_,_,rfl,_,_,h2⟩:=trodAll_cons h;simp [ih h2]
 obtain ⟨a,ha,hrep⟩:=ra.get hb (fun j t v hj hv=>hval j t v (by simpa using hj) (by simpa using hv)) hA hbd
 have hpc:=pc a ha W (fun c _=>c<W.heap.size) args.toList (fun c o h=>h) hG hrep
 rw [hf] at hpc
 dsimp only at hpc
 rw [if_neg (by simp [hbody])] at hpc
 have hc:=hpc.2
 simp only [Array.toArray_toList] at hc
 refine hc.mono fun e W' ⟨v,fix',he,hstep,_,hr⟩=>?_
 obtain rfl:=hr.p_inv
 have hbel:=hstep.below
 have hspec:=hs H ds (by rw [hlen hA];simp)
 refine ⟨_,he,post_below (pa:=p) (pv:=[]) (gs:=[]) hW' ?_ ?_ ?_ (by simp) hbel ?_⟩
 ·intro b sp hd
  rw [List.append_nil,hspec,hrt]
  exact trodAll_cons_mk (shut_bool htb _) trodAll_mk0
 ·intro sp hsp
  rw [List.append_nil,hspec]
  exact trodAll_stays hlaid hread hA (fun x hx=>hbel.same (hW'.lt x hx)) hsp
 ·intro sp hsp
  rw [List.append_nil,hspec,hvars]
  rfl
 ·exact ok_one hrt rfl (okWide_bool_mk htb _)
end Go.Fw
end
section
set_option linter.unusedVariables false
set_option linter.unusedSimpArgs false
set_option linter.unusedSectionVars false
namespace Go.Fw
structure GVal.wf (v:GVal):Prop where
 Kind:inR .u8 v.Kind
 Num:v.Num<2 ^ 64
 Str:v.Str.length≤lim
 Ref:inR .i64 v.Ref
structure GKey.wf (v:GKey):Prop where
 Str:v.Str.length≤lim
 Sym:inR .i64 v.Sym
structure GDesc.wf (v:GDesc):Prop where
 Has:inR .u8 v.Has
 Value:v.Value.wf
 Get:v.Get.wf
 Set:v.Set.wf
structure GProp.wf (v:GProp):Prop where
 Key:v.Key.wf
 Desc:v.Desc.wf
structure GObj.wf (v:GObj):Prop where
 Kind:inR .u8 v.Kind
 Proto:v.Proto.wf
 Props:allWf GProp.wf v.Props
 Target:v.Target.wf
 Handler:v.Handler.wf
 Text:v.Text.length≤lim
structure GHeap.wf (v:GHeap):Prop where
 Objects:allWf GObj.wf v.Objects
structure GOut.wf (v:GOut):Prop where
 Kind:inR .u8 v.Kind
 Value:v.Value.wf
 Desc:v.Desc.wf
 Keys:allWf GKey.wf v.Keys
 Error:inR .u8 v.Error
 Text:v.Text.length≤lim
structure GSeen.wf (v:GSeen):Prop where
 Began:inR .i64 v.Began
 Object:inR .i64 v.Object
 Method:inR .u8 v.Method
 Key:v.Key.wf
 Out:v.Out.wf
structure GAsk.wf (v:GAsk):Prop where
 Method:inR .u8 v.Method
 Object:inR .i64 v.Object
 Key:v.Key.wf
 Desc:v.Desc.wf
 Value:v.Value.wf
 Receiver:v.Receiver.wf
 Args:allWf GVal.wf v.Args
structure GWant.wf (v:GWant):Prop where
 Kind:inR .u8 v.Kind
 Ask:v.Ask.wf
 Func:v.Func.wf
 This:v.This.wf
 For:v.For.wf
 Args:allWf GVal.wf v.Args
 Object:v.Object.wf
 Out:v.Out.wf
structure GFix.wf (v:GFix):Prop where
 proto:v.proto.wf
 keys:allWf GKey.wf v.keys
 desc:v.desc.wf
structure GFacts.wf (v:GFacts):Prop where
 Proto:v.Proto.wf
 Desc:v.Desc.wf
 Keys:allWf GKey.wf v.Keys
 Own:allWf GDesc.wf v.Own
structure GPast.wf (v:GPast):Prop where
 entries:allWf (inR .i64) v.entries
 closing:inR .i64 v.closing
end Go.Fw
end
section
set_option linter.unusedVariables false
set_option linter.unusedSimpArgs false
set_option linter.unusedSectionVars false
namespace Go.Fw
set_option linter.unusedVariables false
set_option linter.unusedSimpArgs false
theorem cmp_i (a b:Int):compare a b=if a<b then Ordering.lt else if a=b then Ordering.eq else Ordering.gt:=rfl
theorem cmp_eq (a b:Int):(some (compare a b) == some Ordering.eq)=decide (a=b):=by
 rw [cmp_i];split
 ·simp;omega
 ·split
  ·simp;assumption
  ·simp;assumption
theorem cmp_ne (a b:Int):(some (compare a b) != some Ordering.eq)=!decide (a=b):=by
 simp only [bne,cmp_eq]
abbrev rd64 (x:Nat):Ieee.Datum:=FloatKind.f64.format.read x
theorem rd_zero : rd64 0=.number false 0 (-1074):=by rfl
theorem rd_one : rd64 4607182418800017408=.number false 4503599627370496 (-52):=by rfl
theorem sg0 (s:Bool)(u:Nat):Ieee.signed s 0 u=0:=by cases s<;>simp [Ieee.signed]
theorem sgz {s:Bool}{m u:Nat}:Ieee.signed s m u=0↔m=0:=by
 have:(0:Nat)<2 ^ u:=Nat.two_pow_pos u
 have h2:m*2 ^ u=0↔m=0:=Nat.mul_eq_zero.trans ⟨fun h=>h.resolve_right (by omega),.inl⟩
 cases s
 ·simp only [Ieee.signed,Bool.false_eq_true,if_false,Nat.shiftLeft_eq];omega
 ·simp only [Ieee.signed,if_true,Nat.shiftLeft_eq];omega
def isNan (x:Nat):Bool:=match rd64 x with | .nan ..=>true|_=>false
theorem fNe_self (x:Nat):fNe x x=isNan x:=by
 unfold fNe isNan Ieee.Format.order
 show (Ieee.Datum.order (rd64 x) (rd64 x) != some .eq)=_
 cases rd64 x with
 |nan s t=>simp [Ieee.Datum.order]
 |infinity s=>cases s<;>rfl
 |number s m i=>simp only [Ieee.Datum.order,cmp_ne];simp
theorem fEq_self (x:Nat):fEq x x=!isNan x:=by
 have h:=fNe_self x
 unfold fNe at h
 unfold fEq
 rw [← h]
 cases h:(FloatKind.f64.format.order x x == some .eq)<;>simp [bne,h]
theorem fNe_not (x y:Nat):fNe x y=!fEq x y:=rfl
theorem fEq_zero (x:Nat):fEq x 0=(rd64 x).isZero:=by
 unfold fEq Ieee.Format.order
 show (Ieee.Datum.order (rd64 x) (rd64 0) == some .eq)=_
 rw [rd_zero]
 cases rd64 x with
 |nan s t=>rfl
 |infinity s=>cases s<;>rfl
 |number s m i=>
  simp only [Ieee.Datum.order,cmp_eq,sg0]
  cases m with
  |zero=>simp [sg0,Ieee.Datum.isZero]
  |succ m=>simp [sgz,Ieee.Datum.isZero]
theorem inv_zero {s:Bool}{i:Int}{x:Nat}(h:rd64 x=.number s 0 i):(FloatKind.f64.format.div 4607182418800017408 x).getD 0=FloatKind.f64.format.word s FloatKind.f64.format.infRung:=by
 unfold Ieee.Format.div
 show ((Ieee.Datum.quotient _ (rd64 4607182418800017408) (rd64 x)).map _).getD 0=_
 rw [rd_one,h]
 have e:Ieee.Datum.quotient (FloatKind.f64.format.fractionBits+2) (.number false 4503599627370496 (-52)) (.number s 0 i)=some (.infinity s):=by
  simp [Ieee.Datum.quotient]
 rw [e]
 rfl
end Go.Fw
end
section
set_option linter.unusedVariables false
set_option linter.unusedSimpArgs false
set_option linter.unusedSectionVars false
namespace Go.Fw
set_option linter.unusedSectionVars false
set_option linter.unusedSimpArgs false
set_option linter.unusedVariables false
abbrev LF :=List (Nat×Int)
def LF.ev (v:Nat→Int):LF→Int
 |[]=>0
 |x::r=>x.2*v x.1+LF.ev v r
theorem LF.ev_app {v:Nat→Int}:∀{a b:LF},LF.ev v (a++b)=a.ev v+b.ev v
 |[],b=>by simp [LF.ev]
 |x::a,b=>by simp only [List.cons_append,LF.ev,LF.ev_app (a:=a) (b:=b)];omega
def cns (i:Nat)(c:Int)(l:LF):LF:=fInt' c fun c=>match c with
 | .ofNat 0=>l
 |c=>(i,c)::l
theorem cns_ev {v:Nat→Int}{i:Nat}{c:Int}{l:LF}:(cns i c l).ev v=c*v i+l.ev v:=by
 unfold cns
 rw [fInt'_eq]
 split
 ·simp
 ·rfl
def mrg : Nat→LF→LF→LF
 |0,a,b=>a++b
 |n+1,a,b=>match a with
  |[]=>b
  |x::a'=>match b with
   |[]=>x::a'
   |y::b'=>bif Nat.blt x.1 y.1 then x::mrg n a' (y::b') else bif Nat.blt y.1 x.1 then y::mrg n (x::a') b' else cns x.1 (x.2+y.2) (mrg n a' b')
theorem mrg_ev {v:Nat→Int}:∀{n:Nat} {a b:LF},(mrg n a b).ev v=a.ev v+b.ev v
 |0,a,b=>LF.ev_app
 |n+1,[],b=>by simp [mrg,LF.ev]
 |n+1,x::a,[]=>by simp [mrg,LF.ev]
 |n+1,x::a,y::b=>by
  simp only [mrg]
  cases h:Nat.blt x.1 y.1
  ·simp only [cond_false]
   cases h2:Nat.blt y.1 x.1
   ·have e:x.1=y.1:=by
     have h1:¬x.1<y.1:=fun q=>by rw [show Nat.blt x.1 y.1=true by rw [Nat.blt_eq];exact q] at h;cases h
     have h3:¬y.1<x.1:=fun q=>by rw [show Nat.blt y.1 x.1=true by rw [Nat.blt_eq];exact q] at h2;cases h2
     omega
    simp only [cond_false,cns_ev,mrg_ev (n:=n) (a:=a) (b:=b),LF.ev,e,Int.add_mul];omega
   ·simp only [cond_true,LF.ev,mrg_ev (n:=n) (a:=x::a) (b:=b)];omega
  ·simp only [cond_true,LF.ev,mrg_ev (n:=n) (a:=a) (b:=y::b)];omega
def scl (k:Int):LF→LF
 |[]=>[]
 |x::r=>cns x.1 (k*x.2) (scl k r)
theorem scl_ev {v:Nat→Int}{k:Int}:∀{a:LF},(scl k a).ev v=k*a.ev v
 |[]=>by simp [scl,LF.ev]
 |x::r=>by simp only [scl,cns_ev,LF.ev,scl_ev (a:=r),Int.mul_add,Int.mul_assoc]
def addL (a b:LF):LF:=mrg 60 a b
def subL (a b:LF):LF:=mrg 60 a (scl (-1) b)
theorem addL_ev {v:Nat→Int}{a b:LF}:(addL a b).ev v=a.ev v+b.ev v:=mrg_ev
theorem subL_ev {v:Nat→Int}{a b:LF}:(subL a b).ev v=a.ev v-b.ev v:=by
 unfold subL;rw [mrg_ev,scl_ev];omega
def cof (i:Nat):LF→Int
 |[]=>0
 |x::r=>bif Nat.beq x.1 i then x.2 else cof i r
def isNeg : Int→Bool
 | .ofNat _=>false
 | .negSucc _=>true
theorem isNeg_iff {n:Int}:isNeg n=true↔n<0:=by cases n<;>simp [isNeg]
def absN (n:Int):Int:=match n with | .ofNat m=>.ofNat m | .negSucc m=>.ofNat (m+1)
theorem absN_nn {n:Int}:0≤absN n:=by
 cases n with
 |ofNat m=>simp [absN]
 |negSucc m=>simp [absN];omega
def comb (c d:Int)(N f:LF):LF:=bif Nat.beq c.natAbs d.natAbs then addL N f else match absN d with
 | .ofNat 1=>addL N (scl (absN c) f)
 |_=>addL (scl (absN d) N) (scl (absN c) f)
theorem comb_ev {v:Nat→Int}{c d:Int}{N f:LF}(hN:0≤N.ev v)(hf:0≤f.ev v):0≤(comb c d N f).ev v:=by
 have:=Int.mul_nonneg (absN_nn (n:=d)) hN
 have:=Int.mul_nonneg (absN_nn (n:=c)) hf
 unfold comb
 cases Nat.beq c.natAbs d.natAbs
 ·simp only [cond_false]
  split<;>simp only [addL_ev,scl_ev]<;>omega
 ·simp only [cond_true,addL_ev];omega
def partC (c d:Int):Bool:=Nat.blt d.natAbs c.natAbs&&Nat.ble c.natAbs 4
def opp (i:Nat)(ng:Bool):List LF→List LF
 |[]=>[]
 |f::r=>match cof i f with
  | .ofNat 0=>opp i ng r
  | .ofNat (_+1)=>bif ng then f::opp i ng r else opp i ng r
  | .negSucc _=>bif ng then opp i ng r else f::opp i ng r
theorem opp_mem {i:Nat}{ng:Bool}:∀{fs:List LF} {f:LF},f∈opp i ng fs→f∈fs
 |[],f,h=>by simp [opp] at h
 |g::r,f,h=>by
  unfold opp at h
  split at h
  ·exact List.mem_cons_of_mem _ (opp_mem h)
  ·cases ng
   ·exact List.mem_cons_of_mem _ (opp_mem h)
   ·simp only [cond_true,List.mem_cons] at h
    rcases h with h|h
    ·simp [h]
    ·exact List.mem_cons_of_mem _ (opp_mem h)
  ·cases ng
   ·simp only [cond_false,List.mem_cons] at h
    rcases h with h|h
    ·simp [h]
    ·exact List.mem_cons_of_mem _ (opp_mem h)
   ·exact List.mem_cons_of_mem _ (opp_mem h)
def pickA (fs:List LF):LF→Option (Int×Nat×Nat×List LF)→Option (Int×Nat×Nat×List LF)
 |[],b=>b
 |(0,_)::r,b=>pickA fs r b
 |(i+1,c)::r,b=>
  let o:=opp (i+1) (isNeg c) fs
  fNat o.length fun n=>match b with
   |none=>pickA fs r (some (c,i+1,n,o))
   |some (c',j,m,o')=>bif Nat.blt n m then pickA fs r (some (c,i+1,n,o)) else pickA fs r (some (c',j,m,o'))
theorem pickA_mem {fs:List LF}:∀{N:LF} {b:Option (Int×Nat×Nat×List LF)} {x},(∀y,b=some y→∀f∈y.2.2.2,f∈fs)→pickA fs N b=some x→∀f∈x.2.2.2,f∈fs
 |[],b,x,hb,h=>hb x h
 |(0,_)::r,b,x,hb,h=>pickA_mem (N:=r) hb h
 |(i+1,c)::r,b,x,hb,h=>by
  have hs:∀(n:Nat) (y:Int×Nat×Nat×List LF),some (c,i+1,n,opp (i+1) (isNeg c) fs)=some y→∀f∈y.2.2.2,f∈fs:=by
   intro n y hy f hf
   simp only [Option.some.injEq] at hy;subst hy
   exact opp_mem hf
  simp only [pickA,fNat_eq] at h
  split at h
  ·exact pickA_mem (N:=r) (hs _) h
  ·rename_i c' j m o'
   cases hl:Nat.blt (opp (i+1) (isNeg c) fs).length m
   ·rw [hl] at h;exact pickA_mem (N:=r) hb h
   ·rw [hl] at h;exact pickA_mem (N:=r) (hs _) h
def refC (N:LF):Bool:=match N with
 |[(0,c)]=>isNeg c
 |_=>false
def anyF (g:LF→Nat→Option Nat):List LF→Nat→Option Nat
 |[],b=>some b
 |f::r,b=>match g f b with
  |none=>none
  |some b'=>anyF g r b'
def shortF : LF→Bool
 |[]=>true
 |[_]=>true
 |[_,_]=>true
 |_=>false
def ordF (o:List LF):List LF:=o.filter shortF++o.filter fun f=>!(shortF f)
theorem ordF_mem {o:List LF}{f:LF}(h:f∈ordF o):f∈o:=by
 rcases List.mem_append.1 h with h|h<;>exact (List.mem_filter.1 h).1
def refuteF : Nat→List LF→LF→Nat→Option Nat
 |0,_,_,b=>some b
 |d+1,fs,N,b=>match b with
  |0=>some 0
  |b+1=>match pickA fs N none with
   |none=>bif refC N then none else some b
   |some (c,i,_,o)=>anyF (fun f b=>match refuteF d fs (comb c (cof i f) N f) b with
    |none=>none
    |some b'=>bif partC c (cof i f) then refuteF d fs (addL N f) b' else some b') (ordF o) b
theorem anyF_none {g:LF→Nat→Option Nat}:∀{l:List LF} {b:Nat},anyF g l b=none→∃f∈l,∃b',g f b'=none
 |[],b,h=>by simp [anyF] at h
 |f::r,b,h=>by
  simp only [anyF] at h
  split at h
  ·rename_i hg
   exact ⟨f,List.mem_cons_self ..,b,hg⟩
  ·obtain ⟨f',hf',b',hb'⟩:=anyF_none h
   exact ⟨f',List.mem_cons_of_mem _ hf',b',hb'⟩
theorem refuteF_ok {v:Nat→Int}(hv:v 0=1){fs:List LF}(hfs:∀f∈fs,0≤f.ev v):∀{d:Nat} {N:LF} {b:Nat},refuteF d fs N b=none→¬0≤N.ev v
 |0,N,b,h=>by simp [refuteF] at h
 |d+1,N,b,h=>by
  intro hN
  simp only [refuteF] at h
  split at h
  ·cases h
  split at h
  ·cases hc:refC N
   ·rw [hc] at h;cases h
   ·unfold refC at hc
    split at hc
    ·rw [isNeg_iff] at hc
     simp only [LF.ev,hv] at hN
     omega
    ·cases hc
  ·rename_i c i n o hp
   obtain ⟨f,hf,b',h⟩:=anyF_none h
   have hm:=pickA_mem (fs:=fs) (N:=N) (b:=none) (by simp) hp f (ordF_mem hf)
   split at h
   ·rename_i h'
    exact refuteF_ok hv hfs h' (comb_ev hN (hfs f hm))
   ·cases hq:partC c (cof i f)
    ·rw [hq] at h;cases h
    ·rw [hq] at h
     exact refuteF_ok hv hfs h (by rw [addL_ev];have:=hfs f hm;omega)
def nonO : Option Nat→Bool
 |none=>true
 |some _=>false
def prv1 (fs:List LF)(f:LF):Bool:=nonO (refuteF 3 fs (addL (scl (-1) f) [(0,-1)]) 60)||(nonO (refuteF 5 fs (addL (scl (-1) f) [(0,-1)]) 300)||nonO (refuteF 8 fs (addL (scl (-1) f) [(0,-1)]) 1500))
theorem nonO_eq {o:Option Nat}(h:nonO o=true):o=none:=by cases o<;>first|rfl|cases h
theorem prv1_ok {v:Nat→Int}(hv:v 0=1){fs:List LF}(hfs:∀f∈fs,0≤f.ev v){f:LF}(h:prv1 fs f=true):0≤f.ev v:=by
 have:¬0≤(addL (scl (-1) f) [(0,-1)]).ev v:=by
  simp only [prv1,Bool.or_eq_true] at h
  rcases h with h|h|h<;>exact refuteF_ok hv hfs (nonO_eq h)
 rw [addL_ev,scl_ev] at this
 simp only [LF.ev,hv] at this
 omega
def vl (ρ:List AV)(az:List Tm):Nat→Int
 |0=>1
 |i+1=>match az[i]? with
  |some t=>(t.den ρ).I
  |none=>0
def Hold (ρ:List AV)(az:List Tm)(f:LF)(x:Int):Prop:=∀bs,az <+: bs→f.ev (vl ρ bs)=x
def Pos (ρ:List AV)(az:List Tm)(f:LF):Prop:=∀bs,az <+: bs→0≤f.ev (vl ρ bs)
theorem Hold.mono {ρ:List AV}{az bs:List Tm}{f:LF}{x:Int}(h:Hold ρ az f x)(hp:az <+: bs):Hold ρ bs f x:=fun cs hc=>h cs (hp.trans hc)
theorem Pos.mono {ρ:List AV}{az bs:List Tm}{f:LF}(h:Pos ρ az f)(hp:az <+: bs):Pos ρ bs f:=fun cs hc=>h cs (hp.trans hc)
def PosL (ρ:List AV)(az:List Tm)(fs:List LF):Prop:=∀f∈fs,Pos ρ az f
theorem PosL.mono {ρ:List AV}{az bs:List Tm}{fs:List LF}(h:PosL ρ az fs)(hp:az <+: bs):PosL ρ bs fs:=fun f hf=>(h f hf).mono hp
theorem PosL.cons {ρ:List AV}{az:List Tm}{f:LF}{fs:List LF}(h:Pos ρ az f)(k:PosL ρ az fs):PosL ρ az (f::fs):=fun g hg=>by
 rcases List.mem_cons.1 hg with rfl|hg
 ·exact h
 ·exact k g hg
theorem PosL.app {ρ:List AV}{az:List Tm}{fs gs:List LF}(h:PosL ρ az fs)(k:PosL ρ az gs):PosL ρ az (fs++gs):=fun g hg=>by
 rcases List.mem_append.1 hg with hg|hg
 ·exact h g hg
 ·exact k g hg
theorem prv1_pos {ρ:List AV}{az:List Tm}{fs:List LF}(hfs:PosL ρ az fs){f:LF}(h:prv1 fs f=true):Pos ρ az f:=fun bs hb=>
 prv1_ok rfl (fun g hg=>hfs g hg bs hb) h
def tmIdx (t:Tm):Nat→List Tm→Option Nat
 |_,[]=>none
 |i,x::r=>bif x.beq t then some i else tmIdx t (i+1) r
theorem tmIdx_ok {t:Tm}:∀{az:List Tm} {i j:Nat},tmIdx t i az=some j→i≤j∧az[j-i]?=some t
 |[],i,j,h=>by simp [tmIdx] at h
 |x::r,i,j,h=>by
  simp only [tmIdx] at h
  cases hb:x.beq t
  ·rw [hb] at h
   obtain ⟨h1,h2⟩:=tmIdx_ok (az:=r) h
   refine ⟨by omega,?_⟩
   have:j-i=(j-(i+1))+1:=by omega
   rw [this];simpa using h2
  ·rw [hb] at h
   simp only [cond_true,Option.some.injEq] at h
   subst h
   simp [Tm.beq_eq hb]
structure LR where
 az:List Tm
 fs:List LF
 f:LF
def LROk (ρ:List AV)(az:List Tm)(r:LR)(x:Int):Prop:=az <+: r.az∧PosL ρ r.az r.fs∧Hold ρ r.az r.f x
def atomL (t:Tm)(ex:Nat→List LF)(az:List Tm)(fs:List LF):LR:=
 match tmIdx t 0 az with
 |some i=>⟨az,fs,[(i+1,1)]⟩
 |none=>fNat az.length fun n=>⟨az++[t],ex (n+1)++fs,[(n+1,1)]⟩
theorem pre_get {az bs:List Tm}{i:Nat}{t:Tm}(h:az[i]?=some t)(hp:az <+: bs):bs[i]?=some t:=by
 obtain ⟨c,rfl⟩:=hp
 have:=(List.getElem?_eq_some_iff.1 h).1
 rw [List.getElem?_append_left this,h]
theorem one_ev {v:Nat→Int}{i:Nat}:LF.ev v [(i,1)]=v i:=by simp [LF.ev]
theorem atomL_ok {ρ:List AV}{t:Tm}{ex:Nat→List LF}{az:List Tm}{fs:List LF}(hfs:PosL ρ az fs)
  (hex:∀v:Nat→Int,v 0=1→∀n,v n=(t.den ρ).I→(∀f∈fs,0≤f.ev v)→(∃bs,az <+: bs∧v=vl ρ bs)→∀f∈ex n,0≤f.ev v):LROk ρ az (atomL t ex az fs) (t.den ρ).I:=by
 unfold atomL
 split
 ·rename_i i h
  obtain ⟨-,h2⟩:=tmIdx_ok h
  refine ⟨List.prefix_refl _,hfs,fun bs hb=>?_⟩
  rw [one_ev]
  simp only [vl,pre_get (by simpa using h2) hb]
 ·rw [fNat_eq]
  have hp:az <+: az++[t]:=List.prefix_append _ _
  have hv:∀bs,az++[t] <+: bs→vl ρ bs (az.length+1)=(t.den ρ).I:=by
   intro bs hb
   have:(az++[t])[az.length]?=some t:=by simp
   simp only [vl,pre_get this hb]
  refine ⟨hp,PosL.app (fun f hf bs hb=>?_) (hfs.mono hp),fun bs hb=>?_⟩
  ·exact hex (vl ρ bs) rfl _ (hv bs hb) (fun g hg=>hfs g hg bs (hp.trans hb)) ⟨bs,hp.trans hb,rfl⟩ f hf
  ·rw [one_ev];exact hv bs hb
def rangeOk (k:IntKind)(fs:List LF)(f:LF):Bool:=prv1 fs (subL f [(0,k.min)])&&prv1 fs (subL [(0,k.max)] f)
theorem wrap_id {k:IntKind}{n:Int}(h0:k.min≤n)(h1:n≤k.max):k.wrap n=n:=by
 cases k<;>simp only [IntKind.min,IntKind.max,IntKind.wrap,IntKind.signed,IntKind.bits] at *<;>simp at *<;>omega
theorem rangeOk_ok {k:IntKind}{v:Nat→Int}(hv:v 0=1){fs:List LF}(hfs:∀f∈fs,0≤f.ev v){f:LF}(h:rangeOk k fs f=true):k.wrap (f.ev v)=f.ev v:=by
 unfold rangeOk at h
 rw [Bool.and_eq_true] at h
 have h1:=prv1_ok hv hfs h.1
 have h2:=prv1_ok hv hfs h.2
 rw [subL_ev] at h1 h2
 simp only [LF.ev,hv] at h1 h2
 exact wrap_id (by omega) (by omega)
def exQuo (n:Nat)(f:LF)(c:Int):List LF:=[[(n,1)],subL f (scl c [(n,1)]),subL (addL (scl c [(n,1)]) [(0,c-1)]) f]
def exRem (n:Nat)(f:LF)(c:Int):List LF:=[[(n,1)],subL [(0,c-1)] [(n,1)],subL f [(n,1)]]
def exShr (n:Nat)(f:LF)(c:Int):List LF:=[subL f (scl c [(n,1)]),subL (addL (scl c [(n,1)]) [(0,c-1)]) f]
def exNN (n:Nat):List LF:=[[(n,1)]]
def exByte (n:Nat):List LF:=[[(n,1)],subL [(0,255)] [(n,1)]]
def noEx (_:Nat):List LF:=[]
def posLit : Int→Bool
 | .ofNat (_+1)=>true
 |_=>false
theorem posLit_iff {c:Int}:posLit c=true↔0<c:=by
 cases c with
 |ofNat n=>cases n<;>simp [posLit]<;>omega
 |negSucc n=>simp [posLit]
def litI : Tm→Option Int
 | .li c=>some c
 |_=>none
theorem litI_ok {t:Tm}{c:Int}(h:litI t=some c):t=.li c:=by
 cases t<;>simp [litI] at h
 subst h;rfl
def linB (o:BinOp)(k:IntKind)(x y:Tm)(rx ry:LR):LR:=
 let t:Tm:=.bin o (.int k) x y
 match o with
 | .add=>let f:=addL rx.f ry.f;bif rangeOk k ry.fs f then ⟨ry.az,ry.fs,f⟩ else atomL t noEx ry.az ry.fs
 | .sub=>let f:=subL rx.f ry.f;bif rangeOk k ry.fs f then ⟨ry.az,ry.fs,f⟩ else atomL t noEx ry.az ry.fs
 | .mul=>match litI y with
  |some c=>let f:=scl c rx.f;bif rangeOk k ry.fs f then ⟨ry.az,ry.fs,f⟩ else atomL t noEx ry.az ry.fs
  |none=>match litI x with
   |some c=>let f:=scl c ry.f;bif rangeOk k ry.fs f then ⟨ry.az,ry.fs,f⟩ else atomL t noEx ry.az ry.fs
   |none=>atomL t noEx ry.az ry.fs
 | .quo=>match litI y with
  |some c=>bif posLit c&&(prv1 ry.fs rx.f&&rangeOk k ry.fs rx.f) then atomL t (fun n=>exQuo n rx.f c) ry.az ry.fs else atomL t noEx ry.az ry.fs
  |none=>atomL t noEx ry.az ry.fs
 | .rem=>match litI y with
  |some c=>bif posLit c&&prv1 ry.fs rx.f then atomL t (fun n=>exRem n rx.f c) ry.az ry.fs else atomL t noEx ry.az ry.fs
  |none=>atomL t noEx ry.az ry.fs
 | .shr=>match litI y with
  |some c=>bif Nat.beq c.toNat 1 then atomL t (fun n=>exShr n rx.f 2) ry.az ry.fs else atomL t noEx ry.az ry.fs
  |none=>atomL t noEx ry.az ry.fs
 |_=>atomL t noEx ry.az ry.fs
def chosen (ks:Pc):Tm→Tm
 | .ite c x y=>match ks.known c with
  |some true=>chosen ks x
  |some false=>chosen ks y
  |none=>.ite c x y
 |t=>t
theorem chosen_den {ρ:List AV}{ks:Pc}(hk:ks.holds ρ):∀{t:Tm},(chosen ks t).den ρ=t.den ρ:=by
 intro t
 induction t with
 |ite c x y _ ihx ihy=>
  simp only [chosen]
  split
  ·rename_i h
   rw [ihx,Tm.den_ite,Pc.known_holds hk h];rfl
  ·rename_i h
   rw [ihy,Tm.den_ite,Pc.known_holds hk h];rfl
  ·rfl
 |_=>rfl
def exUp (l:List UInt8)(n:Nat):List LF:=fNat l.length fun m=>[[(n,1)],subL [(0,(m:Int))] [(n,1)]]
def litS : Tm→Option (List UInt8)
 | .ls l=>some l
 |_=>none
theorem litS_ok {t:Tm}{l:List UInt8}(h:litS t=some l):t=.ls l:=by
 cases t<;>simp [litS] at h;subst h;rfl
def linS (ks:Pc):Tm→List Tm→List LF→LR
 | .ls l,az,fs=>⟨az,fs,fNat l.length fun n=>cns 0 (.ofNat n) []⟩
 | .bin o k x y,az,fs=>match o with
  | .add=>match k with
   | .str=>match linS ks x az fs with
    |⟨as1,fs1,f1⟩=>match linS ks y as1 fs1 with
     |⟨as2,fs2,f2⟩=>⟨as2,fs2,addL f1 f2⟩
   |k=>atomL (.slen (.bin .add k x y)) exNN az fs
  |o=>atomL (.slen (.bin o k x y)) exNN az fs
 | .ite c x y,az,fs=>match ks.known c with
  |some true=>linS ks x az fs
  |some false=>linS ks y az fs
  |none=>atomL (.slen (.ite c x y)) exNN az fs
 | .ssub x lo hi,az,fs=>match litS x with
  |some l=>atomL (.slen (.ssub x lo hi)) (exUp l) az fs
  |none=>atomL (.slen (.ssub x lo hi)) exNN az fs
 |t,az,fs=>atomL (.slen t) exNN az fs
def lin (ks:Pc):Tm→List Tm→List LF→LR
 | .li c,az,fs=>⟨az,fs,cns 0 c []⟩
 | .bin o kd x y,az,fs=>match kd with
  | .int k=>match lin ks x az fs with
   |⟨as1,fs1,f1⟩=>match lin ks y as1 fs1 with
    |⟨as2,fs2,f2⟩=>linB o k x y ⟨as1,fs1,f1⟩ ⟨as2,fs2,f2⟩
  |kd=>atomL (.bin o kd x y) noEx az fs
 | .conv k x,az,fs=>match lin ks x az fs with
  |⟨as1,fs1,f1⟩=>bif rangeOk k fs1 f1 then ⟨as1,fs1,f1⟩ else atomL (.conv k x) noEx as1 fs1
 | .ite c x y,az,fs=>match ks.known c with
  |some true=>lin ks x az fs
  |some false=>lin ks y az fs
  |none=>atomL (.ite c x y) noEx az fs
 | .rlen x,az,fs=>match chosen ks x with
  | .nl=>⟨az,fs,[]⟩
  |x'=>atomL (.rlen x') exNN az fs
 | .slen x,az,fs=>linS ks x az fs
 | .byte x i,az,fs=>atomL (.byte x i) exByte az fs
 |t,az,fs=>atomL t noEx az fs
theorem noEx_ok {ρ:List AV}{t:Tm}{az:List Tm}{fs:List LF}(hfs:PosL ρ az fs):LROk ρ az (atomL t noEx az fs) (t.den ρ).I:=atomL_ok hfs (fun _ _ _ _ _ _ f hf=>by simp [noEx] at hf)
theorem LROk.up {ρ:List AV}{az bs:List Tm}{r:LR}{x:Int}(hp:az <+: bs)(h:LROk ρ bs r x):LROk ρ az r x:=⟨hp.trans h.1,h.2⟩
theorem linW {ρ:List AV}{az:List Tm}{fs:List LF}{k:IntKind}{f:LF}{x:Int}{t:Tm}(hfs:PosL ρ az fs)(hf:Hold ρ az f x)(ht:(t.den ρ).I=k.wrap x):LROk ρ az (bif rangeOk k fs f then ⟨az,fs,f⟩ else atomL t noEx az fs) (t.den ρ).I:=by
 cases h:rangeOk k fs f
 ·exact noEx_ok hfs
 ·refine ⟨List.prefix_refl _,hfs,fun bs hb=>?_⟩
  rw [ht,← hf bs hb]
  exact (rangeOk_ok rfl (fun g hg=>hfs g hg bs hb) h).symm
theorem Hold.add {ρ:List AV}{az:List Tm}{f g:LF}{x y:Int}(h:Hold ρ az f x)(k:Hold ρ az g y):Hold ρ az (addL f g) (x+y):=fun bs hb=>by rw [addL_ev,h bs hb,k bs hb]
theorem Hold.sub {ρ:List AV}{az:List Tm}{f g:LF}{x y:Int}(h:Hold ρ az f x)(k:Hold ρ az g y):Hold ρ az (subL f g) (x-y):=fun bs hb=>by rw [subL_ev,h bs hb,k bs hb]
theorem Hold.scl {ρ:List AV}{az:List Tm}{f:LF}{x c:Int}(h:Hold ρ az f x):Hold ρ az (Go.Fw.scl c f) (c*x):=fun bs hb=>by rw [scl_ev,h bs hb]
theorem linB_ok {ρ:List AV}{o:BinOp}{k:IntKind}{x y:Tm}{rx ry:LR}(h1:Hold ρ rx.az rx.f (x.den ρ).I)(hp:rx.az <+: ry.az)(h2:Hold ρ ry.az ry.f (y.den ρ).I)(hfs:PosL ρ ry.az ry.fs) :
  LROk ρ ry.az (linB o k x y rx ry) ((Tm.bin o (.int k) x y).den ρ).I:=by
 have h1':=h1.mono hp
 unfold linB
 cases o<;>dsimp only
 case add=>exact linW hfs (h1'.add h2) rfl
 case sub=>exact linW hfs (h1'.sub h2) rfl
 case mul=>
  split
  ·rename_i c hc
   have:=litI_ok hc;subst this
   exact linW hfs (h1'.scl (c:=c)) (by show k.wrap ((x.den ρ).I*c)=_;rw [Int.mul_comm])
  ·split
   ·rename_i c hc
    have:=litI_ok hc;subst this
    exact linW hfs (h2.scl (c:=c)) rfl
   ·exact noEx_ok hfs
 case quo=>
  split
  ·rename_i c hc
   have:=litI_ok hc;subst this
   cases hq:posLit c&&(prv1 ry.fs rx.f&&rangeOk k ry.fs rx.f)
   ·exact noEx_ok hfs
   ·simp only [Bool.and_eq_true] at hq
    obtain ⟨q1,q2,q3⟩:=hq
    rw [posLit_iff] at q1
    rw [cond_true]
    refine atomL_ok hfs fun v hv n hn hg hbs f hf=>?_
    obtain ⟨bs,hb,rfl⟩:=hbs
    have a1:=prv1_ok hv hg q2
    have a2:=rangeOk_ok hv hg q3
    have e:=h1' bs hb
    rw [e] at a1 a2
    have hmax:(x.den ρ).I≤k.max∧k.min≤0:=by
     unfold rangeOk at q3
     rw [Bool.and_eq_true] at q3
     have h2:=prv1_ok hv hg q3.2
     rw [subL_ev,e] at h2
     simp only [LF.ev,hv] at h2
     exact ⟨by omega,by cases k<;>decide⟩
    have hn':(vl ρ bs) n=(x.den ρ).I / c:=by
     rw [hn]
     show k.wrap ((x.den ρ).I.tdiv c)=_
     rw [Int.tdiv_eq_ediv_of_nonneg a1]
     have b1:0≤(x.den ρ).I / c:=Int.ediv_nonneg a1 (by omega)
     have b2:(x.den ρ).I / c≤(x.den ρ).I:=Int.ediv_le_self _ a1
     exact wrap_id (by omega) (by omega)
    have b1:0≤(x.den ρ).I / c:=Int.ediv_nonneg a1 (by omega)
    have b3:=Int.mul_ediv_add_emod (x.den ρ).I c
    have b4:=Int.emod_nonneg (x.den ρ).I (show c≠0 by omega)
    have b5:=Int.emod_lt_of_pos (x.den ρ).I q1
    simp only [exQuo,List.mem_cons,List.not_mem_nil,or_false] at hf
    rcases hf with rfl|rfl|rfl
    ·rw [one_ev,hn'];exact b1
    ·rw [subL_ev,scl_ev,one_ev,e,hn'];omega
    ·rw [subL_ev,addL_ev,scl_ev,one_ev,e,hn']
     simp only [LF.ev,hv];omega
  ·exact noEx_ok hfs
 case rem=>
  split
  ·rename_i c hc
   have:=litI_ok hc;subst this
   cases hq:posLit c&&prv1 ry.fs rx.f
   ·exact noEx_ok hfs
   ·simp only [Bool.and_eq_true] at hq
    obtain ⟨q1,q2⟩:=hq
    rw [posLit_iff] at q1
    rw [cond_true]
    refine atomL_ok hfs fun v hv n hn hg hbs f hf=>?_
    obtain ⟨bs,hb,rfl⟩:=hbs
    have a1:=prv1_ok hv hg q2
    have e:=h1' bs hb
    rw [e] at a1
    have hn':(vl ρ bs) n=(x.den ρ).I % c:=by
     rw [hn]
     show (x.den ρ).I.tmod c=_
     exact Int.tmod_eq_emod_of_nonneg a1
    have b4:=Int.emod_nonneg (x.den ρ).I (show c≠0 by omega)
    have b5:=Int.emod_lt_of_pos (x.den ρ).I q1
    have b3:=Int.mul_ediv_add_emod (x.den ρ).I c
    have b6:0≤c*((x.den ρ).I / c):=Int.mul_nonneg (by omega) (Int.ediv_nonneg a1 (by omega))
    simp only [exRem,List.mem_cons,List.not_mem_nil,or_false] at hf
    rcases hf with rfl|rfl|rfl
    ·rw [one_ev,hn'];exact b4
    ·rw [subL_ev,one_ev,hn'];simp only [LF.ev,hv];omega
    ·rw [subL_ev,one_ev,e,hn'];omega
  ·exact noEx_ok hfs
 case shr=>
  split
  ·rename_i c hc
   have:=litI_ok hc;subst this
   cases hq:Nat.beq c.toNat 1
   ·exact noEx_ok hfs
   ·have hc1:c.toNat=1:=Nat.eq_of_beq_eq_true hq
    rw [cond_true]
    refine atomL_ok hfs fun v hv n hn hg hbs f hf=>?_
    obtain ⟨bs,hb,rfl⟩:=hbs
    have e:=h1' bs hb
    have hn':(vl ρ bs) n=(x.den ρ).I / 2:=by
     rw [hn]
     show (x.den ρ).I.fdiv (2 ^ (min c.toNat k.bits))=_
     rw [hc1,Int.fdiv_eq_ediv_of_nonneg _ (Int.pow_nonneg (by omega))]
     cases k<;>rfl
    simp only [exShr,List.mem_cons,List.not_mem_nil,or_false] at hf
    rcases hf with rfl|rfl
    ·rw [subL_ev,scl_ev,one_ev,e,hn'];omega
    ·rw [subL_ev,addL_ev,scl_ev,one_ev,e,hn']
     simp only [LF.ev,hv];omega
  ·exact noEx_ok hfs
 all_goals exact noEx_ok hfs
theorem exNN_ok {ρ:List AV}{x:Tm}{az:List Tm}{fs:List LF}(hfs:PosL ρ az fs):LROk ρ az (atomL (.slen x) exNN az fs) ((Tm.slen x).den ρ).I:=by
 refine atomL_ok hfs fun v hv n hn hg hbs f hf=>?_
 simp only [exNN,List.mem_cons,List.not_mem_nil,or_false] at hf
 subst hf
 rw [one_ev,hn]
 exact Int.natCast_nonneg _
theorem linS_ok {ρ:List AV}{ks:Pc}(hk:ks.holds ρ):∀{t:Tm} {az:List Tm} {fs:List LF},PosL ρ az fs→LROk ρ az (linS ks t az fs) ((Tm.slen t).den ρ).I:=by
 intro t
 induction t with
 |ls l=>exact fun {az fs} hfs=>⟨List.prefix_refl _,hfs,fun bs hb=>by simp only [linS,fNat_eq,cns_ev];simp [LF.ev,vl,Tm.den,D.I,D.S,sLen]⟩
 |bin o k x y ihx ihy=>
  intro az fs hfs
  cases o<;>first|exact exNN_ok hfs|skip
  cases k<;>first|exact exNN_ok hfs|skip
  obtain ⟨a1,a2,a3⟩:=ihx hfs
  obtain ⟨b1,b2,b3⟩:=ihy (az:=(linS ks x az fs).az) (fs:=(linS ks x az fs).fs) a2
  refine ⟨a1.trans b1,b2,fun bs hb=>?_⟩
  have h1:=a3.mono b1 bs hb
  have h2:=b3 bs hb
  show LF.ev _ (addL _ _)=_
  rw [addL_ev,h1,h2]
  simp [Tm.den,binD,D.I,D.S,sLen]
 |ite c x y _ ihx ihy=>
  intro az fs hfs
  simp only [linS]
  split
  ·rename_i h
   have:=Pc.known_holds hk h
   have e:((Tm.slen (.ite c x y)).den ρ).I=((Tm.slen x).den ρ).I:=by show (D.i (sLen ((Tm.ite c x y).den ρ).S)).I=_;rw [Tm.den_ite,this];rfl
   rw [e];exact ihx hfs
  ·rename_i h
   have:=Pc.known_holds hk h
   have e:((Tm.slen (.ite c x y)).den ρ).I=((Tm.slen y).den ρ).I:=by show (D.i (sLen ((Tm.ite c x y).den ρ).S)).I=_;rw [Tm.den_ite,this];rfl
   rw [e];exact ihy hfs
  ·exact exNN_ok hfs
 |ssub x lo hi _ _ _=>
  intro az fs hfs
  simp only [linS]
  split
  ·rename_i l hl
   have:=litS_ok hl;subst this
   refine atomL_ok hfs fun v hv n hn hg hbs f hf=>?_
   simp only [exUp,fNat_eq,List.mem_cons,List.not_mem_nil,or_false] at hf
   have hle:((Tm.slen (.ssub (.ls l) lo hi)).den ρ).I≤(l.length:Int):=by
    simp only [Tm.den,D.I,D.S,sLen]
    rw [List.length_take,List.length_drop]
    omega
   rcases hf with rfl|rfl
   ·rw [one_ev,hn];exact Int.natCast_nonneg _
   ·rw [subL_ev,one_ev,hn]
    simp only [LF.ev,hv];omega
  ·exact exNN_ok hfs
 |_=>intro az fs hfs;exact exNN_ok hfs
theorem lin_ok {ρ:List AV}{ks:Pc}(hk:ks.holds ρ):∀{t:Tm} {az:List Tm} {fs:List LF},PosL ρ az fs→LROk ρ az (lin ks t az fs) (t.den ρ).I:=by
 intro t
 induction t with
 |li c=>exact fun {az fs} hfs=>⟨List.prefix_refl _,hfs,fun bs hb=>by simp only [lin,cns_ev];simp [LF.ev,vl,Tm.den,D.I]⟩
 |bin o kd x y ihx ihy=>
  intro az fs hfs
  cases kd with
  |int k=>
   obtain ⟨a1,a2,a3⟩:=ihx hfs
   obtain ⟨b1,b2,b3⟩:=ihy (az:=(lin ks x az fs).az) (fs:=(lin ks x az fs).fs) a2
   exact LROk.up (a1.trans b1) (linB_ok (rx:=lin ks x az fs) a3 b1 b3 b2)
  |_=>exact noEx_ok hfs
 |conv k x ih=>
  intro az fs hfs
  obtain ⟨a1,a2,a3⟩:=ih hfs
  exact LROk.up a1 (linW a2 a3 rfl)
 |ite c x y _ ihx ihy=>
  intro az fs hfs
  simp only [lin]
  split
  ·rename_i h
   have:=Pc.known_holds hk h
   rw [Tm.den_ite,this];exact ihx hfs
  ·rename_i h
   have:=Pc.known_holds hk h
   rw [Tm.den_ite,this];exact ihy hfs
  ·exact noEx_ok hfs
 |rlen x _=>
  intro az fs hfs
  have e:((Tm.rlen x).den ρ).I=((Tm.rlen (chosen ks x)).den ρ).I:=by simp only [Tm.den,chosen_den hk]
  rw [e]
  simp only [lin]
  split
  ·rename_i hc
   rw [hc]
   exact ⟨List.prefix_refl _,hfs,fun bs hb=>rfl⟩
  refine atomL_ok hfs fun v hv n hn hg hbs f hf=>?_
  simp only [exNN,List.mem_cons,List.not_mem_nil,or_false] at hf
  subst hf
  rw [one_ev,hn]
  exact Int.natCast_nonneg _
 |slen x _=>intro az fs hfs;exact linS_ok hk hfs
 |byte x i _ _=>
  intro az fs hfs
  refine atomL_ok hfs fun v hv n hn hg hbs f hf=>?_
  have h0:((Tm.byte x i).den ρ).I=(((x.den ρ).S.getD (i.den ρ).I.toNat 0).toNat:Int):=rfl
  have h1:=UInt8.toNat_lt ((x.den ρ).S.getD (i.den ρ).I.toNat 0)
  simp only [exByte,List.mem_cons,List.not_mem_nil,or_false] at hf
  rcases hf with rfl|rfl
  ·rw [one_ev,hn,h0];omega
  ·rw [subL_ev,one_ev,hn,h0];simp only [LF.ev,hv];omega
 |_=>exact fun hfs=>noEx_ok hfs
def cmpF (o:BinOp)(b:Bool)(x y:LF):Option (List LF):=
 let one:LF:=[(0,1)]
 match o,b with
 | .lss,true=>some [subL (subL y x) one]
 | .lss,false=>some [subL x y]
 | .leq,true=>some [subL y x]
 | .leq,false=>some [subL (subL x y) one]
 | .gtr,true=>some [subL (subL x y) one]
 | .gtr,false=>some [subL y x]
 | .geq,true=>some [subL x y]
 | .geq,false=>some [subL (subL y x) one]
 | .eql,true=>some [subL x y,subL y x]
 | .neq,false=>some [subL x y,subL y x]
 |_,_=>none
def isDif (o:BinOp)(b:Bool):Bool:=match o,b with
 | .eql,false=>true
 | .neq,true=>true
 |_,_=>false
theorem cmpF_ok {o:BinOp}{k:IntKind}{b:Bool}{x y:LF}{X Y:D}{v:Nat→Int}(hv:v 0=1){l:List LF}(h:cmpF o b x y=some l)(hx:x.ev v=X.I)(hy:y.ev v=Y.I):(∀f∈l,0≤f.ev v)↔(binD o (.int k) X Y).B=b:=by
 have one:LF.ev v [(0,1)]=1:=by simp [LF.ev,hv]
 cases o<;>cases b<;>simp only [cmpF] at h<;>first|(cases h;done)|skip
 all_goals
  simp only [Option.some.injEq] at h
  subst h
  simp only [List.mem_cons,List.not_mem_nil,or_false,forall_eq_or_imp,forall_eq,subL_ev,hx,hy,one,binD,D.B,iEq,iNe,decide_eq_true_eq,decide_eq_false_iff_not,beq_iff_eq,bne_eq_false_iff_eq]
  omega
theorem isDif_ok {o:BinOp}{k:IntKind}{b:Bool}{X Y:D}(h:isDif o b=true):(binD o (.int k) X Y).B=b↔X.I≠Y.I:=by
 cases o<;>cases b<;>simp [isDif] at h<;>simp [binD,D.B,iEq,iNe]
structure AS where
 az:List Tm
 fs:List LF
def ASOk (ρ:List AV)(s:AS):Prop:=PosL ρ s.az s.fs
def addC (ks:Pc)(o:BinOp)(b:Bool)(x y:Tm)(s:AS):AS:=
 match lin ks x s.az s.fs with
 |⟨as1,fs1,f1⟩=>match lin ks y as1 fs1 with
  |⟨as2,fs2,f2⟩=>match cmpF o b f1 f2 with
   |some l=>⟨as2,l++fs2⟩
   |none=>bif isDif o b then
     bif prv1 fs2 (subL f1 f2) then ⟨as2,subL (subL f1 f2) [(0,1)]::fs2⟩ else bif prv1 fs2 (subL f2 f1) then ⟨as2,subL (subL f2 f1) [(0,1)]::fs2⟩ else ⟨as2,fs2⟩
    else ⟨as2,fs2⟩
def addT' (ks:Pc):Tm→Bool→AS→AS
 | .not x,b,s=>addT' ks x (!b) s
 | .and x y,b,s=>match b with
  |true=>addT' ks y true (addT' ks x true s)
  |false=>s
 | .or x y,b,s=>match b with
  |true=>s
  |false=>addT' ks y false (addT' ks x false s)
 | .bin o kd x y,b,s=>match kd with
  | .int _=>addC ks o b x y s
  |_=>s
 |_,_,s=>s
theorem addC_ok {ρ:List AV}{ks:Pc}(hk:ks.holds ρ){o:BinOp}{k:IntKind}{b:Bool}{x y:Tm}{s:AS}(hs:ASOk ρ s)(h:((Tm.bin o (.int k) x y).den ρ).B=b):ASOk ρ (addC ks o b x y s):=by
 obtain ⟨a1,a2,a3⟩:=lin_ok hk (t:=x) hs
 obtain ⟨b1,b2,b3⟩:=lin_ok hk (t:=y) (az:=(lin ks x s.az s.fs).az) (fs:=(lin ks x s.az s.fs).fs) a2
 have a3':=a3.mono b1
 unfold addC
 dsimp only
 split
 ·rename_i l hl
  exact PosL.app (fun f hf bs hb=>(cmpF_ok (k:=k) rfl hl (a3' bs hb) (b3 bs hb)).2 h f hf) b2
 ·cases hd:isDif o b
  ·exact b2
  ·have hne:=(isDif_ok (k:=k) hd).1 h
   simp only [cond_true]
   have one:∀bs,LF.ev (vl ρ bs) [(0,1)]=1:=by simp [LF.ev,vl]
   cases h1:prv1 (lin ks y (lin ks x s.az s.fs).az (lin ks x s.az s.fs).fs).fs (subL (lin ks x s.az s.fs).f (lin ks y (lin ks x s.az s.fs).az (lin ks x s.az s.fs).fs).f)
   ·simp only [cond_false]
    cases h2:prv1 (lin ks y (lin ks x s.az s.fs).az (lin ks x s.az s.fs).fs).fs (subL (lin ks y (lin ks x s.az s.fs).az (lin ks x s.az s.fs).fs).f (lin ks x s.az s.fs).f)
    ·exact b2
    ·refine PosL.cons (fun bs hb=>?_) b2
     have q:=prv1_pos b2 h2 bs hb
     rw [subL_ev,a3' bs hb,b3 bs hb] at q
     rw [subL_ev,subL_ev,a3' bs hb,b3 bs hb,one]
     omega
   ·refine PosL.cons (fun bs hb=>?_) b2
    have q:=prv1_pos b2 h1 bs hb
    rw [subL_ev,a3' bs hb,b3 bs hb] at q
    rw [subL_ev,subL_ev,a3' bs hb,b3 bs hb,one]
    omega
theorem addT'_ok {ρ:List AV}{ks:Pc}(hk:ks.holds ρ):∀{t:Tm} {b:Bool} {s:AS},ASOk ρ s→(t.den ρ).B=b→ASOk ρ (addT' ks t b s):=by
 intro t
 induction t with
 |not x ih=>exact fun hs h=>ih hs (by rw [← h];simp [Tm.den,D.B])
 |and x y ihx ihy=>
  intro b s hs h
  cases b
  ·exact hs
  ·have h':(x.den ρ).B=true∧(y.den ρ).B=true:=by simpa [Tm.den,D.B] using h
   exact ihy (ihx hs h'.1) h'.2
 |or x y ihx ihy=>
  intro b s hs h
  cases b
  ·have h':(x.den ρ).B=false∧(y.den ρ).B=false:=by simpa [Tm.den,D.B] using h
   exact ihy (ihx hs h'.1) h'.2
  ·exact hs
 |bin o kd x y _ _=>
  intro b s hs h
  cases kd with
  |int k=>exact addC_ok hk (k:=k) hs h
  |_=>exact hs
 |_=>exact fun hs _=>hs
def addAll (ks:Pc):Pc→AS→AS
 |[],s=>s
 |x::r,s=>addT' ks x.1 x.2 (addAll ks r s)
theorem addAll_ok {ρ:List AV}{ks:Pc}(hk:ks.holds ρ):∀{pc:Pc} {s:AS},pc.holds ρ→ASOk ρ s→ASOk ρ (addAll ks pc s)
 |[],s,_,hs=>hs
 |x::r,s,hp,hs=>addT'_ok hk (addAll_ok hk (fun y hy=>hp y (List.mem_cons_of_mem _ hy)) hs) (hp x (List.mem_cons_self ..))
def prvC (ks:Pc)(o:BinOp)(b:Bool)(x y:Tm)(s:AS):Bool:=
 match lin ks x s.az s.fs with
 |⟨as1,fs1,f1⟩=>match lin ks y as1 fs1 with
  |⟨as2,fs2,f2⟩=>match cmpF o b f1 f2 with
   |some l=>l.all (prv1 fs2)
   |none=>isDif o b&&(prv1 fs2 (subL (subL f1 f2) [(0,1)])||prv1 fs2 (subL (subL f2 f1) [(0,1)]))
def prvT (ks:Pc):Tm→Bool→AS→Bool
 | .lb v,b,_=>v == b
 | .not x,b,s=>prvT ks x (!b) s
 | .and x y,b,s=>match b with
  |true=>prvT ks x true s&&prvT ks y true s
  |false=>prvT ks x false s||prvT ks y false (addT' ks x true s)
 | .or x y,b,s=>match b with
  |true=>prvT ks x true s||prvT ks y true (addT' ks x false s)
  |false=>prvT ks x false s&&prvT ks y false s
 | .bin o kd x y,b,s=>match ks.known (.bin o kd x y) with
  |some v=>v == b
  |none=>match kd with
   | .int _=>prvC ks o b x y s
   |_=>false
 |t,b,_=>match ks.known t with
  |some v=>v == b
  |none=>false
theorem prvC_ok {ρ:List AV}{ks:Pc}(hk:ks.holds ρ){o:BinOp}{k:IntKind}{b:Bool}{x y:Tm}{s:AS}(hs:ASOk ρ s)(h:prvC ks o b x y s=true):((Tm.bin o (.int k) x y).den ρ).B=b:=by
 obtain ⟨a1,a2,a3⟩:=lin_ok hk (t:=x) hs
 obtain ⟨b1,b2,b3⟩:=lin_ok hk (t:=y) (az:=(lin ks x s.az s.fs).az) (fs:=(lin ks x s.az s.fs).fs) a2
 have a3':=a3.mono b1
 unfold prvC at h
 dsimp only at h
 have rf:=List.prefix_refl (lin ks y (lin ks x s.az s.fs).az (lin ks x s.az s.fs).fs).az
 split at h
 ·rename_i l hl
  rw [List.all_eq_true] at h
  exact (cmpF_ok (k:=k) rfl hl (a3' _ rf) (b3 _ rf)).1 fun f hf=>prv1_pos b2 (h f hf) _ rf
 ·rw [Bool.and_eq_true] at h
  refine (isDif_ok (k:=k) h.1).2 ?_
  have one:∀bs,LF.ev (vl ρ bs) [(0,1)]=1:=by simp [LF.ev,vl]
  have h2:=h.2
  rw [Bool.or_eq_true] at h2
  rcases h2 with h2|h2
  ·have q:=prv1_pos b2 h2 _ rf
   rw [subL_ev,subL_ev,a3' _ rf,b3 _ rf,one] at q
   intro e;omega
  ·have q:=prv1_pos b2 h2 _ rf
   rw [subL_ev,subL_ev,a3' _ rf,b3 _ rf,one] at q
   intro e;omega
theorem prvT_ok {ρ:List AV}{ks:Pc}(hk:ks.holds ρ):∀{t:Tm} {b:Bool} {s:AS},ASOk ρ s→prvT ks t b s=true→(t.den ρ).B=b:=by
 intro t
 have oth:∀{t:Tm} {b:Bool},(match ks.known t with|some v=>v == b|none=>false)=true→(t.den ρ).B=b:=by
  intro t b h
  split at h
  ·rename_i v hv
   rw [Pc.known_holds hk hv];simpa using h
  ·cases h
 induction t with
 |lb v=>exact fun hs h=>by simpa [prvT,Tm.den,D.B] using h
 |not x ih=>intro b s hs h;have:=ih (b:=!b) hs h;show (!(x.den ρ).B)=b;rw [this];simp
 |and x y ihx ihy=>
  intro b s hs h
  cases b
  ·simp only [prvT,Bool.or_eq_true] at h
   show ((x.den ρ).B&&(y.den ρ).B)=false
   cases hx:(x.den ρ).B
   ·rfl
   ·rcases h with h|h
    ·rw [ihx hs h] at hx;cases hx
    ·rw [ihy (addT'_ok hk hs hx) h];rfl
  ·simp only [prvT,Bool.and_eq_true] at h
   show ((x.den ρ).B&&(y.den ρ).B)=true
   rw [ihx hs h.1,ihy hs h.2];rfl
 |or x y ihx ihy=>
  intro b s hs h
  cases b
  ·simp only [prvT,Bool.and_eq_true] at h
   show ((x.den ρ).B||(y.den ρ).B)=false
   rw [ihx hs h.1,ihy hs h.2];rfl
  ·simp only [prvT,Bool.or_eq_true] at h
   show ((x.den ρ).B||(y.den ρ).B)=true
   cases hx:(x.den ρ).B
   ·rcases h with h|h
    ·rw [ihx hs h] at hx;cases hx
    ·rw [ihy (addT'_ok hk hs hx) h];rfl
   ·rfl
 |bin o kd x y _ _=>
  intro b s hs h
  simp only [prvT] at h
  split at h
  ·rename_i v hv
   rw [Pc.known_holds hk hv];simpa using h
  ·split at h
   ·exact prvC_ok hk hs h
   ·cases h
 |_=>exact fun hs h=>oth h
def iteOf : Tm→Option Tm
 | .ite c _ _=>some c
 | .bin _ _ x y=>match iteOf x with|some c=>some c|none=>iteOf y
 | .and x y=>match iteOf x with|some c=>some c|none=>iteOf y
 | .or x y=>match iteOf x with|some c=>some c|none=>iteOf y
 | .not x=>iteOf x
 | .conv _ x=>iteOf x
 | .rlen x=>iteOf x
 | .slen x=>iteOf x
 |_=>none
def iteOpen (ks:Pc):Pc→Option Tm
 |[]=>none
 |x::r=>match iteOf x.1 with
  |some c=>match ks.known c with|none=>some c|some _=>iteOpen ks r
  |none=>iteOpen ks r
def difT : Tm→Bool→Bool
 | .not t,b=>difT t (!b)
 | .bin o (.int _) _ _,b=>isDif o b
 |_,_=>false
def difs (F:Pc):Pc:=F.filter fun x=>difT x.1 x.2
def sumT : Tm→Bool
 | .not t=>sumT t
 | .and x y=>sumT x||sumT y
 | .or x y=>sumT x||sumT y
 | .bin o _ x y=>match o with
  | .lss | .leq | .gtr | .geq | .eql | .neq=>sumT x||sumT y
  |_=>true
 | .conv _ _=>true
 | .ite _ _ _=>true
 |_=>false
def asF (F:Pc):AS:=addAll F (difs F) (addAll F (F.filter fun x=>sumT x.1) (addAll F (F.filter fun x=>!(sumT x.1)) ⟨[],[]⟩))
theorem Pc.holds_filter {ρ:List AV}{F:Pc}{p:Tm×Bool→Bool}(h:F.holds ρ):Pc.holds ρ (F.filter p):=fun x hx=>h x (List.mem_filter.1 hx).1
theorem asF_ok {ρ:List AV}{F:Pc}(h:F.holds ρ):ASOk ρ (asF F):=addAll_ok h (Pc.holds_filter h) (addAll_ok h (Pc.holds_filter h) (addAll_ok h (Pc.holds_filter h) (fun f hf=>by cases hf)))
def hlf (pc:Pc):Tm→Bool→Pc
 | .and x y,b=>match b with
  |true=>[]
  |false=>match pc.known x with
   |some true=>(y,false)::hlf pc y false
   |_=>match pc.known y with
    |some true=>(x,false)::hlf pc x false
    |_=>[]
 | .or x y,b=>match b with
  |false=>[]
  |true=>match pc.known x with
   |some false=>(y,true)::hlf pc y true
   |_=>match pc.known y with
    |some false=>(x,true)::hlf pc x true
    |_=>[]
 | .not x,b=>hlf pc x (!b)
 |_,_=>[]
theorem hlf_ok {ρ:List AV}{pc:Pc}(h:pc.holds ρ):∀{t:Tm} {b:Bool},(t.den ρ).B=b→Pc.holds ρ (hlf pc t b):=by
 intro t
 induction t with
 |and x y ihx ihy=>
  intro b e
  cases b
  ·have e':((x.den ρ).B&&(y.den ρ).B)=false:=e
   simp only [hlf]
   split
   ·rename_i hx
    rw [Pc.known_holds h hx,Bool.true_and] at e'
    exact Pc.holds_cons e' (ihy e')
   ·split
    ·rename_i hy
     rw [Pc.known_holds h hy,Bool.and_true] at e'
     exact Pc.holds_cons e' (ihx e')
    ·exact fun x hx=>by cases hx
  ·exact fun x hx=>by cases hx
 |or x y ihx ihy=>
  intro b e
  cases b
  ·exact fun x hx=>by cases hx
  ·have e':((x.den ρ).B||(y.den ρ).B)=true:=e
   simp only [hlf]
   split
   ·rename_i hx
    rw [Pc.known_holds h hx,Bool.false_or] at e'
    exact Pc.holds_cons e' (ihy e')
   ·split
    ·rename_i hy
     rw [Pc.known_holds h hy,Bool.or_false] at e'
     exact Pc.holds_cons e' (ihx e')
    ·exact fun x hx=>by cases hx
 |not x ih=>
  intro b e
  have e':(!(x.den ρ).B)=b:=e
  exact ih (by rw [← e'];simp)
 |_=>intro b e x hx;cases hx
def cloP (G:Pc):Pc:=G.flatMap (fun x=>hlf G x.1 x.2)++G
theorem cloP_ok {ρ:List AV}{G:Pc}(h:G.holds ρ):Pc.holds ρ (cloP G):=fun x hx=>by
 rcases List.mem_append.1 hx with hx|hx
 ·obtain ⟨y,hy,hx⟩:=List.mem_flatMap.1 hx
  exact hlf_ok h (h y hy) x hx
 ·exact h x hx
def prove : Nat→Pc→Tm→Bool
 |0,F,t=>prvT F t true (asF F)
 |n+1,F,t=>prvT F t true (asF F)||(match iteOpen F ((t,true)::F) with
  |none=>false
  |some c=>prove n (cloP ((c,true)::F)) t&&prove n (cloP ((c,false)::F)) t)
theorem prove_ok {ρ:List AV}{t:Tm}:∀{n:Nat} {F:Pc},prove n F t=true→F.holds ρ→(t.den ρ).B=true
 |0,F,h,hF=>prvT_ok hF (asF_ok hF) h
 |n+1,F,h,hF=>by
  simp only [prove,Bool.or_eq_true] at h
  rcases h with h|h
  ·exact prvT_ok hF (asF_ok hF) h
  ·split at h
   ·cases h
   ·rename_i c _
    rw [Bool.and_eq_true] at h
    cases hc:(c.den ρ).B
    ·exact prove_ok h.2 (cloP_ok (Pc.holds_cons hc hF))
    ·exact prove_ok h.1 (cloP_ok (Pc.holds_cons hc hF))
def contra (F:Pc):Bool:=match asF F with
 |⟨_,fs⟩=>fs.any fun f=>nonO (refuteF 3 fs f 40)
theorem contra_ok {ρ:List AV}{F:Pc}(h:contra F=true)(hF:F.holds ρ):False:=by
 have hs:=asF_ok hF
 unfold contra at h
 rw [List.any_eq_true] at h
 obtain ⟨f,hf,h⟩:=h
 unfold nonO at h
 split at h
 ·rename_i e
  have hp:∀g∈(asF F).fs,0≤g.ev (vl ρ (asF F).az):=fun g hg=>hs g hg _ (List.prefix_refl _)
  exact refuteF_ok rfl hp e (hp f hf)
 ·cases h
end Go.Fw
end
